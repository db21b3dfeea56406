-- Printed by wip/hprint.py (this project's own driver of the kit's print) out of the translation; Lean checks it.
import Derived.Test.YteifekndhgkgcaaH0
import Derived.Test.YteifekndhgkgcaaH1
import Derived.Test.YteifekndhgkgcaaH2
import Derived.Test.YteifekndhgkgcaaH17
import Derived.Test.YteifekndhgkgcaaHBld
import Derived.Test.YteifekndhgkgcaaHChk
namespace Go.Proofs.Yteifekndhgkgcaa.H
open Go.RowKit Go.Proofs.YteifekndhgkgcaaW.PrintWords Go.Proofs.YteifekndhgkgcaaW.PrintLast Go.Proofs.YteifekndhgkgcaaW.PrintMore
attribute [local go_sem] max2_int min2_int max_two min_two max_three min_three max_four min_four   -- for this text's walks alone
set_option linter.unusedVariables false
set_option linter.unusedSimpArgs false

/-! ### signalbenchlaw46_EvindexComplete: function 6 -/
mutual
def signalbenchlaw46_EvindexComplete.j0 : Nat → List (S47) → Bool → Int → List (S43) → Option (Bool)
 | 0, _, _, _, _ => none
 | k + 1, x0, x22, x263000, x263001 => if x22 = true then (some false) else (signalbenchlaw46_EvindexComplete.l0 k x0 0 x263000 x263001)
def signalbenchlaw46_EvindexComplete.l0 : Nat → List (S47) → Int → Int → List (S43) → Option (Bool)
 | 0, _, _, _, _ => none
 | k + 1, x0, x4, x263000, x263001 => if x4 < (x0.length : Int) then (signalbenchlaw46_EvindexComplete.l1 k x0 x4 0 0 x263000 x263001) else ((signalbenchlaw46_awake.f k).bind fun t264 => (some t264))
def signalbenchlaw46_EvindexComplete.l1 : Nat → List (S47) → Int → Int → Int → Int → List (S43) → Option (Bool)
 | 0, _, _, _, _, _, _ => none
 | k + 1, x0, x4, x5, x6, x263000, x263001 => if x6 < (x263001.length : Int) then (if 0 ≤ x6 then ((signalbenchlaw46_times.f k ((rd_T43 x263001 x6).f2) x4).bind fun t266 => (signalbenchlaw46_EvindexComplete.l1 k x0 x4 (wrap64 (x5 + t266)) (wrap64 (x6 + 1)) x263000 x263001)) else (none)) else (if x5 = 1 then (if 0 ≤ x4 then (if x4 < (x0.length : Int) then ((evindex_Lookup.f k x263000 x263001 ((rd_T47 x0 x4).f0) ((rd_T47 x0 x4).f2.f0)).bind fun t269 => ((signalbenchlaw46_times.f k t269 x4).bind fun t272 => (if t272 = 1 then (signalbenchlaw46_EvindexComplete.l0 k x0 (wrap64 (x4 + 1)) x263000 x263001) else (some false)))) else (none)) else (none)) else (some false))
end
def signalbenchlaw46_EvindexComplete.f (k : Nat) (l0 : List (S47)) : Option (Bool) := if (l0.length : Int) > 60 then ((signalbenchlaw46_awake.f k).bind fun t257 => (some t257)) else ((evindex_Build.f l0).bind fun bt258 => (if bt258.1 = (l0.length : Int) then ((evindex_Check.f k bt258.1 bt258.2).bind fun t263 => (signalbenchlaw46_EvindexComplete.j0 k l0 (t263 != 0) bt258.1 bt258.2)) else (signalbenchlaw46_EvindexComplete.j0 k l0 true bt258.1 bt258.2)))
def signalbenchlaw46_EvindexComplete.T14 : Bool × List (List Nat × List Nat) := (true, [([], []), ([0], [0]), ([1], [1]), ([2], [2]), ([2], [2]), ([2], [2]), ([4, 5, 2], [2, 4, 5]), ([6, 2], [2, 6]), ([7, 2], [2, 7]), ([2], [2]), ([2], [2]), ([9, 10, 2], [2, 9, 10]), ([11, 2], [2, 11]), ([12, 2], [2, 12]), ([13, 2], [2, 13]), ([3, 8, 14, 2, 2], [2, 3, 8, 14]), ([2], [2]), ([15, 16, 15, 2], [2, 15, 16]), ([17, 2], [2, 17]), ([2, 18], [2, 18])])
def signalbenchlaw46_EvindexComplete.B14 : List Nat := [0, 1, 3, 7, 7, 7, 55, 119, 247, 7, 7, 1543, 3591, 7687, 15879, 32767, 7, 131071, 262143, 524287]
theorem signalbenchlaw46_EvindexComplete.tab14 : rtab .any (opsOf Try.f6 14) = signalbenchlaw46_EvindexComplete.T14 := by kernel_rfl
theorem signalbenchlaw46_EvindexComplete.bits14 : waitsOk signalbenchlaw46_EvindexComplete.T14.2 signalbenchlaw46_EvindexComplete.B14 = true := by kernel_rfl
set_option maxHeartbeats 8000000 in
set_option maxRecDepth 100000 in
theorem signalbenchlaw46_EvindexComplete.calls (k : Nat) (A0 : Option Addr) (c0 : Nat) (l0 : List (S47)) (r : Bool) (w : World) (hr0 : Kd.C k47 w A0 l0.length l0) (hc0 : l0.length ≤ c0) (h : signalbenchlaw46_EvindexComplete.f k l0 = some r) :
  Calls Try.prog 6 #[.slice A0 l0.length c0] w fun e w' => e = .returned (.bool r) ∧ Below w.heap.size w w' := by
 have hu27 := Try.underlying27
 have HR0 := Aside0.mk hr0
 have HC0 := Aside0.mk hc0
 clear hr0 hc0
 have HB := Aside0.mk (Below.refl w.heap.size w)
 have H : (if (l0.length : Int) > 60 then ((signalbenchlaw46_awake.f k).bind fun t257 => (some t257)) else ((evindex_Build.f l0).bind fun bt258 => (if bt258.1 = (l0.length : Int) then ((evindex_Check.f k bt258.1 bt258.2).bind fun t263 => (signalbenchlaw46_EvindexComplete.j0 k l0 (t263 != 0) bt258.1 bt258.2)) else (signalbenchlaw46_EvindexComplete.j0 k l0 true bt258.1 bt258.2)))) = some r := h
 clear h
 by_cases c2 : (l0.length : Int) > 60
 ·
  rw [if_pos c2] at H
  have c2b0 : decide (60 < (l0.length : Int)) = true := decide_eq_true c2
  have c2b1 : decide (60 < l0.length) = true := decide_eq_true (by omega)
  clear c2
  replace H := Option.bind_eq_some_iff.mp H
  obtain ⟨t257, A30, H⟩ := H
  replace H : (some t257) = some r := H
  have A3 := Aside0.mk A30
  clear A30
  obtain rfl := Option.some.inj H
  go_enter Try.func6, Try.ntmps6
  go_wp2_with (first | ((with_reducible refine gate_callee (f := 9) rfl ?_); refine goesL_ (some 10) rfl rfl Try.func9 (by kernel_rfl) rfl #[] rfl (by (try simp only [List.map_toArray, List.map_cons, List.map_nil]); first | done | rfl | (simp only [List.length_drop, List.length_take]; rfl)) ?_; (with_reducible refine (signalbenchlaw46_awake.calls k  t257 _ A3.out).mono ?_); rintro e w4 ⟨rfl, hb⟩; refine ⟨_, rfl, ?_⟩; have n0_ := Aside0.mk (below_step (bs HB.out) hb); clear HB; have HB := n0_; clear n0_; (try clear hb); (try clear hb2); (try clear hk); (try clear hi)))
  go_ret
  exact ⟨by first | rfl | (simp [errW_none, errW_some] <;> rfl) | (simp [*, errW_none, errW_some] <;> rfl), bs HB.out⟩
 ·
  rw [if_neg c2] at H
  have c2b0 : decide (60 < (l0.length : Int)) = false := decide_eq_false c2
  have c2b1 : decide (60 < l0.length) = false := decide_eq_false (by omega)
  clear c2
  replace H := Option.bind_eq_some_iff.mp H
  obtain ⟨⟨t258, t259⟩, A50, H⟩ := H
  replace H : (if t258 = (l0.length : Int) then ((evindex_Check.f k t258 t259).bind fun t263 => (signalbenchlaw46_EvindexComplete.j0 k l0 (t263 != 0) t258 t259)) else (signalbenchlaw46_EvindexComplete.j0 k l0 true t258 t259)) = some r := H
  have A5 := Aside0.mk A50
  clear A50
  have HC6 := Aside0.mk H
  clear H
  go_enter Try.func6, Try.ntmps6
  go_upto_region 4 with (first | ((with_reducible refine gate_callee (f := 11) rfl ?_); refine goesL_ (some 12) rfl rfl Try.func11 (by kernel_rfl) rfl #[.slice A0 l0.length c0] rfl (by (try simp only [List.map_toArray, List.map_cons, List.map_nil]); first | done | rfl | (simp only [List.length_drop, List.length_take]; rfl)) ?_; (with_reducible refine (evindex_Build.calls _ _ l0 t258 t259 _ ?side1 ?side2 A5.out).mono ?_); (case side1 => repeat (first | exact HR0.out | (with_reducible refine Kd.C_alloc ?_ _) | (with_reducible refine Kd.C_drewN ?_ _) | (with_reducible refine Kd.C_drew ?_))); (case side2 => exact HC0.out); rintro e w7 ⟨v260, rfl, ho0, hb⟩; refine ⟨_, rfl, ?_⟩; have n0_ := Aside0.mk (Kd.S_lower ho0 (below_size (bs HB.out))); have n1_ := Aside0.mk (below_step (bs HB.out) hb); clear HB; have HO261 := n0_; have HB := n1_; clear n0_ n1_; (try clear hb); (try clear hb2); (try clear hk); (try clear hi); (try clear ho0)) | ((with_reducible refine gate_dst (N := 3) rfl ?_); refine box_event ?hg (N := 3) ?hd (cs := #[.int .i64 0, .slice none 0 0]) (t := 27) ?hr ?_; (case hd => rfl); (case hg => rfl); (case hr => first | (go_simp; done) | (go_simp; rfl)); intro gb262 hg w8 hbox hb; have n0_ := Aside0.mk (Kd.S_below (by (with_reducible repeat (first | apply Kd.S_alloc | apply Kd.S_drewN | apply Kd.S_drew)); exact HO261.out) hb); have n1_ := Aside0.mk (below_step (bs HB.out) hb); have n2_ := Aside0.mk (hbox); have n3_ := Aside0.mk ((by rw [hg]; exact (below_size (bs HB.out)) : w.heap.size ≤ gb262)); have n4_ := n3_; clear HO261; clear HB; have HO261 := n0_; have HB := n1_; have BK262 := n2_; have GW262 := n3_; have GE262 := n4_; clear n0_ n1_ n2_ n3_ n4_; clear hb hbox hg; obtain ⟨hcz9_0, hcz9_1⟩ := bc2 BK262.out; obtain ⟨hfz9_0, hfz9_1⟩ := bf2 BK262.out; obtain ⟨Ao10, co10, eo10⟩ := Kd.S_slice HO261.out; subst eo10))
  (try simp only [Act.put, List.setIfInBounds_toArray, List.set_cons_zero, List.set_cons_succ])
  go_cut [22] (fun v22 wc => ∃ (kq : Nat) (x22_5 : Bool), v22 = .bool x22_5 ∧ Aside0 (signalbenchlaw46_EvindexComplete.j0 kq l0 x22_5 t258 t259 = some r) ∧ Aside0 (kq ≤ k) ∧ Aside0 (Kd.S k43 43 wc w.heap.size (fun _ => True) (.slice Ao10 t259.length co10) t259) ∧ Aside0 (wc.heap[gb262]? = some (.cells #[.int .i64 t258, (.slice Ao10 t259.length co10)] 27 (0, 0))) ∧ Aside0 (Below w.heap.size w wc))
  case first =>
   have H := HC6.out
   clear HC6
   by_cases c11 : t258 = (l0.length : Int)
   ·
    rw [if_pos c11] at H
    have c11b0 : (t258 == (l0.length : Int)) = true := beq_iff_eq.mpr c11
    have c11b1 : (t258 != (l0.length : Int)) = false := bne_eq_false_iff_eq.mpr c11
    clear c11
    (first | rw [c11b0] | (simp only [i64_w, i32_w]; rw [c11b0]) | skip)
    replace H := Option.bind_eq_some_iff.mp H
    obtain ⟨t263, A120, H⟩ := H
    replace H : (signalbenchlaw46_EvindexComplete.j0 k l0 (t263 != 0) t258 t259) = some r := H
    have A12 := Aside0.mk A120
    clear A120
    have H' := Aside0.mk H
    clear H
    obtain ⟨hcz13_0, hcz13_1⟩ := bc2 BK262.out
    obtain ⟨hfz13_0, hfz13_1⟩ := bf2 BK262.out
    go_wp2_with (first | (go_at_call 14; (with_reducible refine (evindex_Check.calls k t258 _ _ t259 t263 _ ?side1 ?side2 A12.out).mono ?_); (case side1 => refine (Kd.S_reads' (e := 43) (base := w.heap.size) (ok := fun k_ => True) (n := t259.length) (c := co10) ?_).2.2; exact (by (with_reducible repeat (first | apply Kd.S_alloc | apply Kd.S_drewN | apply Kd.S_drew)); exact (Kd.S_mono (Kd.S_far (p := ⟨gb262, 1, none⟩) (Kd.S_far (p := ⟨gb262, 0, none⟩) (Kd.S_types HO261.out BK262.out (by decide)) (fun _ hk => hk.2) (.int .i64 t258)) (fun _ hk => hk.2) (.slice Ao10 t259.length co10)) (fun _ h_ => h_.1)))); (case side2 => exact (Kd.S_reads' HO261.out).2.1); rintro e w14 ⟨rfl, hb⟩; have n0_ := Aside0.mk (Kd.S_below (by (with_reducible repeat (first | apply Kd.S_alloc | apply Kd.S_drewN | apply Kd.S_drew)); exact (Kd.S_mono (Kd.S_far (p := ⟨gb262, 1, none⟩) (Kd.S_far (p := ⟨gb262, 0, none⟩) (Kd.S_types HO261.out BK262.out (by decide)) (fun _ hk => hk.2) (.int .i64 t258)) (fun _ hk => hk.2) (.slice Ao10 t259.length co10)) (fun _ h_ => h_.1))) hb); have n1_ := Aside0.mk (blk_below (g := gb262) (o := .cells #[.int .i64 t258, .slice Ao10 t259.length co10] 27 (0, 0)) (by exact pt2 (bg BK262.out)) hb); have n2_ := Aside0.mk (below_step (bs HB.out) hb); clear HO261; clear BK262; clear HB; have HO261 := n0_; have BK262 := n1_; have HB := n2_; clear n0_ n1_ n2_; (try clear hb); (try clear hb2); (try clear hk); (try clear hi)))
    go_meet
    case rel => exact ⟨_, ((t263 != 0)), (by first | rfl | (simp; done) | (simp [*]; done)), H', ⟨by first | omega | exact Nat.le_refl _⟩, ⟨by (with_reducible repeat (first | apply Kd.S_alloc | apply Kd.S_drewN | apply Kd.S_drew)); exact HO261.out⟩, ⟨bg BK262.out⟩, ⟨bs HB.out⟩⟩
   ·
    rw [if_neg c11] at H
    have c11b0 : (t258 == (l0.length : Int)) = false := beq_eq_false_iff_ne.mpr c11
    have c11b1 : (t258 != (l0.length : Int)) = true := bne_iff_ne.mpr c11
    (first | rw [c11b0] | (simp only [i64_w, i32_w]; rw [c11b0]) | skip)
    have H' := Aside0.mk H
    clear H
    obtain ⟨hcz15_0, hcz15_1⟩ := bc2 BK262.out
    obtain ⟨hfz15_0, hfz15_1⟩ := bf2 BK262.out
    go_wp2
    go_meet
    case rel => exact ⟨_, (true), (by first | rfl | (simp; done) | (simp [*]; done)), H', ⟨by first | omega | exact Nat.le_refl _⟩, ⟨by (with_reducible repeat (first | apply Kd.S_alloc | apply Kd.S_drewN | apply Kd.S_drew)); exact Kd.S_mono (Kd.S_far (p := ⟨gb262, 1, none⟩) (Kd.S_far (p := ⟨gb262, 0, none⟩) (Kd.S_types HO261.out BK262.out (by decide)) (fun _ hk => hk.2) (.int .i64 t258)) (fun _ hk => hk.2) (.slice Ao10 t259.length co10)) (fun _ hk => trivial)⟩, ⟨by exact pt2 (bg BK262.out)⟩, ⟨bs HB.out⟩⟩
  case rest =>
   clear HC6
   try clear c1
   try clear c2
   try clear c2b0
   try clear c2b1
   try clear p2
   try clear c6
   try clear c9
   try clear c11
   try clear c11b0
   try clear c11b1
   try clear hcz13_0 hcz13_1
   try clear hcz15_0 hcz15_1
   try clear hcz9_0 hcz9_1
   try clear hfz13_0 hfz13_1
   try clear hfz15_0 hfz15_1
   try clear hfz9_0 hfz9_1
   obtain ⟨kq, x22_5, rfl, HA, HJ5, HO_263001, BK262, HB⟩ := hcut
   cases kq with
   | zero => exact absurd HA.out (by simp [signalbenchlaw46_EvindexComplete.j0])
   | succ kj5 =>
    have H := HA.out
    clear HA
    simp only [signalbenchlaw46_EvindexComplete.j0] at H
    by_cases c16 : x22_5 = true
    ·
     subst c16
     have H1 : (some false) = some r := by rw [if_pos rfl] at H; exact H
     clear H
     have H := H1
     clear H1
     obtain rfl := Option.some.inj H
     go_wp2
     go_ret
     exact ⟨by first | rfl | (simp [errW_none, errW_some] <;> rfl) | (simp [*, errW_none, errW_some] <;> rfl), bs HB.out⟩
    ·
     replace c16 := Bool.eq_false_iff.mpr c16
     subst c16
     have H1 : (signalbenchlaw46_EvindexComplete.l0 kj5 l0 0 t258 t259) = some r := by rw [if_neg (show ¬ (false = true) by decide)] at H; exact H
     clear H
     have H := H1
     clear H1
     have H' := Aside0.mk H
     clear H
     go_wp2
     go_loopg [4] kj5 (fun kq v4 w' => ∃ (x4_2 : Int), v4 = .int .i64 x4_2 ∧ Aside0 (signalbenchlaw46_EvindexComplete.l0 kq l0 x4_2 t258 t259 = some r) ∧ Aside0 (kq ≤ kj5) ∧ Aside0 (Kd.S k43 43 w' w.heap.size (fun _ => True) (.slice Ao10 t259.length co10) t259) ∧ Aside0 (w'.heap[gb262]? = some (.cells #[.int .i64 t258, (.slice Ao10 t259.length co10)] 27 (0, 0))) ∧ Aside0 (Below w.heap.size w w'))
     case atStart => exact ⟨(0), (by first | rfl | (simp; done) | (simp [*]; done)), H', ⟨Nat.le_refl _⟩, ⟨by (with_reducible repeat (first | apply Kd.S_alloc | apply Kd.S_drewN | apply Kd.S_drew)); exact HO_263001.out⟩, ⟨bg BK262.out⟩, ⟨bs HB.out⟩⟩
     case round =>
      clear H'
      try clear c1
      try clear c2
      try clear c2b0
      try clear c2b1
      try clear p2
      try clear c6
      try clear c9
      try clear c11
      try clear c11b0
      try clear c11b1
      try clear c16
      try clear hcz13_0 hcz13_1
      try clear hcz15_0 hcz15_1
      try clear hcz9_0 hcz9_1
      try clear hfz13_0 hfz13_1
      try clear hfz15_0 hfz15_1
      try clear hfz9_0 hfz9_1
      try clear p2
      obtain ⟨x4_2, rfl, HA, HK2, HO_263001, BK262, HB⟩ := hrel
      cases gk with
      | zero => exact absurd HA.out (by simp [signalbenchlaw46_EvindexComplete.l0])
      | succ k2 =>
       have H := HA.out
       clear HA
       simp only [signalbenchlaw46_EvindexComplete.l0] at H
       by_cases c17 : x4_2 < (l0.length : Int)
       ·
        rw [if_pos c17] at H
        have c17b0 : decide (x4_2 < (l0.length : Int)) = true := decide_eq_true c17
        clear c17
        have H' := Aside0.mk H
        clear H
        go_wp2
        go_loopg [5, 6] k2 (fun kq v5 v6 w' => ∃ (x5_3 : Int) (x6_3 : Int), v5 = .int .i64 x5_3 ∧ v6 = .int .i64 x6_3 ∧ Aside0 (signalbenchlaw46_EvindexComplete.l1 kq l0 x4_2 x5_3 x6_3 t258 t259 = some r) ∧ Aside0 (kq ≤ k2) ∧ Aside0 (Kd.S k43 43 w' w.heap.size (fun _ => True) (.slice Ao10 t259.length co10) t259) ∧ Aside0 (w'.heap[gb262]? = some (.cells #[.int .i64 t258, (.slice Ao10 t259.length co10)] 27 (0, 0))) ∧ Aside0 (Below w.heap.size w w'))
        case atStart => exact ⟨(0), (0), (by first | rfl | (simp; done) | (simp [*]; done)), (by first | rfl | (simp; done) | (simp [*]; done)), H', ⟨Nat.le_refl _⟩, ⟨by (with_reducible repeat (first | apply Kd.S_alloc | apply Kd.S_drewN | apply Kd.S_drew)); exact HO_263001.out⟩, ⟨bg BK262.out⟩, ⟨bs HB.out⟩⟩
        case round =>
         clear H'
         try clear c1
         try clear c2
         try clear c2b0
         try clear c2b1
         try clear p2
         try clear c6
         try clear c9
         try clear c11
         try clear c11b0
         try clear c11b1
         try clear c16
         try clear c17
         try clear c17b0
         try clear hcz13_0 hcz13_1
         try clear hcz15_0 hcz15_1
         try clear hcz9_0 hcz9_1
         try clear hfz13_0 hfz13_1
         try clear hfz15_0 hfz15_1
         try clear hfz9_0 hfz9_1
         try clear p2
         obtain ⟨x5_3, x6_3, rfl, rfl, HA, HK3, HO_263001, BK262, HB⟩ := hrel
         cases gk with
         | zero => exact absurd HA.out (by simp [signalbenchlaw46_EvindexComplete.l1])
         | succ k3 =>
          have H := HA.out
          clear HA
          simp only [signalbenchlaw46_EvindexComplete.l1] at H
          by_cases c18 : x6_3 < (t259.length : Int)
          ·
           rw [if_pos c18] at H
           have c18b0 : decide (x6_3 < (t259.length : Int)) = true := decide_eq_true c18
           clear c18
           by_cases c19 : 0 ≤ x6_3
           ·
            rw [if_pos c19] at H
            have c19b0 : decide (0 ≤ x6_3) = true := decide_eq_true c19
            clear c19
            replace H := Option.bind_eq_some_iff.mp H
            obtain ⟨t266, A200, H⟩ := H
            replace H : (signalbenchlaw46_EvindexComplete.l1 k3 l0 x4_2 (wrap64 (x5_3 + t266)) (wrap64 (x6_3 + 1)) t258 t259) = some r := H
            have A20 := Aside0.mk A200
            clear A200
            have H' := Aside0.mk H
            clear H
            obtain ⟨hcz21_0, hcz21_1⟩ := bc2 BK262.out
            obtain ⟨hfz21_0, hfz21_1⟩ := bf2 BK262.out
            have p265 : 0 ≤ (x6_3 : Int) := of_decide_eq_true (by first | (with_reducible assumption) | assumption)
            have q265 : x6_3 < (t259.length : Int) := of_decide_eq_true (by first | (with_reducible assumption) | assumption)
            obtain ⟨ad265, A265_2, c265_2, e265, hx265_0, hx265_1, hx265_2, hl265_2, hi265_2⟩ := at_T43 (Kd.S_reads' HO_263001.out).2.2 x6_3 p265 q265
            cases e265
            obtain ⟨ce265, hce265, hMe265, hcc265⟩ := Kd.S_get HO_263001.out z43 x6_3 p265 (by first | exact q265 | exact of_decide_eq_true (by first | (with_reducible assumption) | assumption) | (have e_ := (Kd.S_reads' HO_263001.out).1; omega))
            obtain ⟨ve265_2, rfl, ge265_2⟩ := k43_openM hMe265
            have hv265_2 := hcc265 2 _ rfl
            rw [add_field _ _ 2 (by omega)] at hv265_2
            replace hv265_2 := Option.some.inj (hv265_2.symm.trans hx265_2)
            rw [hv265_2] at ge265_2
            have HL265_2 := Aside0.mk (show Kd.R (Kd.int .i64) 3 _ _ _ _ ((rd_T43 t259 x6_3).f2) from ge265_2)
            clear hv265_2 ge265_2
            clear hcc265 hce265
            have HR265_2 := Aside0.mk hi265_2
            have HC265_2 := Aside0.mk hl265_2
            clear hi265_2 hl265_2
            replace p265 := eq_true p265
            replace q265 := eq_true q265
            go_wp2_with (first | ((with_reducible refine gate_callee (f := 23) rfl ?_); refine goesL_ (some 44) rfl rfl Try.func23 (by kernel_rfl) rfl #[.slice A265_2 ((rd_T43 t259 x6_3).f2).length c265_2, .int .i64 x4_2] rfl (by (try simp only [List.map_toArray, List.map_cons, List.map_nil]); first | done | rfl | (simp only [List.length_drop, List.length_take]; rfl)) ?_; (with_reducible refine (signalbenchlaw46_times.calls k3 _ _ ((rd_T43 t259 x6_3).f2) x4_2 t266 _ ?side1 ?side2 A20.out).mono ?_); (case side1 => repeat (first | exact (by repeat (first | (with_reducible exact HR265_2.out) | (with_reducible refine Kd.C_alloc ?_ _) | (with_reducible refine Kd.C_drewN ?_ _) | (with_reducible refine Kd.C_drew ?_) | exact HR265_2.out)) | (with_reducible refine Kd.C_alloc ?_ _) | (with_reducible refine Kd.C_drewN ?_ _) | (with_reducible refine Kd.C_drew ?_))); (case side2 => exact HC265_2.out); rintro e w' ⟨rfl, ⟨nd, rfl⟩⟩; refine ⟨_, rfl, ?_⟩))
            go_roundg k3
            case measure => have := HJ5.out; have := HK2.out; have := HK3.out; omega
            case rel => exact ⟨(wrap64 (x5_3 + t266)), (wrap64 (x6_3 + 1)), (by first | rfl | (simp; done) | (simp [*]; done)), (by first | rfl | (simp; done) | (simp [*]; done)), H', ⟨by have := HJ5.out; have := HK2.out; have := HK3.out; omega⟩, ⟨by (with_reducible repeat (first | apply Kd.S_alloc | apply Kd.S_drewN | apply Kd.S_drew)); exact HO_263001.out⟩, ⟨bg BK262.out⟩, ⟨bs HB.out⟩⟩
           ·
            rw [if_neg c19] at H
            exact absurd H (by simp)
          ·
           rw [if_neg c18] at H
           have c18b0 : decide (x6_3 < (t259.length : Int)) = false := decide_eq_false c18
           clear c18
           by_cases c22 : x5_3 = 1
           ·
            rw [if_pos c22] at H
            have c22b0 : (x5_3 == 1) = true := beq_iff_eq.mpr c22
            have c22b1 : (x5_3 != 1) = false := bne_eq_false_iff_eq.mpr c22
            clear c22
            by_cases c23 : 0 ≤ x4_2
            ·
             rw [if_pos c23] at H
             have c23b0 : decide (0 ≤ x4_2) = true := decide_eq_true c23
             clear c23
             by_cases c24 : x4_2 < (l0.length : Int)
             ·
              rw [if_pos c24] at H
              have c24b0 : decide (x4_2 < (l0.length : Int)) = true := decide_eq_true c24
              clear c24
              replace H := Option.bind_eq_some_iff.mp H
              obtain ⟨t269, A250, H⟩ := H
              replace H : ((signalbenchlaw46_times.f k3 t269 x4_2).bind fun t272 => (if t272 = 1 then (signalbenchlaw46_EvindexComplete.l0 k3 l0 (wrap64 (x4_2 + 1)) t258 t259) else (some false))) = some r := H
              have A25 := Aside0.mk A250
              clear A250
              replace H := Option.bind_eq_some_iff.mp H
              obtain ⟨t272, A260, H⟩ := H
              replace H : (if t272 = 1 then (signalbenchlaw46_EvindexComplete.l0 k3 l0 (wrap64 (x4_2 + 1)) t258 t259) else (some false)) = some r := H
              have A26 := Aside0.mk A260
              clear A260
              by_cases c27 : t272 = 1
              ·
               rw [if_pos c27] at H
               have c27b0 : (t272 == 1) = true := beq_iff_eq.mpr c27
               have c27b1 : (t272 != 1) = false := bne_eq_false_iff_eq.mpr c27
               clear c27
               have H' := Aside0.mk H
               clear H
               obtain ⟨hcz28_0, hcz28_1⟩ := bc2 BK262.out
               obtain ⟨hfz28_0, hfz28_1⟩ := bf2 BK262.out
               try go_wp2
               have n0_ := Aside0.mk (Kd.S_drew HO_263001.out)
               have n1_ := Aside0.mk (blk_drew BK262.out)
               have n2_ := Aside0.mk (below_drew1 HB.out)
               clear HO_263001
               clear BK262
               clear HB
               have HO_263001 := n0_
               have BK262 := n1_
               have HB := n2_
               clear n0_ n1_ n2_
               have p267 : 0 ≤ (x4_2 : Int) := of_decide_eq_true (by first | (with_reducible assumption) | assumption)
               have q267 : x4_2 < (l0.length : Int) := of_decide_eq_true (by first | (with_reducible assumption) | assumption)
               obtain ⟨ad267, e267, hx267_0, hx267_1, hx267_2, hx267_3, hx267_4, hx267_5, hx267_6, hx267_7, hx267_8⟩ := at_T47 HR0.out x4_2 p267 q267
               have hw267_8 := hx267_8
               have hw267_7 := hx267_7
               have hw267_6 := hx267_6
               have hw267_5 := hx267_5
               have hw267_4 := hx267_4
               have hw267_3 := hx267_3
               have hw267_2 := hx267_2
               have hw267_1 := hx267_1
               have hw267_0 := hx267_0
               cases e267
               replace hx267_0 := pw_cell_below HB.out hx267_0
               replace hx267_1 := pw_cell_below HB.out hx267_1
               replace hx267_2 := pw_cell_below HB.out hx267_2
               replace hx267_3 := pw_cell_below HB.out hx267_3
               replace hx267_4 := pw_cell_below HB.out hx267_4
               replace hx267_5 := pw_cell_below HB.out hx267_5
               replace hx267_6 := pw_cell_below HB.out hx267_6
               replace hx267_7 := pw_cell_below HB.out hx267_7
               replace hx267_8 := pw_cell_below HB.out hx267_8
               replace p267 := eq_true p267
               replace q267 := eq_true q267
               have p268 : 0 ≤ (x4_2 : Int) := of_decide_eq_true (by first | (with_reducible assumption) | assumption)
               have q268 : x4_2 < (l0.length : Int) := of_decide_eq_true (by first | (with_reducible assumption) | assumption)
               obtain ⟨ad268, e268, hx268_0, hx268_1, hx268_2, hx268_3, hx268_4, hx268_5, hx268_6, hx268_7, hx268_8⟩ := at_T47 HR0.out x4_2 p268 q268
               have hw268_8 := hx268_8
               have hw268_7 := hx268_7
               have hw268_6 := hx268_6
               have hw268_5 := hx268_5
               have hw268_4 := hx268_4
               have hw268_3 := hx268_3
               have hw268_2 := hx268_2
               have hw268_1 := hx268_1
               have hw268_0 := hx268_0
               obtain rfl : ad267 = ad268 := (by injection e268)
               replace hx268_0 := pw_cell_below HB.out hx268_0
               replace hx268_1 := pw_cell_below HB.out hx268_1
               replace hx268_2 := pw_cell_below HB.out hx268_2
               replace hx268_3 := pw_cell_below HB.out hx268_3
               replace hx268_4 := pw_cell_below HB.out hx268_4
               replace hx268_5 := pw_cell_below HB.out hx268_5
               replace hx268_6 := pw_cell_below HB.out hx268_6
               replace hx268_7 := pw_cell_below HB.out hx268_7
               replace hx268_8 := pw_cell_below HB.out hx268_8
               replace p268 := eq_true p268
               replace q268 := eq_true q268
               refine start_ (n := 20) (S := fun w' => w'.cell? ⟨gb262, 0, none⟩ = some (.int .i64 t258) ∧ w'.cell? ⟨gb262, 1, none⟩ = some (.slice Ao10 t259.length co10) ∧ w'.cell? (ad267.add ((x4_2).toNat * 9)) = some (.int .i64 ((rd_T47 l0 x4_2).f0)) ∧ w'.cell? ⟨(ad267.add ((x4_2).toNat * 9)).block, (ad267.add ((x4_2).toNat * 9)).off + 1, none⟩ = some (.int .i64 ((rd_T47 l0 x4_2).f1)) ∧ w'.cell? ⟨(ad267.add ((x4_2).toNat * 9)).block, (ad267.add ((x4_2).toNat * 9)).off + 2, none⟩ = some (.int .i64 ((rd_T47 l0 x4_2).f2.f0)) ∧ w'.cell? ⟨(ad267.add ((x4_2).toNat * 9)).block, (ad267.add ((x4_2).toNat * 9)).off + 3, none⟩ = some (.int .i64 ((rd_T47 l0 x4_2).f2.f1)) ∧ w'.cell? ⟨(ad267.add ((x4_2).toNat * 9)).block, (ad267.add ((x4_2).toNat * 9)).off + 4, none⟩ = some (.int .i64 ((rd_T47 l0 x4_2).f2.f2)) ∧ w'.cell? ⟨(ad267.add ((x4_2).toNat * 9)).block, (ad267.add ((x4_2).toNat * 9)).off + 5, none⟩ = some (.int .i64 ((rd_T47 l0 x4_2).f2.f3)) ∧ w'.cell? ⟨(ad267.add ((x4_2).toNat * 9)).block, (ad267.add ((x4_2).toNat * 9)).off + 6, none⟩ = some (.int .i64 ((rd_T47 l0 x4_2).f2.f4)) ∧ w'.cell? ⟨(ad267.add ((x4_2).toNat * 9)).block, (ad267.add ((x4_2).toNat * 9)).off + 7, none⟩ = some (.string ((rd_T47 l0 x4_2).f2.f5)) ∧ w'.cell? ⟨(ad267.add ((x4_2).toNat * 9)).block, (ad267.add ((x4_2).toNat * 9)).off + 8, none⟩ = some (.int .i64 ((rd_T47 l0 x4_2).f2.f6)) ∧ w'.cell? (ad267.add ((x4_2).toNat * 9)) = some (.int .i64 ((rd_T47 l0 x4_2).f0)) ∧ w'.cell? ⟨(ad267.add ((x4_2).toNat * 9)).block, (ad267.add ((x4_2).toNat * 9)).off + 1, none⟩ = some (.int .i64 ((rd_T47 l0 x4_2).f1)) ∧ w'.cell? ⟨(ad267.add ((x4_2).toNat * 9)).block, (ad267.add ((x4_2).toNat * 9)).off + 2, none⟩ = some (.int .i64 ((rd_T47 l0 x4_2).f2.f0)) ∧ w'.cell? ⟨(ad267.add ((x4_2).toNat * 9)).block, (ad267.add ((x4_2).toNat * 9)).off + 3, none⟩ = some (.int .i64 ((rd_T47 l0 x4_2).f2.f1)) ∧ w'.cell? ⟨(ad267.add ((x4_2).toNat * 9)).block, (ad267.add ((x4_2).toNat * 9)).off + 4, none⟩ = some (.int .i64 ((rd_T47 l0 x4_2).f2.f2)) ∧ w'.cell? ⟨(ad267.add ((x4_2).toNat * 9)).block, (ad267.add ((x4_2).toNat * 9)).off + 5, none⟩ = some (.int .i64 ((rd_T47 l0 x4_2).f2.f3)) ∧ w'.cell? ⟨(ad267.add ((x4_2).toNat * 9)).block, (ad267.add ((x4_2).toNat * 9)).off + 6, none⟩ = some (.int .i64 ((rd_T47 l0 x4_2).f2.f4)) ∧ w'.cell? ⟨(ad267.add ((x4_2).toNat * 9)).block, (ad267.add ((x4_2).toNat * 9)).off + 7, none⟩ = some (.string ((rd_T47 l0 x4_2).f2.f5)) ∧ w'.cell? ⟨(ad267.add ((x4_2).toNat * 9)).block, (ad267.add ((x4_2).toNat * 9)).off + 8, none⟩ = some (.int .i64 ((rd_T47 l0 x4_2).f2.f6))) (ds := []) (bsq 0 20) (by kernel_rfl) rfl rfl ⟨(blk_cell BK262.out 0).trans rfl, (blk_cell BK262.out 1).trans rfl, ((HB.out.cell (World.block_lt_of_cell? w _ hw267_0)).trans hw267_0), ((HB.out.cell (World.block_lt_of_cell? w _ hw267_1)).trans hw267_1), ((HB.out.cell (World.block_lt_of_cell? w _ hw267_2)).trans hw267_2), ((HB.out.cell (World.block_lt_of_cell? w _ hw267_3)).trans hw267_3), ((HB.out.cell (World.block_lt_of_cell? w _ hw267_4)).trans hw267_4), ((HB.out.cell (World.block_lt_of_cell? w _ hw267_5)).trans hw267_5), ((HB.out.cell (World.block_lt_of_cell? w _ hw267_6)).trans hw267_6), ((HB.out.cell (World.block_lt_of_cell? w _ hw267_7)).trans hw267_7), ((HB.out.cell (World.block_lt_of_cell? w _ hw267_8)).trans hw267_8), ((HB.out.cell (World.block_lt_of_cell? w _ hw268_0)).trans hw268_0), ((HB.out.cell (World.block_lt_of_cell? w _ hw268_1)).trans hw268_1), ((HB.out.cell (World.block_lt_of_cell? w _ hw268_2)).trans hw268_2), ((HB.out.cell (World.block_lt_of_cell? w _ hw268_3)).trans hw268_3), ((HB.out.cell (World.block_lt_of_cell? w _ hw268_4)).trans hw268_4), ((HB.out.cell (World.block_lt_of_cell? w _ hw268_5)).trans hw268_5), ((HB.out.cell (World.block_lt_of_cell? w _ hw268_6)).trans hw268_6), ((HB.out.cell (World.block_lt_of_cell? w _ hw268_7)).trans hw268_7), ((HB.out.cell (World.block_lt_of_cell? w _ hw268_8)).trans hw268_8)⟩ (fun hHeld => ?_); refine with_tabW signalbenchlaw46_EvindexComplete.tab14 signalbenchlaw46_EvindexComplete.bits14 (fun HT_ HW_ => ?_)
               generalize wr.drew = w29 at HO_263001 BK262 HB hx267_0 hx267_1 hx267_2 hx267_3 hx267_4 hx267_5 hx267_6 hx267_7 hx267_8 hx268_0 hx268_1 hx268_2 hx268_3 hx268_4 hx268_5 hx268_6 hx268_7 hx268_8 hHeld ⊢
               refine pu 0 46 (bsq 1 19) ?_
               refine pu 1 47 (bsq 2 18) ?_
               refine pu 2 48 (bsq 3 17) ?_
               refine pu 4 50 (bls [3, 1, 1, 15]) ?_
               refine pu 5 51 (bls [3, 1, 2, 14]) ?_
               refine pu 6 52 (bls [3, 1, 3, 13]) ?_
               refine pu 7 53 (bls [3, 1, 4, 12]) ?_
               refine pu 9 55 (bls [3, 1, 4, 1, 1, 10]) ?_
               refine pu 10 56 (bls [3, 1, 4, 1, 2, 9]) ?_
               refine pu 11 57 (bls [3, 1, 4, 1, 3, 8]) ?_
               refine pu 12 58 (bls [3, 1, 4, 1, 4, 7]) ?_
               refine pu 13 59 (bls [3, 1, 4, 1, 5, 6]) ?_
               refine pu 16 62 (bls [3, 1, 4, 1, 5, 2, 1, 3]) ?_
               refine tk 3 49 (bls [8, 1, 5, 2, 1, 3]) hHeld ?_ (he := by rintro w' ⟨s0, s1, s2, s3, s4, s5, s6, s7, s8, s9, s10, s11, s12, s13, s14, s15, s16, s17, s18, s19⟩; go_simp; with_reducible rfl)
               refine tk 8 54 (bls [14, 2, 1, 3]) hHeld ?_ (he := by rintro w' ⟨s0, s1, s2, s3, s4, s5, s6, s7, s8, s9, s10, s11, s12, s13, s14, s15, s16, s17, s18, s19⟩; go_simp; with_reducible rfl)
               refine tk 14 60 (bls [15, 1, 1, 3]) hHeld ?_ (he := by rintro w' ⟨s0, s1, s2, s3, s4, s5, s6, s7, s8, s9, s10, s11, s12, s13, s14, s15, s16, s17, s18, s19⟩; go_simp; with_reducible rfl)
               refine one_ (i := 15) (N := some 61) (bsq 17 3) rfl rfl (one_of HT_.out (by kernel_rfl)) (by decide) (fun K hK => ?_)
               refine goes_ Try.func17 (by kernel_rfl) rfl #[.agg #[.int .i64 t258, .slice Ao10 t259.length co10], .int .i64 ((rd_T47 l0 x4_2).f0), .int .i64 ((rd_T47 l0 x4_2).f2.f0)] (by rfl) rfl rfl (by (try simp only [List.map_toArray, List.map_cons, List.map_nil]); first | done | rfl | (simp only [List.length_drop, List.length_take]; rfl)) ?_
               with_reducible refine (evindex_Lookup.calls k3 t258 _ _ t259 ((rd_T47 l0 x4_2).f0) ((rd_T47 l0 x4_2).f2.f0) t269 _ ?side1 ?side2 A25.out).mono ?_
               (case side1 => repeat (first | exact (Kd.S_reads' HO_263001.out).2.2 | (with_reducible refine Kd.C_alloc ?_ _) | (with_reducible refine Kd.C_drewN ?_ _) | (with_reducible refine Kd.C_drew ?_)))
               (case side2 => exact (Kd.S_reads' HO_263001.out).2.1)
               rintro e w30 ⟨v270, rfl, ho0, hb⟩
               refine ⟨_, rfl, ?_⟩
               have n0_ := Aside0.mk (Kd.S_elder' (by (with_reducible repeat (first | apply Kd.S_alloc | apply Kd.S_drewN | apply Kd.S_drew)); exact HO_263001.out) (Kd.R_base ho0) hb)
               have n1_ := Aside0.mk (Kd.R_lower ho0 (below_size (bs HB.out)))
               have n2_ := Aside0.mk (blk_below (bg BK262.out) hb)
               have n3_ := Aside0.mk (below_step (bs HB.out) hb)
               clear HO_263001
               clear BK262
               clear HB
               have HO_263001 := n0_
               have HO271 := n1_
               have BK262 := n2_
               have HB := n3_
               clear n0_ n1_ n2_ n3_
               (try clear hb)
               (try clear hb2)
               (try clear hk)
               (try clear hi)
               (try clear ho0)
               obtain ⟨Ao31, co31, eo31⟩ := Kd.R_slice HO271.out
               (first | subst eo31 | (injection eo31 with f1_ f2_ f3_; have f4_ := f1_.symm; have f5_ := f3_.symm; clear f1_ f2_ f3_; subst f4_; subst f5_))
               refine hK.out _ _ ⟨(blk_cell BK262.out 0).trans rfl, (blk_cell BK262.out 1).trans rfl, ((HB.out.cell (World.block_lt_of_cell? w _ hw267_0)).trans hw267_0), ((HB.out.cell (World.block_lt_of_cell? w _ hw267_1)).trans hw267_1), ((HB.out.cell (World.block_lt_of_cell? w _ hw267_2)).trans hw267_2), ((HB.out.cell (World.block_lt_of_cell? w _ hw267_3)).trans hw267_3), ((HB.out.cell (World.block_lt_of_cell? w _ hw267_4)).trans hw267_4), ((HB.out.cell (World.block_lt_of_cell? w _ hw267_5)).trans hw267_5), ((HB.out.cell (World.block_lt_of_cell? w _ hw267_6)).trans hw267_6), ((HB.out.cell (World.block_lt_of_cell? w _ hw267_7)).trans hw267_7), ((HB.out.cell (World.block_lt_of_cell? w _ hw267_8)).trans hw267_8), ((HB.out.cell (World.block_lt_of_cell? w _ hw268_0)).trans hw268_0), ((HB.out.cell (World.block_lt_of_cell? w _ hw268_1)).trans hw268_1), ((HB.out.cell (World.block_lt_of_cell? w _ hw268_2)).trans hw268_2), ((HB.out.cell (World.block_lt_of_cell? w _ hw268_3)).trans hw268_3), ((HB.out.cell (World.block_lt_of_cell? w _ hw268_4)).trans hw268_4), ((HB.out.cell (World.block_lt_of_cell? w _ hw268_5)).trans hw268_5), ((HB.out.cell (World.block_lt_of_cell? w _ hw268_6)).trans hw268_6), ((HB.out.cell (World.block_lt_of_cell? w _ hw268_7)).trans hw268_7), ((HB.out.cell (World.block_lt_of_cell? w _ hw268_8)).trans hw268_8)⟩ (fun hHeld => ?_)
               clear hK K
               refine norm_ (a' := ?_) ?_ ?_
               rotate_left
               ·
                show Act.put _ (some 61) _ = _
                simp only [Act.put, List.setIfInBounds_toArray, List.set_cons_zero, List.set_cons_succ, i64_w, i32_w]
                rfl
               refine one_ (i := 17) (N := some 63) (bsq 18 2) rfl rfl (one_of HT_.out (by kernel_rfl)) (by decide) (fun K hK => ?_)
               refine goes_ Try.func23 (by kernel_rfl) rfl #[.slice Ao31 t269.length co31, .int .i64 x4_2] (by rfl) rfl rfl (by (try simp only [List.map_toArray, List.map_cons, List.map_nil]); first | done | rfl | (simp only [List.length_drop, List.length_take]; rfl)) ?_
               with_reducible refine (signalbenchlaw46_times.calls k3 _ _ t269 x4_2 t272 _ ?side1 ?side2 A26.out).mono ?_
               (case side1 => repeat (first | exact (Kd.R_reads' HO271.out).2.2 | (with_reducible refine Kd.C_alloc ?_ _) | (with_reducible refine Kd.C_drewN ?_ _) | (with_reducible refine Kd.C_drew ?_)))
               (case side2 => exact (Kd.R_reads' HO271.out).2.1)
               rintro e w' ⟨rfl, ⟨nd, rfl⟩⟩
               refine ⟨_, rfl, ?_⟩
               refine hK.out _ _ ⟨(blk_cell BK262.out 0).trans rfl, (blk_cell BK262.out 1).trans rfl, ((HB.out.cell (World.block_lt_of_cell? w _ hw267_0)).trans hw267_0), ((HB.out.cell (World.block_lt_of_cell? w _ hw267_1)).trans hw267_1), ((HB.out.cell (World.block_lt_of_cell? w _ hw267_2)).trans hw267_2), ((HB.out.cell (World.block_lt_of_cell? w _ hw267_3)).trans hw267_3), ((HB.out.cell (World.block_lt_of_cell? w _ hw267_4)).trans hw267_4), ((HB.out.cell (World.block_lt_of_cell? w _ hw267_5)).trans hw267_5), ((HB.out.cell (World.block_lt_of_cell? w _ hw267_6)).trans hw267_6), ((HB.out.cell (World.block_lt_of_cell? w _ hw267_7)).trans hw267_7), ((HB.out.cell (World.block_lt_of_cell? w _ hw267_8)).trans hw267_8), ((HB.out.cell (World.block_lt_of_cell? w _ hw268_0)).trans hw268_0), ((HB.out.cell (World.block_lt_of_cell? w _ hw268_1)).trans hw268_1), ((HB.out.cell (World.block_lt_of_cell? w _ hw268_2)).trans hw268_2), ((HB.out.cell (World.block_lt_of_cell? w _ hw268_3)).trans hw268_3), ((HB.out.cell (World.block_lt_of_cell? w _ hw268_4)).trans hw268_4), ((HB.out.cell (World.block_lt_of_cell? w _ hw268_5)).trans hw268_5), ((HB.out.cell (World.block_lt_of_cell? w _ hw268_6)).trans hw268_6), ((HB.out.cell (World.block_lt_of_cell? w _ hw268_7)).trans hw268_7), ((HB.out.cell (World.block_lt_of_cell? w _ hw268_8)).trans hw268_8)⟩ (fun hHeld => ?_)
               clear hK K
               refine norm_ (a' := ?_) ?_ ?_
               rotate_left
               ·
                show Act.put _ (some 63) _ = _
                simp only [Act.put, List.setIfInBounds_toArray, List.set_cons_zero, List.set_cons_succ, i64_w, i32_w]
                rfl
               refine pu 18 64 (bsq 19 1) ?_
               refine pu 19 65 (bsq 20 0) ?_
               refine done_ (done_of HT_.out (by kernel_rfl)) ?_
               try go_wp2
               go_roundg k3
               case measure => have := HJ5.out; have := HK2.out; have := HK3.out; omega
               case rel => exact ⟨(wrap64 (x4_2 + 1)), (by first | rfl | (simp; done) | (simp [*]; done)), H', ⟨by have := HJ5.out; have := HK2.out; have := HK3.out; omega⟩, ⟨by (with_reducible repeat (first | apply Kd.S_alloc | apply Kd.S_drewN | apply Kd.S_drew)); exact Kd.S_mono HO_263001.out (fun _ hk => trivial)⟩, ⟨bg BK262.out⟩, ⟨bs HB.out⟩⟩
              ·
               rw [if_neg c27] at H
               have c27b0 : (t272 == 1) = false := beq_eq_false_iff_ne.mpr c27
               have c27b1 : (t272 != 1) = true := bne_iff_ne.mpr c27
               obtain rfl := Option.some.inj H
               obtain ⟨hcz32_0, hcz32_1⟩ := bc2 BK262.out
               obtain ⟨hfz32_0, hfz32_1⟩ := bf2 BK262.out
               try go_wp2
               have n0_ := Aside0.mk (Kd.S_drew HO_263001.out)
               have n1_ := Aside0.mk (blk_drew BK262.out)
               have n2_ := Aside0.mk (below_drew1 HB.out)
               clear HO_263001
               clear BK262
               clear HB
               have HO_263001 := n0_
               have BK262 := n1_
               have HB := n2_
               clear n0_ n1_ n2_
               have p267 : 0 ≤ (x4_2 : Int) := of_decide_eq_true (by first | (with_reducible assumption) | assumption)
               have q267 : x4_2 < (l0.length : Int) := of_decide_eq_true (by first | (with_reducible assumption) | assumption)
               obtain ⟨ad267, e267, hx267_0, hx267_1, hx267_2, hx267_3, hx267_4, hx267_5, hx267_6, hx267_7, hx267_8⟩ := at_T47 HR0.out x4_2 p267 q267
               have hw267_8 := hx267_8
               have hw267_7 := hx267_7
               have hw267_6 := hx267_6
               have hw267_5 := hx267_5
               have hw267_4 := hx267_4
               have hw267_3 := hx267_3
               have hw267_2 := hx267_2
               have hw267_1 := hx267_1
               have hw267_0 := hx267_0
               cases e267
               replace hx267_0 := pw_cell_below HB.out hx267_0
               replace hx267_1 := pw_cell_below HB.out hx267_1
               replace hx267_2 := pw_cell_below HB.out hx267_2
               replace hx267_3 := pw_cell_below HB.out hx267_3
               replace hx267_4 := pw_cell_below HB.out hx267_4
               replace hx267_5 := pw_cell_below HB.out hx267_5
               replace hx267_6 := pw_cell_below HB.out hx267_6
               replace hx267_7 := pw_cell_below HB.out hx267_7
               replace hx267_8 := pw_cell_below HB.out hx267_8
               replace p267 := eq_true p267
               replace q267 := eq_true q267
               have p268 : 0 ≤ (x4_2 : Int) := of_decide_eq_true (by first | (with_reducible assumption) | assumption)
               have q268 : x4_2 < (l0.length : Int) := of_decide_eq_true (by first | (with_reducible assumption) | assumption)
               obtain ⟨ad268, e268, hx268_0, hx268_1, hx268_2, hx268_3, hx268_4, hx268_5, hx268_6, hx268_7, hx268_8⟩ := at_T47 HR0.out x4_2 p268 q268
               have hw268_8 := hx268_8
               have hw268_7 := hx268_7
               have hw268_6 := hx268_6
               have hw268_5 := hx268_5
               have hw268_4 := hx268_4
               have hw268_3 := hx268_3
               have hw268_2 := hx268_2
               have hw268_1 := hx268_1
               have hw268_0 := hx268_0
               obtain rfl : ad267 = ad268 := (by injection e268)
               replace hx268_0 := pw_cell_below HB.out hx268_0
               replace hx268_1 := pw_cell_below HB.out hx268_1
               replace hx268_2 := pw_cell_below HB.out hx268_2
               replace hx268_3 := pw_cell_below HB.out hx268_3
               replace hx268_4 := pw_cell_below HB.out hx268_4
               replace hx268_5 := pw_cell_below HB.out hx268_5
               replace hx268_6 := pw_cell_below HB.out hx268_6
               replace hx268_7 := pw_cell_below HB.out hx268_7
               replace hx268_8 := pw_cell_below HB.out hx268_8
               replace p268 := eq_true p268
               replace q268 := eq_true q268
               refine start_ (n := 20) (S := fun w' => w'.cell? ⟨gb262, 0, none⟩ = some (.int .i64 t258) ∧ w'.cell? ⟨gb262, 1, none⟩ = some (.slice Ao10 t259.length co10) ∧ w'.cell? (ad267.add ((x4_2).toNat * 9)) = some (.int .i64 ((rd_T47 l0 x4_2).f0)) ∧ w'.cell? ⟨(ad267.add ((x4_2).toNat * 9)).block, (ad267.add ((x4_2).toNat * 9)).off + 1, none⟩ = some (.int .i64 ((rd_T47 l0 x4_2).f1)) ∧ w'.cell? ⟨(ad267.add ((x4_2).toNat * 9)).block, (ad267.add ((x4_2).toNat * 9)).off + 2, none⟩ = some (.int .i64 ((rd_T47 l0 x4_2).f2.f0)) ∧ w'.cell? ⟨(ad267.add ((x4_2).toNat * 9)).block, (ad267.add ((x4_2).toNat * 9)).off + 3, none⟩ = some (.int .i64 ((rd_T47 l0 x4_2).f2.f1)) ∧ w'.cell? ⟨(ad267.add ((x4_2).toNat * 9)).block, (ad267.add ((x4_2).toNat * 9)).off + 4, none⟩ = some (.int .i64 ((rd_T47 l0 x4_2).f2.f2)) ∧ w'.cell? ⟨(ad267.add ((x4_2).toNat * 9)).block, (ad267.add ((x4_2).toNat * 9)).off + 5, none⟩ = some (.int .i64 ((rd_T47 l0 x4_2).f2.f3)) ∧ w'.cell? ⟨(ad267.add ((x4_2).toNat * 9)).block, (ad267.add ((x4_2).toNat * 9)).off + 6, none⟩ = some (.int .i64 ((rd_T47 l0 x4_2).f2.f4)) ∧ w'.cell? ⟨(ad267.add ((x4_2).toNat * 9)).block, (ad267.add ((x4_2).toNat * 9)).off + 7, none⟩ = some (.string ((rd_T47 l0 x4_2).f2.f5)) ∧ w'.cell? ⟨(ad267.add ((x4_2).toNat * 9)).block, (ad267.add ((x4_2).toNat * 9)).off + 8, none⟩ = some (.int .i64 ((rd_T47 l0 x4_2).f2.f6)) ∧ w'.cell? (ad267.add ((x4_2).toNat * 9)) = some (.int .i64 ((rd_T47 l0 x4_2).f0)) ∧ w'.cell? ⟨(ad267.add ((x4_2).toNat * 9)).block, (ad267.add ((x4_2).toNat * 9)).off + 1, none⟩ = some (.int .i64 ((rd_T47 l0 x4_2).f1)) ∧ w'.cell? ⟨(ad267.add ((x4_2).toNat * 9)).block, (ad267.add ((x4_2).toNat * 9)).off + 2, none⟩ = some (.int .i64 ((rd_T47 l0 x4_2).f2.f0)) ∧ w'.cell? ⟨(ad267.add ((x4_2).toNat * 9)).block, (ad267.add ((x4_2).toNat * 9)).off + 3, none⟩ = some (.int .i64 ((rd_T47 l0 x4_2).f2.f1)) ∧ w'.cell? ⟨(ad267.add ((x4_2).toNat * 9)).block, (ad267.add ((x4_2).toNat * 9)).off + 4, none⟩ = some (.int .i64 ((rd_T47 l0 x4_2).f2.f2)) ∧ w'.cell? ⟨(ad267.add ((x4_2).toNat * 9)).block, (ad267.add ((x4_2).toNat * 9)).off + 5, none⟩ = some (.int .i64 ((rd_T47 l0 x4_2).f2.f3)) ∧ w'.cell? ⟨(ad267.add ((x4_2).toNat * 9)).block, (ad267.add ((x4_2).toNat * 9)).off + 6, none⟩ = some (.int .i64 ((rd_T47 l0 x4_2).f2.f4)) ∧ w'.cell? ⟨(ad267.add ((x4_2).toNat * 9)).block, (ad267.add ((x4_2).toNat * 9)).off + 7, none⟩ = some (.string ((rd_T47 l0 x4_2).f2.f5)) ∧ w'.cell? ⟨(ad267.add ((x4_2).toNat * 9)).block, (ad267.add ((x4_2).toNat * 9)).off + 8, none⟩ = some (.int .i64 ((rd_T47 l0 x4_2).f2.f6))) (ds := []) (bsq 0 20) (by kernel_rfl) rfl rfl ⟨(blk_cell BK262.out 0).trans rfl, (blk_cell BK262.out 1).trans rfl, ((HB.out.cell (World.block_lt_of_cell? w _ hw267_0)).trans hw267_0), ((HB.out.cell (World.block_lt_of_cell? w _ hw267_1)).trans hw267_1), ((HB.out.cell (World.block_lt_of_cell? w _ hw267_2)).trans hw267_2), ((HB.out.cell (World.block_lt_of_cell? w _ hw267_3)).trans hw267_3), ((HB.out.cell (World.block_lt_of_cell? w _ hw267_4)).trans hw267_4), ((HB.out.cell (World.block_lt_of_cell? w _ hw267_5)).trans hw267_5), ((HB.out.cell (World.block_lt_of_cell? w _ hw267_6)).trans hw267_6), ((HB.out.cell (World.block_lt_of_cell? w _ hw267_7)).trans hw267_7), ((HB.out.cell (World.block_lt_of_cell? w _ hw267_8)).trans hw267_8), ((HB.out.cell (World.block_lt_of_cell? w _ hw268_0)).trans hw268_0), ((HB.out.cell (World.block_lt_of_cell? w _ hw268_1)).trans hw268_1), ((HB.out.cell (World.block_lt_of_cell? w _ hw268_2)).trans hw268_2), ((HB.out.cell (World.block_lt_of_cell? w _ hw268_3)).trans hw268_3), ((HB.out.cell (World.block_lt_of_cell? w _ hw268_4)).trans hw268_4), ((HB.out.cell (World.block_lt_of_cell? w _ hw268_5)).trans hw268_5), ((HB.out.cell (World.block_lt_of_cell? w _ hw268_6)).trans hw268_6), ((HB.out.cell (World.block_lt_of_cell? w _ hw268_7)).trans hw268_7), ((HB.out.cell (World.block_lt_of_cell? w _ hw268_8)).trans hw268_8)⟩ (fun hHeld => ?_); refine with_tabW signalbenchlaw46_EvindexComplete.tab14 signalbenchlaw46_EvindexComplete.bits14 (fun HT_ HW_ => ?_)
               generalize wr.drew = w33 at HO_263001 BK262 HB hx267_0 hx267_1 hx267_2 hx267_3 hx267_4 hx267_5 hx267_6 hx267_7 hx267_8 hx268_0 hx268_1 hx268_2 hx268_3 hx268_4 hx268_5 hx268_6 hx268_7 hx268_8 hHeld ⊢
               refine pu 0 46 (bsq 1 19) ?_
               refine pu 1 47 (bsq 2 18) ?_
               refine pu 2 48 (bsq 3 17) ?_
               refine pu 4 50 (bls [3, 1, 1, 15]) ?_
               refine pu 5 51 (bls [3, 1, 2, 14]) ?_
               refine pu 6 52 (bls [3, 1, 3, 13]) ?_
               refine pu 7 53 (bls [3, 1, 4, 12]) ?_
               refine pu 9 55 (bls [3, 1, 4, 1, 1, 10]) ?_
               refine pu 10 56 (bls [3, 1, 4, 1, 2, 9]) ?_
               refine pu 11 57 (bls [3, 1, 4, 1, 3, 8]) ?_
               refine pu 12 58 (bls [3, 1, 4, 1, 4, 7]) ?_
               refine pu 13 59 (bls [3, 1, 4, 1, 5, 6]) ?_
               refine pu 16 62 (bls [3, 1, 4, 1, 5, 2, 1, 3]) ?_
               refine tk 3 49 (bls [8, 1, 5, 2, 1, 3]) hHeld ?_ (he := by rintro w' ⟨s0, s1, s2, s3, s4, s5, s6, s7, s8, s9, s10, s11, s12, s13, s14, s15, s16, s17, s18, s19⟩; go_simp; with_reducible rfl)
               refine tk 8 54 (bls [14, 2, 1, 3]) hHeld ?_ (he := by rintro w' ⟨s0, s1, s2, s3, s4, s5, s6, s7, s8, s9, s10, s11, s12, s13, s14, s15, s16, s17, s18, s19⟩; go_simp; with_reducible rfl)
               refine tk 14 60 (bls [15, 1, 1, 3]) hHeld ?_ (he := by rintro w' ⟨s0, s1, s2, s3, s4, s5, s6, s7, s8, s9, s10, s11, s12, s13, s14, s15, s16, s17, s18, s19⟩; go_simp; with_reducible rfl)
               refine one_ (i := 15) (N := some 61) (bsq 17 3) rfl rfl (one_of HT_.out (by kernel_rfl)) (by decide) (fun K hK => ?_)
               refine goes_ Try.func17 (by kernel_rfl) rfl #[.agg #[.int .i64 t258, .slice Ao10 t259.length co10], .int .i64 ((rd_T47 l0 x4_2).f0), .int .i64 ((rd_T47 l0 x4_2).f2.f0)] (by rfl) rfl rfl (by (try simp only [List.map_toArray, List.map_cons, List.map_nil]); first | done | rfl | (simp only [List.length_drop, List.length_take]; rfl)) ?_
               with_reducible refine (evindex_Lookup.calls k3 t258 _ _ t259 ((rd_T47 l0 x4_2).f0) ((rd_T47 l0 x4_2).f2.f0) t269 _ ?side1 ?side2 A25.out).mono ?_
               (case side1 => repeat (first | exact (Kd.S_reads' HO_263001.out).2.2 | (with_reducible refine Kd.C_alloc ?_ _) | (with_reducible refine Kd.C_drewN ?_ _) | (with_reducible refine Kd.C_drew ?_)))
               (case side2 => exact (Kd.S_reads' HO_263001.out).2.1)
               rintro e w34 ⟨v270, rfl, ho0, hb⟩
               refine ⟨_, rfl, ?_⟩
               have n0_ := Aside0.mk (Kd.S_elder' (by (with_reducible repeat (first | apply Kd.S_alloc | apply Kd.S_drewN | apply Kd.S_drew)); exact HO_263001.out) (Kd.R_base ho0) hb)
               have n1_ := Aside0.mk (Kd.R_lower ho0 (below_size (bs HB.out)))
               have n2_ := Aside0.mk (blk_below (bg BK262.out) hb)
               have n3_ := Aside0.mk (below_step (bs HB.out) hb)
               clear HO_263001
               clear BK262
               clear HB
               have HO_263001 := n0_
               have HO271 := n1_
               have BK262 := n2_
               have HB := n3_
               clear n0_ n1_ n2_ n3_
               (try clear hb)
               (try clear hb2)
               (try clear hk)
               (try clear hi)
               (try clear ho0)
               obtain ⟨Ao35, co35, eo35⟩ := Kd.R_slice HO271.out
               (first | subst eo35 | (injection eo35 with f1_ f2_ f3_; have f4_ := f1_.symm; have f5_ := f3_.symm; clear f1_ f2_ f3_; subst f4_; subst f5_))
               refine hK.out _ _ ⟨(blk_cell BK262.out 0).trans rfl, (blk_cell BK262.out 1).trans rfl, ((HB.out.cell (World.block_lt_of_cell? w _ hw267_0)).trans hw267_0), ((HB.out.cell (World.block_lt_of_cell? w _ hw267_1)).trans hw267_1), ((HB.out.cell (World.block_lt_of_cell? w _ hw267_2)).trans hw267_2), ((HB.out.cell (World.block_lt_of_cell? w _ hw267_3)).trans hw267_3), ((HB.out.cell (World.block_lt_of_cell? w _ hw267_4)).trans hw267_4), ((HB.out.cell (World.block_lt_of_cell? w _ hw267_5)).trans hw267_5), ((HB.out.cell (World.block_lt_of_cell? w _ hw267_6)).trans hw267_6), ((HB.out.cell (World.block_lt_of_cell? w _ hw267_7)).trans hw267_7), ((HB.out.cell (World.block_lt_of_cell? w _ hw267_8)).trans hw267_8), ((HB.out.cell (World.block_lt_of_cell? w _ hw268_0)).trans hw268_0), ((HB.out.cell (World.block_lt_of_cell? w _ hw268_1)).trans hw268_1), ((HB.out.cell (World.block_lt_of_cell? w _ hw268_2)).trans hw268_2), ((HB.out.cell (World.block_lt_of_cell? w _ hw268_3)).trans hw268_3), ((HB.out.cell (World.block_lt_of_cell? w _ hw268_4)).trans hw268_4), ((HB.out.cell (World.block_lt_of_cell? w _ hw268_5)).trans hw268_5), ((HB.out.cell (World.block_lt_of_cell? w _ hw268_6)).trans hw268_6), ((HB.out.cell (World.block_lt_of_cell? w _ hw268_7)).trans hw268_7), ((HB.out.cell (World.block_lt_of_cell? w _ hw268_8)).trans hw268_8)⟩ (fun hHeld => ?_)
               clear hK K
               refine norm_ (a' := ?_) ?_ ?_
               rotate_left
               ·
                show Act.put _ (some 61) _ = _
                simp only [Act.put, List.setIfInBounds_toArray, List.set_cons_zero, List.set_cons_succ, i64_w, i32_w]
                rfl
               refine one_ (i := 17) (N := some 63) (bsq 18 2) rfl rfl (one_of HT_.out (by kernel_rfl)) (by decide) (fun K hK => ?_)
               refine goes_ Try.func23 (by kernel_rfl) rfl #[.slice Ao35 t269.length co35, .int .i64 x4_2] (by rfl) rfl rfl (by (try simp only [List.map_toArray, List.map_cons, List.map_nil]); first | done | rfl | (simp only [List.length_drop, List.length_take]; rfl)) ?_
               with_reducible refine (signalbenchlaw46_times.calls k3 _ _ t269 x4_2 t272 _ ?side1 ?side2 A26.out).mono ?_
               (case side1 => repeat (first | exact (Kd.R_reads' HO271.out).2.2 | (with_reducible refine Kd.C_alloc ?_ _) | (with_reducible refine Kd.C_drewN ?_ _) | (with_reducible refine Kd.C_drew ?_)))
               (case side2 => exact (Kd.R_reads' HO271.out).2.1)
               rintro e w' ⟨rfl, ⟨nd, rfl⟩⟩
               refine ⟨_, rfl, ?_⟩
               refine hK.out _ _ ⟨(blk_cell BK262.out 0).trans rfl, (blk_cell BK262.out 1).trans rfl, ((HB.out.cell (World.block_lt_of_cell? w _ hw267_0)).trans hw267_0), ((HB.out.cell (World.block_lt_of_cell? w _ hw267_1)).trans hw267_1), ((HB.out.cell (World.block_lt_of_cell? w _ hw267_2)).trans hw267_2), ((HB.out.cell (World.block_lt_of_cell? w _ hw267_3)).trans hw267_3), ((HB.out.cell (World.block_lt_of_cell? w _ hw267_4)).trans hw267_4), ((HB.out.cell (World.block_lt_of_cell? w _ hw267_5)).trans hw267_5), ((HB.out.cell (World.block_lt_of_cell? w _ hw267_6)).trans hw267_6), ((HB.out.cell (World.block_lt_of_cell? w _ hw267_7)).trans hw267_7), ((HB.out.cell (World.block_lt_of_cell? w _ hw267_8)).trans hw267_8), ((HB.out.cell (World.block_lt_of_cell? w _ hw268_0)).trans hw268_0), ((HB.out.cell (World.block_lt_of_cell? w _ hw268_1)).trans hw268_1), ((HB.out.cell (World.block_lt_of_cell? w _ hw268_2)).trans hw268_2), ((HB.out.cell (World.block_lt_of_cell? w _ hw268_3)).trans hw268_3), ((HB.out.cell (World.block_lt_of_cell? w _ hw268_4)).trans hw268_4), ((HB.out.cell (World.block_lt_of_cell? w _ hw268_5)).trans hw268_5), ((HB.out.cell (World.block_lt_of_cell? w _ hw268_6)).trans hw268_6), ((HB.out.cell (World.block_lt_of_cell? w _ hw268_7)).trans hw268_7), ((HB.out.cell (World.block_lt_of_cell? w _ hw268_8)).trans hw268_8)⟩ (fun hHeld => ?_)
               clear hK K
               refine norm_ (a' := ?_) ?_ ?_
               rotate_left
               ·
                show Act.put _ (some 63) _ = _
                simp only [Act.put, List.setIfInBounds_toArray, List.set_cons_zero, List.set_cons_succ, i64_w, i32_w]
                rfl
               refine pu 18 64 (bsq 19 1) ?_
               refine pu 19 65 (bsq 20 0) ?_
               refine done_ (done_of HT_.out (by kernel_rfl)) ?_
               try go_wp2
               go_ret
               exact ⟨by first | rfl | (simp [errW_none, errW_some] <;> rfl) | (simp [*, errW_none, errW_some] <;> rfl), bs HB.out⟩
             ·
              rw [if_neg c24] at H
              exact absurd H (by simp)
            ·
             rw [if_neg c23] at H
             exact absurd H (by simp)
           ·
            rw [if_neg c22] at H
            have c22b0 : (x5_3 == 1) = false := beq_eq_false_iff_ne.mpr c22
            have c22b1 : (x5_3 != 1) = true := bne_iff_ne.mpr c22
            obtain rfl := Option.some.inj H
            obtain ⟨hcz36_0, hcz36_1⟩ := bc2 BK262.out
            obtain ⟨hfz36_0, hfz36_1⟩ := bf2 BK262.out
            try go_wp2
            have n0_ := Aside0.mk (Kd.S_drew HO_263001.out)
            have n1_ := Aside0.mk (blk_drew BK262.out)
            have n2_ := Aside0.mk (below_drew1 HB.out)
            clear HO_263001
            clear BK262
            clear HB
            have HO_263001 := n0_
            have BK262 := n1_
            have HB := n2_
            clear n0_ n1_ n2_
            refine start_ (n := 20) (S := fun w' => True) (ds := []) (bsq 0 20) (by kernel_rfl) rfl rfl trivial (fun hHeld => ?_); refine with_tabW signalbenchlaw46_EvindexComplete.tab14 signalbenchlaw46_EvindexComplete.bits14 (fun HT_ HW_ => ?_)
            generalize wr.drew = w37 at HO_263001 BK262 HB hHeld ⊢
            refine pu 0 46 (bsq 1 19) ?_
            refine pu 1 47 (bsq 2 18) ?_
            refine pu 2 48 (bsq 3 17) ?_
            refine un 3 49 (bsq 4 16) ?_
            refine un 4 50 (bsq 5 15) ?_
            refine un 5 51 (bsq 6 14) ?_
            refine un 6 52 (bsq 7 13) ?_
            refine un 7 53 (bsq 8 12) ?_
            refine un 8 54 (bsq 9 11) ?_
            refine un 9 55 (bsq 10 10) ?_
            refine un 10 56 (bsq 11 9) ?_
            refine un 11 57 (bsq 12 8) ?_
            refine un 12 58 (bsq 13 7) ?_
            refine un 13 59 (bsq 14 6) ?_
            refine un 14 60 (bsq 15 5) ?_
            refine un 15 61 (bsq 16 4) ?_
            refine un 16 62 (bsq 17 3) ?_
            refine un 17 63 (bsq 18 2) ?_
            refine un 18 64 (bsq 19 1) ?_
            refine pu 19 65 (bsq 20 0) ?_
            refine done_ (done_of HT_.out (by kernel_rfl)) ?_
            try go_wp2
            go_ret
            exact ⟨by first | rfl | (simp [errW_none, errW_some] <;> rfl) | (simp [*, errW_none, errW_some] <;> rfl), bs HB.out⟩
       ·
        rw [if_neg c17] at H
        have c17b0 : decide (x4_2 < (l0.length : Int)) = false := decide_eq_false c17
        clear c17
        replace H := Option.bind_eq_some_iff.mp H
        obtain ⟨t264, A380, H⟩ := H
        replace H : (some t264) = some r := H
        have A38 := Aside0.mk A380
        clear A380
        obtain rfl := Option.some.inj H
        go_wp2_with (first | ((with_reducible refine gate_callee (f := 9) rfl ?_); refine goesL_ (some 66) rfl rfl Try.func9 (by kernel_rfl) rfl #[] rfl (by (try simp only [List.map_toArray, List.map_cons, List.map_nil]); first | done | rfl | (simp only [List.length_drop, List.length_take]; rfl)) ?_; (with_reducible refine (signalbenchlaw46_awake.calls k2  t264 _ A38.out).mono ?_); rintro e w39 ⟨rfl, hb⟩; refine ⟨_, rfl, ?_⟩; have n0_ := Aside0.mk (Kd.S_below (by (with_reducible repeat (first | apply Kd.S_alloc | apply Kd.S_drewN | apply Kd.S_drew)); exact HO_263001.out) hb); have n1_ := Aside0.mk (blk_below (bg BK262.out) hb); have n2_ := Aside0.mk (below_step (bs HB.out) hb); clear HO_263001; clear BK262; clear HB; have HO_263001 := n0_; have BK262 := n1_; have HB := n2_; clear n0_ n1_ n2_; (try clear hb); (try clear hb2); (try clear hk); (try clear hi)))
        go_ret
        exact ⟨by first | rfl | (simp [errW_none, errW_some] <;> rfl) | (simp [*, errW_none, errW_some] <;> rfl), bs HB.out⟩

end Go.Proofs.Yteifekndhgkgcaa.H
