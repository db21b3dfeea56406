-- Printed by wip/hprint.py (this project's own driver of the kit's print) out of the translation; Lean checks it.
import Derived.Test.YtgdjiphljadlcaaH0
import Derived.Test.YtgdjiphljadlcaaH9
import Derived.Test.YtgdjiphljadlcaaH11
import Derived.Test.YtgdjiphljadlcaaH25
import Derived.Test.YtgdjiphljadlcaaH29
namespace Go.Proofs.Ytgdjiphljadlcaa.H
open Go.RowKit Go.Proofs.YtgdjiphljadlcaaW.PrintWords Go.Proofs.YtgdjiphljadlcaaW.PrintLast Go.Proofs.YtgdjiphljadlcaaW.PrintMore
attribute [local go_sem] max2_int min2_int max_two min_two max_three min_three max_four min_four   -- for this text's walks alone
set_option linter.unusedVariables false
set_option linter.unusedSimpArgs false

/-! ### signalbenchlaw44_TrigautoValid: function 6 -/
mutual
def signalbenchlaw44_TrigautoValid.j0 : Nat → Bool → List (S139) → List (S100) → List (S50) → Option (Bool)
 | 0, _, _, _, _ => none
 | k + 1, x39, x318000, x318001, x323000 => if x39 = true then (some false) else (signalbenchlaw44_TrigautoValid.l0 k 0 x318000 x318001 x323000)
def signalbenchlaw44_TrigautoValid.l0 : Nat → Int → List (S139) → List (S100) → List (S50) → Option (Bool)
 | 0, _, _, _, _ => none
 | k + 1, x7, x318000, x318001, x323000 => if x7 < (x323000.length : Int) then (if 0 ≤ x7 then (if ((rd_T50 x323000 x7).f0.f0) < 0 then (some false) else (if ((rd_T50 x323000 x7).f0.f0) ≥ (x318001.length : Int) then (some false) else (signalbenchlaw44_TrigautoValid.l0 k (wrap64 (x7 + 1)) x318000 x318001 x323000))) else (none)) else (if 0 < (x323000.length : Int) then (if ((rd_T50 x323000 0).f1) = 0 then (if ((rd_T50 x323000 0).f2 = true) then (some false) else ((signalbenchlaw44_awake.f).bind fun t330 => (some t330))) else (some false)) else (none))
end
def signalbenchlaw44_TrigautoValid.f (k : Nat) (a0_0 : ByteArray) (l0_1 : List (S64)) (l1_0 : List (S139)) (l1_1 : List (S100)) : Option (Bool) := (trigauto_Compile.f k a0_0 l0_1 l1_0 l1_1).bind fun bt318 => (if bt318.2 = 0 then ((trigauto_Check.f k bt318.1).bind fun t325 => (if t325 = 0 then (if (bt318.1.length : Int) < 1 then (signalbenchlaw44_TrigautoValid.j0 k true l1_0 l1_1 bt318.1) else (signalbenchlaw44_TrigautoValid.j0 k (decide ((bt318.1.length : Int) > 32)) l1_0 l1_1 bt318.1)) else (signalbenchlaw44_TrigautoValid.j0 k true l1_0 l1_1 bt318.1))) else ((trig_Check.f k a0_0 l0_1 l1_0 l1_1).bind fun t323 => (if bt318.2 = t323 then ((signalbenchlaw44_awake.f).bind fun t324 => (some t324)) else (some false))))
set_option maxHeartbeats 8000000 in
set_option maxRecDepth 100000 in
theorem signalbenchlaw44_TrigautoValid.calls (k : Nat) (a0_0 : ByteArray) (A0_1 : Option Addr) (c0_1 : Nat) (l0_1 : List (S64)) (A1_0 : Option Addr) (c1_0 : Nat) (l1_0 : List (S139)) (A1_1 : Option Addr) (c1_1 : Nat) (l1_1 : List (S100)) (r : Bool) (w : World) (hr0_1 : Kd.C k64 w A0_1 l0_1.length l0_1) (hc0_1 : l0_1.length ≤ c0_1) (hr1_0 : Kd.C k139 w A1_0 l1_0.length l1_0) (hc1_0 : l1_0.length ≤ c1_0) (hr1_1 : Kd.C k100 w A1_1 l1_1.length l1_1) (hc1_1 : l1_1.length ≤ c1_1) (h : signalbenchlaw44_TrigautoValid.f k a0_0 l0_1 l1_0 l1_1 = some r) :
  Calls Try.prog 6 #[.agg #[.string a0_0, .slice A0_1 l0_1.length c0_1], .agg #[.slice A1_0 l1_0.length c1_0, .slice A1_1 l1_1.length c1_1]] w fun e w' => e = .returned (.bool r) ∧ Below w.heap.size w w' := by
 have hu24 := Try.underlying24
 have hu28 := Try.underlying28
 have hu31 := Try.underlying31
 have hu42 := Try.underlying42
 have HR0_1 := Aside0.mk hr0_1
 have HC0_1 := Aside0.mk hc0_1
 clear hr0_1 hc0_1
 have HR1_0 := Aside0.mk hr1_0
 have HC1_0 := Aside0.mk hc1_0
 clear hr1_0 hc1_0
 have HR1_1 := Aside0.mk hr1_1
 have HC1_1 := Aside0.mk hc1_1
 clear hr1_1 hc1_1
 have HB := Aside0.mk (Below.refl w.heap.size w)
 have H : ((trigauto_Compile.f k a0_0 l0_1 l1_0 l1_1).bind fun bt318 => (if bt318.2 = 0 then ((trigauto_Check.f k bt318.1).bind fun t325 => (if t325 = 0 then (if (bt318.1.length : Int) < 1 then (signalbenchlaw44_TrigautoValid.j0 k true l1_0 l1_1 bt318.1) else (signalbenchlaw44_TrigautoValid.j0 k (decide ((bt318.1.length : Int) > 32)) l1_0 l1_1 bt318.1)) else (signalbenchlaw44_TrigautoValid.j0 k true l1_0 l1_1 bt318.1))) else ((trig_Check.f k a0_0 l0_1 l1_0 l1_1).bind fun t323 => (if bt318.2 = t323 then ((signalbenchlaw44_awake.f).bind fun t324 => (some t324)) else (some false))))) = some r := h
 clear h
 replace H := Option.bind_eq_some_iff.mp H
 obtain ⟨⟨t318, t321⟩, A30, H⟩ := H
 replace H : (if t321 = 0 then ((trigauto_Check.f k t318).bind fun t325 => (if t325 = 0 then (if (t318.length : Int) < 1 then (signalbenchlaw44_TrigautoValid.j0 k true l1_0 l1_1 t318) else (signalbenchlaw44_TrigautoValid.j0 k (decide ((t318.length : Int) > 32)) l1_0 l1_1 t318)) else (signalbenchlaw44_TrigautoValid.j0 k true l1_0 l1_1 t318))) else ((trig_Check.f k a0_0 l0_1 l1_0 l1_1).bind fun t323 => (if t321 = t323 then ((signalbenchlaw44_awake.f).bind fun t324 => (some t324)) else (some false)))) = some r := H
 have A3 := Aside0.mk A30
 clear A30
 by_cases c4 : t321 = 0
 ·
  rw [if_pos c4] at H
  have c4b0 : (t321 == 0) = true := beq_iff_eq.mpr c4
  have c4b1 : (t321 != 0) = false := bne_eq_false_iff_eq.mpr c4
  clear c4
  have HC5 := Aside0.mk H
  clear H
  go_enter Try.func6, Try.ntmps6
  go_upto_region 4 with (first | ((with_reducible refine gate_dst (N := 2) rfl ?_); refine box_event ?hg (N := 2) ?hd (cs := #[.string a0_0, .slice A0_1 l0_1.length c0_1]) (t := 24) ?hr ?_; (case hd => rfl); (case hg => rfl); (case hr => first | (go_simp; done) | (go_simp; rfl)); intro gb316 hg w6 hbox hb; have n0_ := Aside0.mk (below_step (bs HB.out) hb); have n1_ := Aside0.mk (hbox); have n2_ := Aside0.mk ((by rw [hg]; exact (below_size (bs HB.out)) : w.heap.size ≤ gb316)); have n3_ := n2_; clear HB; have HB := n0_; have BK316 := n1_; have GW316 := n2_; have GE316 := n3_; clear n0_ n1_ n2_ n3_; clear hb hbox hg) | ((with_reducible refine gate_dst (N := 3) rfl ?_); refine box_event ?hg (N := 3) ?hd (cs := #[.slice A1_0 l1_0.length c1_0, .slice A1_1 l1_1.length c1_1]) (t := 28) ?hr ?_; (case hd => rfl); (case hg => rfl); (case hr => first | (go_simp; done) | (go_simp; rfl)); intro gb317 hg w7 hbox hb; have n0_ := Aside0.mk (blk_below (bg BK316.out) hb); have n1_ := Aside0.mk (below_step (bs HB.out) hb); have n2_ := Aside0.mk (hbox); have n3_ := Aside0.mk ((by rw [hg]; exact (below_size (bs HB.out)) : w.heap.size ≤ gb317)); have n4_ := n3_; have n5_ := Aside0.mk ((by rw [hg]; exact Nat.ne_of_lt (blk_lt (bg BK316.out)) : gb316 ≠ gb317)); have n6_ := Aside0.mk ((by rw [hg]; exact Nat.ne_of_gt (blk_lt (bg BK316.out)) : gb317 ≠ gb316)); clear BK316; clear HB; have BK316 := n0_; have HB := n1_; have BK317 := n2_; have GW317 := n3_; have GE317 := n4_; have NB316_317 := n5_; have NB317_316 := n6_; clear n0_ n1_ n2_ n3_ n4_ n5_ n6_; clear hb hbox hg; have hnb8 := NB316_317.out; have hnc8 := NB317_316.out; obtain ⟨hcz9_0, hcz9_1⟩ := bc2 BK316.out; obtain ⟨hfz9_0, hfz9_1⟩ := bf2 BK316.out; obtain ⟨hcz10_0, hcz10_1⟩ := bc2 BK317.out; obtain ⟨hfz10_0, hfz10_1⟩ := bf2 BK317.out) | ((with_reducible refine gate_callee (f := 16) rfl ?_); refine goesL_ (some 12) rfl rfl Try.func16 (by kernel_rfl) rfl #[.agg #[.string a0_0, .slice A0_1 l0_1.length c0_1], .agg #[.slice A1_0 l1_0.length c1_0, .slice A1_1 l1_1.length c1_1]] rfl (by (try simp only [List.map_toArray, List.map_cons, List.map_nil]); first | done | rfl | (simp only [List.length_drop, List.length_take]; rfl)) ?_; (with_reducible refine (trigauto_Compile.calls k a0_0 _ _ l0_1 _ _ l1_0 _ _ l1_1 t318 t321 _ ?side1 ?side2 ?side3 ?side4 ?side5 ?side6 A3.out).mono ?_); (case side1 => repeat (first | exact (Kd.C_below HR0_1.out HB.out) | (with_reducible refine Kd.C_alloc ?_ _) | (with_reducible refine Kd.C_drewN ?_ _) | (with_reducible refine Kd.C_drew ?_))); (case side2 => exact HC0_1.out); (case side3 => repeat (first | exact (Kd.C_below HR1_0.out HB.out) | (with_reducible refine Kd.C_alloc ?_ _) | (with_reducible refine Kd.C_drewN ?_ _) | (with_reducible refine Kd.C_drew ?_))); (case side4 => exact HC1_0.out); (case side5 => repeat (first | exact (Kd.C_below HR1_1.out HB.out) | (with_reducible refine Kd.C_alloc ?_ _) | (with_reducible refine Kd.C_drewN ?_ _) | (with_reducible refine Kd.C_drew ?_))); (case side6 => exact HC1_1.out); rintro e w11 ⟨v319, rfl, ho0, hb⟩; refine ⟨_, rfl, ?_⟩; have n0_ := Aside0.mk (Kd.R_lower ho0 (below_size (bs HB.out))); have n1_ := Aside0.mk (blk_below (bg BK316.out) hb); have n2_ := Aside0.mk (blk_below (bg BK317.out) hb); have n3_ := Aside0.mk (below_step (bs HB.out) hb); clear BK316; clear BK317; clear HB; have HO320 := n0_; have BK316 := n1_; have BK317 := n2_; have HB := n3_; clear n0_ n1_ n2_ n3_; (try clear hb); (try clear hb2); (try clear hk); (try clear hi); (try clear ho0)) | ((with_reducible refine gate_dst (N := 5) rfl ?_); refine box_event ?hg (N := 5) ?hd (cs := #[.slice none 0 0]) (t := 31) ?hr ?_; (case hd => rfl); (case hg => rfl); (case hr => first | (go_simp; done) | (go_simp; rfl)); intro gb322 hg w12 hbox hb; have n0_ := Aside0.mk (Kd.R_below (by (with_reducible repeat (first | apply Kd.R_alloc | apply Kd.R_drewN | apply Kd.R_drew)); exact HO320.out) hb); have n1_ := Aside0.mk (blk_below (bg BK316.out) hb); have n2_ := Aside0.mk (blk_below (bg BK317.out) hb); have n3_ := Aside0.mk (below_step (bs HB.out) hb); have n4_ := Aside0.mk (hbox); have n5_ := Aside0.mk ((by rw [hg]; exact (below_size (bs HB.out)) : w.heap.size ≤ gb322)); have n6_ := n5_; have n7_ := Aside0.mk ((by rw [hg]; exact Nat.ne_of_lt (blk_lt (bg BK316.out)) : gb316 ≠ gb322)); have n8_ := Aside0.mk ((by rw [hg]; exact Nat.ne_of_gt (blk_lt (bg BK316.out)) : gb322 ≠ gb316)); have n9_ := Aside0.mk ((by rw [hg]; exact Nat.ne_of_lt (blk_lt (bg BK317.out)) : gb317 ≠ gb322)); have n10_ := Aside0.mk ((by rw [hg]; exact Nat.ne_of_gt (blk_lt (bg BK317.out)) : gb322 ≠ gb317)); clear HO320; clear BK316; clear BK317; clear HB; have HO320 := n0_; have BK316 := n1_; have BK317 := n2_; have HB := n3_; have BK322 := n4_; have GW322 := n5_; have GE322 := n6_; have NB316_322 := n7_; have NB322_316 := n8_; have NB317_322 := n9_; have NB322_317 := n10_; clear n0_ n1_ n2_ n3_ n4_ n5_ n6_ n7_ n8_ n9_ n10_; clear hb hbox hg; obtain ⟨Ao13, co13, eo13⟩ := Kd.R_slice HO320.out; subst eo13; have hnb14 := NB322_316.out; have hnc14 := NB316_322.out; have hnb15 := NB322_317.out; have hnc15 := NB317_322.out; have hcz16_0 : w12.cell? ⟨gb322, 0, none⟩ = some (.slice none 0 0) := (blk_cell BK322.out 0).trans rfl; have hfz16_0 := blk_frozen BK322.out 0))
  (try simp only [Act.put, List.setIfInBounds_toArray, List.set_cons_zero, List.set_cons_succ])
  go_cut [39] (fun v39 wc => ∃ (kq : Nat) (x39_4 : Bool), v39 = .bool x39_4 ∧ Aside0 (signalbenchlaw44_TrigautoValid.j0 kq x39_4 l1_0 l1_1 t318 = some r) ∧ Aside0 (kq ≤ k) ∧ Aside0 (Kd.R k50 50 wc w.heap.size (fun _ => True) (.slice Ao13 t318.length co13) t318) ∧ Aside0 (wc.heap[gb316]? = some (.cells #[.string a0_0, (.slice A0_1 l0_1.length c0_1)] 24 (0, 0))) ∧ Aside0 (wc.heap[gb317]? = some (.cells #[(.slice A1_0 l1_0.length c1_0), (.slice A1_1 l1_1.length c1_1)] 28 (0, 0))) ∧ Aside0 (wc.heap[gb322]? = some (.cells #[(.slice Ao13 t318.length co13)] 31 (0, 0))) ∧ Aside0 (Below w.heap.size w wc))
  case first =>
   have H := HC5.out
   clear HC5
   replace H := Option.bind_eq_some_iff.mp H
   obtain ⟨t325, A170, H⟩ := H
   replace H : (if t325 = 0 then (if (t318.length : Int) < 1 then (signalbenchlaw44_TrigautoValid.j0 k true l1_0 l1_1 t318) else (signalbenchlaw44_TrigautoValid.j0 k (decide ((t318.length : Int) > 32)) l1_0 l1_1 t318)) else (signalbenchlaw44_TrigautoValid.j0 k true l1_0 l1_1 t318)) = some r := H
   have A17 := Aside0.mk A170
   clear A170
   by_cases c18 : t325 = 0
   ·
    rw [if_pos c18] at H
    have c18b0 : (t325 == 0) = true := beq_iff_eq.mpr c18
    have c18b1 : (t325 != 0) = false := bne_eq_false_iff_eq.mpr c18
    clear c18
    (first | rw [c18b0] | (simp only [i64_w, i32_w]; rw [c18b0]) | skip)
    by_cases c19 : (t318.length : Int) < 1
    ·
     rw [if_pos c19] at H
     have c19b0 : decide ((t318.length : Int) < 1) = true := decide_eq_true c19
     have c19b1 : decide (t318.length < 1) = true := decide_eq_true (by omega)
     clear c19
     have H' := Aside0.mk H
     clear H
     have hnb20 := NB322_316.out
     have hnc20 := NB316_322.out
     have hnb21 := NB322_317.out
     have hnc21 := NB317_322.out
     have hcz22_0 : w12.cell? ⟨gb322, 0, none⟩ = some (.slice none 0 0) := (blk_cell BK322.out 0).trans rfl
     have hfz22_0 := blk_frozen BK322.out 0
     go_wp2_with (first | ((with_reducible refine gate_callee (f := 20) rfl ?_); refine goesL_ (some 26) rfl rfl Try.func20 (by kernel_rfl) rfl #[.agg #[.slice Ao13 t318.length co13]] rfl (by (try simp only [List.map_toArray, List.map_cons, List.map_nil]); first | done | rfl | (simp only [List.length_drop, List.length_take]; rfl)) ?_; (with_reducible refine (trigauto_Check.calls k _ _ t318 t325 _ ?side1 ?side2 A17.out).mono ?_); (case side1 => refine (Kd.R_reads' (e := 50) (base := w.heap.size) (ok := fun k_ => True) (n := t318.length) (c := co13) ?_).2.2; exact (by (with_reducible repeat (first | apply Kd.R_alloc | apply Kd.R_drewN | apply Kd.R_drew)); exact (Kd.R_mono (Kd.R_far (p := ⟨gb322, 0, none⟩) (Kd.R_types HO320.out BK322.out (by decide)) (fun _ hk => hk.2) (.slice Ao13 t318.length co13)) (fun _ h_ => h_.1)))); (case side2 => exact (Kd.R_reads' HO320.out).2.1); rintro e w23 ⟨rfl, hb⟩; refine ⟨_, rfl, ?_⟩; have n0_ := Aside0.mk (Kd.R_below (by (with_reducible repeat (first | apply Kd.R_alloc | apply Kd.R_drewN | apply Kd.R_drew)); exact (Kd.R_mono (Kd.R_far (p := ⟨gb322, 0, none⟩) (Kd.R_types HO320.out BK322.out (by decide)) (fun _ hk => hk.2) (.slice Ao13 t318.length co13)) (fun _ h_ => h_.1))) hb); have n1_ := Aside0.mk (blk_below (g := gb316) (o := .cells #[.string a0_0, .slice A0_1 l0_1.length c0_1] 24 (0, 0)) (by (with_reducible repeat (first | refine blk_drewN ?_ _ | refine blk_drew ?_ | refine blk_alloc ?_ _)); refine blk_far ?_ NB316_322.out _; exact bg BK316.out) hb); have n2_ := Aside0.mk (blk_below (g := gb317) (o := .cells #[.slice A1_0 l1_0.length c1_0, .slice A1_1 l1_1.length c1_1] 28 (0, 0)) (by (with_reducible repeat (first | refine blk_drewN ?_ _ | refine blk_drew ?_ | refine blk_alloc ?_ _)); refine blk_far ?_ NB317_322.out _; exact bg BK317.out) hb); have n3_ := Aside0.mk (blk_below (g := gb322) (o := .cells #[.slice Ao13 t318.length co13] 31 (0, 0)) (by (with_reducible repeat (first | refine blk_drewN ?_ _ | refine blk_drew ?_ | refine blk_alloc ?_ _)); refine blk_put (cs := #[.slice none 0 0]) ?_ 0 _ rfl; exact bg BK322.out) hb); have n4_ := Aside0.mk (below_step (bs HB.out) hb); clear HO320; clear BK316; clear BK317; clear BK322; clear HB; have HO320 := n0_; have BK316 := n1_; have BK317 := n2_; have BK322 := n3_; have HB := n4_; clear n0_ n1_ n2_ n3_ n4_; (try clear hb); (try clear hb2); (try clear hk); (try clear hi); have hcz24_0 : w23.cell? ⟨gb322, 0, none⟩ = some (.slice Ao13 t318.length co13) := (blk_cell BK322.out 0).trans rfl; have hfz24_0 := blk_frozen BK322.out 0))
     go_meet
     case rel => exact ⟨_, (true), (by first | rfl | (simp; done) | (simp [*]; done)), H', ⟨by first | omega | exact Nat.le_refl _⟩, ⟨by (with_reducible repeat (first | apply Kd.R_alloc | apply Kd.R_drewN | apply Kd.R_drew)); exact HO320.out⟩, ⟨bg BK316.out⟩, ⟨bg BK317.out⟩, ⟨bg BK322.out⟩, ⟨bs HB.out⟩⟩
    ·
     rw [if_neg c19] at H
     have c19b0 : decide ((t318.length : Int) < 1) = false := decide_eq_false c19
     have c19b1 : decide (t318.length < 1) = false := decide_eq_false (by omega)
     clear c19
     have H' := Aside0.mk H
     clear H
     have hnb25 := NB322_316.out
     have hnc25 := NB316_322.out
     have hnb26 := NB322_317.out
     have hnc26 := NB317_322.out
     have hcz27_0 : w12.cell? ⟨gb322, 0, none⟩ = some (.slice none 0 0) := (blk_cell BK322.out 0).trans rfl
     have hfz27_0 := blk_frozen BK322.out 0
     go_wp2_with (first | ((with_reducible refine gate_callee (f := 20) rfl ?_); refine goesL_ (some 26) rfl rfl Try.func20 (by kernel_rfl) rfl #[.agg #[.slice Ao13 t318.length co13]] rfl (by (try simp only [List.map_toArray, List.map_cons, List.map_nil]); first | done | rfl | (simp only [List.length_drop, List.length_take]; rfl)) ?_; (with_reducible refine (trigauto_Check.calls k _ _ t318 t325 _ ?side1 ?side2 A17.out).mono ?_); (case side1 => refine (Kd.R_reads' (e := 50) (base := w.heap.size) (ok := fun k_ => True) (n := t318.length) (c := co13) ?_).2.2; exact (by (with_reducible repeat (first | apply Kd.R_alloc | apply Kd.R_drewN | apply Kd.R_drew)); exact (Kd.R_mono (Kd.R_far (p := ⟨gb322, 0, none⟩) (Kd.R_types HO320.out BK322.out (by decide)) (fun _ hk => hk.2) (.slice Ao13 t318.length co13)) (fun _ h_ => h_.1)))); (case side2 => exact (Kd.R_reads' HO320.out).2.1); rintro e w28 ⟨rfl, hb⟩; refine ⟨_, rfl, ?_⟩; have n0_ := Aside0.mk (Kd.R_below (by (with_reducible repeat (first | apply Kd.R_alloc | apply Kd.R_drewN | apply Kd.R_drew)); exact (Kd.R_mono (Kd.R_far (p := ⟨gb322, 0, none⟩) (Kd.R_types HO320.out BK322.out (by decide)) (fun _ hk => hk.2) (.slice Ao13 t318.length co13)) (fun _ h_ => h_.1))) hb); have n1_ := Aside0.mk (blk_below (g := gb316) (o := .cells #[.string a0_0, .slice A0_1 l0_1.length c0_1] 24 (0, 0)) (by (with_reducible repeat (first | refine blk_drewN ?_ _ | refine blk_drew ?_ | refine blk_alloc ?_ _)); refine blk_far ?_ NB316_322.out _; exact bg BK316.out) hb); have n2_ := Aside0.mk (blk_below (g := gb317) (o := .cells #[.slice A1_0 l1_0.length c1_0, .slice A1_1 l1_1.length c1_1] 28 (0, 0)) (by (with_reducible repeat (first | refine blk_drewN ?_ _ | refine blk_drew ?_ | refine blk_alloc ?_ _)); refine blk_far ?_ NB317_322.out _; exact bg BK317.out) hb); have n3_ := Aside0.mk (blk_below (g := gb322) (o := .cells #[.slice Ao13 t318.length co13] 31 (0, 0)) (by (with_reducible repeat (first | refine blk_drewN ?_ _ | refine blk_drew ?_ | refine blk_alloc ?_ _)); refine blk_put (cs := #[.slice none 0 0]) ?_ 0 _ rfl; exact bg BK322.out) hb); have n4_ := Aside0.mk (below_step (bs HB.out) hb); clear HO320; clear BK316; clear BK317; clear BK322; clear HB; have HO320 := n0_; have BK316 := n1_; have BK317 := n2_; have BK322 := n3_; have HB := n4_; clear n0_ n1_ n2_ n3_ n4_; (try clear hb); (try clear hb2); (try clear hk); (try clear hi); have hcz29_0 : w28.cell? ⟨gb322, 0, none⟩ = some (.slice Ao13 t318.length co13) := (blk_cell BK322.out 0).trans rfl; have hfz29_0 := blk_frozen BK322.out 0))
     go_meet
     case rel => exact ⟨_, (decide ((t318.length : Int) > 32)), (by first | rfl | (simp; done) | (simp [*]; done)), H', ⟨by first | omega | exact Nat.le_refl _⟩, ⟨by (with_reducible repeat (first | apply Kd.R_alloc | apply Kd.R_drewN | apply Kd.R_drew)); exact HO320.out⟩, ⟨bg BK316.out⟩, ⟨bg BK317.out⟩, ⟨bg BK322.out⟩, ⟨bs HB.out⟩⟩
   ·
    rw [if_neg c18] at H
    have c18b0 : (t325 == 0) = false := beq_eq_false_iff_ne.mpr c18
    have c18b1 : (t325 != 0) = true := bne_iff_ne.mpr c18
    (first | rw [c18b0] | (simp only [i64_w, i32_w]; rw [c18b0]) | skip)
    have H' := Aside0.mk H
    clear H
    have hnb30 := NB322_316.out
    have hnc30 := NB316_322.out
    have hnb31 := NB322_317.out
    have hnc31 := NB317_322.out
    have hcz32_0 : w12.cell? ⟨gb322, 0, none⟩ = some (.slice none 0 0) := (blk_cell BK322.out 0).trans rfl
    have hfz32_0 := blk_frozen BK322.out 0
    go_wp2_with (first | ((with_reducible refine gate_callee (f := 20) rfl ?_); refine goesL_ (some 26) rfl rfl Try.func20 (by kernel_rfl) rfl #[.agg #[.slice Ao13 t318.length co13]] rfl (by (try simp only [List.map_toArray, List.map_cons, List.map_nil]); first | done | rfl | (simp only [List.length_drop, List.length_take]; rfl)) ?_; (with_reducible refine (trigauto_Check.calls k _ _ t318 t325 _ ?side1 ?side2 A17.out).mono ?_); (case side1 => refine (Kd.R_reads' (e := 50) (base := w.heap.size) (ok := fun k_ => True) (n := t318.length) (c := co13) ?_).2.2; exact (by (with_reducible repeat (first | apply Kd.R_alloc | apply Kd.R_drewN | apply Kd.R_drew)); exact (Kd.R_mono (Kd.R_far (p := ⟨gb322, 0, none⟩) (Kd.R_types HO320.out BK322.out (by decide)) (fun _ hk => hk.2) (.slice Ao13 t318.length co13)) (fun _ h_ => h_.1)))); (case side2 => exact (Kd.R_reads' HO320.out).2.1); rintro e w33 ⟨rfl, hb⟩; refine ⟨_, rfl, ?_⟩; have n0_ := Aside0.mk (Kd.R_below (by (with_reducible repeat (first | apply Kd.R_alloc | apply Kd.R_drewN | apply Kd.R_drew)); exact (Kd.R_mono (Kd.R_far (p := ⟨gb322, 0, none⟩) (Kd.R_types HO320.out BK322.out (by decide)) (fun _ hk => hk.2) (.slice Ao13 t318.length co13)) (fun _ h_ => h_.1))) hb); have n1_ := Aside0.mk (blk_below (g := gb316) (o := .cells #[.string a0_0, .slice A0_1 l0_1.length c0_1] 24 (0, 0)) (by (with_reducible repeat (first | refine blk_drewN ?_ _ | refine blk_drew ?_ | refine blk_alloc ?_ _)); refine blk_far ?_ NB316_322.out _; exact bg BK316.out) hb); have n2_ := Aside0.mk (blk_below (g := gb317) (o := .cells #[.slice A1_0 l1_0.length c1_0, .slice A1_1 l1_1.length c1_1] 28 (0, 0)) (by (with_reducible repeat (first | refine blk_drewN ?_ _ | refine blk_drew ?_ | refine blk_alloc ?_ _)); refine blk_far ?_ NB317_322.out _; exact bg BK317.out) hb); have n3_ := Aside0.mk (blk_below (g := gb322) (o := .cells #[.slice Ao13 t318.length co13] 31 (0, 0)) (by (with_reducible repeat (first | refine blk_drewN ?_ _ | refine blk_drew ?_ | refine blk_alloc ?_ _)); refine blk_put (cs := #[.slice none 0 0]) ?_ 0 _ rfl; exact bg BK322.out) hb); have n4_ := Aside0.mk (below_step (bs HB.out) hb); clear HO320; clear BK316; clear BK317; clear BK322; clear HB; have HO320 := n0_; have BK316 := n1_; have BK317 := n2_; have BK322 := n3_; have HB := n4_; clear n0_ n1_ n2_ n3_ n4_; (try clear hb); (try clear hb2); (try clear hk); (try clear hi)))
    go_meet
    case rel => exact ⟨_, (true), (by first | rfl | (simp; done) | (simp [*]; done)), H', ⟨by first | omega | exact Nat.le_refl _⟩, ⟨by (with_reducible repeat (first | apply Kd.R_alloc | apply Kd.R_drewN | apply Kd.R_drew)); exact HO320.out⟩, ⟨bg BK316.out⟩, ⟨bg BK317.out⟩, ⟨bg BK322.out⟩, ⟨bs HB.out⟩⟩
  case rest =>
   clear HC5
   try clear c1
   try clear c2
   try clear p2
   try clear c3
   try clear c4
   try clear c4b0
   try clear c4b1
   try clear c6
   try clear c8
   try clear c14
   try clear c15
   try clear c16
   try clear c18
   try clear c18b0
   try clear c18b1
   try clear c19
   try clear c19b0
   try clear c19b1
   try clear c20
   try clear c21
   try clear c25
   try clear c26
   try clear c30
   try clear c31
   try clear hcz10_0 hcz10_1
   try clear hcz16_0
   try clear hcz22_0
   try clear hcz24_0
   try clear hcz27_0
   try clear hcz29_0
   try clear hcz32_0
   try clear hcz9_0 hcz9_1
   try clear hfz10_0 hfz10_1
   try clear hfz16_0
   try clear hfz22_0
   try clear hfz24_0
   try clear hfz27_0
   try clear hfz29_0
   try clear hfz32_0
   try clear hfz9_0 hfz9_1
   obtain ⟨kq, x39_4, rfl, HA, HJ4, HO_323000, BK316, BK317, BK322, HB⟩ := hcut
   cases kq with
   | zero => exact absurd HA.out (by simp [signalbenchlaw44_TrigautoValid.j0])
   | succ kj4 =>
    have H := HA.out
    clear HA
    simp only [signalbenchlaw44_TrigautoValid.j0] at H
    by_cases c34 : x39_4 = true
    ·
     subst c34
     have H1 : (some false) = some r := by rw [if_pos rfl] at H; exact H
     clear H
     have H := H1
     clear H1
     obtain rfl := Option.some.inj H
     go_wp2
     go_ret
     exact ⟨by first | rfl | (simp [errW_none, errW_some] <;> rfl) | (simp [*, errW_none, errW_some] <;> rfl), bs HB.out⟩
    ·
     replace c34 := Bool.eq_false_iff.mpr c34
     subst c34
     have H1 : (signalbenchlaw44_TrigautoValid.l0 kj4 0 l1_0 l1_1 t318) = some r := by rw [if_neg (show ¬ (false = true) by decide)] at H; exact H
     clear H
     have H := H1
     clear H1
     have H' := Aside0.mk H
     clear H
     go_wp2
     go_loopg [7] kj4 (fun kq v7 w' => ∃ (x7_2 : Int), v7 = .int .i64 x7_2 ∧ Aside0 (signalbenchlaw44_TrigautoValid.l0 kq x7_2 l1_0 l1_1 t318 = some r) ∧ Aside0 (kq ≤ kj4) ∧ Aside0 (Kd.R k50 50 w' w.heap.size (fun _ => True) (.slice Ao13 t318.length co13) t318) ∧ Aside0 (w'.heap[gb316]? = some (.cells #[.string a0_0, (.slice A0_1 l0_1.length c0_1)] 24 (0, 0))) ∧ Aside0 (w'.heap[gb317]? = some (.cells #[(.slice A1_0 l1_0.length c1_0), (.slice A1_1 l1_1.length c1_1)] 28 (0, 0))) ∧ Aside0 (w'.heap[gb322]? = some (.cells #[(.slice Ao13 t318.length co13)] 31 (0, 0))) ∧ Aside0 (Below w.heap.size w w'))
     case atStart => exact ⟨(0), (by first | rfl | (simp; done) | (simp [*]; done)), H', ⟨Nat.le_refl _⟩, ⟨by (with_reducible repeat (first | apply Kd.R_alloc | apply Kd.R_drewN | apply Kd.R_drew)); exact HO_323000.out⟩, ⟨bg BK316.out⟩, ⟨bg BK317.out⟩, ⟨bg BK322.out⟩, ⟨bs HB.out⟩⟩
     case round =>
      clear H'
      try clear c1
      try clear c2
      try clear p2
      try clear c3
      try clear c4
      try clear c4b0
      try clear c4b1
      try clear c6
      try clear c8
      try clear c14
      try clear c15
      try clear c16
      try clear c18
      try clear c18b0
      try clear c18b1
      try clear c19
      try clear c19b0
      try clear c19b1
      try clear c20
      try clear c21
      try clear c25
      try clear c26
      try clear c30
      try clear c31
      try clear c34
      try clear hcz10_0 hcz10_1
      try clear hcz16_0
      try clear hcz22_0
      try clear hcz24_0
      try clear hcz27_0
      try clear hcz29_0
      try clear hcz32_0
      try clear hcz9_0 hcz9_1
      try clear hfz10_0 hfz10_1
      try clear hfz16_0
      try clear hfz22_0
      try clear hfz24_0
      try clear hfz27_0
      try clear hfz29_0
      try clear hfz32_0
      try clear hfz9_0 hfz9_1
      try clear p2
      obtain ⟨x7_2, rfl, HA, HK2, HO_323000, BK316, BK317, BK322, HB⟩ := hrel
      cases gk with
      | zero => exact absurd HA.out (by simp [signalbenchlaw44_TrigautoValid.l0])
      | succ k2 =>
       have H := HA.out
       clear HA
       simp only [signalbenchlaw44_TrigautoValid.l0] at H
       by_cases c35 : x7_2 < (t318.length : Int)
       ·
        rw [if_pos c35] at H
        have c35b0 : decide (x7_2 < (t318.length : Int)) = true := decide_eq_true c35
        clear c35
        by_cases c36 : 0 ≤ x7_2
        ·
         rw [if_pos c36] at H
         have c36b0 : decide (0 ≤ x7_2) = true := decide_eq_true c36
         clear c36
         by_cases c37 : ((rd_T50 t318 x7_2).f0.f0) < 0
         ·
          rw [if_pos c37] at H
          have c37b0 : decide (((rd_T50 t318 x7_2).f0.f0) < 0) = true := decide_eq_true c37
          clear c37
          obtain rfl := Option.some.inj H
          have hnb38 := NB322_316.out
          have hnc38 := NB316_322.out
          have hnb39 := NB322_317.out
          have hnc39 := NB317_322.out
          have hcz40_0 : wr.cell? ⟨gb322, 0, none⟩ = some (.slice Ao13 t318.length co13) := (blk_cell BK322.out 0).trans rfl
          have hfz40_0 := blk_frozen BK322.out 0
          have p326 : 0 ≤ (x7_2 : Int) := of_decide_eq_true (by first | (with_reducible assumption) | assumption)
          have q326 : x7_2 < (t318.length : Int) := of_decide_eq_true (by first | (with_reducible assumption) | assumption)
          obtain ⟨ad326, e326, hx326_0, hx326_1, hx326_2, hx326_3, hx326_4, hx326_5, hx326_6, hx326_7, hx326_8, hx326_9, hx326_10, hx326_11⟩ := at_T50 (Kd.R_reads' HO_323000.out).2.2 x7_2 p326 q326
          cases e326
          replace p326 := eq_true p326
          replace q326 := eq_true q326
          go_wp2_with (first | ((with_reducible refine gate_dst (N := 8) rfl ?_); refine box_event ?hg (N := 8) ?hd (cs := #[.int .i64 0, .int .i64 0, .int .i64 0, .int .i64 0, .int .i64 0]) (t := 42) ?hr ?_; (case hd => rfl); (case hg => rfl); (case hr => first | (go_simp; done) | (go_simp; rfl)); intro gb327 hg w41 hbox hb; have n0_ := Aside0.mk (Kd.R_below (by (with_reducible repeat (first | apply Kd.R_alloc | apply Kd.R_drewN | apply Kd.R_drew)); exact HO_323000.out) hb); have n1_ := Aside0.mk (blk_below (bg BK316.out) hb); have n2_ := Aside0.mk (blk_below (bg BK317.out) hb); have n3_ := Aside0.mk (blk_below (bg BK322.out) hb); have n4_ := Aside0.mk (below_step (bs HB.out) hb); have n5_ := Aside0.mk (hbox); have n6_ := Aside0.mk ((by rw [hg]; exact (below_size (bs HB.out)) : w.heap.size ≤ gb327)); have n7_ := n6_; have n8_ := Aside0.mk ((by rw [hg]; exact Nat.ne_of_lt (blk_lt (bg BK316.out)) : gb316 ≠ gb327)); have n9_ := Aside0.mk ((by rw [hg]; exact Nat.ne_of_gt (blk_lt (bg BK316.out)) : gb327 ≠ gb316)); have n10_ := Aside0.mk ((by rw [hg]; exact Nat.ne_of_lt (blk_lt (bg BK317.out)) : gb317 ≠ gb327)); have n11_ := Aside0.mk ((by rw [hg]; exact Nat.ne_of_gt (blk_lt (bg BK317.out)) : gb327 ≠ gb317)); have n12_ := Aside0.mk ((by rw [hg]; exact Nat.ne_of_lt (blk_lt (bg BK322.out)) : gb322 ≠ gb327)); have n13_ := Aside0.mk ((by rw [hg]; exact Nat.ne_of_gt (blk_lt (bg BK322.out)) : gb327 ≠ gb322)); clear HO_323000; clear BK316; clear BK317; clear BK322; clear HB; have HO_323000 := n0_; have BK316 := n1_; have BK317 := n2_; have BK322 := n3_; have HB := n4_; have BK327 := n5_; have GW327 := n6_; have GE327 := n7_; have NB316_327 := n8_; have NB327_316 := n9_; have NB317_327 := n10_; have NB327_317 := n11_; have NB322_327 := n12_; have NB327_322 := n13_; clear n0_ n1_ n2_ n3_ n4_ n5_ n6_ n7_ n8_ n9_ n10_ n11_ n12_ n13_; clear hb hbox hg; have hnb42 := NB327_316.out; have hnc42 := NB316_327.out; have hnb43 := NB327_317.out; have hnc43 := NB317_327.out; have hnb44 := NB327_322.out; have hnc44 := NB322_327.out; obtain ⟨hcz45_0, hcz45_1, hcz45_2, hcz45_3, hcz45_4⟩ := bc5 BK327.out; obtain ⟨hfz45_0, hfz45_1, hfz45_2, hfz45_3, hfz45_4⟩ := bf5 BK327.out))
          go_ret
          exact ⟨by first | rfl | (simp [errW_none, errW_some] <;> rfl) | (simp [*, errW_none, errW_some] <;> rfl), bs HB.out⟩
         ·
          rw [if_neg c37] at H
          have c37b0 : decide (((rd_T50 t318 x7_2).f0.f0) < 0) = false := decide_eq_false c37
          clear c37
          by_cases c46 : ((rd_T50 t318 x7_2).f0.f0) ≥ (l1_1.length : Int)
          ·
           rw [if_pos c46] at H
           have c46b0 : decide ((l1_1.length : Int) ≤ ((rd_T50 t318 x7_2).f0.f0)) = true := decide_eq_true c46
           clear c46
           obtain rfl := Option.some.inj H
           have hnb47 := NB322_316.out
           have hnc47 := NB316_322.out
           have hnb48 := NB322_317.out
           have hnc48 := NB317_322.out
           have hcz49_0 : wr.cell? ⟨gb322, 0, none⟩ = some (.slice Ao13 t318.length co13) := (blk_cell BK322.out 0).trans rfl
           have hfz49_0 := blk_frozen BK322.out 0
           have p326 : 0 ≤ (x7_2 : Int) := of_decide_eq_true (by first | (with_reducible assumption) | assumption)
           have q326 : x7_2 < (t318.length : Int) := of_decide_eq_true (by first | (with_reducible assumption) | assumption)
           obtain ⟨ad326, e326, hx326_0, hx326_1, hx326_2, hx326_3, hx326_4, hx326_5, hx326_6, hx326_7, hx326_8, hx326_9, hx326_10, hx326_11⟩ := at_T50 (Kd.R_reads' HO_323000.out).2.2 x7_2 p326 q326
           cases e326
           replace p326 := eq_true p326
           replace q326 := eq_true q326
           go_wp2_with (first | ((with_reducible refine gate_dst (N := 8) rfl ?_); refine box_event ?hg (N := 8) ?hd (cs := #[.int .i64 0, .int .i64 0, .int .i64 0, .int .i64 0, .int .i64 0]) (t := 42) ?hr ?_; (case hd => rfl); (case hg => rfl); (case hr => first | (go_simp; done) | (go_simp; rfl)); intro gb327 hg w50 hbox hb; have n0_ := Aside0.mk (Kd.R_below (by (with_reducible repeat (first | apply Kd.R_alloc | apply Kd.R_drewN | apply Kd.R_drew)); exact HO_323000.out) hb); have n1_ := Aside0.mk (blk_below (bg BK316.out) hb); have n2_ := Aside0.mk (blk_below (bg BK317.out) hb); have n3_ := Aside0.mk (blk_below (bg BK322.out) hb); have n4_ := Aside0.mk (below_step (bs HB.out) hb); have n5_ := Aside0.mk (hbox); have n6_ := Aside0.mk ((by rw [hg]; exact (below_size (bs HB.out)) : w.heap.size ≤ gb327)); have n7_ := n6_; have n8_ := Aside0.mk ((by rw [hg]; exact Nat.ne_of_lt (blk_lt (bg BK316.out)) : gb316 ≠ gb327)); have n9_ := Aside0.mk ((by rw [hg]; exact Nat.ne_of_gt (blk_lt (bg BK316.out)) : gb327 ≠ gb316)); have n10_ := Aside0.mk ((by rw [hg]; exact Nat.ne_of_lt (blk_lt (bg BK317.out)) : gb317 ≠ gb327)); have n11_ := Aside0.mk ((by rw [hg]; exact Nat.ne_of_gt (blk_lt (bg BK317.out)) : gb327 ≠ gb317)); have n12_ := Aside0.mk ((by rw [hg]; exact Nat.ne_of_lt (blk_lt (bg BK322.out)) : gb322 ≠ gb327)); have n13_ := Aside0.mk ((by rw [hg]; exact Nat.ne_of_gt (blk_lt (bg BK322.out)) : gb327 ≠ gb322)); clear HO_323000; clear BK316; clear BK317; clear BK322; clear HB; have HO_323000 := n0_; have BK316 := n1_; have BK317 := n2_; have BK322 := n3_; have HB := n4_; have BK327 := n5_; have GW327 := n6_; have GE327 := n7_; have NB316_327 := n8_; have NB327_316 := n9_; have NB317_327 := n10_; have NB327_317 := n11_; have NB322_327 := n12_; have NB327_322 := n13_; clear n0_ n1_ n2_ n3_ n4_ n5_ n6_ n7_ n8_ n9_ n10_ n11_ n12_ n13_; clear hb hbox hg; have hnb51 := NB327_316.out; have hnc51 := NB316_327.out; have hnb52 := NB327_317.out; have hnc52 := NB317_327.out; have hnb53 := NB327_322.out; have hnc53 := NB322_327.out; obtain ⟨hcz54_0, hcz54_1, hcz54_2, hcz54_3, hcz54_4⟩ := bc5 BK327.out; obtain ⟨hfz54_0, hfz54_1, hfz54_2, hfz54_3, hfz54_4⟩ := bf5 BK327.out; have hnb55 := NB317_316.out; have hnc55 := NB316_317.out; obtain ⟨hcz56_0, hcz56_1⟩ := bc2 BK317.out; obtain ⟨hfz56_0, hfz56_1⟩ := bf2 BK317.out))
           go_ret
           exact ⟨by first | rfl | (simp [errW_none, errW_some] <;> rfl) | (simp [*, errW_none, errW_some] <;> rfl), bs HB.out⟩
          ·
           rw [if_neg c46] at H
           have c46b0 : decide ((l1_1.length : Int) ≤ ((rd_T50 t318 x7_2).f0.f0)) = false := decide_eq_false c46
           clear c46
           have H' := Aside0.mk H
           clear H
           have hnb57 := NB322_316.out
           have hnc57 := NB316_322.out
           have hnb58 := NB322_317.out
           have hnc58 := NB317_322.out
           have hcz59_0 : wr.cell? ⟨gb322, 0, none⟩ = some (.slice Ao13 t318.length co13) := (blk_cell BK322.out 0).trans rfl
           have hfz59_0 := blk_frozen BK322.out 0
           have p326 : 0 ≤ (x7_2 : Int) := of_decide_eq_true (by first | (with_reducible assumption) | assumption)
           have q326 : x7_2 < (t318.length : Int) := of_decide_eq_true (by first | (with_reducible assumption) | assumption)
           obtain ⟨ad326, e326, hx326_0, hx326_1, hx326_2, hx326_3, hx326_4, hx326_5, hx326_6, hx326_7, hx326_8, hx326_9, hx326_10, hx326_11⟩ := at_T50 (Kd.R_reads' HO_323000.out).2.2 x7_2 p326 q326
           cases e326
           replace p326 := eq_true p326
           replace q326 := eq_true q326
           go_wp2_with (first | ((with_reducible refine gate_dst (N := 8) rfl ?_); refine box_event ?hg (N := 8) ?hd (cs := #[.int .i64 0, .int .i64 0, .int .i64 0, .int .i64 0, .int .i64 0]) (t := 42) ?hr ?_; (case hd => rfl); (case hg => rfl); (case hr => first | (go_simp; done) | (go_simp; rfl)); intro gb327 hg w60 hbox hb; have n0_ := Aside0.mk (Kd.R_below (by (with_reducible repeat (first | apply Kd.R_alloc | apply Kd.R_drewN | apply Kd.R_drew)); exact HO_323000.out) hb); have n1_ := Aside0.mk (blk_below (bg BK316.out) hb); have n2_ := Aside0.mk (blk_below (bg BK317.out) hb); have n3_ := Aside0.mk (blk_below (bg BK322.out) hb); have n4_ := Aside0.mk (below_step (bs HB.out) hb); have n5_ := Aside0.mk (hbox); have n6_ := Aside0.mk ((by rw [hg]; exact (below_size (bs HB.out)) : w.heap.size ≤ gb327)); have n7_ := n6_; have n8_ := Aside0.mk ((by rw [hg]; exact Nat.ne_of_lt (blk_lt (bg BK316.out)) : gb316 ≠ gb327)); have n9_ := Aside0.mk ((by rw [hg]; exact Nat.ne_of_gt (blk_lt (bg BK316.out)) : gb327 ≠ gb316)); have n10_ := Aside0.mk ((by rw [hg]; exact Nat.ne_of_lt (blk_lt (bg BK317.out)) : gb317 ≠ gb327)); have n11_ := Aside0.mk ((by rw [hg]; exact Nat.ne_of_gt (blk_lt (bg BK317.out)) : gb327 ≠ gb317)); have n12_ := Aside0.mk ((by rw [hg]; exact Nat.ne_of_lt (blk_lt (bg BK322.out)) : gb322 ≠ gb327)); have n13_ := Aside0.mk ((by rw [hg]; exact Nat.ne_of_gt (blk_lt (bg BK322.out)) : gb327 ≠ gb322)); clear HO_323000; clear BK316; clear BK317; clear BK322; clear HB; have HO_323000 := n0_; have BK316 := n1_; have BK317 := n2_; have BK322 := n3_; have HB := n4_; have BK327 := n5_; have GW327 := n6_; have GE327 := n7_; have NB316_327 := n8_; have NB327_316 := n9_; have NB317_327 := n10_; have NB327_317 := n11_; have NB322_327 := n12_; have NB327_322 := n13_; clear n0_ n1_ n2_ n3_ n4_ n5_ n6_ n7_ n8_ n9_ n10_ n11_ n12_ n13_; clear hb hbox hg; have hnb61 := NB327_316.out; have hnc61 := NB316_327.out; have hnb62 := NB327_317.out; have hnc62 := NB317_327.out; have hnb63 := NB327_322.out; have hnc63 := NB322_327.out; obtain ⟨hcz64_0, hcz64_1, hcz64_2, hcz64_3, hcz64_4⟩ := bc5 BK327.out; obtain ⟨hfz64_0, hfz64_1, hfz64_2, hfz64_3, hfz64_4⟩ := bf5 BK327.out; have hnb65 := NB317_316.out; have hnc65 := NB316_317.out; obtain ⟨hcz66_0, hcz66_1⟩ := bc2 BK317.out; obtain ⟨hfz66_0, hfz66_1⟩ := bf2 BK317.out))
           go_roundg k2
           case measure => have := HJ4.out; have := HK2.out; omega
           case rel => exact ⟨(wrap64 (x7_2 + 1)), (by first | rfl | (simp; done) | (simp [*]; done)), H', ⟨by have := HJ4.out; have := HK2.out; omega⟩, ⟨by (with_reducible repeat (first | apply Kd.R_alloc | apply Kd.R_drewN | apply Kd.R_drew)); exact Kd.R_mono (Kd.R_far (p := ⟨gb327, 4, none⟩) (Kd.R_far (p := ⟨gb327, 3, none⟩) (Kd.R_far (p := ⟨gb327, 2, none⟩) (Kd.R_far (p := ⟨gb327, 1, none⟩) (Kd.R_far (p := ⟨gb327, 0, none⟩) (Kd.R_types HO_323000.out BK327.out (by decide)) (fun _ hk => hk.2) (.int .i64 ((rd_T50 t318 x7_2).f0.f0))) (fun _ hk => hk.2) (.int .i64 ((rd_T50 t318 x7_2).f0.f1))) (fun _ hk => hk.2) (.int .i64 ((rd_T50 t318 x7_2).f0.f2))) (fun _ hk => hk.2) (.int .i64 ((rd_T50 t318 x7_2).f0.f3))) (fun _ hk => hk.2) (.int .i64 ((rd_T50 t318 x7_2).f0.f4))) (fun _ hk => trivial)⟩, ⟨by (iterate 5 (with_reducible repeat (first | refine blk_drewN ?_ _ | refine blk_drew ?_ | refine blk_alloc ?_ _)); refine blk_far ?_ NB316_327.out _); exact bg BK316.out⟩, ⟨by (iterate 5 (with_reducible repeat (first | refine blk_drewN ?_ _ | refine blk_drew ?_ | refine blk_alloc ?_ _)); refine blk_far ?_ NB317_327.out _); exact bg BK317.out⟩, ⟨by (iterate 5 (with_reducible repeat (first | refine blk_drewN ?_ _ | refine blk_drew ?_ | refine blk_alloc ?_ _)); refine blk_far ?_ NB322_327.out _); exact bg BK322.out⟩, ⟨bs HB.out⟩⟩
        ·
         rw [if_neg c36] at H
         exact absurd H (by simp)
       ·
        rw [if_neg c35] at H
        have c35b0 : decide (x7_2 < (t318.length : Int)) = false := decide_eq_false c35
        clear c35
        by_cases c67 : 0 < (t318.length : Int)
        ·
         rw [if_pos c67] at H
         have c67b0 : decide (0 < (t318.length : Int)) = true := decide_eq_true c67
         have c67b1 : decide (0 < t318.length) = true := decide_eq_true (by omega)
         clear c67
         by_cases c68 : ((rd_T50 t318 0).f1) = 0
         ·
          rw [if_pos c68] at H
          have c68b0 : (((rd_T50 t318 0).f1) == 0) = true := beq_iff_eq.mpr c68
          have c68b1 : (((rd_T50 t318 0).f1) != 0) = false := bne_eq_false_iff_eq.mpr c68
          clear c68
          obtain ⟨bq69, hbq69⟩ : ∃ b_ : Bool, b_ = ((rd_T50 t318 0).f2) := ⟨_, rfl⟩
          replace H : (if (bq69 = true) then (some false) else ((signalbenchlaw44_awake.f).bind fun t330 => (some t330))) = some r := by rw [← hbq69] at H; exact H
          have Nbq69 := Aside0.mk hbq69
          clear hbq69
          by_cases c70 : (bq69 = true)
          ·
           subst c70
           have H1 : (some false) = some r := by rw [if_pos rfl] at H; exact H
           clear H
           have H := H1
           clear H1
           obtain rfl := Option.some.inj H
           have hnb71 := NB322_316.out
           have hnc71 := NB316_322.out
           have hnb72 := NB322_317.out
           have hnc72 := NB317_322.out
           have hcz73_0 : wr.cell? ⟨gb322, 0, none⟩ = some (.slice Ao13 t318.length co13) := (blk_cell BK322.out 0).trans rfl
           have hfz73_0 := blk_frozen BK322.out 0
           have p328 : 0 ≤ (0 : Int) := (by omega)
           have q328 : 0 < (t318.length : Int) := of_decide_eq_true (by first | (with_reducible assumption) | assumption)
           obtain ⟨ad328, e328, hx328_0, hx328_1, hx328_2, hx328_3, hx328_4, hx328_5, hx328_6, hx328_7, hx328_8, hx328_9, hx328_10, hx328_11⟩ := at_T50 (Kd.R_reads' HO_323000.out).2.2 0 p328 q328
           (try rw [← Nbq69.out] at hx328_6)
           cases e328
           have qi328 : (0 < t318.length) = True := eq_true (by omega)
           (try rw [show ((0 : Int)).toNat = 0 from rfl] at hx328_0)
           (try rw [show 0 * 12 = 0 from rfl] at hx328_0)
           (try rw [Addr.add_zero'] at hx328_0)
           (try rw [show ((0 : Int)).toNat = 0 from rfl] at hx328_1)
           (try rw [show 0 * 12 = 0 from rfl] at hx328_1)
           (try rw [Addr.add_zero'] at hx328_1)
           (try rw [show ((0 : Int)).toNat = 0 from rfl] at hx328_2)
           (try rw [show 0 * 12 = 0 from rfl] at hx328_2)
           (try rw [Addr.add_zero'] at hx328_2)
           (try rw [show ((0 : Int)).toNat = 0 from rfl] at hx328_3)
           (try rw [show 0 * 12 = 0 from rfl] at hx328_3)
           (try rw [Addr.add_zero'] at hx328_3)
           (try rw [show ((0 : Int)).toNat = 0 from rfl] at hx328_4)
           (try rw [show 0 * 12 = 0 from rfl] at hx328_4)
           (try rw [Addr.add_zero'] at hx328_4)
           (try rw [show ((0 : Int)).toNat = 0 from rfl] at hx328_5)
           (try rw [show 0 * 12 = 0 from rfl] at hx328_5)
           (try rw [Addr.add_zero'] at hx328_5)
           (try rw [show ((0 : Int)).toNat = 0 from rfl] at hx328_6)
           (try rw [show 0 * 12 = 0 from rfl] at hx328_6)
           (try rw [Addr.add_zero'] at hx328_6)
           (try rw [show ((0 : Int)).toNat = 0 from rfl] at hx328_7)
           (try rw [show 0 * 12 = 0 from rfl] at hx328_7)
           (try rw [Addr.add_zero'] at hx328_7)
           (try rw [show ((0 : Int)).toNat = 0 from rfl] at hx328_8)
           (try rw [show 0 * 12 = 0 from rfl] at hx328_8)
           (try rw [Addr.add_zero'] at hx328_8)
           (try rw [show ((0 : Int)).toNat = 0 from rfl] at hx328_9)
           (try rw [show 0 * 12 = 0 from rfl] at hx328_9)
           (try rw [Addr.add_zero'] at hx328_9)
           (try rw [show ((0 : Int)).toNat = 0 from rfl] at hx328_10)
           (try rw [show 0 * 12 = 0 from rfl] at hx328_10)
           (try rw [Addr.add_zero'] at hx328_10)
           (try rw [show ((0 : Int)).toNat = 0 from rfl] at hx328_11)
           (try rw [show 0 * 12 = 0 from rfl] at hx328_11)
           (try rw [Addr.add_zero'] at hx328_11)
           replace p328 := eq_true p328
           replace q328 := eq_true q328
           have p329 : 0 ≤ (0 : Int) := (by omega)
           have q329 : 0 < (t318.length : Int) := of_decide_eq_true (by first | (with_reducible assumption) | assumption)
           obtain ⟨ad329, e329, hx329_0, hx329_1, hx329_2, hx329_3, hx329_4, hx329_5, hx329_6, hx329_7, hx329_8, hx329_9, hx329_10, hx329_11⟩ := at_T50 (Kd.R_reads' HO_323000.out).2.2 0 p329 q329
           (try rw [← Nbq69.out] at hx329_6)
           obtain rfl : ad328 = ad329 := (by injection e329)
           have qi329 : (0 < t318.length) = True := eq_true (by omega)
           (try rw [show ((0 : Int)).toNat = 0 from rfl] at hx329_0)
           (try rw [show 0 * 12 = 0 from rfl] at hx329_0)
           (try rw [Addr.add_zero'] at hx329_0)
           (try rw [show ((0 : Int)).toNat = 0 from rfl] at hx329_1)
           (try rw [show 0 * 12 = 0 from rfl] at hx329_1)
           (try rw [Addr.add_zero'] at hx329_1)
           (try rw [show ((0 : Int)).toNat = 0 from rfl] at hx329_2)
           (try rw [show 0 * 12 = 0 from rfl] at hx329_2)
           (try rw [Addr.add_zero'] at hx329_2)
           (try rw [show ((0 : Int)).toNat = 0 from rfl] at hx329_3)
           (try rw [show 0 * 12 = 0 from rfl] at hx329_3)
           (try rw [Addr.add_zero'] at hx329_3)
           (try rw [show ((0 : Int)).toNat = 0 from rfl] at hx329_4)
           (try rw [show 0 * 12 = 0 from rfl] at hx329_4)
           (try rw [Addr.add_zero'] at hx329_4)
           (try rw [show ((0 : Int)).toNat = 0 from rfl] at hx329_5)
           (try rw [show 0 * 12 = 0 from rfl] at hx329_5)
           (try rw [Addr.add_zero'] at hx329_5)
           (try rw [show ((0 : Int)).toNat = 0 from rfl] at hx329_6)
           (try rw [show 0 * 12 = 0 from rfl] at hx329_6)
           (try rw [Addr.add_zero'] at hx329_6)
           (try rw [show ((0 : Int)).toNat = 0 from rfl] at hx329_7)
           (try rw [show 0 * 12 = 0 from rfl] at hx329_7)
           (try rw [Addr.add_zero'] at hx329_7)
           (try rw [show ((0 : Int)).toNat = 0 from rfl] at hx329_8)
           (try rw [show 0 * 12 = 0 from rfl] at hx329_8)
           (try rw [Addr.add_zero'] at hx329_8)
           (try rw [show ((0 : Int)).toNat = 0 from rfl] at hx329_9)
           (try rw [show 0 * 12 = 0 from rfl] at hx329_9)
           (try rw [Addr.add_zero'] at hx329_9)
           (try rw [show ((0 : Int)).toNat = 0 from rfl] at hx329_10)
           (try rw [show 0 * 12 = 0 from rfl] at hx329_10)
           (try rw [Addr.add_zero'] at hx329_10)
           (try rw [show ((0 : Int)).toNat = 0 from rfl] at hx329_11)
           (try rw [show 0 * 12 = 0 from rfl] at hx329_11)
           (try rw [Addr.add_zero'] at hx329_11)
           replace p329 := eq_true p329
           replace q329 := eq_true q329
           go_wp2
           go_ret
           exact ⟨by first | rfl | (simp [errW_none, errW_some] <;> rfl) | (simp [*, errW_none, errW_some] <;> rfl), bs HB.out⟩
          ·
           replace c70 := Bool.eq_false_iff.mpr c70
           subst c70
           have H1 : ((signalbenchlaw44_awake.f).bind fun t330 => (some t330)) = some r := by rw [if_neg (show ¬ (false = true) by decide)] at H; exact H
           clear H
           have H := H1
           clear H1
           replace H := Option.bind_eq_some_iff.mp H
           obtain ⟨t330, A740, H⟩ := H
           replace H : (some t330) = some r := H
           have A74 := Aside0.mk A740
           clear A740
           obtain rfl := Option.some.inj H
           have hnb75 := NB322_316.out
           have hnc75 := NB316_322.out
           have hnb76 := NB322_317.out
           have hnc76 := NB317_322.out
           have hcz77_0 : wr.cell? ⟨gb322, 0, none⟩ = some (.slice Ao13 t318.length co13) := (blk_cell BK322.out 0).trans rfl
           have hfz77_0 := blk_frozen BK322.out 0
           have p328 : 0 ≤ (0 : Int) := (by omega)
           have q328 : 0 < (t318.length : Int) := of_decide_eq_true (by first | (with_reducible assumption) | assumption)
           obtain ⟨ad328, e328, hx328_0, hx328_1, hx328_2, hx328_3, hx328_4, hx328_5, hx328_6, hx328_7, hx328_8, hx328_9, hx328_10, hx328_11⟩ := at_T50 (Kd.R_reads' HO_323000.out).2.2 0 p328 q328
           (try rw [← Nbq69.out] at hx328_6)
           cases e328
           have qi328 : (0 < t318.length) = True := eq_true (by omega)
           (try rw [show ((0 : Int)).toNat = 0 from rfl] at hx328_0)
           (try rw [show 0 * 12 = 0 from rfl] at hx328_0)
           (try rw [Addr.add_zero'] at hx328_0)
           (try rw [show ((0 : Int)).toNat = 0 from rfl] at hx328_1)
           (try rw [show 0 * 12 = 0 from rfl] at hx328_1)
           (try rw [Addr.add_zero'] at hx328_1)
           (try rw [show ((0 : Int)).toNat = 0 from rfl] at hx328_2)
           (try rw [show 0 * 12 = 0 from rfl] at hx328_2)
           (try rw [Addr.add_zero'] at hx328_2)
           (try rw [show ((0 : Int)).toNat = 0 from rfl] at hx328_3)
           (try rw [show 0 * 12 = 0 from rfl] at hx328_3)
           (try rw [Addr.add_zero'] at hx328_3)
           (try rw [show ((0 : Int)).toNat = 0 from rfl] at hx328_4)
           (try rw [show 0 * 12 = 0 from rfl] at hx328_4)
           (try rw [Addr.add_zero'] at hx328_4)
           (try rw [show ((0 : Int)).toNat = 0 from rfl] at hx328_5)
           (try rw [show 0 * 12 = 0 from rfl] at hx328_5)
           (try rw [Addr.add_zero'] at hx328_5)
           (try rw [show ((0 : Int)).toNat = 0 from rfl] at hx328_6)
           (try rw [show 0 * 12 = 0 from rfl] at hx328_6)
           (try rw [Addr.add_zero'] at hx328_6)
           (try rw [show ((0 : Int)).toNat = 0 from rfl] at hx328_7)
           (try rw [show 0 * 12 = 0 from rfl] at hx328_7)
           (try rw [Addr.add_zero'] at hx328_7)
           (try rw [show ((0 : Int)).toNat = 0 from rfl] at hx328_8)
           (try rw [show 0 * 12 = 0 from rfl] at hx328_8)
           (try rw [Addr.add_zero'] at hx328_8)
           (try rw [show ((0 : Int)).toNat = 0 from rfl] at hx328_9)
           (try rw [show 0 * 12 = 0 from rfl] at hx328_9)
           (try rw [Addr.add_zero'] at hx328_9)
           (try rw [show ((0 : Int)).toNat = 0 from rfl] at hx328_10)
           (try rw [show 0 * 12 = 0 from rfl] at hx328_10)
           (try rw [Addr.add_zero'] at hx328_10)
           (try rw [show ((0 : Int)).toNat = 0 from rfl] at hx328_11)
           (try rw [show 0 * 12 = 0 from rfl] at hx328_11)
           (try rw [Addr.add_zero'] at hx328_11)
           replace p328 := eq_true p328
           replace q328 := eq_true q328
           have p329 : 0 ≤ (0 : Int) := (by omega)
           have q329 : 0 < (t318.length : Int) := of_decide_eq_true (by first | (with_reducible assumption) | assumption)
           obtain ⟨ad329, e329, hx329_0, hx329_1, hx329_2, hx329_3, hx329_4, hx329_5, hx329_6, hx329_7, hx329_8, hx329_9, hx329_10, hx329_11⟩ := at_T50 (Kd.R_reads' HO_323000.out).2.2 0 p329 q329
           (try rw [← Nbq69.out] at hx329_6)
           obtain rfl : ad328 = ad329 := (by injection e329)
           have qi329 : (0 < t318.length) = True := eq_true (by omega)
           (try rw [show ((0 : Int)).toNat = 0 from rfl] at hx329_0)
           (try rw [show 0 * 12 = 0 from rfl] at hx329_0)
           (try rw [Addr.add_zero'] at hx329_0)
           (try rw [show ((0 : Int)).toNat = 0 from rfl] at hx329_1)
           (try rw [show 0 * 12 = 0 from rfl] at hx329_1)
           (try rw [Addr.add_zero'] at hx329_1)
           (try rw [show ((0 : Int)).toNat = 0 from rfl] at hx329_2)
           (try rw [show 0 * 12 = 0 from rfl] at hx329_2)
           (try rw [Addr.add_zero'] at hx329_2)
           (try rw [show ((0 : Int)).toNat = 0 from rfl] at hx329_3)
           (try rw [show 0 * 12 = 0 from rfl] at hx329_3)
           (try rw [Addr.add_zero'] at hx329_3)
           (try rw [show ((0 : Int)).toNat = 0 from rfl] at hx329_4)
           (try rw [show 0 * 12 = 0 from rfl] at hx329_4)
           (try rw [Addr.add_zero'] at hx329_4)
           (try rw [show ((0 : Int)).toNat = 0 from rfl] at hx329_5)
           (try rw [show 0 * 12 = 0 from rfl] at hx329_5)
           (try rw [Addr.add_zero'] at hx329_5)
           (try rw [show ((0 : Int)).toNat = 0 from rfl] at hx329_6)
           (try rw [show 0 * 12 = 0 from rfl] at hx329_6)
           (try rw [Addr.add_zero'] at hx329_6)
           (try rw [show ((0 : Int)).toNat = 0 from rfl] at hx329_7)
           (try rw [show 0 * 12 = 0 from rfl] at hx329_7)
           (try rw [Addr.add_zero'] at hx329_7)
           (try rw [show ((0 : Int)).toNat = 0 from rfl] at hx329_8)
           (try rw [show 0 * 12 = 0 from rfl] at hx329_8)
           (try rw [Addr.add_zero'] at hx329_8)
           (try rw [show ((0 : Int)).toNat = 0 from rfl] at hx329_9)
           (try rw [show 0 * 12 = 0 from rfl] at hx329_9)
           (try rw [Addr.add_zero'] at hx329_9)
           (try rw [show ((0 : Int)).toNat = 0 from rfl] at hx329_10)
           (try rw [show 0 * 12 = 0 from rfl] at hx329_10)
           (try rw [Addr.add_zero'] at hx329_10)
           (try rw [show ((0 : Int)).toNat = 0 from rfl] at hx329_11)
           (try rw [show 0 * 12 = 0 from rfl] at hx329_11)
           (try rw [Addr.add_zero'] at hx329_11)
           replace p329 := eq_true p329
           replace q329 := eq_true q329
           go_wp2_with (first | (go_at_call 19; (with_reducible refine (signalbenchlaw44_awake.calls  t330 _ A74.out).mono ?_); rintro e w78 ⟨rfl, hb⟩; have n0_ := Aside0.mk (Kd.R_below (by (with_reducible repeat (first | apply Kd.R_alloc | apply Kd.R_drewN | apply Kd.R_drew)); exact HO_323000.out) hb); have n1_ := Aside0.mk (blk_below (bg BK316.out) hb); have n2_ := Aside0.mk (blk_below (bg BK317.out) hb); have n3_ := Aside0.mk (blk_below (bg BK322.out) hb); have n4_ := Aside0.mk (below_step (bs HB.out) hb); clear HO_323000; clear BK316; clear BK317; clear BK322; clear HB; have HO_323000 := n0_; have BK316 := n1_; have BK317 := n2_; have BK322 := n3_; have HB := n4_; clear n0_ n1_ n2_ n3_ n4_; (try clear hb); (try clear hb2); (try clear hk); (try clear hi)))
           go_ret
           exact ⟨by first | rfl | (simp [errW_none, errW_some] <;> rfl) | (simp [*, errW_none, errW_some] <;> rfl), bs HB.out⟩
         ·
          rw [if_neg c68] at H
          have c68b0 : (((rd_T50 t318 0).f1) == 0) = false := beq_eq_false_iff_ne.mpr c68
          have c68b1 : (((rd_T50 t318 0).f1) != 0) = true := bne_iff_ne.mpr c68
          obtain rfl := Option.some.inj H
          have hnb79 := NB322_316.out
          have hnc79 := NB316_322.out
          have hnb80 := NB322_317.out
          have hnc80 := NB317_322.out
          have hcz81_0 : wr.cell? ⟨gb322, 0, none⟩ = some (.slice Ao13 t318.length co13) := (blk_cell BK322.out 0).trans rfl
          have hfz81_0 := blk_frozen BK322.out 0
          have p328 : 0 ≤ (0 : Int) := (by omega)
          have q328 : 0 < (t318.length : Int) := of_decide_eq_true (by first | (with_reducible assumption) | assumption)
          obtain ⟨ad328, e328, hx328_0, hx328_1, hx328_2, hx328_3, hx328_4, hx328_5, hx328_6, hx328_7, hx328_8, hx328_9, hx328_10, hx328_11⟩ := at_T50 (Kd.R_reads' HO_323000.out).2.2 0 p328 q328
          cases e328
          have qi328 : (0 < t318.length) = True := eq_true (by omega)
          (try rw [show ((0 : Int)).toNat = 0 from rfl] at hx328_0)
          (try rw [show 0 * 12 = 0 from rfl] at hx328_0)
          (try rw [Addr.add_zero'] at hx328_0)
          (try rw [show ((0 : Int)).toNat = 0 from rfl] at hx328_1)
          (try rw [show 0 * 12 = 0 from rfl] at hx328_1)
          (try rw [Addr.add_zero'] at hx328_1)
          (try rw [show ((0 : Int)).toNat = 0 from rfl] at hx328_2)
          (try rw [show 0 * 12 = 0 from rfl] at hx328_2)
          (try rw [Addr.add_zero'] at hx328_2)
          (try rw [show ((0 : Int)).toNat = 0 from rfl] at hx328_3)
          (try rw [show 0 * 12 = 0 from rfl] at hx328_3)
          (try rw [Addr.add_zero'] at hx328_3)
          (try rw [show ((0 : Int)).toNat = 0 from rfl] at hx328_4)
          (try rw [show 0 * 12 = 0 from rfl] at hx328_4)
          (try rw [Addr.add_zero'] at hx328_4)
          (try rw [show ((0 : Int)).toNat = 0 from rfl] at hx328_5)
          (try rw [show 0 * 12 = 0 from rfl] at hx328_5)
          (try rw [Addr.add_zero'] at hx328_5)
          (try rw [show ((0 : Int)).toNat = 0 from rfl] at hx328_6)
          (try rw [show 0 * 12 = 0 from rfl] at hx328_6)
          (try rw [Addr.add_zero'] at hx328_6)
          (try rw [show ((0 : Int)).toNat = 0 from rfl] at hx328_7)
          (try rw [show 0 * 12 = 0 from rfl] at hx328_7)
          (try rw [Addr.add_zero'] at hx328_7)
          (try rw [show ((0 : Int)).toNat = 0 from rfl] at hx328_8)
          (try rw [show 0 * 12 = 0 from rfl] at hx328_8)
          (try rw [Addr.add_zero'] at hx328_8)
          (try rw [show ((0 : Int)).toNat = 0 from rfl] at hx328_9)
          (try rw [show 0 * 12 = 0 from rfl] at hx328_9)
          (try rw [Addr.add_zero'] at hx328_9)
          (try rw [show ((0 : Int)).toNat = 0 from rfl] at hx328_10)
          (try rw [show 0 * 12 = 0 from rfl] at hx328_10)
          (try rw [Addr.add_zero'] at hx328_10)
          (try rw [show ((0 : Int)).toNat = 0 from rfl] at hx328_11)
          (try rw [show 0 * 12 = 0 from rfl] at hx328_11)
          (try rw [Addr.add_zero'] at hx328_11)
          replace p328 := eq_true p328
          replace q328 := eq_true q328
          go_wp2
          go_ret
          exact ⟨by first | rfl | (simp [errW_none, errW_some] <;> rfl) | (simp [*, errW_none, errW_some] <;> rfl), bs HB.out⟩
        ·
         rw [if_neg c67] at H
         exact absurd H (by simp)
 ·
  rw [if_neg c4] at H
  have c4b0 : (t321 == 0) = false := beq_eq_false_iff_ne.mpr c4
  have c4b1 : (t321 != 0) = true := bne_iff_ne.mpr c4
  replace H := Option.bind_eq_some_iff.mp H
  obtain ⟨t323, A820, H⟩ := H
  replace H : (if t321 = t323 then ((signalbenchlaw44_awake.f).bind fun t324 => (some t324)) else (some false)) = some r := H
  have A82 := Aside0.mk A820
  clear A820
  by_cases c83 : t321 = t323
  ·
   rw [if_pos c83] at H
   have c83b0 : (t321 == t323) = true := beq_iff_eq.mpr c83
   have c83b1 : (t321 != t323) = false := bne_eq_false_iff_eq.mpr c83
   clear c83
   replace H := Option.bind_eq_some_iff.mp H
   obtain ⟨t324, A840, H⟩ := H
   replace H : (some t324) = some r := H
   have A84 := Aside0.mk A840
   clear A840
   obtain rfl := Option.some.inj H
   go_enter Try.func6, Try.ntmps6
   go_wp2_with (first | ((with_reducible refine gate_dst (N := 2) rfl ?_); refine box_event ?hg (N := 2) ?hd (cs := #[.string a0_0, .slice A0_1 l0_1.length c0_1]) (t := 24) ?hr ?_; (case hd => rfl); (case hg => rfl); (case hr => first | (go_simp; done) | (go_simp; rfl)); intro gb316 hg w85 hbox hb; have n0_ := Aside0.mk (below_step (bs HB.out) hb); have n1_ := Aside0.mk (hbox); have n2_ := Aside0.mk ((by rw [hg]; exact (below_size (bs HB.out)) : w.heap.size ≤ gb316)); have n3_ := n2_; clear HB; have HB := n0_; have BK316 := n1_; have GW316 := n2_; have GE316 := n3_; clear n0_ n1_ n2_ n3_; clear hb hbox hg) | ((with_reducible refine gate_dst (N := 3) rfl ?_); refine box_event ?hg (N := 3) ?hd (cs := #[.slice A1_0 l1_0.length c1_0, .slice A1_1 l1_1.length c1_1]) (t := 28) ?hr ?_; (case hd => rfl); (case hg => rfl); (case hr => first | (go_simp; done) | (go_simp; rfl)); intro gb317 hg w86 hbox hb; have n0_ := Aside0.mk (blk_below (bg BK316.out) hb); have n1_ := Aside0.mk (below_step (bs HB.out) hb); have n2_ := Aside0.mk (hbox); have n3_ := Aside0.mk ((by rw [hg]; exact (below_size (bs HB.out)) : w.heap.size ≤ gb317)); have n4_ := n3_; have n5_ := Aside0.mk ((by rw [hg]; exact Nat.ne_of_lt (blk_lt (bg BK316.out)) : gb316 ≠ gb317)); have n6_ := Aside0.mk ((by rw [hg]; exact Nat.ne_of_gt (blk_lt (bg BK316.out)) : gb317 ≠ gb316)); clear BK316; clear HB; have BK316 := n0_; have HB := n1_; have BK317 := n2_; have GW317 := n3_; have GE317 := n4_; have NB316_317 := n5_; have NB317_316 := n6_; clear n0_ n1_ n2_ n3_ n4_ n5_ n6_; clear hb hbox hg; have hnb87 := NB316_317.out; have hnc87 := NB317_316.out; obtain ⟨hcz88_0, hcz88_1⟩ := bc2 BK316.out; obtain ⟨hfz88_0, hfz88_1⟩ := bf2 BK316.out; obtain ⟨hcz89_0, hcz89_1⟩ := bc2 BK317.out; obtain ⟨hfz89_0, hfz89_1⟩ := bf2 BK317.out) | ((with_reducible refine gate_callee (f := 16) rfl ?_); refine goesL_ (some 12) rfl rfl Try.func16 (by kernel_rfl) rfl #[.agg #[.string a0_0, .slice A0_1 l0_1.length c0_1], .agg #[.slice A1_0 l1_0.length c1_0, .slice A1_1 l1_1.length c1_1]] rfl (by (try simp only [List.map_toArray, List.map_cons, List.map_nil]); first | done | rfl | (simp only [List.length_drop, List.length_take]; rfl)) ?_; (with_reducible refine (trigauto_Compile.calls k a0_0 _ _ l0_1 _ _ l1_0 _ _ l1_1 t318 t321 _ ?side1 ?side2 ?side3 ?side4 ?side5 ?side6 A3.out).mono ?_); (case side1 => repeat (first | exact (Kd.C_below HR0_1.out HB.out) | (with_reducible refine Kd.C_alloc ?_ _) | (with_reducible refine Kd.C_drewN ?_ _) | (with_reducible refine Kd.C_drew ?_))); (case side2 => exact HC0_1.out); (case side3 => repeat (first | exact (Kd.C_below HR1_0.out HB.out) | (with_reducible refine Kd.C_alloc ?_ _) | (with_reducible refine Kd.C_drewN ?_ _) | (with_reducible refine Kd.C_drew ?_))); (case side4 => exact HC1_0.out); (case side5 => repeat (first | exact (Kd.C_below HR1_1.out HB.out) | (with_reducible refine Kd.C_alloc ?_ _) | (with_reducible refine Kd.C_drewN ?_ _) | (with_reducible refine Kd.C_drew ?_))); (case side6 => exact HC1_1.out); rintro e w90 ⟨v319, rfl, ho0, hb⟩; refine ⟨_, rfl, ?_⟩; have n0_ := Aside0.mk (Kd.R_lower ho0 (below_size (bs HB.out))); have n1_ := Aside0.mk (blk_below (bg BK316.out) hb); have n2_ := Aside0.mk (blk_below (bg BK317.out) hb); have n3_ := Aside0.mk (below_step (bs HB.out) hb); clear BK316; clear BK317; clear HB; have HO320 := n0_; have BK316 := n1_; have BK317 := n2_; have HB := n3_; clear n0_ n1_ n2_ n3_; (try clear hb); (try clear hb2); (try clear hk); (try clear hi); (try clear ho0)) | ((with_reducible refine gate_dst (N := 5) rfl ?_); refine box_event ?hg (N := 5) ?hd (cs := #[.slice none 0 0]) (t := 31) ?hr ?_; (case hd => rfl); (case hg => rfl); (case hr => first | (go_simp; done) | (go_simp; rfl)); intro gb322 hg w91 hbox hb; have n0_ := Aside0.mk (Kd.R_below (by (with_reducible repeat (first | apply Kd.R_alloc | apply Kd.R_drewN | apply Kd.R_drew)); exact HO320.out) hb); have n1_ := Aside0.mk (blk_below (bg BK316.out) hb); have n2_ := Aside0.mk (blk_below (bg BK317.out) hb); have n3_ := Aside0.mk (below_step (bs HB.out) hb); have n4_ := Aside0.mk (hbox); have n5_ := Aside0.mk ((by rw [hg]; exact (below_size (bs HB.out)) : w.heap.size ≤ gb322)); have n6_ := n5_; have n7_ := Aside0.mk ((by rw [hg]; exact Nat.ne_of_lt (blk_lt (bg BK316.out)) : gb316 ≠ gb322)); have n8_ := Aside0.mk ((by rw [hg]; exact Nat.ne_of_gt (blk_lt (bg BK316.out)) : gb322 ≠ gb316)); have n9_ := Aside0.mk ((by rw [hg]; exact Nat.ne_of_lt (blk_lt (bg BK317.out)) : gb317 ≠ gb322)); have n10_ := Aside0.mk ((by rw [hg]; exact Nat.ne_of_gt (blk_lt (bg BK317.out)) : gb322 ≠ gb317)); clear HO320; clear BK316; clear BK317; clear HB; have HO320 := n0_; have BK316 := n1_; have BK317 := n2_; have HB := n3_; have BK322 := n4_; have GW322 := n5_; have GE322 := n6_; have NB316_322 := n7_; have NB322_316 := n8_; have NB317_322 := n9_; have NB322_317 := n10_; clear n0_ n1_ n2_ n3_ n4_ n5_ n6_ n7_ n8_ n9_ n10_; clear hb hbox hg; obtain ⟨Ao92, co92, eo92⟩ := Kd.R_slice HO320.out; subst eo92; have hnb93 := NB322_316.out; have hnc93 := NB316_322.out; have hnb94 := NB322_317.out; have hnc94 := NB317_322.out; have hcz95_0 : w91.cell? ⟨gb322, 0, none⟩ = some (.slice none 0 0) := (blk_cell BK322.out 0).trans rfl; have hfz95_0 := blk_frozen BK322.out 0; obtain ⟨hcz96_0, hcz96_1⟩ := bc2 BK316.out; obtain ⟨hfz96_0, hfz96_1⟩ := bf2 BK316.out; obtain ⟨hcz97_0, hcz97_1⟩ := bc2 BK317.out; obtain ⟨hfz97_0, hfz97_1⟩ := bf2 BK317.out) | ((with_reducible refine gate_callee (f := 25) rfl ?_); refine goesL_ (some 20) rfl rfl Try.func25 (by kernel_rfl) rfl #[.agg #[.string a0_0, .slice A0_1 l0_1.length c0_1], .agg #[.slice A1_0 l1_0.length c1_0, .slice A1_1 l1_1.length c1_1]] rfl (by (try simp only [List.map_toArray, List.map_cons, List.map_nil]); first | done | rfl | (simp only [List.length_drop, List.length_take]; rfl)) ?_; (with_reducible refine (trig_Check.calls k a0_0 _ _ l0_1 _ _ l1_0 _ _ l1_1 t323 _ ?side1 ?side2 ?side3 ?side4 ?side5 ?side6 A82.out).mono ?_); (case side1 => exact Kd.C_below HR0_1.out (bs HB.out)); (case side2 => exact HC0_1.out); (case side3 => exact Kd.C_below HR1_0.out (bs HB.out)); (case side4 => exact HC1_0.out); (case side5 => exact Kd.C_below HR1_1.out (bs HB.out)); (case side6 => exact HC1_1.out); rintro e w98 ⟨rfl, hb⟩; refine ⟨_, rfl, ?_⟩; have n0_ := Aside0.mk (Kd.R_below (by (with_reducible repeat (first | apply Kd.R_alloc | apply Kd.R_drewN | apply Kd.R_drew)); exact (Kd.R_mono (Kd.R_far (p := ⟨gb322, 0, none⟩) (Kd.R_types HO320.out BK322.out (by decide)) (fun _ hk => hk.2) (.slice Ao92 t318.length co92)) (fun _ h_ => h_.1))) hb); have n1_ := Aside0.mk (blk_below (g := gb316) (o := .cells #[.string a0_0, .slice A0_1 l0_1.length c0_1] 24 (0, 0)) (by (with_reducible repeat (first | refine blk_drewN ?_ _ | refine blk_drew ?_ | refine blk_alloc ?_ _)); refine blk_far ?_ NB316_322.out _; exact bg BK316.out) hb); have n2_ := Aside0.mk (blk_below (g := gb317) (o := .cells #[.slice A1_0 l1_0.length c1_0, .slice A1_1 l1_1.length c1_1] 28 (0, 0)) (by (with_reducible repeat (first | refine blk_drewN ?_ _ | refine blk_drew ?_ | refine blk_alloc ?_ _)); refine blk_far ?_ NB317_322.out _; exact bg BK317.out) hb); have n3_ := Aside0.mk (blk_below (g := gb322) (o := .cells #[.slice Ao92 t318.length co92] 31 (0, 0)) (by (with_reducible repeat (first | refine blk_drewN ?_ _ | refine blk_drew ?_ | refine blk_alloc ?_ _)); refine blk_put (cs := #[.slice none 0 0]) ?_ 0 _ rfl; exact bg BK322.out) hb); have n4_ := Aside0.mk (below_step (bs HB.out) hb); clear HO320; clear BK316; clear BK317; clear BK322; clear HB; have HO320 := n0_; have BK316 := n1_; have BK317 := n2_; have BK322 := n3_; have HB := n4_; clear n0_ n1_ n2_ n3_ n4_; (try clear hb); (try clear hb2); (try clear hk); (try clear hi)) | (go_at_call 19; (with_reducible refine (signalbenchlaw44_awake.calls  t324 _ A84.out).mono ?_); rintro e w99 ⟨rfl, hb⟩; have n0_ := Aside0.mk (Kd.R_below (by (with_reducible repeat (first | apply Kd.R_alloc | apply Kd.R_drewN | apply Kd.R_drew)); exact HO320.out) hb); have n1_ := Aside0.mk (blk_below (bg BK316.out) hb); have n2_ := Aside0.mk (blk_below (bg BK317.out) hb); have n3_ := Aside0.mk (blk_below (bg BK322.out) hb); have n4_ := Aside0.mk (below_step (bs HB.out) hb); clear HO320; clear BK316; clear BK317; clear BK322; clear HB; have HO320 := n0_; have BK316 := n1_; have BK317 := n2_; have BK322 := n3_; have HB := n4_; clear n0_ n1_ n2_ n3_ n4_; (try clear hb); (try clear hb2); (try clear hk); (try clear hi)))
   go_ret
   exact ⟨by first | rfl | (simp [errW_none, errW_some] <;> rfl) | (simp [*, errW_none, errW_some] <;> rfl), bs HB.out⟩
  ·
   rw [if_neg c83] at H
   have c83b0 : (t321 == t323) = false := beq_eq_false_iff_ne.mpr c83
   have c83b1 : (t321 != t323) = true := bne_iff_ne.mpr c83
   obtain rfl := Option.some.inj H
   go_enter Try.func6, Try.ntmps6
   go_wp2_with (first | ((with_reducible refine gate_dst (N := 2) rfl ?_); refine box_event ?hg (N := 2) ?hd (cs := #[.string a0_0, .slice A0_1 l0_1.length c0_1]) (t := 24) ?hr ?_; (case hd => rfl); (case hg => rfl); (case hr => first | (go_simp; done) | (go_simp; rfl)); intro gb316 hg w100 hbox hb; have n0_ := Aside0.mk (below_step (bs HB.out) hb); have n1_ := Aside0.mk (hbox); have n2_ := Aside0.mk ((by rw [hg]; exact (below_size (bs HB.out)) : w.heap.size ≤ gb316)); have n3_ := n2_; clear HB; have HB := n0_; have BK316 := n1_; have GW316 := n2_; have GE316 := n3_; clear n0_ n1_ n2_ n3_; clear hb hbox hg) | ((with_reducible refine gate_dst (N := 3) rfl ?_); refine box_event ?hg (N := 3) ?hd (cs := #[.slice A1_0 l1_0.length c1_0, .slice A1_1 l1_1.length c1_1]) (t := 28) ?hr ?_; (case hd => rfl); (case hg => rfl); (case hr => first | (go_simp; done) | (go_simp; rfl)); intro gb317 hg w101 hbox hb; have n0_ := Aside0.mk (blk_below (bg BK316.out) hb); have n1_ := Aside0.mk (below_step (bs HB.out) hb); have n2_ := Aside0.mk (hbox); have n3_ := Aside0.mk ((by rw [hg]; exact (below_size (bs HB.out)) : w.heap.size ≤ gb317)); have n4_ := n3_; have n5_ := Aside0.mk ((by rw [hg]; exact Nat.ne_of_lt (blk_lt (bg BK316.out)) : gb316 ≠ gb317)); have n6_ := Aside0.mk ((by rw [hg]; exact Nat.ne_of_gt (blk_lt (bg BK316.out)) : gb317 ≠ gb316)); clear BK316; clear HB; have BK316 := n0_; have HB := n1_; have BK317 := n2_; have GW317 := n3_; have GE317 := n4_; have NB316_317 := n5_; have NB317_316 := n6_; clear n0_ n1_ n2_ n3_ n4_ n5_ n6_; clear hb hbox hg; have hnb102 := NB316_317.out; have hnc102 := NB317_316.out; obtain ⟨hcz103_0, hcz103_1⟩ := bc2 BK316.out; obtain ⟨hfz103_0, hfz103_1⟩ := bf2 BK316.out; obtain ⟨hcz104_0, hcz104_1⟩ := bc2 BK317.out; obtain ⟨hfz104_0, hfz104_1⟩ := bf2 BK317.out) | ((with_reducible refine gate_callee (f := 16) rfl ?_); refine goesL_ (some 12) rfl rfl Try.func16 (by kernel_rfl) rfl #[.agg #[.string a0_0, .slice A0_1 l0_1.length c0_1], .agg #[.slice A1_0 l1_0.length c1_0, .slice A1_1 l1_1.length c1_1]] rfl (by (try simp only [List.map_toArray, List.map_cons, List.map_nil]); first | done | rfl | (simp only [List.length_drop, List.length_take]; rfl)) ?_; (with_reducible refine (trigauto_Compile.calls k a0_0 _ _ l0_1 _ _ l1_0 _ _ l1_1 t318 t321 _ ?side1 ?side2 ?side3 ?side4 ?side5 ?side6 A3.out).mono ?_); (case side1 => repeat (first | exact (Kd.C_below HR0_1.out HB.out) | (with_reducible refine Kd.C_alloc ?_ _) | (with_reducible refine Kd.C_drewN ?_ _) | (with_reducible refine Kd.C_drew ?_))); (case side2 => exact HC0_1.out); (case side3 => repeat (first | exact (Kd.C_below HR1_0.out HB.out) | (with_reducible refine Kd.C_alloc ?_ _) | (with_reducible refine Kd.C_drewN ?_ _) | (with_reducible refine Kd.C_drew ?_))); (case side4 => exact HC1_0.out); (case side5 => repeat (first | exact (Kd.C_below HR1_1.out HB.out) | (with_reducible refine Kd.C_alloc ?_ _) | (with_reducible refine Kd.C_drewN ?_ _) | (with_reducible refine Kd.C_drew ?_))); (case side6 => exact HC1_1.out); rintro e w105 ⟨v319, rfl, ho0, hb⟩; refine ⟨_, rfl, ?_⟩; have n0_ := Aside0.mk (Kd.R_lower ho0 (below_size (bs HB.out))); have n1_ := Aside0.mk (blk_below (bg BK316.out) hb); have n2_ := Aside0.mk (blk_below (bg BK317.out) hb); have n3_ := Aside0.mk (below_step (bs HB.out) hb); clear BK316; clear BK317; clear HB; have HO320 := n0_; have BK316 := n1_; have BK317 := n2_; have HB := n3_; clear n0_ n1_ n2_ n3_; (try clear hb); (try clear hb2); (try clear hk); (try clear hi); (try clear ho0)) | ((with_reducible refine gate_dst (N := 5) rfl ?_); refine box_event ?hg (N := 5) ?hd (cs := #[.slice none 0 0]) (t := 31) ?hr ?_; (case hd => rfl); (case hg => rfl); (case hr => first | (go_simp; done) | (go_simp; rfl)); intro gb322 hg w106 hbox hb; have n0_ := Aside0.mk (Kd.R_below (by (with_reducible repeat (first | apply Kd.R_alloc | apply Kd.R_drewN | apply Kd.R_drew)); exact HO320.out) hb); have n1_ := Aside0.mk (blk_below (bg BK316.out) hb); have n2_ := Aside0.mk (blk_below (bg BK317.out) hb); have n3_ := Aside0.mk (below_step (bs HB.out) hb); have n4_ := Aside0.mk (hbox); have n5_ := Aside0.mk ((by rw [hg]; exact (below_size (bs HB.out)) : w.heap.size ≤ gb322)); have n6_ := n5_; have n7_ := Aside0.mk ((by rw [hg]; exact Nat.ne_of_lt (blk_lt (bg BK316.out)) : gb316 ≠ gb322)); have n8_ := Aside0.mk ((by rw [hg]; exact Nat.ne_of_gt (blk_lt (bg BK316.out)) : gb322 ≠ gb316)); have n9_ := Aside0.mk ((by rw [hg]; exact Nat.ne_of_lt (blk_lt (bg BK317.out)) : gb317 ≠ gb322)); have n10_ := Aside0.mk ((by rw [hg]; exact Nat.ne_of_gt (blk_lt (bg BK317.out)) : gb322 ≠ gb317)); clear HO320; clear BK316; clear BK317; clear HB; have HO320 := n0_; have BK316 := n1_; have BK317 := n2_; have HB := n3_; have BK322 := n4_; have GW322 := n5_; have GE322 := n6_; have NB316_322 := n7_; have NB322_316 := n8_; have NB317_322 := n9_; have NB322_317 := n10_; clear n0_ n1_ n2_ n3_ n4_ n5_ n6_ n7_ n8_ n9_ n10_; clear hb hbox hg; obtain ⟨Ao107, co107, eo107⟩ := Kd.R_slice HO320.out; subst eo107; have hnb108 := NB322_316.out; have hnc108 := NB316_322.out; have hnb109 := NB322_317.out; have hnc109 := NB317_322.out; have hcz110_0 : w106.cell? ⟨gb322, 0, none⟩ = some (.slice none 0 0) := (blk_cell BK322.out 0).trans rfl; have hfz110_0 := blk_frozen BK322.out 0; obtain ⟨hcz111_0, hcz111_1⟩ := bc2 BK316.out; obtain ⟨hfz111_0, hfz111_1⟩ := bf2 BK316.out; obtain ⟨hcz112_0, hcz112_1⟩ := bc2 BK317.out; obtain ⟨hfz112_0, hfz112_1⟩ := bf2 BK317.out) | ((with_reducible refine gate_callee (f := 25) rfl ?_); refine goesL_ (some 20) rfl rfl Try.func25 (by kernel_rfl) rfl #[.agg #[.string a0_0, .slice A0_1 l0_1.length c0_1], .agg #[.slice A1_0 l1_0.length c1_0, .slice A1_1 l1_1.length c1_1]] rfl (by (try simp only [List.map_toArray, List.map_cons, List.map_nil]); first | done | rfl | (simp only [List.length_drop, List.length_take]; rfl)) ?_; (with_reducible refine (trig_Check.calls k a0_0 _ _ l0_1 _ _ l1_0 _ _ l1_1 t323 _ ?side1 ?side2 ?side3 ?side4 ?side5 ?side6 A82.out).mono ?_); (case side1 => exact Kd.C_below HR0_1.out (bs HB.out)); (case side2 => exact HC0_1.out); (case side3 => exact Kd.C_below HR1_0.out (bs HB.out)); (case side4 => exact HC1_0.out); (case side5 => exact Kd.C_below HR1_1.out (bs HB.out)); (case side6 => exact HC1_1.out); rintro e w113 ⟨rfl, hb⟩; refine ⟨_, rfl, ?_⟩; have n0_ := Aside0.mk (Kd.R_below (by (with_reducible repeat (first | apply Kd.R_alloc | apply Kd.R_drewN | apply Kd.R_drew)); exact (Kd.R_mono (Kd.R_far (p := ⟨gb322, 0, none⟩) (Kd.R_types HO320.out BK322.out (by decide)) (fun _ hk => hk.2) (.slice Ao107 t318.length co107)) (fun _ h_ => h_.1))) hb); have n1_ := Aside0.mk (blk_below (g := gb316) (o := .cells #[.string a0_0, .slice A0_1 l0_1.length c0_1] 24 (0, 0)) (by (with_reducible repeat (first | refine blk_drewN ?_ _ | refine blk_drew ?_ | refine blk_alloc ?_ _)); refine blk_far ?_ NB316_322.out _; exact bg BK316.out) hb); have n2_ := Aside0.mk (blk_below (g := gb317) (o := .cells #[.slice A1_0 l1_0.length c1_0, .slice A1_1 l1_1.length c1_1] 28 (0, 0)) (by (with_reducible repeat (first | refine blk_drewN ?_ _ | refine blk_drew ?_ | refine blk_alloc ?_ _)); refine blk_far ?_ NB317_322.out _; exact bg BK317.out) hb); have n3_ := Aside0.mk (blk_below (g := gb322) (o := .cells #[.slice Ao107 t318.length co107] 31 (0, 0)) (by (with_reducible repeat (first | refine blk_drewN ?_ _ | refine blk_drew ?_ | refine blk_alloc ?_ _)); refine blk_put (cs := #[.slice none 0 0]) ?_ 0 _ rfl; exact bg BK322.out) hb); have n4_ := Aside0.mk (below_step (bs HB.out) hb); clear HO320; clear BK316; clear BK317; clear BK322; clear HB; have HO320 := n0_; have BK316 := n1_; have BK317 := n2_; have BK322 := n3_; have HB := n4_; clear n0_ n1_ n2_ n3_ n4_; (try clear hb); (try clear hb2); (try clear hk); (try clear hi)))
   go_ret
   exact ⟨by first | rfl | (simp [errW_none, errW_some] <;> rfl) | (simp [*, errW_none, errW_some] <;> rfl), bs HB.out⟩

end Go.Proofs.Ytgdjiphljadlcaa.H
