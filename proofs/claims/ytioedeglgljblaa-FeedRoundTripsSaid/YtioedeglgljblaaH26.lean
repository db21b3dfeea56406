-- Printed by wip/hprint.py (this project's own driver of the kit's print) out of the translation; Lean checks it.
import Derived.Test.YtioedeglgljblaaH0
namespace Go.Proofs.Ytioedeglgljblaa.H
open Go.RowKit Go.Proofs.YtioedeglgljblaaW.PrintWords Go.Proofs.YtioedeglgljblaaW.PrintLast Go.Proofs.YtioedeglgljblaaW.PrintMore
attribute [local go_sem] max2_int min2_int max_two min_two max_three min_three max_four min_four   -- for this text's walks alone
set_option linter.unusedVariables false
set_option linter.unusedSimpArgs false

/-! ### signalbenchref09_put: function 36 -/
def signalbenchref09_put.f (l0 : List (S46)) (a1_0 : Int) (a1_1 : Int) : Option ((List (S46))) := if a1_1 < 1 then (some l0) else (if (l0.length : Int) > 0 then (if 0 ≤ (wrap64 ((l0.length : Int) - 1)) then (if (wrap64 ((l0.length : Int) - 1)) < (l0.length : Int) then (if ((rd_T46 l0 (wrap64 ((l0.length : Int) - 1))).f0) = a1_0 then (some (l0.set ((wrap64 ((l0.length : Int) - 1)) : Int).toNat (⟨(rd_T46 l0 (wrap64 ((l0.length : Int) - 1))).f0, wrap64 (((rd_T46 l0 (wrap64 ((l0.length : Int) - 1))).f1) + a1_1)⟩ : S46))) else (if l0.length < 8796093022208 then (some (l0 ++ [(⟨a1_0, a1_1⟩ : S46)])) else (none))) else (none)) else (none)) else (if l0.length < 8796093022208 then (some (l0 ++ [(⟨a1_0, a1_1⟩ : S46)])) else (none)))
def signalbenchref09_put.T4 : Bool × List (List Nat × List Nat) := (true, [([], []), ([0], [0]), ([1], [1]), ([2], [2]), ([2], [2]), ([4, 2], [2, 4]), ([3, 5, 2], [2, 3, 5]), ([6, 2], [2, 6]), ([7, 2], [2, 7]), ([2], [2]), ([9, 2], [2, 9]), ([8, 10, 2], [2, 8, 10]), ([2, 11], [2, 11])])
def signalbenchref09_put.B4 : List Nat := [0, 1, 3, 7, 7, 23, 63, 127, 255, 7, 519, 2047, 4095]
theorem signalbenchref09_put.tab4 : rtab .any (opsOf Try.f36 4) = signalbenchref09_put.T4 := by kernel_rfl
theorem signalbenchref09_put.bits4 : waitsOk signalbenchref09_put.T4.2 signalbenchref09_put.B4 = true := by kernel_rfl
def signalbenchref09_put.T5 : Bool × List (List Nat × List Nat) := (true, [([], []), ([], []), ([1], [1]), ([], []), ([], []), ([4], [4]), ([3, 5], [3, 5]), ([6], [6]), ([7], [7]), ([], []), ([9], [9]), ([8, 10], [8, 10]), ([0, 2, 0, 1, 2, 3, 4, 5, 6, 7, 8, 9, 10, 11], [0, 2]), ([12, 0, 1, 2, 3, 4, 5, 6, 7, 8, 9, 10, 11], [12]), ([13, 11, 0, 1, 2, 3, 4, 5, 6, 7, 8, 9, 10, 11], [11, 13])])
def signalbenchref09_put.B5 : List Nat := [0, 0, 2, 0, 0, 16, 56, 120, 248, 0, 512, 2040, 4095, 8191, 16383]
theorem signalbenchref09_put.tab5 : rtab .any (opsOf Try.f36 5) = signalbenchref09_put.T5 := by kernel_rfl
theorem signalbenchref09_put.bits5 : waitsOk signalbenchref09_put.T5.2 signalbenchref09_put.B5 = true := by kernel_rfl
set_option maxHeartbeats 8000000 in
set_option maxRecDepth 100000 in
theorem signalbenchref09_put.calls (P0_ : Nat → Prop) (u9000_ : Value) (l0 : List (S46)) (a1_0 : Int) (a1_1 : Int) (r : List (S46)) (w0 w : World) (hB : Below w0.heap.size w0 w) (ho0 : Kd.R k46 46 w w0.heap.size P0_ u9000_ l0) (h : signalbenchref09_put.f l0 a1_0 a1_1 = some r) :
  Calls Try.prog 36 #[u9000_, .agg #[.int .i64 a1_0, .int .i64 a1_1]] w fun e w' => ∃ v0_ : Value, e = .returned (v0_) ∧ Kd.R k46 46 w' w0.heap.size (fun k_ => (P0_ k_ ∨ w.heap.size ≤ k_)) v0_ r ∧ Below w0.heap.size w0 w' ∧ Kept w w' (fun k_ => P0_ k_) := by
 have hu46 := Try.underlying46
 have HO0 := Aside0.mk (show Kd.R k46 46 w w0.heap.size (fun k_ => (P0_ k_ ∨ w.heap.size ≤ k_)) u9000_ l0 from Kd.R_mono ho0 (fun k_ hk => (.inl hk)))
 have HK := Aside0.mk (Kept.refl w (fun k_ => P0_ k_))
 have HW0 := Aside0.mk hB.size
 have HB := Aside0.mk hB
 clear hB
 have H : (if a1_1 < 1 then (some l0) else (if (l0.length : Int) > 0 then (if 0 ≤ (wrap64 ((l0.length : Int) - 1)) then (if (wrap64 ((l0.length : Int) - 1)) < (l0.length : Int) then (if ((rd_T46 l0 (wrap64 ((l0.length : Int) - 1))).f0) = a1_0 then (some (l0.set ((wrap64 ((l0.length : Int) - 1)) : Int).toNat (⟨(rd_T46 l0 (wrap64 ((l0.length : Int) - 1))).f0, wrap64 (((rd_T46 l0 (wrap64 ((l0.length : Int) - 1))).f1) + a1_1)⟩ : S46))) else (if l0.length < 8796093022208 then (some (l0 ++ [(⟨a1_0, a1_1⟩ : S46)])) else (none))) else (none)) else (none)) else (if l0.length < 8796093022208 then (some (l0 ++ [(⟨a1_0, a1_1⟩ : S46)])) else (none)))) = some r := h
 clear h
 by_cases c3 : a1_1 < 1
 ·
  rw [if_pos c3] at H
  have c3b0 : decide (a1_1 < 1) = true := decide_eq_true c3
  clear c3
  obtain rfl := Option.some.inj H
  go_enter Try.func36, Try.ntmps36
  go_wp2_with (first | ((with_reducible refine gate_dst (N := 3) rfl ?_); refine box_event ?hg (N := 3) ?hd (cs := #[.int .i64 a1_0, .int .i64 a1_1]) (t := 46) ?hr ?_; (case hd => rfl); (case hg => rfl); (case hr => first | (go_simp; done) | (go_simp; rfl)); intro gb396 hg w4 hbox hb; have n0_ := Aside0.mk (Kd.R_below (Kd.R_elderB (rq HO0.out) gb396 (Nat.le_of_eq hg.symm)) hb); have n1_ := Aside0.mk (Kept.below (S := (fun k_ => P0_ k_)) (by repeat (first | (with_reducible first | exact HK.out | apply Kept.alloc | apply Kept.drewN | apply Kept.drew) | exact HK.out)) hb); have n2_ := Aside0.mk (below_step (bs HB.out) hb); have n3_ := Aside0.mk (hbox); have n4_ := Aside0.mk ((by rw [hg]; exact (by first | exact HK.out.1 | exact (show Kept w _ (fun k_ => P0_ k_) from by repeat (first | (with_reducible first | exact HK.out | apply Kept.alloc | apply Kept.drewN | apply Kept.drew) | exact HK.out)).1) : w.heap.size ≤ gb396)); have n5_ := Aside0.mk ((by rw [hg]; exact (below_size (bs HB.out)) : w0.heap.size ≤ gb396)); clear HO0; clear HK; clear HB; have HO0 := n0_; have HK := n1_; have HB := n2_; have BK396 := n3_; have GW396 := n4_; have GE396 := n5_; clear n0_ n1_ n2_ n3_ n4_ n5_; clear hb hbox hg; obtain ⟨hcz5_0, hcz5_1⟩ := bc2 BK396.out; obtain ⟨hfz5_0, hfz5_1⟩ := bf2 BK396.out))
  go_ret
  exact ⟨_, by first | rfl | (simp [errW_none, errW_some] <;> rfl) | (simp [*, errW_none, errW_some] <;> rfl), by (with_reducible repeat (first | apply Kd.R_alloc | apply Kd.R_drewN | apply Kd.R_drew)); exact Kd.R_mono HO0.out (fun _ hk => hk.1), bs HB.out, by repeat (first | (with_reducible first | exact HK.out | apply Kept.alloc | apply Kept.drewN | apply Kept.drew | refine Kept.setCell ?_ (.inr GW396.out) _) | exact HK.out)⟩
 ·
  rw [if_neg c3] at H
  have c3b0 : decide (a1_1 < 1) = false := decide_eq_false c3
  clear c3
  by_cases c6 : (l0.length : Int) > 0
  ·
   rw [if_pos c6] at H
   have c6b0 : decide (0 < (l0.length : Int)) = true := decide_eq_true c6
   have c6b1 : decide (0 < l0.length) = true := decide_eq_true (by omega)
   clear c6
   obtain ⟨ji7, hji7⟩ : ∃ j_ : Int, (wrap64 ((l0.length : Int) - 1)) = j_ := ⟨_, rfl⟩
   replace H : (if 0 ≤ (ji7) then (if (ji7) < (l0.length : Int) then (if ((rd_T46 l0 (ji7)).f0) = a1_0 then (some (l0.set ((ji7) : Int).toNat (⟨(rd_T46 l0 (ji7)).f0, wrap64 (((rd_T46 l0 (ji7)).f1) + a1_1)⟩ : S46))) else (if l0.length < 8796093022208 then (some (l0 ++ [(⟨a1_0, a1_1⟩ : S46)])) else (none))) else (none)) else (none)) = some r := by first | (rw [hji7] at H; exact H) | (simp only [hji7] at H ⊢; exact H)
   have hji7w : (IntKind.i64.wrap ((l0.length : Int) - 1)) = ji7 := (i64_w _).trans hji7
   by_cases c8 : 0 ≤ (ji7)
   ·
    rw [if_pos c8] at H
    have c8b0 : decide (0 ≤ (ji7)) = true := decide_eq_true c8
    clear c8
    by_cases c9 : (ji7) < (l0.length : Int)
    ·
     rw [if_pos c9] at H
     have c9b0 : decide ((ji7) < (l0.length : Int)) = true := decide_eq_true c9
     clear c9
     by_cases c10 : ((rd_T46 l0 (ji7)).f0) = a1_0
     ·
      rw [if_pos c10] at H
      have c10b0 : (((rd_T46 l0 (ji7)).f0) == a1_0) = true := beq_iff_eq.mpr c10
      have c10b1 : (((rd_T46 l0 (ji7)).f0) != a1_0) = false := bne_eq_false_iff_eq.mpr c10
      clear c10
      obtain ⟨y399, hy399⟩ : ∃ y_ : List (S46), y_ = (l0.set ((ji7) : Int).toNat (⟨(rd_T46 l0 (ji7)).f0, wrap64 (((rd_T46 l0 (ji7)).f1) + a1_1)⟩ : S46)) := ⟨_, rfl⟩
      replace H : (some y399) = some r := by first | (rw [hy399]; with_reducible exact H) | (have H2_ := (Option.bind_some _ _).symm.trans H; rw [hy399]; with_reducible exact H2_) | (have H2_ := (Option.bind_some _ _).symm.trans H; with_reducible exact H2_) | with_reducible exact H | (rw [hy399]; exact H) | exact H
      have Ny399 := Aside0.mk hy399
      clear hy399
      obtain rfl := Option.some.inj H
      go_enter Try.func36, Try.ntmps36
      try go_wp2_with (first | ((with_reducible refine gate_dst (N := 3) rfl ?_); refine box_event ?hg (N := 3) ?hd (cs := #[.int .i64 a1_0, .int .i64 a1_1]) (t := 46) ?hr ?_; (case hd => rfl); (case hg => rfl); (case hr => first | (go_simp; done) | (go_simp; rfl)); intro gb396 hg w12 hbox hb; have n0_ := Aside0.mk (Kd.R_below (Kd.R_elderB (rq HO0.out) gb396 (Nat.le_of_eq hg.symm)) hb); have n1_ := Aside0.mk (Kept.below (S := (fun k_ => P0_ k_)) (by repeat (first | (with_reducible first | exact HK.out | apply Kept.alloc | apply Kept.drewN | apply Kept.drew) | exact HK.out)) hb); have n2_ := Aside0.mk (below_step (bs HB.out) hb); have n3_ := Aside0.mk (hbox); have n4_ := Aside0.mk ((by rw [hg]; exact (by first | exact HK.out.1 | exact (show Kept w _ (fun k_ => P0_ k_) from by repeat (first | (with_reducible first | exact HK.out | apply Kept.alloc | apply Kept.drewN | apply Kept.drew) | exact HK.out)).1) : w.heap.size ≤ gb396)); have n5_ := Aside0.mk ((by rw [hg]; exact (below_size (bs HB.out)) : w0.heap.size ≤ gb396)); clear HO0; clear HK; clear HB; have HO0 := n0_; have HK := n1_; have HB := n2_; have BK396 := n3_; have GW396 := n4_; have GE396 := n5_; clear n0_ n1_ n2_ n3_ n4_ n5_; clear hb hbox hg; obtain ⟨hcz13_0, hcz13_1⟩ := bc2 BK396.out; obtain ⟨hfz13_0, hfz13_1⟩ := bf2 BK396.out; obtain ⟨Ao14, co14, eo14⟩ := Kd.R_slice HO0.out; subst eo14))
      have n0_ := Aside0.mk (Kd.R_drew HO0.out)
      have n1_ := Aside0.mk (blk_drew BK396.out)
      have n2_ := Aside0.mk (Kept.drew HK.out)
      have n3_ := Aside0.mk (below_drew1 HB.out)
      clear HO0
      clear BK396
      clear HK
      clear HB
      have HO0 := n0_
      have BK396 := n1_
      have HK := n2_
      have HB := n3_
      clear n0_ n1_ n2_ n3_
      have p397 : 0 ≤ ((ji7) : Int) := of_decide_eq_true (by first | (with_reducible assumption) | assumption)
      have q397 : (ji7) < (l0.length : Int) := of_decide_eq_true (by first | (with_reducible assumption) | assumption)
      obtain ⟨ad397, e397, hx397_0, hx397_1⟩ := at_T46 (Kd.R_reads' HO0.out).2.2 (ji7) p397 q397
      cases e397
      replace p397 := eq_true p397
      replace q397 := eq_true q397
      refine start_ (n := 13) (S := fun w' => w'.cell? ⟨gb396, 0, none⟩ = some (.int .i64 a1_0) ∧ w'.cell? ⟨gb396, 1, none⟩ = some (.int .i64 a1_1) ∧ w'.cell? (ad397.add (((ji7)).toNat * 2)) = some (.int .i64 ((rd_T46 l0 (ji7)).f0)) ∧ w'.cell? ⟨(ad397.add (((ji7)).toNat * 2)).block, (ad397.add (((ji7)).toNat * 2)).off + 1, none⟩ = some (.int .i64 ((rd_T46 l0 (ji7)).f1))) (ds := []) (bsq 0 13) (by kernel_rfl) rfl rfl ⟨(blk_cell BK396.out 0).trans rfl, (blk_cell BK396.out 1).trans rfl, hx397_0, hx397_1⟩ (fun hHeld => ?_); refine with_tabW signalbenchref09_put.tab4 signalbenchref09_put.bits4 (fun HT_ HW_ => ?_)
      generalize w12.drew = w15 at HO0 BK396 HK HB hx397_0 hx397_1 hHeld ⊢
      refine pu 0 12 (bsq 1 12) ?_
      refine pu 1 13 (bsq 2 11) ?_
      refine pu 2 14 (bsq 3 10) ?_
      refine pu 3 15 (bsq 4 9) ?_
      refine pu 4 16 (bsq 5 8) ?_
      refine pu 5 17 (bsq 6 7) ?_
      refine pu 6 18 (bsq 7 6) ?_
      refine pu 7 19 (bsq 8 5) ?_
      refine pu 9 21 (bls [8, 1, 1, 3]) ?_
      refine tk 8 20 (bsq 10 3) hHeld ?_ (he := by rintro w' ⟨s0, s1, s2, s3⟩; go_simp; with_reducible rfl)
      refine tk 10 22 (bsq 11 2) hHeld ?_ (he := by rintro w' ⟨s0, s1, s2, s3⟩; go_simp; with_reducible rfl)
      refine pu 11 23 (bsq 12 1) ?_
      refine pu 12 24 (bsq 13 0) ?_
      refine done_ (done_of HT_.out (by kernel_rfl)) ?_
      try go_wp2
      have n0_ := Aside0.mk (Kd.R_drew HO0.out)
      have n1_ := Aside0.mk (blk_drew BK396.out)
      have n2_ := Aside0.mk (Kept.drew HK.out)
      have n3_ := Aside0.mk (below_drew1 HB.out)
      clear HO0
      clear BK396
      clear HK
      clear HB
      have HO0 := n0_
      have BK396 := n1_
      have HK := n2_
      have HB := n3_
      clear n0_ n1_ n2_ n3_
      have p398 : 0 ≤ ((ji7) : Int) := of_decide_eq_true (by first | (with_reducible assumption) | assumption)
      have q398 : (ji7) < (l0.length : Int) := of_decide_eq_true (by first | (with_reducible assumption) | assumption)
      obtain ⟨ad398, e398, hx398_0, hx398_1⟩ := at_T46 (Kd.R_reads' HO0.out).2.2 (ji7) p398 q398
      obtain rfl : ad397 = ad398 := (by injection e398)
      replace p398 := eq_true p398
      replace q398 := eq_true q398
      have p11 : 0 ≤ ((ji7) : Int) := of_decide_eq_true (by first | (with_reducible assumption) | assumption)
      have q11 : ((ji7) : Int) < ((l0.length : Int) : Int) := of_decide_eq_true (by first | (with_reducible assumption) | assumption)
      obtain ⟨go11, co11, eo11, gb11, gl11, cl11, HG11⟩ := Kd.R_form HO0.out (by omega)
      (first | cases eo11 | (injection eo11 with ea_ en_ ec_; (first | subst ea_ | (injection ea_ with ea_; subst ea_)); subst ec_; clear en_))
      have GB11 := Aside0.mk gb11
      have GG11 := Aside0.mk HG11
      clear gb11 gl11 HG11
      have HMgo11 := Aside0.mk (show (P0_ go11 ∨ w.heap.size ≤ go11) from (HO0.out.1 _ rfl).1)
      (first | simp only [add_plain] at hx397_0 | skip)
      (first | simp only [add_plain] at hx397_1 | skip)
      (first | simp only [add_plain] at hx398_0 | skip)
      (first | simp only [add_plain] at hx398_1 | skip)
      obtain ⟨ce11, hcl11, hM11, hcc11, hfr11⟩ := Kd.R_elem HO0.out z46 ((ji7) : Int) p11 q11
      obtain rfl := k46_openM hM11
      have hx11_0 : World.cell? _ ⟨go11, ((ji7) : Int).toNat * 2, none⟩ = some (.int .i64 ((rd_T46 l0 (ji7)).f0)) := hcc11 0 _ rfl
      have hx11_1 : World.cell? _ ⟨go11, ((ji7) : Int).toNat * 2 + 1, none⟩ = some (.int .i64 ((rd_T46 l0 (ji7)).f1)) := hcc11 1 _ rfl
      have hf11_0 : World.frozen? _ ⟨go11, ((ji7) : Int).toNat * 2, none⟩ = false := hfr11 0
      have hf11_1 : World.frozen? _ ⟨go11, ((ji7) : Int).toNat * 2 + 1, none⟩ = false := hfr11 1
      clear hcl11 hcc11 hfr11; (try clear hM11)
      replace p11 := eq_true p11
      replace q11 := eq_true q11
      obtain ⟨ce17, hcl17, hM17, hcc17, hfr17⟩ := Kd.R_elem HO0.out z46 ((ji7) : Int) (of_decide_eq_true (by first | (with_reducible assumption) | assumption)) (by have h_ : ((ji7) : Int) < ((l0.length : Int) : Int) := of_decide_eq_true (by first | (with_reducible assumption) | assumption); first | exact h_ | (have e_ := (Kd.R_reads' HO0.out).1; omega) | simpa using h_)
      obtain rfl := k46_openM hM17
      have HP17 := (Kd.R_seg HO0.out ((ji7) : Int) (of_decide_eq_true (by first | (with_reducible assumption) | assumption)) (by have h_ : ((ji7) : Int) < ((l0.length : Int) : Int) := of_decide_eq_true (by first | (with_reducible assumption) | assumption); first | exact h_ | (have e_ := (Kd.R_reads' HO0.out).1; omega) | simpa using h_) (seg := [.int .i64 (wrap64 (((rd_T46 l0 (ji7)).f1) + a1_1))]) (j := 1) hcl17 hcc17 (show 2 ≤ 2 from by decide) (x' := (⟨(rd_T46 l0 (ji7)).f0, wrap64 (((rd_T46 l0 (ji7)).f1) + a1_1)⟩ : S46)) (k46_mkM _ _ _ (⟨(rd_T46 l0 (ji7)).f0, wrap64 (((rd_T46 l0 (ji7)).f1) + a1_1)⟩ : S46) ) (fun _ hk => hk)).1
      rw [← Ny399.out] at HP17
      have HQ17 := Aside0.mk HP17
      clear hcl17 hcc17 hfr17 HP17; (try clear hM17)
      refine start_ (n := 15) (S := fun w' => w'.cell? ⟨gb396, 0, none⟩ = some (.int .i64 a1_0) ∧ w'.cell? ⟨gb396, 1, none⟩ = some (.int .i64 a1_1) ∧ w'.cell? ⟨go11, ((ji7)).toNat * 2, none⟩ = some (.int .i64 ((rd_T46 l0 (ji7)).f0)) ∧ w'.cell? ⟨go11, ((ji7)).toNat * 2 + 1, none⟩ = some (.int .i64 ((rd_T46 l0 (ji7)).f1))) (ds := [14]) (bsq 0 15) (by kernel_rfl) rfl rfl ⟨(blk_cell BK396.out 0).trans rfl, (blk_cell BK396.out 1).trans rfl, hx398_0, hx398_1⟩ (fun hHeld => ?_); refine with_tabW signalbenchref09_put.tab5 signalbenchref09_put.bits5 (fun HT_ HW_ => ?_)
      generalize w15.drew = w16 at HO0 BK396 HK HB GG11 HQ17 hf11_0 hf11_1 hx11_0 hx11_1 hx397_0 hx397_1 hx398_0 hx398_1 hHeld ⊢
      refine pu 0 25 (bsq 1 14) ?_
      refine pu 1 26 (bsq 2 13) ?_
      refine pu 2 27 (bsq 3 12) ?_
      refine pu 3 28 (bsq 4 11) ?_
      refine pu 4 29 (bsq 5 10) ?_
      refine pu 5 30 (bsq 6 9) ?_
      refine pu 6 31 (bsq 7 8) ?_
      refine pu 7 32 (bsq 8 7) ?_
      refine pu 9 34 (bls [8, 1, 1, 5]) ?_
      refine tk 8 33 (bsq 10 5) hHeld ?_ (he := by rintro w' ⟨s0, s1, s2, s3⟩; go_simp; with_reducible rfl)
      refine tk 10 35 (bsq 11 4) hHeld ?_ (he := by rintro w' ⟨s0, s1, s2, s3⟩; go_simp; with_reducible rfl)
      refine pu 11 36 (bsq 12 3) ?_
      refine pu 12 37 (bsq 13 2) ?_
      refine pu 13 38 (bsq 14 1) ?_
      refine last_ (i := 14) (N := none) (bsq 15 0) rfl rfl (one_of HT_.out (by kernel_rfl)) (by decide) (fun K hK => ?_)
      refine skip_ (w1 := ?_) (by rfl) rfl ?_ ?_
      rotate_left
      ·
       go_simp
       rfl
      refine hK.out _ _ ?_
      clear hK K
      refine done_ (done_of HT_.out (by kernel_rfl)) ?_
      try go_wp2
      go_ret
      exact ⟨_, by first | rfl | (simp [errW_none, errW_some] <;> rfl) | (simp only [← hji7]; first | rfl | (simp [errW_none, errW_some] <;> rfl)) | (simp [*, errW_none, errW_some] <;> rfl), by (with_reducible repeat (first | apply Kd.R_alloc | apply Kd.R_drewN | apply Kd.R_drew)); exact Kd.R_mono HQ17.out (fun _ hk => hk.1), by repeat (first | (with_reducible first | exact HB.out | apply below_alloc | apply pw_below_drewN | apply below_drew1 | refine below_set ?_ GB11.out | refine below_set ?_ GE396.out) | exact HB.out), by repeat (first | (with_reducible first | exact HK.out | apply Kept.alloc | apply Kept.drewN | apply Kept.drew | refine Kept.setCell ?_ HMgo11.out _ | refine Kept.setCell ?_ (.inr GW396.out) _) | exact HK.out)⟩
     ·
      rw [if_neg c10] at H
      have c10b0 : (((rd_T46 l0 (ji7)).f0) == a1_0) = false := beq_eq_false_iff_ne.mpr c10
      have c10b1 : (((rd_T46 l0 (ji7)).f0) != a1_0) = true := bne_iff_ne.mpr c10
      by_cases c18 : l0.length < 8796093022208
      ·
       rw [if_pos c18] at H
       have LMc18 := Aside0.mk c18
       clear c18
       obtain ⟨y400, hy400⟩ : ∃ y_ : List (S46), y_ = (l0 ++ [(⟨a1_0, a1_1⟩ : S46)]) := ⟨_, rfl⟩
       replace H : (some y400) = some r := by first | (rw [hy400]; with_reducible exact H) | (have H2_ := (Option.bind_some _ _).symm.trans H; rw [hy400]; with_reducible exact H2_) | (have H2_ := (Option.bind_some _ _).symm.trans H; with_reducible exact H2_) | with_reducible exact H | (rw [hy400]; exact H) | exact H
       have Ny400 := Aside0.mk hy400
       clear hy400
       obtain rfl := Option.some.inj H
       go_enter Try.func36, Try.ntmps36
       try go_wp2_with (first | ((with_reducible refine gate_dst (N := 3) rfl ?_); refine box_event ?hg (N := 3) ?hd (cs := #[.int .i64 a1_0, .int .i64 a1_1]) (t := 46) ?hr ?_; (case hd => rfl); (case hg => rfl); (case hr => first | (go_simp; done) | (go_simp; rfl)); intro gb396 hg w19 hbox hb; have n0_ := Aside0.mk (Kd.R_below (Kd.R_elderB (rq HO0.out) gb396 (Nat.le_of_eq hg.symm)) hb); have n1_ := Aside0.mk (Kept.below (S := (fun k_ => P0_ k_)) (by repeat (first | (with_reducible first | exact HK.out | apply Kept.alloc | apply Kept.drewN | apply Kept.drew) | exact HK.out)) hb); have n2_ := Aside0.mk (below_step (bs HB.out) hb); have n3_ := Aside0.mk (hbox); have n4_ := Aside0.mk ((by rw [hg]; exact (by first | exact HK.out.1 | exact (show Kept w _ (fun k_ => P0_ k_) from by repeat (first | (with_reducible first | exact HK.out | apply Kept.alloc | apply Kept.drewN | apply Kept.drew) | exact HK.out)).1) : w.heap.size ≤ gb396)); have n5_ := Aside0.mk ((by rw [hg]; exact (below_size (bs HB.out)) : w0.heap.size ≤ gb396)); clear HO0; clear HK; clear HB; have HO0 := n0_; have HK := n1_; have HB := n2_; have BK396 := n3_; have GW396 := n4_; have GE396 := n5_; clear n0_ n1_ n2_ n3_ n4_ n5_; clear hb hbox hg; obtain ⟨hcz20_0, hcz20_1⟩ := bc2 BK396.out; obtain ⟨hfz20_0, hfz20_1⟩ := bf2 BK396.out; obtain ⟨Ao21, co21, eo21⟩ := Kd.R_slice HO0.out; subst eo21))
       have n0_ := Aside0.mk (Kd.R_drew HO0.out)
       have n1_ := Aside0.mk (blk_drew BK396.out)
       have n2_ := Aside0.mk (Kept.drew HK.out)
       have n3_ := Aside0.mk (below_drew1 HB.out)
       clear HO0
       clear BK396
       clear HK
       clear HB
       have HO0 := n0_
       have BK396 := n1_
       have HK := n2_
       have HB := n3_
       clear n0_ n1_ n2_ n3_
       have p397 : 0 ≤ ((ji7) : Int) := of_decide_eq_true (by first | (with_reducible assumption) | assumption)
       have q397 : (ji7) < (l0.length : Int) := of_decide_eq_true (by first | (with_reducible assumption) | assumption)
       obtain ⟨ad397, e397, hx397_0, hx397_1⟩ := at_T46 (Kd.R_reads' HO0.out).2.2 (ji7) p397 q397
       cases e397
       replace p397 := eq_true p397
       replace q397 := eq_true q397
       refine start_ (n := 13) (S := fun w' => w'.cell? ⟨gb396, 0, none⟩ = some (.int .i64 a1_0) ∧ w'.cell? ⟨gb396, 1, none⟩ = some (.int .i64 a1_1) ∧ w'.cell? (ad397.add (((ji7)).toNat * 2)) = some (.int .i64 ((rd_T46 l0 (ji7)).f0)) ∧ w'.cell? ⟨(ad397.add (((ji7)).toNat * 2)).block, (ad397.add (((ji7)).toNat * 2)).off + 1, none⟩ = some (.int .i64 ((rd_T46 l0 (ji7)).f1))) (ds := []) (bsq 0 13) (by kernel_rfl) rfl rfl ⟨(blk_cell BK396.out 0).trans rfl, (blk_cell BK396.out 1).trans rfl, hx397_0, hx397_1⟩ (fun hHeld => ?_); refine with_tabW signalbenchref09_put.tab4 signalbenchref09_put.bits4 (fun HT_ HW_ => ?_)
       generalize w19.drew = w22 at HO0 BK396 HK HB hx397_0 hx397_1 hHeld ⊢
       refine pu 0 12 (bsq 1 12) ?_
       refine pu 1 13 (bsq 2 11) ?_
       refine pu 2 14 (bsq 3 10) ?_
       refine pu 3 15 (bsq 4 9) ?_
       refine pu 4 16 (bsq 5 8) ?_
       refine pu 5 17 (bsq 6 7) ?_
       refine pu 6 18 (bsq 7 6) ?_
       refine pu 7 19 (bsq 8 5) ?_
       refine pu 9 21 (bls [8, 1, 1, 3]) ?_
       refine tk 8 20 (bsq 10 3) hHeld ?_ (he := by rintro w' ⟨s0, s1, s2, s3⟩; go_simp; with_reducible rfl)
       refine tk 10 22 (bsq 11 2) hHeld ?_ (he := by rintro w' ⟨s0, s1, s2, s3⟩; go_simp; with_reducible rfl)
       refine pu 11 23 (bsq 12 1) ?_
       refine pu 12 24 (bsq 13 0) ?_
       refine done_ (done_of HT_.out (by kernel_rfl)) ?_
       obtain ⟨hcz23_0, hcz23_1⟩ := bc2 BK396.out
       obtain ⟨hfz23_0, hfz23_1⟩ := bf2 BK396.out
       try go_wp2_with (first | ((with_reducible refine gate_builtin (b := .append) (xs := #[.tmp 40, .tmp 42]) rfl ?_); at_builtin; refine Kd.R_append k46 (w0 := w0) w0.heap.size rfl (.tmp 40) (.tmp 42) 23 46 (.agg #[(.int .i64 0), (.int .i64 0)]) 16 rfl Try.underlying23 info46 rfl (by decide) (by omega) (.slice (some ad397) l0.length co21) l0 (⟨a1_0, a1_1⟩ : S46) [.int .i64 a1_0, .int .i64 a1_1] (fun k_ => (P0_ k_ ∨ w.heap.size ≤ k_) ∧ k_ ≠ gb396) (fun _ => False) rfl rfl ?aP (fun _ hk => hk.elim) ?aF ?aO ?aB ?aS ?aL ?_; (case aP => exact k46_mkM _ _ _ (⟨a1_0, a1_1⟩ : S46)); (case aB => exact (bs HB.out)); (case aF => exact (fun k_ hk => ⟨(.inr (Nat.le_trans (by first | exact HK.out.1 | exact (show Kept w _ (fun k_ => P0_ k_) from by repeat (first | (with_reducible first | exact HK.out | apply Kept.alloc | apply Kept.drewN | apply Kept.drew | refine Kept.setCell ?_ (.inr GW396.out) _) | exact HK.out)).1) hk)), Kd.freshB (g := gb396) (o := .cells #[.int .i64 a1_0, .int .i64 a1_1] 46 (0, 0)) (bg BK396.out) k_ hk⟩)); (case aO => exact (rq HO0.out)); (case aS => exact (below_size (bs HB.out))); (case aL => have := LMc18.out; omega); intro v401 w24 ho hb hg hat; rw [← Ny400.out] at ho; have n0_ := Aside0.mk (blk_grown (g := gb396) (o := .cells #[.int .i64 a1_0, .int .i64 a1_1] 46 (0, 0)) (bg BK396.out) hg (Kd.R_away HO0.out (fun _ hk => hk.2))); have n1_ := Aside0.mk (hb); have n2_ := Aside0.mk (Kept.of_grown (S := (fun k_ => P0_ k_)) hg (by repeat (first | (with_reducible first | exact HK.out | apply Kept.alloc | apply Kept.drewN | apply Kept.drew | refine Kept.setCell ?_ (.inr GW396.out) _) | exact HK.out)) (fun k_ e_ => (HO0.out.1 k_ e_).1)); have n3_ := Aside0.mk (ho); clear BK396; clear HB; clear HK; clear HO0; have BK396 := n0_; have HB := n1_; have HK := n2_; have HO402 := n3_; clear n0_ n1_ n2_ n3_; clear ho hb hg hat))
       go_ret
       exact ⟨_, by first | rfl | (simp [errW_none, errW_some] <;> rfl) | (simp only [← hji7]; first | rfl | (simp [errW_none, errW_some] <;> rfl)) | (simp [*, errW_none, errW_some] <;> rfl), by (with_reducible repeat (first | apply Kd.R_alloc | apply Kd.R_drewN | apply Kd.R_drew)); exact Kd.R_mono HO402.out (fun _ hk => hk.1), bs HB.out, by repeat (first | (with_reducible first | exact HK.out | apply Kept.alloc | apply Kept.drewN | apply Kept.drew | refine Kept.setCell ?_ (.inr GW396.out) _) | exact HK.out)⟩
      ·
       rw [if_neg c18] at H
       exact absurd H (by simp)
    ·
     rw [if_neg c9] at H
     exact absurd H (by simp)
   ·
    rw [if_neg c8] at H
    exact absurd H (by simp)
  ·
   rw [if_neg c6] at H
   have c6b0 : decide (0 < (l0.length : Int)) = false := decide_eq_false c6
   have c6b1 : decide (0 < l0.length) = false := decide_eq_false (by omega)
   clear c6
   by_cases c25 : l0.length < 8796093022208
   ·
    rw [if_pos c25] at H
    have LMc25 := Aside0.mk c25
    clear c25
    obtain ⟨y403, hy403⟩ : ∃ y_ : List (S46), y_ = (l0 ++ [(⟨a1_0, a1_1⟩ : S46)]) := ⟨_, rfl⟩
    replace H : (some y403) = some r := by first | (rw [hy403]; with_reducible exact H) | (have H2_ := (Option.bind_some _ _).symm.trans H; rw [hy403]; with_reducible exact H2_) | (have H2_ := (Option.bind_some _ _).symm.trans H; with_reducible exact H2_) | with_reducible exact H | (rw [hy403]; exact H) | exact H
    have Ny403 := Aside0.mk hy403
    clear hy403
    obtain rfl := Option.some.inj H
    go_enter Try.func36, Try.ntmps36
    try go_wp2_with (first | ((with_reducible refine gate_dst (N := 3) rfl ?_); refine box_event ?hg (N := 3) ?hd (cs := #[.int .i64 a1_0, .int .i64 a1_1]) (t := 46) ?hr ?_; (case hd => rfl); (case hg => rfl); (case hr => first | (go_simp; done) | (go_simp; rfl)); intro gb396 hg w26 hbox hb; have n0_ := Aside0.mk (Kd.R_below (Kd.R_elderB (rq HO0.out) gb396 (Nat.le_of_eq hg.symm)) hb); have n1_ := Aside0.mk (Kept.below (S := (fun k_ => P0_ k_)) (by repeat (first | (with_reducible first | exact HK.out | apply Kept.alloc | apply Kept.drewN | apply Kept.drew) | exact HK.out)) hb); have n2_ := Aside0.mk (below_step (bs HB.out) hb); have n3_ := Aside0.mk (hbox); have n4_ := Aside0.mk ((by rw [hg]; exact (by first | exact HK.out.1 | exact (show Kept w _ (fun k_ => P0_ k_) from by repeat (first | (with_reducible first | exact HK.out | apply Kept.alloc | apply Kept.drewN | apply Kept.drew) | exact HK.out)).1) : w.heap.size ≤ gb396)); have n5_ := Aside0.mk ((by rw [hg]; exact (below_size (bs HB.out)) : w0.heap.size ≤ gb396)); clear HO0; clear HK; clear HB; have HO0 := n0_; have HK := n1_; have HB := n2_; have BK396 := n3_; have GW396 := n4_; have GE396 := n5_; clear n0_ n1_ n2_ n3_ n4_ n5_; clear hb hbox hg; obtain ⟨hcz27_0, hcz27_1⟩ := bc2 BK396.out; obtain ⟨hfz27_0, hfz27_1⟩ := bf2 BK396.out; obtain ⟨Ao28, co28, eo28⟩ := Kd.R_slice HO0.out; subst eo28))
    have n0_ := Aside0.mk (Kd.R_drew HO0.out)
    have n1_ := Aside0.mk (blk_drew BK396.out)
    have n2_ := Aside0.mk (Kept.drew HK.out)
    have n3_ := Aside0.mk (below_drew1 HB.out)
    clear HO0
    clear BK396
    clear HK
    clear HB
    have HO0 := n0_
    have BK396 := n1_
    have HK := n2_
    have HB := n3_
    clear n0_ n1_ n2_ n3_
    refine start_ (n := 13) (S := fun w' => True) (ds := []) (bsq 0 13) (by kernel_rfl) rfl rfl trivial (fun hHeld => ?_); refine with_tabW signalbenchref09_put.tab4 signalbenchref09_put.bits4 (fun HT_ HW_ => ?_)
    generalize w26.drew = w29 at HO0 BK396 HK HB hHeld ⊢
    refine pu 0 12 (bsq 1 12) ?_
    refine pu 1 13 (bsq 2 11) ?_
    refine pu 2 14 (bsq 3 10) ?_
    refine un 3 15 (bsq 4 9) ?_
    refine un 4 16 (bsq 5 8) ?_
    refine un 5 17 (bsq 6 7) ?_
    refine un 6 18 (bsq 7 6) ?_
    refine un 7 19 (bsq 8 5) ?_
    refine un 8 20 (bsq 9 4) ?_
    refine un 9 21 (bsq 10 3) ?_
    refine un 10 22 (bsq 11 2) ?_
    refine un 11 23 (bsq 12 1) ?_
    refine pu 12 24 (bsq 13 0) ?_
    refine done_ (done_of HT_.out (by kernel_rfl)) ?_
    obtain ⟨hcz30_0, hcz30_1⟩ := bc2 BK396.out
    obtain ⟨hfz30_0, hfz30_1⟩ := bf2 BK396.out
    try go_wp2_with (first | ((with_reducible refine gate_builtin (b := .append) (xs := #[.tmp 40, .tmp 42]) rfl ?_); at_builtin; refine Kd.R_append k46 (w0 := w0) w0.heap.size rfl (.tmp 40) (.tmp 42) 23 46 (.agg #[(.int .i64 0), (.int .i64 0)]) 16 rfl Try.underlying23 info46 rfl (by decide) (by omega) (.slice Ao28 l0.length co28) l0 (⟨a1_0, a1_1⟩ : S46) [.int .i64 a1_0, .int .i64 a1_1] (fun k_ => (P0_ k_ ∨ w.heap.size ≤ k_) ∧ k_ ≠ gb396) (fun _ => False) rfl rfl ?aP (fun _ hk => hk.elim) ?aF ?aO ?aB ?aS ?aL ?_; (case aP => exact k46_mkM _ _ _ (⟨a1_0, a1_1⟩ : S46)); (case aB => exact (bs HB.out)); (case aF => exact (fun k_ hk => ⟨(.inr (Nat.le_trans (by first | exact HK.out.1 | exact (show Kept w _ (fun k_ => P0_ k_) from by repeat (first | (with_reducible first | exact HK.out | apply Kept.alloc | apply Kept.drewN | apply Kept.drew | refine Kept.setCell ?_ (.inr GW396.out) _) | exact HK.out)).1) hk)), Kd.freshB (g := gb396) (o := .cells #[.int .i64 a1_0, .int .i64 a1_1] 46 (0, 0)) (bg BK396.out) k_ hk⟩)); (case aO => exact (rq HO0.out)); (case aS => exact (below_size (bs HB.out))); (case aL => have := LMc25.out; omega); intro v404 w31 ho hb hg hat; rw [← Ny403.out] at ho; have n0_ := Aside0.mk (blk_grown (g := gb396) (o := .cells #[.int .i64 a1_0, .int .i64 a1_1] 46 (0, 0)) (bg BK396.out) hg (Kd.R_away HO0.out (fun _ hk => hk.2))); have n1_ := Aside0.mk (hb); have n2_ := Aside0.mk (Kept.of_grown (S := (fun k_ => P0_ k_)) hg (by repeat (first | (with_reducible first | exact HK.out | apply Kept.alloc | apply Kept.drewN | apply Kept.drew | refine Kept.setCell ?_ (.inr GW396.out) _) | exact HK.out)) (fun k_ e_ => (HO0.out.1 k_ e_).1)); have n3_ := Aside0.mk (ho); clear BK396; clear HB; clear HK; clear HO0; have BK396 := n0_; have HB := n1_; have HK := n2_; have HO405 := n3_; clear n0_ n1_ n2_ n3_; clear ho hb hg hat))
    go_ret
    exact ⟨_, by first | rfl | (simp [errW_none, errW_some] <;> rfl) | (simp [*, errW_none, errW_some] <;> rfl), by (with_reducible repeat (first | apply Kd.R_alloc | apply Kd.R_drewN | apply Kd.R_drew)); exact Kd.R_mono HO405.out (fun _ hk => hk.1), bs HB.out, by repeat (first | (with_reducible first | exact HK.out | apply Kept.alloc | apply Kept.drewN | apply Kept.drew | refine Kept.setCell ?_ (.inr GW396.out) _) | exact HK.out)⟩
   ·
    rw [if_neg c25] at H
    exact absurd H (by simp)

end Go.Proofs.Ytioedeglgljblaa.H
