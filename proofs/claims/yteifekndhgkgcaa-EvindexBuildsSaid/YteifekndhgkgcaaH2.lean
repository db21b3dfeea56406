-- Printed by wip/hprint.py (this project's own driver of the kit's print) out of the translation; Lean checks it.
import Derived.Test.YteifekndhgkgcaaH0
import Derived.Test.YteifekndhgkgcaaH1
import Derived.Test.YteifekndhgkgcaaHBld
import Derived.Test.YteifekndhgkgcaaHCand
import Derived.Test.YteifekndhgkgcaaHChk
namespace Go.Proofs.Yteifekndhgkgcaa.H
open Go.RowKit Go.Proofs.YteifekndhgkgcaaW.PrintWords Go.Proofs.YteifekndhgkgcaaW.PrintLast Go.Proofs.YteifekndhgkgcaaW.PrintMore
attribute [local go_sem] max2_int min2_int max_two min_two max_three min_three max_four min_four   -- for this text's walks alone
set_option linter.unusedVariables false
set_option linter.unusedSimpArgs false

/-! ### signalbenchlaw46_awake: function 9 -/
def signalbenchlaw46_awake.j0 : Nat → List Int → Bool → Int → List (S43) → Option (Bool)
 | 0, _, _, _, _ => none
 | k + 1, x3, x47, x120000, x120001 => if x47 = true then (some false) else (if 0 < (x120001.length : Int) then (if ((rd_T43 x120001 0).f0) = 0 then (if ((rd_T43 x120001 0).f1) = 5 then (if 0 < (((rd_T43 x120001 0).f2).length : Int) then (if (rd ((rd_T43 x120001 0).f2) 0) = 1 then (if 1 < (x120001.length : Int) then (if 1 < (((rd_T43 x120001 1).f2).length : Int) then (if (rd ((rd_T43 x120001 1).f2) 1) = 2 then (if 1 < (x3.length : Int) then (if (rd x3 1) = 2 then ((evindex_Check.f k x120000 x120001).bind fun t132 => (if t132 = 0 then ((evindex_Next.f k x120000 x120001 1 3 1).bind fun t133 => (if t133 = 2 then ((evindex_Next.f k x120000 x120001 1 3 3).bind fun t134 => (some (t134 == (-1)))) else (some false))) else (some false))) else (some false)) else (none)) else (some false)) else (none)) else (none)) else (some false)) else (none)) else (some false)) else (some false)) else (none))
def signalbenchlaw46_awake.f (k : Nat)  : Option (Bool) := (evindex_Build.f (([(⟨1, 0, (⟨3, 0, 0, 0, 0, (⟨#[]⟩ : ByteArray), 0⟩ : S45)⟩ : S47), (⟨0, 0, (⟨5, 0, 0, 0, 0, (⟨#[]⟩ : ByteArray), 0⟩ : S45)⟩ : S47), (⟨1, 0, (⟨3, 0, 0, 0, 0, (⟨#[]⟩ : ByteArray), 0⟩ : S45)⟩ : S47)] : List (S47)))).bind fun bt115 => ((evindex_Candidates.f k bt115.1 bt115.2 1 0 0 0 0).bind fun t120 => (if bt115.1 = 3 then (if (bt115.2.length : Int) = 2 then (if 0 < (bt115.2.length : Int) then (if (((rd_T43 bt115.2 0).f2).length : Int) = 1 then (if 1 < (bt115.2.length : Int) then (if (((rd_T43 bt115.2 1).f2).length : Int) = 2 then (signalbenchlaw46_awake.j0 k t120 ((t120.length : Int) != 2) bt115.1 bt115.2) else (signalbenchlaw46_awake.j0 k t120 true bt115.1 bt115.2)) else (none)) else (signalbenchlaw46_awake.j0 k t120 true bt115.1 bt115.2)) else (none)) else (signalbenchlaw46_awake.j0 k t120 true bt115.1 bt115.2)) else (signalbenchlaw46_awake.j0 k t120 true bt115.1 bt115.2)))
set_option maxHeartbeats 8000000 in
set_option maxRecDepth 100000 in
theorem signalbenchlaw46_awake.calls (k : Nat)  (r : Bool) (w : World) (h : signalbenchlaw46_awake.f k  = some r) :
  Calls Try.prog 9 #[] w fun e w' => e = .returned (.bool r) ∧ Below w.heap.size w w' := by
 have hu45 := Try.underlying45
 have hu47 := Try.underlying47
 have hu27 := Try.underlying27
 have hu34 := Try.underlying34
 have HB := Aside0.mk (Below.refl w.heap.size w)
 have H : ((evindex_Build.f (([(⟨1, 0, (⟨3, 0, 0, 0, 0, (⟨#[]⟩ : ByteArray), 0⟩ : S45)⟩ : S47), (⟨0, 0, (⟨5, 0, 0, 0, 0, (⟨#[]⟩ : ByteArray), 0⟩ : S45)⟩ : S47), (⟨1, 0, (⟨3, 0, 0, 0, 0, (⟨#[]⟩ : ByteArray), 0⟩ : S45)⟩ : S47)] : List (S47)))).bind fun bt115 => ((evindex_Candidates.f k bt115.1 bt115.2 1 0 0 0 0).bind fun t120 => (if bt115.1 = 3 then (if (bt115.2.length : Int) = 2 then (if 0 < (bt115.2.length : Int) then (if (((rd_T43 bt115.2 0).f2).length : Int) = 1 then (if 1 < (bt115.2.length : Int) then (if (((rd_T43 bt115.2 1).f2).length : Int) = 2 then (signalbenchlaw46_awake.j0 k t120 ((t120.length : Int) != 2) bt115.1 bt115.2) else (signalbenchlaw46_awake.j0 k t120 true bt115.1 bt115.2)) else (none)) else (signalbenchlaw46_awake.j0 k t120 true bt115.1 bt115.2)) else (none)) else (signalbenchlaw46_awake.j0 k t120 true bt115.1 bt115.2)) else (signalbenchlaw46_awake.j0 k t120 true bt115.1 bt115.2)))) = some r := h
 clear h
 obtain ⟨y112, hy112⟩ : ∃ y_ : List (S47), y_ = (([(⟨1, 0, (⟨3, 0, 0, 0, 0, (⟨#[]⟩ : ByteArray), 0⟩ : S45)⟩ : S47), (⟨0, 0, (⟨5, 0, 0, 0, 0, (⟨#[]⟩ : ByteArray), 0⟩ : S45)⟩ : S47), (⟨1, 0, (⟨3, 0, 0, 0, 0, (⟨#[]⟩ : ByteArray), 0⟩ : S45)⟩ : S47)] : List (S47))) := ⟨_, rfl⟩
 replace H : ((evindex_Build.f y112).bind fun bt115 => ((evindex_Candidates.f k bt115.1 bt115.2 1 0 0 0 0).bind fun t120 => (if bt115.1 = 3 then (if (bt115.2.length : Int) = 2 then (if 0 < (bt115.2.length : Int) then (if (((rd_T43 bt115.2 0).f2).length : Int) = 1 then (if 1 < (bt115.2.length : Int) then (if (((rd_T43 bt115.2 1).f2).length : Int) = 2 then (signalbenchlaw46_awake.j0 k t120 ((t120.length : Int) != 2) bt115.1 bt115.2) else (signalbenchlaw46_awake.j0 k t120 true bt115.1 bt115.2)) else (none)) else (signalbenchlaw46_awake.j0 k t120 true bt115.1 bt115.2)) else (none)) else (signalbenchlaw46_awake.j0 k t120 true bt115.1 bt115.2)) else (signalbenchlaw46_awake.j0 k t120 true bt115.1 bt115.2)))) = some r := by first | (rw [hy112]; with_reducible exact H) | (have H2_ := (Option.bind_some _ _).symm.trans H; rw [hy112]; with_reducible exact H2_) | (have H2_ := (Option.bind_some _ _).symm.trans H; with_reducible exact H2_) | with_reducible exact H | (rw [hy112]; exact H) | exact H
 have Ny112 := Aside0.mk hy112
 clear hy112
 replace H := Option.bind_eq_some_iff.mp H
 obtain ⟨⟨t115, t116⟩, A10, H⟩ := H
 replace H : ((evindex_Candidates.f k t115 t116 1 0 0 0 0).bind fun t120 => (if t115 = 3 then (if (t116.length : Int) = 2 then (if 0 < (t116.length : Int) then (if (((rd_T43 t116 0).f2).length : Int) = 1 then (if 1 < (t116.length : Int) then (if (((rd_T43 t116 1).f2).length : Int) = 2 then (signalbenchlaw46_awake.j0 k t120 ((t120.length : Int) != 2) t115 t116) else (signalbenchlaw46_awake.j0 k t120 true t115 t116)) else (none)) else (signalbenchlaw46_awake.j0 k t120 true t115 t116)) else (none)) else (signalbenchlaw46_awake.j0 k t120 true t115 t116)) else (signalbenchlaw46_awake.j0 k t120 true t115 t116))) = some r := H
 have A1 := Aside0.mk A10
 clear A10
 replace H := Option.bind_eq_some_iff.mp H
 obtain ⟨t120, A20, H⟩ := H
 replace H : (if t115 = 3 then (if (t116.length : Int) = 2 then (if 0 < (t116.length : Int) then (if (((rd_T43 t116 0).f2).length : Int) = 1 then (if 1 < (t116.length : Int) then (if (((rd_T43 t116 1).f2).length : Int) = 2 then (signalbenchlaw46_awake.j0 k t120 ((t120.length : Int) != 2) t115 t116) else (signalbenchlaw46_awake.j0 k t120 true t115 t116)) else (none)) else (signalbenchlaw46_awake.j0 k t120 true t115 t116)) else (none)) else (signalbenchlaw46_awake.j0 k t120 true t115 t116)) else (signalbenchlaw46_awake.j0 k t120 true t115 t116)) = some r := H
 have A2 := Aside0.mk A20
 clear A20
 have HC3 := Aside0.mk H
 clear H
 go_enter Try.func9, Try.ntmps9
 go_upto_region 4 with (first | ((with_reducible refine gate_dst (N := 10) rfl ?_); (try (refine gate_guard (by rfl) ?_; dsimp only)); refine Kd.R_lit k47 _ 47 ?hg (N := 10) ?hd (xs := ([(⟨1, 0, (⟨3, 0, 0, 0, 0, (⟨#[]⟩ : ByteArray), 0⟩ : S45)⟩ : S47), (⟨0, 0, (⟨5, 0, 0, 0, 0, (⟨#[]⟩ : ByteArray), 0⟩ : S45)⟩ : S47), (⟨1, 0, (⟨3, 0, 0, 0, 0, (⟨#[]⟩ : ByteArray), 0⟩ : S45)⟩ : S47)] : List (S47))) (inner := [.int .i64 1, .int .i64 0, .int .i64 3, .int .i64 0, .int .i64 0, .int .i64 0, .int .i64 0, .string (⟨#[]⟩ : ByteArray), .int .i64 0, .int .i64 0, .int .i64 0, .int .i64 5, .int .i64 0, .int .i64 0, .int .i64 0, .int .i64 0, .string (⟨#[]⟩ : ByteArray), .int .i64 0, .int .i64 1, .int .i64 0, .int .i64 3, .int .i64 0, .int .i64 0, .int .i64 0, .int .i64 0, .string (⟨#[]⟩ : ByteArray), .int .i64 0]) (ok := fun _ => True) (okp := fun _ => True) ?hr ?hp (fun _ hk => hk) trivial (Below.refl _ _) (Nat.le_refl _) (by simp) ?_; (case hd => rfl); (case hg => rfl); (case hr => first | (go_simp; done) | (go_simp; rfl)); (case hp => exact (Reps.c9 (show Kd.M k47 _ _ _ (⟨1, 0, (⟨3, 0, 0, 0, 0, (⟨#[]⟩ : ByteArray), 0⟩ : S45)⟩ : S47) [.int .i64 1, .int .i64 0, .int .i64 3, .int .i64 0, .int .i64 0, .int .i64 0, .int .i64 0, .string (⟨#[]⟩ : ByteArray), .int .i64 0] from (k47_mkM _ _ _ (⟨1, 0, (⟨3, 0, 0, 0, 0, (⟨#[]⟩ : ByteArray), 0⟩ : S45)⟩ : S47) )) (Reps.c9 (show Kd.M k47 _ _ _ (⟨0, 0, (⟨5, 0, 0, 0, 0, (⟨#[]⟩ : ByteArray), 0⟩ : S45)⟩ : S47) [.int .i64 0, .int .i64 0, .int .i64 5, .int .i64 0, .int .i64 0, .int .i64 0, .int .i64 0, .string (⟨#[]⟩ : ByteArray), .int .i64 0] from (k47_mkM _ _ _ (⟨0, 0, (⟨5, 0, 0, 0, 0, (⟨#[]⟩ : ByteArray), 0⟩ : S45)⟩ : S47) )) (Reps.c9 (show Kd.M k47 _ _ _ (⟨1, 0, (⟨3, 0, 0, 0, 0, (⟨#[]⟩ : ByteArray), 0⟩ : S45)⟩ : S47) [.int .i64 1, .int .i64 0, .int .i64 3, .int .i64 0, .int .i64 0, .int .i64 0, .int .i64 0, .string (⟨#[]⟩ : ByteArray), .int .i64 0] from (k47_mkM _ _ _ (⟨1, 0, (⟨3, 0, 0, 0, 0, (⟨#[]⟩ : ByteArray), 0⟩ : S45)⟩ : S47) )) (Reps.none _ _))))); intro v113 w4 ho5 hb hg_ hnew_; clear hg_ hnew_; (first | rw [← Ny112.out] at ho5 | (simp only [Int.reduceToNat] at ho5; rw [← Ny112.out] at ho5)); have n0_ := Aside0.mk (Kd.R_lower ho5 (below_size (bs HB.out))); have n1_ := Aside0.mk (below_step (bs HB.out) hb); clear HB; have HO114 := n0_; have HB := n1_; clear n0_ n1_; clear hb ho5; obtain ⟨Ao6, co6, eo6⟩ := Kd.R_slice HO114.out; subst eo6) | ((with_reducible refine gate_callee (f := 11) rfl ?_); refine goesL_ (some 12) rfl rfl Try.func11 (by kernel_rfl) rfl #[.slice Ao6 y112.length co6] rfl (by (try simp only [List.map_toArray, List.map_cons, List.map_nil]); first | done | rfl | (simp only [List.length_drop, List.length_take]; rfl)) ?_; (with_reducible refine (evindex_Build.calls _ _ y112 t115 t116 _ ?side1 ?side2 A1.out).mono ?_); (case side1 => repeat (first | exact (Kd.R_reads' HO114.out).2.2 | (with_reducible refine Kd.C_alloc ?_ _) | (with_reducible refine Kd.C_drewN ?_ _) | (with_reducible refine Kd.C_drew ?_))); (case side2 => exact (Kd.R_reads' HO114.out).2.1); rintro e w7 ⟨v117, rfl, ho0, hb⟩; refine ⟨_, rfl, ?_⟩; have n0_ := Aside0.mk (Kd.R_below (rq HO114.out) hb); have n1_ := Aside0.mk (Kd.S_lower ho0 (below_size (bs HB.out))); have n2_ := Aside0.mk (below_step (bs HB.out) hb); clear HO114; clear HB; have HO114 := n0_; have HO118 := n1_; have HB := n2_; clear n0_ n1_ n2_; (try clear hb); (try clear hb2); (try clear hk); (try clear hi); (try clear ho0)) | ((with_reducible refine gate_dst (N := 2) rfl ?_); (try (refine gate_guard (by rfl) ?_; dsimp only)); refine box_event ?hg (N := 2) ?hd (cs := #[.int .i64 0, .slice none 0 0]) (t := 27) ?hr ?_; (case hd => rfl); (case hg => rfl); (case hr => first | (go_simp; done) | (go_simp; rfl)); intro gb119 hg w8 hbox hb; have n0_ := Aside0.mk (Kd.R_below (rq HO114.out) hb); have n1_ := Aside0.mk (Kd.S_below (by (with_reducible repeat (first | apply Kd.S_alloc | apply Kd.S_drewN | apply Kd.S_drew)); exact HO118.out) hb); have n2_ := Aside0.mk (below_step (bs HB.out) hb); have n3_ := Aside0.mk (hbox); have n4_ := Aside0.mk ((by rw [hg]; exact (below_size (bs HB.out)) : w.heap.size ≤ gb119)); have n5_ := n4_; clear HO114; clear HO118; clear HB; have HO114 := n0_; have HO118 := n1_; have HB := n2_; have BK119 := n3_; have GW119 := n4_; have GE119 := n5_; clear n0_ n1_ n2_ n3_ n4_ n5_; clear hb hbox hg; obtain ⟨hcz9_0, hcz9_1⟩ := bc2 BK119.out; obtain ⟨hfz9_0, hfz9_1⟩ := bf2 BK119.out; obtain ⟨Ao10, co10, eo10⟩ := Kd.S_slice HO118.out; subst eo10) | ((with_reducible refine gate_callee (f := 21) rfl ?_); refine goesL_ (some 15) rfl rfl Try.func21 (by kernel_rfl) rfl #[.agg #[.int .i64 t115, .slice Ao10 t116.length co10], .agg #[.int .i64 1, .int .i64 0, .int .i64 0, .int .i64 0, .int .i64 0]] rfl (by (try simp only [List.map_toArray, List.map_cons, List.map_nil]); first | done | rfl | (simp only [List.length_drop, List.length_take]; rfl)) ?_; (with_reducible refine (evindex_Candidates.calls k t115 _ _ t116 1 0 0 0 0 t120 _ ?side1 ?side2 A2.out).mono ?_); (case side1 => refine (Kd.S_reads' (e := 43) (base := w.heap.size) (ok := fun k_ => True) (n := t116.length) (c := co10) ?_).2.2; exact (by (with_reducible repeat (first | apply Kd.S_alloc | apply Kd.S_drewN | apply Kd.S_drew)); exact (Kd.S_mono (Kd.S_far (p := ⟨gb119, 1, none⟩) (Kd.S_far (p := ⟨gb119, 0, none⟩) (Kd.S_types HO118.out BK119.out (by decide)) (fun _ hk => hk.2) (.int .i64 t115)) (fun _ hk => hk.2) (.slice Ao10 t116.length co10)) (fun _ h_ => h_.1)))); (case side2 => exact (Kd.S_reads' HO118.out).2.1); rintro e w11 ⟨v121, rfl, ho0, hb⟩; refine ⟨_, rfl, ?_⟩; have n0_ := Aside0.mk (Kd.R_below (by (with_reducible repeat (first | apply Kd.R_alloc | apply Kd.R_drewN | apply Kd.R_drew)); exact (Kd.R_mono (Kd.R_far (p := ⟨gb119, 1, none⟩) (Kd.R_far (p := ⟨gb119, 0, none⟩) (Kd.R_types HO114.out BK119.out (by decide)) (fun _ hk => hk.2) (.int .i64 t115)) (fun _ hk => hk.2) (.slice Ao10 t116.length co10)) (fun _ h_ => h_.1))) hb); have n1_ := Aside0.mk (Kd.S_elder' (by (with_reducible repeat (first | apply Kd.S_alloc | apply Kd.S_drewN | apply Kd.S_drew)); exact (Kd.S_mono (Kd.S_far (p := ⟨gb119, 1, none⟩) (Kd.S_far (p := ⟨gb119, 0, none⟩) (Kd.S_types HO118.out BK119.out (by decide)) (fun _ hk => hk.2) (.int .i64 t115)) (fun _ hk => hk.2) (.slice Ao10 t116.length co10)) (fun _ h_ => h_.1))) (Kd.R_base ho0) hb); have n2_ := Aside0.mk (Kd.R_lower ho0 (below_size (bs HB.out))); have n3_ := Aside0.mk (blk_below (g := gb119) (o := .cells #[.int .i64 t115, .slice Ao10 t116.length co10] 27 (0, 0)) (by exact pt2 (bg BK119.out)) hb); have n4_ := Aside0.mk (below_step (bs HB.out) hb); clear HO114; clear HO118; clear BK119; clear HB; have HO114 := n0_; have HO118 := n1_; have HO122 := n2_; have BK119 := n3_; have HB := n4_; clear n0_ n1_ n2_ n3_ n4_; (try clear hb); (try clear hb2); (try clear hk); (try clear hi); (try clear ho0)))
 (try simp only [Act.put, List.setIfInBounds_toArray, List.set_cons_zero, List.set_cons_succ])
 go_cut [47] (fun v47 wc => ∃ (kq : Nat) (x47_2 : Bool), v47 = .bool x47_2 ∧ Aside0 (signalbenchlaw46_awake.j0 kq t120 x47_2 t115 t116 = some r) ∧ Aside0 (kq ≤ k) ∧ Aside0 (Kd.R (Kd.int .i64) 3 wc w.heap.size (fun _ => True) v121 t120) ∧ Aside0 (Kd.S k43 43 wc w.heap.size (fun k_ => some k_ ≠ (v121 : Value).ownBlock) (.slice Ao10 t116.length co10) t116) ∧ Aside0 (wc.heap[gb119]? = some (.cells #[.int .i64 t115, (.slice Ao10 t116.length co10)] 27 (0, 0))) ∧ Aside0 (Below w.heap.size w wc))
 case first =>
  have H := HC3.out
  clear HC3
  by_cases c12 : t115 = 3
  ·
   rw [if_pos c12] at H
   have c12b0 : (t115 == 3) = true := beq_iff_eq.mpr c12
   have c12b1 : (t115 != 3) = false := bne_eq_false_iff_eq.mpr c12
   clear c12
   (first | rw [c12b0] | (simp only [i64_w, i32_w]; rw [c12b0]) | skip)
   by_cases c13 : (t116.length : Int) = 2
   ·
    rw [if_pos c13] at H
    have c13b0 : ((t116.length : Int) == 2) = true := beq_iff_eq.mpr c13
    have c13b1 : ((t116.length : Int) != 2) = false := bne_eq_false_iff_eq.mpr c13
    clear c13
    by_cases c14 : 0 < (t116.length : Int)
    ·
     rw [if_pos c14] at H
     have c14b0 : decide (0 < (t116.length : Int)) = true := decide_eq_true c14
     have c14b1 : decide (0 < t116.length) = true := decide_eq_true (by omega)
     clear c14
     by_cases c15 : (((rd_T43 t116 0).f2).length : Int) = 1
     ·
      rw [if_pos c15] at H
      have c15b0 : ((((rd_T43 t116 0).f2).length : Int) == 1) = true := beq_iff_eq.mpr c15
      have c15b1 : ((((rd_T43 t116 0).f2).length : Int) != 1) = false := bne_eq_false_iff_eq.mpr c15
      clear c15
      by_cases c16 : 1 < (t116.length : Int)
      ·
       rw [if_pos c16] at H
       have c16b0 : decide (1 < (t116.length : Int)) = true := decide_eq_true c16
       have c16b1 : decide (1 < t116.length) = true := decide_eq_true (by omega)
       clear c16
       by_cases c17 : (((rd_T43 t116 1).f2).length : Int) = 2
       ·
        rw [if_pos c17] at H
        have c17b0 : ((((rd_T43 t116 1).f2).length : Int) == 2) = true := beq_iff_eq.mpr c17
        have c17b1 : ((((rd_T43 t116 1).f2).length : Int) != 2) = false := bne_eq_false_iff_eq.mpr c17
        clear c17
        have H' := Aside0.mk H
        clear H
        obtain ⟨hcz18_0, hcz18_1⟩ := bc2 BK119.out
        obtain ⟨hfz18_0, hfz18_1⟩ := bf2 BK119.out
        have p123 : 0 ≤ (0 : Int) := (by omega)
        have q123 : 0 < (t116.length : Int) := of_decide_eq_true (by first | (with_reducible assumption) | assumption)
        obtain ⟨ad123, A123_2, c123_2, e123, hx123_0, hx123_1, hx123_2, hl123_2, hi123_2⟩ := at_T43 (Kd.S_reads' HO118.out).2.2 0 p123 q123
        cases e123
        obtain ⟨ce123, hce123, hMe123, hcc123⟩ := Kd.S_get HO118.out z43 0 p123 (by first | exact q123 | exact of_decide_eq_true (by first | (with_reducible assumption) | assumption) | (have e_ := (Kd.S_reads' HO118.out).1; omega))
        obtain ⟨ve123_2, rfl, ge123_2⟩ := k43_openM hMe123
        have hv123_2 := hcc123 2 _ rfl
        rw [add_field _ _ 2 (by omega)] at hv123_2
        replace hv123_2 := Option.some.inj (hv123_2.symm.trans hx123_2)
        rw [hv123_2] at ge123_2
        have HL123_2 := Aside0.mk (show Kd.R (Kd.int .i64) 3 _ _ _ _ ((rd_T43 t116 0).f2) from ge123_2)
        clear hv123_2 ge123_2
        clear hcc123 hce123
        have qi123 : (0 < t116.length) = True := eq_true (by omega)
        (try rw [show ((0 : Int)).toNat = 0 from rfl] at hx123_0)
        (try rw [show 0 * 3 = 0 from rfl] at hx123_0)
        (try rw [Addr.add_zero'] at hx123_0)
        (try rw [show ((0 : Int)).toNat = 0 from rfl] at hx123_1)
        (try rw [show 0 * 3 = 0 from rfl] at hx123_1)
        (try rw [Addr.add_zero'] at hx123_1)
        (try rw [show ((0 : Int)).toNat = 0 from rfl] at hx123_2)
        (try rw [show 0 * 3 = 0 from rfl] at hx123_2)
        (try rw [Addr.add_zero'] at hx123_2)
        have HR123_2 := Aside0.mk hi123_2
        have HC123_2 := Aside0.mk hl123_2
        clear hi123_2 hl123_2
        replace p123 := eq_true p123
        replace q123 := eq_true q123
        have p124 : 0 ≤ (1 : Int) := (by omega)
        have q124 : 1 < (t116.length : Int) := of_decide_eq_true (by first | (with_reducible assumption) | assumption)
        obtain ⟨ad124, A124_2, c124_2, e124, hx124_0, hx124_1, hx124_2, hl124_2, hi124_2⟩ := at_T43 (Kd.S_reads' HO118.out).2.2 1 p124 q124
        obtain rfl : ad123 = ad124 := (by injection e124)
        obtain ⟨ce124, hce124, hMe124, hcc124⟩ := Kd.S_get HO118.out z43 1 p124 (by first | exact q124 | exact of_decide_eq_true (by first | (with_reducible assumption) | assumption) | (have e_ := (Kd.S_reads' HO118.out).1; omega))
        obtain ⟨ve124_2, rfl, ge124_2⟩ := k43_openM hMe124
        have hv124_2 := hcc124 2 _ rfl
        rw [add_field _ _ 2 (by omega)] at hv124_2
        replace hv124_2 := Option.some.inj (hv124_2.symm.trans hx124_2)
        rw [hv124_2] at ge124_2
        have HL124_2 := Aside0.mk (show Kd.R (Kd.int .i64) 3 _ _ _ _ ((rd_T43 t116 1).f2) from ge124_2)
        clear hv124_2 ge124_2
        clear hcc124 hce124
        (try simp only [show (1 : Int).toNat = 1 from rfl, Nat.reduceMul, Nat.reduceEqDiff, Go.Addr.add, ↓reduceIte] at hx124_0)
        (try simp only [show (1 : Int).toNat = 1 from rfl, Nat.reduceMul, Nat.reduceEqDiff, Go.Addr.add, ↓reduceIte] at hx124_1)
        (try simp only [show (1 : Int).toNat = 1 from rfl, Nat.reduceMul, Nat.reduceEqDiff, Go.Addr.add, ↓reduceIte] at hx124_2)
        have qi124 : (1 < t116.length) = True := eq_true (by omega)
        (try rw [show ((1 : Int)).toNat = 1 from rfl] at hx124_0)
        (try rw [show 1 * 3 = 3 from rfl] at hx124_0)
        (try rw [show ((1 : Int)).toNat = 1 from rfl] at hx124_1)
        (try rw [show 1 * 3 = 3 from rfl] at hx124_1)
        (try rw [show ((1 : Int)).toNat = 1 from rfl] at hx124_2)
        (try rw [show 1 * 3 = 3 from rfl] at hx124_2)
        have HR124_2 := Aside0.mk hi124_2
        have HC124_2 := Aside0.mk hl124_2
        clear hi124_2 hl124_2
        replace p124 := eq_true p124
        replace q124 := eq_true q124
        obtain ⟨Ao19, co19, eo19⟩ := Kd.R_slice HO122.out
        subst eo19
        go_wp2
        go_meet
        case rel => exact ⟨_, (((t120.length : Int) != 2)), (by first | rfl | (simp; done) | (simp [*]; done)), H', ⟨by first | omega | exact Nat.le_refl _⟩, ⟨by (with_reducible repeat (first | apply Kd.R_alloc | apply Kd.R_drewN | apply Kd.R_drew)); exact HO122.out⟩, ⟨by (with_reducible repeat (first | apply Kd.S_alloc | apply Kd.S_drewN | apply Kd.S_drew)); exact Kd.S_mono HO118.out (fun _ hk => hk.2)⟩, ⟨bg BK119.out⟩, ⟨bs HB.out⟩⟩
       ·
        rw [if_neg c17] at H
        have c17b0 : ((((rd_T43 t116 1).f2).length : Int) == 2) = false := beq_eq_false_iff_ne.mpr c17
        have c17b1 : ((((rd_T43 t116 1).f2).length : Int) != 2) = true := bne_iff_ne.mpr c17
        have H' := Aside0.mk H
        clear H
        obtain ⟨hcz20_0, hcz20_1⟩ := bc2 BK119.out
        obtain ⟨hfz20_0, hfz20_1⟩ := bf2 BK119.out
        have p123 : 0 ≤ (0 : Int) := (by omega)
        have q123 : 0 < (t116.length : Int) := of_decide_eq_true (by first | (with_reducible assumption) | assumption)
        obtain ⟨ad123, A123_2, c123_2, e123, hx123_0, hx123_1, hx123_2, hl123_2, hi123_2⟩ := at_T43 (Kd.S_reads' HO118.out).2.2 0 p123 q123
        cases e123
        obtain ⟨ce123, hce123, hMe123, hcc123⟩ := Kd.S_get HO118.out z43 0 p123 (by first | exact q123 | exact of_decide_eq_true (by first | (with_reducible assumption) | assumption) | (have e_ := (Kd.S_reads' HO118.out).1; omega))
        obtain ⟨ve123_2, rfl, ge123_2⟩ := k43_openM hMe123
        have hv123_2 := hcc123 2 _ rfl
        rw [add_field _ _ 2 (by omega)] at hv123_2
        replace hv123_2 := Option.some.inj (hv123_2.symm.trans hx123_2)
        rw [hv123_2] at ge123_2
        have HL123_2 := Aside0.mk (show Kd.R (Kd.int .i64) 3 _ _ _ _ ((rd_T43 t116 0).f2) from ge123_2)
        clear hv123_2 ge123_2
        clear hcc123 hce123
        have qi123 : (0 < t116.length) = True := eq_true (by omega)
        (try rw [show ((0 : Int)).toNat = 0 from rfl] at hx123_0)
        (try rw [show 0 * 3 = 0 from rfl] at hx123_0)
        (try rw [Addr.add_zero'] at hx123_0)
        (try rw [show ((0 : Int)).toNat = 0 from rfl] at hx123_1)
        (try rw [show 0 * 3 = 0 from rfl] at hx123_1)
        (try rw [Addr.add_zero'] at hx123_1)
        (try rw [show ((0 : Int)).toNat = 0 from rfl] at hx123_2)
        (try rw [show 0 * 3 = 0 from rfl] at hx123_2)
        (try rw [Addr.add_zero'] at hx123_2)
        have HR123_2 := Aside0.mk hi123_2
        have HC123_2 := Aside0.mk hl123_2
        clear hi123_2 hl123_2
        replace p123 := eq_true p123
        replace q123 := eq_true q123
        have p124 : 0 ≤ (1 : Int) := (by omega)
        have q124 : 1 < (t116.length : Int) := of_decide_eq_true (by first | (with_reducible assumption) | assumption)
        obtain ⟨ad124, A124_2, c124_2, e124, hx124_0, hx124_1, hx124_2, hl124_2, hi124_2⟩ := at_T43 (Kd.S_reads' HO118.out).2.2 1 p124 q124
        obtain rfl : ad123 = ad124 := (by injection e124)
        obtain ⟨ce124, hce124, hMe124, hcc124⟩ := Kd.S_get HO118.out z43 1 p124 (by first | exact q124 | exact of_decide_eq_true (by first | (with_reducible assumption) | assumption) | (have e_ := (Kd.S_reads' HO118.out).1; omega))
        obtain ⟨ve124_2, rfl, ge124_2⟩ := k43_openM hMe124
        have hv124_2 := hcc124 2 _ rfl
        rw [add_field _ _ 2 (by omega)] at hv124_2
        replace hv124_2 := Option.some.inj (hv124_2.symm.trans hx124_2)
        rw [hv124_2] at ge124_2
        have HL124_2 := Aside0.mk (show Kd.R (Kd.int .i64) 3 _ _ _ _ ((rd_T43 t116 1).f2) from ge124_2)
        clear hv124_2 ge124_2
        clear hcc124 hce124
        (try simp only [show (1 : Int).toNat = 1 from rfl, Nat.reduceMul, Nat.reduceEqDiff, Go.Addr.add, ↓reduceIte] at hx124_0)
        (try simp only [show (1 : Int).toNat = 1 from rfl, Nat.reduceMul, Nat.reduceEqDiff, Go.Addr.add, ↓reduceIte] at hx124_1)
        (try simp only [show (1 : Int).toNat = 1 from rfl, Nat.reduceMul, Nat.reduceEqDiff, Go.Addr.add, ↓reduceIte] at hx124_2)
        have qi124 : (1 < t116.length) = True := eq_true (by omega)
        (try rw [show ((1 : Int)).toNat = 1 from rfl] at hx124_0)
        (try rw [show 1 * 3 = 3 from rfl] at hx124_0)
        (try rw [show ((1 : Int)).toNat = 1 from rfl] at hx124_1)
        (try rw [show 1 * 3 = 3 from rfl] at hx124_1)
        (try rw [show ((1 : Int)).toNat = 1 from rfl] at hx124_2)
        (try rw [show 1 * 3 = 3 from rfl] at hx124_2)
        have HR124_2 := Aside0.mk hi124_2
        have HC124_2 := Aside0.mk hl124_2
        clear hi124_2 hl124_2
        replace p124 := eq_true p124
        replace q124 := eq_true q124
        go_wp2
        go_meet
        case rel => exact ⟨_, (true), (by first | rfl | (simp; done) | (simp [*]; done)), H', ⟨by first | omega | exact Nat.le_refl _⟩, ⟨by (with_reducible repeat (first | apply Kd.R_alloc | apply Kd.R_drewN | apply Kd.R_drew)); exact HO122.out⟩, ⟨by (with_reducible repeat (first | apply Kd.S_alloc | apply Kd.S_drewN | apply Kd.S_drew)); exact Kd.S_mono HO118.out (fun _ hk => hk.2)⟩, ⟨bg BK119.out⟩, ⟨bs HB.out⟩⟩
      ·
       rw [if_neg c16] at H
       exact absurd H (by simp)
     ·
      rw [if_neg c15] at H
      have c15b0 : ((((rd_T43 t116 0).f2).length : Int) == 1) = false := beq_eq_false_iff_ne.mpr c15
      have c15b1 : ((((rd_T43 t116 0).f2).length : Int) != 1) = true := bne_iff_ne.mpr c15
      have H' := Aside0.mk H
      clear H
      obtain ⟨hcz21_0, hcz21_1⟩ := bc2 BK119.out
      obtain ⟨hfz21_0, hfz21_1⟩ := bf2 BK119.out
      have p123 : 0 ≤ (0 : Int) := (by omega)
      have q123 : 0 < (t116.length : Int) := of_decide_eq_true (by first | (with_reducible assumption) | assumption)
      obtain ⟨ad123, A123_2, c123_2, e123, hx123_0, hx123_1, hx123_2, hl123_2, hi123_2⟩ := at_T43 (Kd.S_reads' HO118.out).2.2 0 p123 q123
      cases e123
      obtain ⟨ce123, hce123, hMe123, hcc123⟩ := Kd.S_get HO118.out z43 0 p123 (by first | exact q123 | exact of_decide_eq_true (by first | (with_reducible assumption) | assumption) | (have e_ := (Kd.S_reads' HO118.out).1; omega))
      obtain ⟨ve123_2, rfl, ge123_2⟩ := k43_openM hMe123
      have hv123_2 := hcc123 2 _ rfl
      rw [add_field _ _ 2 (by omega)] at hv123_2
      replace hv123_2 := Option.some.inj (hv123_2.symm.trans hx123_2)
      rw [hv123_2] at ge123_2
      have HL123_2 := Aside0.mk (show Kd.R (Kd.int .i64) 3 _ _ _ _ ((rd_T43 t116 0).f2) from ge123_2)
      clear hv123_2 ge123_2
      clear hcc123 hce123
      have qi123 : (0 < t116.length) = True := eq_true (by omega)
      (try rw [show ((0 : Int)).toNat = 0 from rfl] at hx123_0)
      (try rw [show 0 * 3 = 0 from rfl] at hx123_0)
      (try rw [Addr.add_zero'] at hx123_0)
      (try rw [show ((0 : Int)).toNat = 0 from rfl] at hx123_1)
      (try rw [show 0 * 3 = 0 from rfl] at hx123_1)
      (try rw [Addr.add_zero'] at hx123_1)
      (try rw [show ((0 : Int)).toNat = 0 from rfl] at hx123_2)
      (try rw [show 0 * 3 = 0 from rfl] at hx123_2)
      (try rw [Addr.add_zero'] at hx123_2)
      have HR123_2 := Aside0.mk hi123_2
      have HC123_2 := Aside0.mk hl123_2
      clear hi123_2 hl123_2
      replace p123 := eq_true p123
      replace q123 := eq_true q123
      go_wp2
      go_meet
      case rel => exact ⟨_, (true), (by first | rfl | (simp; done) | (simp [*]; done)), H', ⟨by first | omega | exact Nat.le_refl _⟩, ⟨by (with_reducible repeat (first | apply Kd.R_alloc | apply Kd.R_drewN | apply Kd.R_drew)); exact HO122.out⟩, ⟨by (with_reducible repeat (first | apply Kd.S_alloc | apply Kd.S_drewN | apply Kd.S_drew)); exact Kd.S_mono HO118.out (fun _ hk => hk.2)⟩, ⟨bg BK119.out⟩, ⟨bs HB.out⟩⟩
    ·
     rw [if_neg c14] at H
     exact absurd H (by simp)
   ·
    rw [if_neg c13] at H
    have c13b0 : ((t116.length : Int) == 2) = false := beq_eq_false_iff_ne.mpr c13
    have c13b1 : ((t116.length : Int) != 2) = true := bne_iff_ne.mpr c13
    have H' := Aside0.mk H
    clear H
    obtain ⟨hcz22_0, hcz22_1⟩ := bc2 BK119.out
    obtain ⟨hfz22_0, hfz22_1⟩ := bf2 BK119.out
    go_wp2
    go_meet
    case rel => exact ⟨_, (true), (by first | rfl | (simp; done) | (simp [*]; done)), H', ⟨by first | omega | exact Nat.le_refl _⟩, ⟨by (with_reducible repeat (first | apply Kd.R_alloc | apply Kd.R_drewN | apply Kd.R_drew)); exact HO122.out⟩, ⟨by (with_reducible repeat (first | apply Kd.S_alloc | apply Kd.S_drewN | apply Kd.S_drew)); exact Kd.S_mono HO118.out (fun _ hk => hk.2)⟩, ⟨bg BK119.out⟩, ⟨bs HB.out⟩⟩
  ·
   rw [if_neg c12] at H
   have c12b0 : (t115 == 3) = false := beq_eq_false_iff_ne.mpr c12
   have c12b1 : (t115 != 3) = true := bne_iff_ne.mpr c12
   (first | rw [c12b0] | (simp only [i64_w, i32_w]; rw [c12b0]) | skip)
   have H' := Aside0.mk H
   clear H
   obtain ⟨hcz23_0, hcz23_1⟩ := bc2 BK119.out
   obtain ⟨hfz23_0, hfz23_1⟩ := bf2 BK119.out
   go_wp2
   go_meet
   case rel => exact ⟨_, (true), (by first | rfl | (simp; done) | (simp [*]; done)), H', ⟨by first | omega | exact Nat.le_refl _⟩, ⟨by (with_reducible repeat (first | apply Kd.R_alloc | apply Kd.R_drewN | apply Kd.R_drew)); exact HO122.out⟩, ⟨by (with_reducible repeat (first | apply Kd.S_alloc | apply Kd.S_drewN | apply Kd.S_drew)); exact Kd.S_mono HO118.out (fun _ hk => hk.2)⟩, ⟨bg BK119.out⟩, ⟨bs HB.out⟩⟩
 case rest =>
  clear HC3
  try clear c1
  try clear p1
  try clear q1
  try clear hx1
  try clear qi1
  try clear c2
  try clear p2
  try clear c9
  try clear c11
  try clear c12
  try clear c12b0
  try clear c12b1
  try clear p12
  try clear q12
  try clear hx12
  try clear qi12
  try clear c13
  try clear c13b0
  try clear c13b1
  try clear c14
  try clear c14b0
  try clear c14b1
  try clear c15
  try clear c15b0
  try clear c15b1
  try clear c16
  try clear c16b0
  try clear c16b1
  try clear c17
  try clear c17b0
  try clear c17b1
  try clear c21
  try clear hcz18_0 hcz18_1
  try clear hcz20_0 hcz20_1
  try clear hcz21_0 hcz21_1
  try clear hcz22_0 hcz22_1
  try clear hcz23_0 hcz23_1
  try clear hcz9_0 hcz9_1
  try clear hfz18_0 hfz18_1
  try clear hfz20_0 hfz20_1
  try clear hfz21_0 hfz21_1
  try clear hfz22_0 hfz22_1
  try clear hfz23_0 hfz23_1
  try clear hfz9_0 hfz9_1
  try clear hx123_0
  try clear hx123_1
  try clear hx123_2
  try clear hx124_0
  try clear hx124_1
  try clear hx124_2
  try clear p123
  try clear p124
  try clear q123
  try clear q124
  obtain ⟨kq, x47_2, rfl, HA, HJ2, HO_3, HO_120001, BK119, HB⟩ := hcut
  cases kq with
  | zero => exact absurd HA.out (by simp [signalbenchlaw46_awake.j0])
  | succ kj2 =>
   have H := HA.out
   clear HA
   simp only [signalbenchlaw46_awake.j0] at H
   by_cases c24 : x47_2 = true
   ·
    subst c24
    have H1 : (some false) = some r := by rw [if_pos rfl] at H; exact H
    clear H
    have H := H1
    clear H1
    obtain rfl := Option.some.inj H
    go_wp2
    go_ret
    exact ⟨by first | rfl | (simp [errW_none, errW_some] <;> rfl) | (simp [*, errW_none, errW_some] <;> rfl), bs HB.out⟩
   ·
    replace c24 := Bool.eq_false_iff.mpr c24
    subst c24
    have H1 : (if 0 < (t116.length : Int) then (if ((rd_T43 t116 0).f0) = 0 then (if ((rd_T43 t116 0).f1) = 5 then (if 0 < (((rd_T43 t116 0).f2).length : Int) then (if (rd ((rd_T43 t116 0).f2) 0) = 1 then (if 1 < (t116.length : Int) then (if 1 < (((rd_T43 t116 1).f2).length : Int) then (if (rd ((rd_T43 t116 1).f2) 1) = 2 then (if 1 < (t120.length : Int) then (if (rd t120 1) = 2 then ((evindex_Check.f kj2 t115 t116).bind fun t132 => (if t132 = 0 then ((evindex_Next.f kj2 t115 t116 1 3 1).bind fun t133 => (if t133 = 2 then ((evindex_Next.f kj2 t115 t116 1 3 3).bind fun t134 => (some (t134 == (-1)))) else (some false))) else (some false))) else (some false)) else (none)) else (some false)) else (none)) else (none)) else (some false)) else (none)) else (some false)) else (some false)) else (none)) = some r := by rw [if_neg (show ¬ (false = true) by decide)] at H; exact H
    clear H
    have H := H1
    clear H1
    by_cases c25 : 0 < (t116.length : Int)
    ·
     rw [if_pos c25] at H
     have c25b0 : decide (0 < (t116.length : Int)) = true := decide_eq_true c25
     have c25b1 : decide (0 < t116.length) = true := decide_eq_true (by omega)
     clear c25
     by_cases c26 : ((rd_T43 t116 0).f0) = 0
     ·
      rw [if_pos c26] at H
      have c26b0 : (((rd_T43 t116 0).f0) == 0) = true := beq_iff_eq.mpr c26
      have c26b1 : (((rd_T43 t116 0).f0) != 0) = false := bne_eq_false_iff_eq.mpr c26
      clear c26
      by_cases c27 : ((rd_T43 t116 0).f1) = 5
      ·
       rw [if_pos c27] at H
       have c27b0 : (((rd_T43 t116 0).f1) == 5) = true := beq_iff_eq.mpr c27
       have c27b1 : (((rd_T43 t116 0).f1) != 5) = false := bne_eq_false_iff_eq.mpr c27
       clear c27
       by_cases c28 : 0 < (((rd_T43 t116 0).f2).length : Int)
       ·
        rw [if_pos c28] at H
        have c28b0 : decide (0 < (((rd_T43 t116 0).f2).length : Int)) = true := decide_eq_true c28
        have c28b1 : decide (0 < ((rd_T43 t116 0).f2).length) = true := decide_eq_true (by omega)
        clear c28
        by_cases c29 : (rd ((rd_T43 t116 0).f2) 0) = 1
        ·
         rw [if_pos c29] at H
         have c29b0 : ((rd ((rd_T43 t116 0).f2) 0) == 1) = true := beq_iff_eq.mpr c29
         have c29b1 : ((rd ((rd_T43 t116 0).f2) 0) != 1) = false := bne_eq_false_iff_eq.mpr c29
         clear c29
         by_cases c30 : 1 < (t116.length : Int)
         ·
          rw [if_pos c30] at H
          have c30b0 : decide (1 < (t116.length : Int)) = true := decide_eq_true c30
          have c30b1 : decide (1 < t116.length) = true := decide_eq_true (by omega)
          clear c30
          by_cases c31 : 1 < (((rd_T43 t116 1).f2).length : Int)
          ·
           rw [if_pos c31] at H
           have c31b0 : decide (1 < (((rd_T43 t116 1).f2).length : Int)) = true := decide_eq_true c31
           have c31b1 : decide (1 < ((rd_T43 t116 1).f2).length) = true := decide_eq_true (by omega)
           clear c31
           by_cases c32 : (rd ((rd_T43 t116 1).f2) 1) = 2
           ·
            rw [if_pos c32] at H
            have c32b0 : ((rd ((rd_T43 t116 1).f2) 1) == 2) = true := beq_iff_eq.mpr c32
            have c32b1 : ((rd ((rd_T43 t116 1).f2) 1) != 2) = false := bne_eq_false_iff_eq.mpr c32
            clear c32
            by_cases c33 : 1 < (t120.length : Int)
            ·
             rw [if_pos c33] at H
             have c33b0 : decide (1 < (t120.length : Int)) = true := decide_eq_true c33
             have c33b1 : decide (1 < t120.length) = true := decide_eq_true (by omega)
             clear c33
             by_cases c34 : (rd t120 1) = 2
             ·
              rw [if_pos c34] at H
              have c34b0 : ((rd t120 1) == 2) = true := beq_iff_eq.mpr c34
              have c34b1 : ((rd t120 1) != 2) = false := bne_eq_false_iff_eq.mpr c34
              clear c34
              replace H := Option.bind_eq_some_iff.mp H
              obtain ⟨t132, A350, H⟩ := H
              replace H : (if t132 = 0 then ((evindex_Next.f kj2 t115 t116 1 3 1).bind fun t133 => (if t133 = 2 then ((evindex_Next.f kj2 t115 t116 1 3 3).bind fun t134 => (some (t134 == (-1)))) else (some false))) else (some false)) = some r := H
              have A35 := Aside0.mk A350
              clear A350
              by_cases c36 : t132 = 0
              ·
               rw [if_pos c36] at H
               have c36b0 : (t132 == 0) = true := beq_iff_eq.mpr c36
               have c36b1 : (t132 != 0) = false := bne_eq_false_iff_eq.mpr c36
               clear c36
               replace H := Option.bind_eq_some_iff.mp H
               obtain ⟨t133, A370, H⟩ := H
               replace H : (if t133 = 2 then ((evindex_Next.f kj2 t115 t116 1 3 3).bind fun t134 => (some (t134 == (-1)))) else (some false)) = some r := H
               have A37 := Aside0.mk A370
               clear A370
               by_cases c38 : t133 = 2
               ·
                rw [if_pos c38] at H
                have c38b0 : (t133 == 2) = true := beq_iff_eq.mpr c38
                have c38b1 : (t133 != 2) = false := bne_eq_false_iff_eq.mpr c38
                clear c38
                replace H := Option.bind_eq_some_iff.mp H
                obtain ⟨t134, A390, H⟩ := H
                replace H : (some (t134 == (-1))) = some r := H
                have A39 := Aside0.mk A390
                clear A390
                obtain rfl := Option.some.inj H
                obtain ⟨hcz40_0, hcz40_1⟩ := bc2 BK119.out
                obtain ⟨hfz40_0, hfz40_1⟩ := bf2 BK119.out
                have p125 : 0 ≤ (0 : Int) := (by omega)
                have q125 : 0 < (t116.length : Int) := of_decide_eq_true (by first | (with_reducible assumption) | assumption)
                obtain ⟨ad125, A125_2, c125_2, e125, hx125_0, hx125_1, hx125_2, hl125_2, hi125_2⟩ := at_T43 (Kd.S_reads' HO_120001.out).2.2 0 p125 q125
                cases e125
                obtain ⟨ce125, hce125, hMe125, hcc125⟩ := Kd.S_get HO_120001.out z43 0 p125 (by first | exact q125 | exact of_decide_eq_true (by first | (with_reducible assumption) | assumption) | (have e_ := (Kd.S_reads' HO_120001.out).1; omega))
                obtain ⟨ve125_2, rfl, ge125_2⟩ := k43_openM hMe125
                have hv125_2 := hcc125 2 _ rfl
                rw [add_field _ _ 2 (by omega)] at hv125_2
                replace hv125_2 := Option.some.inj (hv125_2.symm.trans hx125_2)
                rw [hv125_2] at ge125_2
                have HL125_2 := Aside0.mk (show Kd.R (Kd.int .i64) 3 _ _ _ _ ((rd_T43 t116 0).f2) from ge125_2)
                clear hv125_2 ge125_2
                clear hcc125 hce125
                have qi125 : (0 < t116.length) = True := eq_true (by omega)
                (try rw [show ((0 : Int)).toNat = 0 from rfl] at hx125_0)
                (try rw [show 0 * 3 = 0 from rfl] at hx125_0)
                (try rw [Addr.add_zero'] at hx125_0)
                (try rw [show ((0 : Int)).toNat = 0 from rfl] at hx125_1)
                (try rw [show 0 * 3 = 0 from rfl] at hx125_1)
                (try rw [Addr.add_zero'] at hx125_1)
                (try rw [show ((0 : Int)).toNat = 0 from rfl] at hx125_2)
                (try rw [show 0 * 3 = 0 from rfl] at hx125_2)
                (try rw [Addr.add_zero'] at hx125_2)
                have HR125_2 := Aside0.mk hi125_2
                have HC125_2 := Aside0.mk hl125_2
                clear hi125_2 hl125_2
                replace p125 := eq_true p125
                replace q125 := eq_true q125
                have p126 : 0 ≤ (0 : Int) := (by omega)
                have q126 : 0 < (t116.length : Int) := of_decide_eq_true (by first | (with_reducible assumption) | assumption)
                obtain ⟨ad126, A126_2, c126_2, e126, hx126_0, hx126_1, hx126_2, hl126_2, hi126_2⟩ := at_T43 (Kd.S_reads' HO_120001.out).2.2 0 p126 q126
                obtain rfl : ad125 = ad126 := (by injection e126)
                obtain ⟨ce126, hce126, hMe126, hcc126⟩ := Kd.S_get HO_120001.out z43 0 p126 (by first | exact q126 | exact of_decide_eq_true (by first | (with_reducible assumption) | assumption) | (have e_ := (Kd.S_reads' HO_120001.out).1; omega))
                obtain ⟨ve126_2, rfl, ge126_2⟩ := k43_openM hMe126
                have hv126_2 := hcc126 2 _ rfl
                rw [add_field _ _ 2 (by omega)] at hv126_2
                replace hv126_2 := Option.some.inj (hv126_2.symm.trans hx126_2)
                rw [hv126_2] at ge126_2
                have HL126_2 := Aside0.mk (show Kd.R (Kd.int .i64) 3 _ _ _ _ ((rd_T43 t116 0).f2) from ge126_2)
                clear hv126_2 ge126_2
                clear hcc126 hce126
                have qi126 : (0 < t116.length) = True := eq_true (by omega)
                (try rw [show ((0 : Int)).toNat = 0 from rfl] at hx126_0)
                (try rw [show 0 * 3 = 0 from rfl] at hx126_0)
                (try rw [Addr.add_zero'] at hx126_0)
                (try rw [show ((0 : Int)).toNat = 0 from rfl] at hx126_1)
                (try rw [show 0 * 3 = 0 from rfl] at hx126_1)
                (try rw [Addr.add_zero'] at hx126_1)
                (try rw [show ((0 : Int)).toNat = 0 from rfl] at hx126_2)
                (try rw [show 0 * 3 = 0 from rfl] at hx126_2)
                (try rw [Addr.add_zero'] at hx126_2)
                have HR126_2 := Aside0.mk hi126_2
                have HC126_2 := Aside0.mk hl126_2
                clear hi126_2 hl126_2
                replace p126 := eq_true p126
                replace q126 := eq_true q126
                have ea_ := Option.some.inj (hx125_2.symm.trans hx126_2)
                injection ea_ with ea_ en_ ec_
                subst ea_
                subst ec_
                clear en_
                have p127 : 0 ≤ (0 : Int) := (by omega)
                have q127 : 0 < (t116.length : Int) := of_decide_eq_true (by first | (with_reducible assumption) | assumption)
                obtain ⟨ad127, A127_2, c127_2, e127, hx127_0, hx127_1, hx127_2, hl127_2, hi127_2⟩ := at_T43 (Kd.S_reads' HO_120001.out).2.2 0 p127 q127
                obtain rfl : ad125 = ad127 := (by injection e127)
                obtain ⟨ce127, hce127, hMe127, hcc127⟩ := Kd.S_get HO_120001.out z43 0 p127 (by first | exact q127 | exact of_decide_eq_true (by first | (with_reducible assumption) | assumption) | (have e_ := (Kd.S_reads' HO_120001.out).1; omega))
                obtain ⟨ve127_2, rfl, ge127_2⟩ := k43_openM hMe127
                have hv127_2 := hcc127 2 _ rfl
                rw [add_field _ _ 2 (by omega)] at hv127_2
                replace hv127_2 := Option.some.inj (hv127_2.symm.trans hx127_2)
                rw [hv127_2] at ge127_2
                have HL127_2 := Aside0.mk (show Kd.R (Kd.int .i64) 3 _ _ _ _ ((rd_T43 t116 0).f2) from ge127_2)
                clear hv127_2 ge127_2
                clear hcc127 hce127
                have qi127 : (0 < t116.length) = True := eq_true (by omega)
                (try rw [show ((0 : Int)).toNat = 0 from rfl] at hx127_0)
                (try rw [show 0 * 3 = 0 from rfl] at hx127_0)
                (try rw [Addr.add_zero'] at hx127_0)
                (try rw [show ((0 : Int)).toNat = 0 from rfl] at hx127_1)
                (try rw [show 0 * 3 = 0 from rfl] at hx127_1)
                (try rw [Addr.add_zero'] at hx127_1)
                (try rw [show ((0 : Int)).toNat = 0 from rfl] at hx127_2)
                (try rw [show 0 * 3 = 0 from rfl] at hx127_2)
                (try rw [Addr.add_zero'] at hx127_2)
                have HR127_2 := Aside0.mk hi127_2
                have HC127_2 := Aside0.mk hl127_2
                clear hi127_2 hl127_2
                replace p127 := eq_true p127
                replace q127 := eq_true q127
                have ea_ := Option.some.inj (hx125_2.symm.trans hx127_2)
                injection ea_ with ea_ en_ ec_
                subst ea_
                subst ec_
                clear en_
                have p128 : 0 ≤ (0 : Int) := (by omega)
                have q128 : 0 < (((rd_T43 t116 0).f2).length : Int) := of_decide_eq_true (by first | (with_reducible assumption) | assumption)
                obtain ⟨ad128, e128, hx128_0⟩ := Kd.at_int (by repeat (first | (with_reducible exact HR127_2.out) | (with_reducible refine Kd.C_alloc ?_ _) | (with_reducible refine Kd.C_drewN ?_ _) | (with_reducible refine Kd.C_drew ?_) | exact HR127_2.out)) 0 p128 q128
                cases e128
                have qi128 : (0 < ((rd_T43 t116 0).f2).length) = True := eq_true (by omega)
                (try rw [show ((0 : Int)).toNat = 0 from rfl] at hx128_0)
                (try rw [Addr.add_zero'] at hx128_0)
                replace p128 := eq_true p128
                replace q128 := eq_true q128
                have p129 : 0 ≤ (1 : Int) := (by omega)
                have q129 : 1 < (t116.length : Int) := of_decide_eq_true (by first | (with_reducible assumption) | assumption)
                obtain ⟨ad129, A129_2, c129_2, e129, hx129_0, hx129_1, hx129_2, hl129_2, hi129_2⟩ := at_T43 (Kd.S_reads' HO_120001.out).2.2 1 p129 q129
                obtain rfl : ad125 = ad129 := (by injection e129)
                obtain ⟨ce129, hce129, hMe129, hcc129⟩ := Kd.S_get HO_120001.out z43 1 p129 (by first | exact q129 | exact of_decide_eq_true (by first | (with_reducible assumption) | assumption) | (have e_ := (Kd.S_reads' HO_120001.out).1; omega))
                obtain ⟨ve129_2, rfl, ge129_2⟩ := k43_openM hMe129
                have hv129_2 := hcc129 2 _ rfl
                rw [add_field _ _ 2 (by omega)] at hv129_2
                replace hv129_2 := Option.some.inj (hv129_2.symm.trans hx129_2)
                rw [hv129_2] at ge129_2
                have HL129_2 := Aside0.mk (show Kd.R (Kd.int .i64) 3 _ _ _ _ ((rd_T43 t116 1).f2) from ge129_2)
                clear hv129_2 ge129_2
                clear hcc129 hce129
                (try simp only [show (1 : Int).toNat = 1 from rfl, Nat.reduceMul, Nat.reduceEqDiff, Go.Addr.add, ↓reduceIte] at hx129_0)
                (try simp only [show (1 : Int).toNat = 1 from rfl, Nat.reduceMul, Nat.reduceEqDiff, Go.Addr.add, ↓reduceIte] at hx129_1)
                (try simp only [show (1 : Int).toNat = 1 from rfl, Nat.reduceMul, Nat.reduceEqDiff, Go.Addr.add, ↓reduceIte] at hx129_2)
                have qi129 : (1 < t116.length) = True := eq_true (by omega)
                (try rw [show ((1 : Int)).toNat = 1 from rfl] at hx129_0)
                (try rw [show 1 * 3 = 3 from rfl] at hx129_0)
                (try rw [show ((1 : Int)).toNat = 1 from rfl] at hx129_1)
                (try rw [show 1 * 3 = 3 from rfl] at hx129_1)
                (try rw [show ((1 : Int)).toNat = 1 from rfl] at hx129_2)
                (try rw [show 1 * 3 = 3 from rfl] at hx129_2)
                have HR129_2 := Aside0.mk hi129_2
                have HC129_2 := Aside0.mk hl129_2
                clear hi129_2 hl129_2
                replace p129 := eq_true p129
                replace q129 := eq_true q129
                have p130 : 0 ≤ (1 : Int) := (by omega)
                have q130 : 1 < (((rd_T43 t116 1).f2).length : Int) := of_decide_eq_true (by first | (with_reducible assumption) | assumption)
                obtain ⟨ad130, e130, hx130_0⟩ := Kd.at_int (by repeat (first | (with_reducible exact HR129_2.out) | (with_reducible refine Kd.C_alloc ?_ _) | (with_reducible refine Kd.C_drewN ?_ _) | (with_reducible refine Kd.C_drew ?_) | exact HR129_2.out)) 1 p130 q130
                cases e130
                (try simp only [show (1 : Int).toNat = 1 from rfl, Nat.reduceMul, Nat.reduceEqDiff, Go.Addr.add, ↓reduceIte] at hx130_0)
                have qi130 : (1 < ((rd_T43 t116 1).f2).length) = True := eq_true (by omega)
                (try rw [show ((1 : Int)).toNat = 1 from rfl] at hx130_0)
                replace p130 := eq_true p130
                replace q130 := eq_true q130
                obtain ⟨Ao41, co41, eo41⟩ := Kd.R_slice HO_3.out
                subst eo41
                have p131 : 0 ≤ (1 : Int) := (by omega)
                have q131 : 1 < (t120.length : Int) := of_decide_eq_true (by first | (with_reducible assumption) | assumption)
                obtain ⟨ad131, e131, hx131_0⟩ := Kd.at_int (Kd.R_reads' HO_3.out).2.2 1 p131 q131
                cases e131
                (try simp only [show (1 : Int).toNat = 1 from rfl, Nat.reduceMul, Nat.reduceEqDiff, Go.Addr.add, ↓reduceIte] at hx131_0)
                have qi131 : (1 < t120.length) = True := eq_true (by omega)
                (try rw [show ((1 : Int)).toNat = 1 from rfl] at hx131_0)
                replace p131 := eq_true p131
                replace q131 := eq_true q131
                go_wp2_with (first | (go_at_call 14; (with_reducible refine (evindex_Check.calls kj2 t115 _ _ t116 t132 _ ?side1 ?side2 A35.out).mono ?_); (case side1 => repeat (first | exact (Kd.S_reads' HO_120001.out).2.2 | (with_reducible refine Kd.C_alloc ?_ _) | (with_reducible refine Kd.C_drewN ?_ _) | (with_reducible refine Kd.C_drew ?_))); (case side2 => exact (Kd.S_reads' HO_120001.out).2.1); rintro e w42 ⟨rfl, hb⟩; have n0_ := Aside0.mk (Kd.R_below (rq HO_3.out) hb); have n1_ := Aside0.mk (Kd.S_below (by (with_reducible repeat (first | apply Kd.S_alloc | apply Kd.S_drewN | apply Kd.S_drew)); exact HO_120001.out) hb); have n2_ := Aside0.mk (Kd.R_below (by (with_reducible repeat (first | apply Kd.R_alloc | apply Kd.R_drewN | apply Kd.R_drew)); exact HL125_2.out) hb); have n3_ := Aside0.mk (Kd.R_below (by (with_reducible repeat (first | apply Kd.R_alloc | apply Kd.R_drewN | apply Kd.R_drew)); exact HL126_2.out) hb); have n4_ := Aside0.mk (Kd.R_below (by (with_reducible repeat (first | apply Kd.R_alloc | apply Kd.R_drewN | apply Kd.R_drew)); exact HL127_2.out) hb); have n5_ := Aside0.mk (Kd.R_below (by (with_reducible repeat (first | apply Kd.R_alloc | apply Kd.R_drewN | apply Kd.R_drew)); exact HL129_2.out) hb); have n6_ := Aside0.mk (blk_below (bg BK119.out) hb); have n7_ := Aside0.mk (Kd.C_below (by repeat (first | (with_reducible exact HR125_2.out) | (with_reducible refine Kd.C_alloc ?_ _) | (with_reducible refine Kd.C_drewN ?_ _) | (with_reducible refine Kd.C_drew ?_) | exact HR125_2.out)) hb); have n8_ := Aside0.mk (Kd.C_below (by repeat (first | (with_reducible exact HR126_2.out) | (with_reducible refine Kd.C_alloc ?_ _) | (with_reducible refine Kd.C_drewN ?_ _) | (with_reducible refine Kd.C_drew ?_) | exact HR126_2.out)) hb); have n9_ := Aside0.mk (Kd.C_below (by repeat (first | (with_reducible exact HR127_2.out) | (with_reducible refine Kd.C_alloc ?_ _) | (with_reducible refine Kd.C_drewN ?_ _) | (with_reducible refine Kd.C_drew ?_) | exact HR127_2.out)) hb); have n10_ := Aside0.mk (Kd.C_below (by repeat (first | (with_reducible exact HR129_2.out) | (with_reducible refine Kd.C_alloc ?_ _) | (with_reducible refine Kd.C_drewN ?_ _) | (with_reducible refine Kd.C_drew ?_) | exact HR129_2.out)) hb); have n11_ := Aside0.mk (below_step (bs HB.out) hb); clear HO_3; clear HO_120001; clear HL125_2; clear HL126_2; clear HL127_2; clear HL129_2; clear BK119; clear HR125_2; clear HR126_2; clear HR127_2; clear HR129_2; clear HB; have HO_3 := n0_; have HO_120001 := n1_; have HL125_2 := n2_; have HL126_2 := n3_; have HL127_2 := n4_; have HL129_2 := n5_; have BK119 := n6_; have HR125_2 := n7_; have HR126_2 := n8_; have HR127_2 := n9_; have HR129_2 := n10_; have HB := n11_; clear n0_ n1_ n2_ n3_ n4_ n5_ n6_ n7_ n8_ n9_ n10_ n11_; (try clear hb); (try clear hb2); (try clear hk); (try clear hi); obtain ⟨hcz43_0, hcz43_1⟩ := bc2 BK119.out; obtain ⟨hfz43_0, hfz43_1⟩ := bf2 BK119.out) | (go_at_call 19; (with_reducible refine (evindex_Next.calls kj2 t115 _ _ t116 1 3 1 t133 _ ?side1 ?side2 A37.out).mono ?_); (case side1 => repeat (first | exact (Kd.S_reads' HO_120001.out).2.2 | (with_reducible refine Kd.C_alloc ?_ _) | (with_reducible refine Kd.C_drewN ?_ _) | (with_reducible refine Kd.C_drew ?_))); (case side2 => exact (Kd.S_reads' HO_120001.out).2.1); rintro e w44 ⟨rfl, hb⟩; have n0_ := Aside0.mk (Kd.R_below (rq HO_3.out) hb); have n1_ := Aside0.mk (Kd.S_below (by (with_reducible repeat (first | apply Kd.S_alloc | apply Kd.S_drewN | apply Kd.S_drew)); exact HO_120001.out) hb); have n2_ := Aside0.mk (Kd.R_below (by (with_reducible repeat (first | apply Kd.R_alloc | apply Kd.R_drewN | apply Kd.R_drew)); exact HL125_2.out) hb); have n3_ := Aside0.mk (Kd.R_below (by (with_reducible repeat (first | apply Kd.R_alloc | apply Kd.R_drewN | apply Kd.R_drew)); exact HL126_2.out) hb); have n4_ := Aside0.mk (Kd.R_below (by (with_reducible repeat (first | apply Kd.R_alloc | apply Kd.R_drewN | apply Kd.R_drew)); exact HL127_2.out) hb); have n5_ := Aside0.mk (Kd.R_below (by (with_reducible repeat (first | apply Kd.R_alloc | apply Kd.R_drewN | apply Kd.R_drew)); exact HL129_2.out) hb); have n6_ := Aside0.mk (blk_below (bg BK119.out) hb); have n7_ := Aside0.mk (Kd.C_below (by repeat (first | (with_reducible exact HR125_2.out) | (with_reducible refine Kd.C_alloc ?_ _) | (with_reducible refine Kd.C_drewN ?_ _) | (with_reducible refine Kd.C_drew ?_) | exact HR125_2.out)) hb); have n8_ := Aside0.mk (Kd.C_below (by repeat (first | (with_reducible exact HR126_2.out) | (with_reducible refine Kd.C_alloc ?_ _) | (with_reducible refine Kd.C_drewN ?_ _) | (with_reducible refine Kd.C_drew ?_) | exact HR126_2.out)) hb); have n9_ := Aside0.mk (Kd.C_below (by repeat (first | (with_reducible exact HR127_2.out) | (with_reducible refine Kd.C_alloc ?_ _) | (with_reducible refine Kd.C_drewN ?_ _) | (with_reducible refine Kd.C_drew ?_) | exact HR127_2.out)) hb); have n10_ := Aside0.mk (Kd.C_below (by repeat (first | (with_reducible exact HR129_2.out) | (with_reducible refine Kd.C_alloc ?_ _) | (with_reducible refine Kd.C_drewN ?_ _) | (with_reducible refine Kd.C_drew ?_) | exact HR129_2.out)) hb); have n11_ := Aside0.mk (below_step (bs HB.out) hb); clear HO_3; clear HO_120001; clear HL125_2; clear HL126_2; clear HL127_2; clear HL129_2; clear BK119; clear HR125_2; clear HR126_2; clear HR127_2; clear HR129_2; clear HB; have HO_3 := n0_; have HO_120001 := n1_; have HL125_2 := n2_; have HL126_2 := n3_; have HL127_2 := n4_; have HL129_2 := n5_; have BK119 := n6_; have HR125_2 := n7_; have HR126_2 := n8_; have HR127_2 := n9_; have HR129_2 := n10_; have HB := n11_; clear n0_ n1_ n2_ n3_ n4_ n5_ n6_ n7_ n8_ n9_ n10_ n11_; (try clear hb); (try clear hb2); (try clear hk); (try clear hi); obtain ⟨hcz45_0, hcz45_1⟩ := bc2 BK119.out; obtain ⟨hfz45_0, hfz45_1⟩ := bf2 BK119.out) | (go_at_call 19; (with_reducible refine (evindex_Next.calls kj2 t115 _ _ t116 1 3 3 t134 _ ?side1 ?side2 A39.out).mono ?_); (case side1 => repeat (first | exact (Kd.S_reads' HO_120001.out).2.2 | (with_reducible refine Kd.C_alloc ?_ _) | (with_reducible refine Kd.C_drewN ?_ _) | (with_reducible refine Kd.C_drew ?_))); (case side2 => exact (Kd.S_reads' HO_120001.out).2.1); rintro e w46 ⟨rfl, hb⟩; have n0_ := Aside0.mk (Kd.R_below (rq HO_3.out) hb); have n1_ := Aside0.mk (Kd.S_below (by (with_reducible repeat (first | apply Kd.S_alloc | apply Kd.S_drewN | apply Kd.S_drew)); exact HO_120001.out) hb); have n2_ := Aside0.mk (Kd.R_below (by (with_reducible repeat (first | apply Kd.R_alloc | apply Kd.R_drewN | apply Kd.R_drew)); exact HL125_2.out) hb); have n3_ := Aside0.mk (Kd.R_below (by (with_reducible repeat (first | apply Kd.R_alloc | apply Kd.R_drewN | apply Kd.R_drew)); exact HL126_2.out) hb); have n4_ := Aside0.mk (Kd.R_below (by (with_reducible repeat (first | apply Kd.R_alloc | apply Kd.R_drewN | apply Kd.R_drew)); exact HL127_2.out) hb); have n5_ := Aside0.mk (Kd.R_below (by (with_reducible repeat (first | apply Kd.R_alloc | apply Kd.R_drewN | apply Kd.R_drew)); exact HL129_2.out) hb); have n6_ := Aside0.mk (blk_below (bg BK119.out) hb); have n7_ := Aside0.mk (Kd.C_below (by repeat (first | (with_reducible exact HR125_2.out) | (with_reducible refine Kd.C_alloc ?_ _) | (with_reducible refine Kd.C_drewN ?_ _) | (with_reducible refine Kd.C_drew ?_) | exact HR125_2.out)) hb); have n8_ := Aside0.mk (Kd.C_below (by repeat (first | (with_reducible exact HR126_2.out) | (with_reducible refine Kd.C_alloc ?_ _) | (with_reducible refine Kd.C_drewN ?_ _) | (with_reducible refine Kd.C_drew ?_) | exact HR126_2.out)) hb); have n9_ := Aside0.mk (Kd.C_below (by repeat (first | (with_reducible exact HR127_2.out) | (with_reducible refine Kd.C_alloc ?_ _) | (with_reducible refine Kd.C_drewN ?_ _) | (with_reducible refine Kd.C_drew ?_) | exact HR127_2.out)) hb); have n10_ := Aside0.mk (Kd.C_below (by repeat (first | (with_reducible exact HR129_2.out) | (with_reducible refine Kd.C_alloc ?_ _) | (with_reducible refine Kd.C_drewN ?_ _) | (with_reducible refine Kd.C_drew ?_) | exact HR129_2.out)) hb); have n11_ := Aside0.mk (below_step (bs HB.out) hb); clear HO_3; clear HO_120001; clear HL125_2; clear HL126_2; clear HL127_2; clear HL129_2; clear BK119; clear HR125_2; clear HR126_2; clear HR127_2; clear HR129_2; clear HB; have HO_3 := n0_; have HO_120001 := n1_; have HL125_2 := n2_; have HL126_2 := n3_; have HL127_2 := n4_; have HL129_2 := n5_; have BK119 := n6_; have HR125_2 := n7_; have HR126_2 := n8_; have HR127_2 := n9_; have HR129_2 := n10_; have HB := n11_; clear n0_ n1_ n2_ n3_ n4_ n5_ n6_ n7_ n8_ n9_ n10_ n11_; (try clear hb); (try clear hb2); (try clear hk); (try clear hi)))
                go_ret
                exact ⟨by first | rfl | (simp [errW_none, errW_some] <;> rfl) | (simp [*, errW_none, errW_some] <;> rfl), bs HB.out⟩
               ·
                rw [if_neg c38] at H
                have c38b0 : (t133 == 2) = false := beq_eq_false_iff_ne.mpr c38
                have c38b1 : (t133 != 2) = true := bne_iff_ne.mpr c38
                obtain rfl := Option.some.inj H
                obtain ⟨hcz47_0, hcz47_1⟩ := bc2 BK119.out
                obtain ⟨hfz47_0, hfz47_1⟩ := bf2 BK119.out
                have p125 : 0 ≤ (0 : Int) := (by omega)
                have q125 : 0 < (t116.length : Int) := of_decide_eq_true (by first | (with_reducible assumption) | assumption)
                obtain ⟨ad125, A125_2, c125_2, e125, hx125_0, hx125_1, hx125_2, hl125_2, hi125_2⟩ := at_T43 (Kd.S_reads' HO_120001.out).2.2 0 p125 q125
                cases e125
                obtain ⟨ce125, hce125, hMe125, hcc125⟩ := Kd.S_get HO_120001.out z43 0 p125 (by first | exact q125 | exact of_decide_eq_true (by first | (with_reducible assumption) | assumption) | (have e_ := (Kd.S_reads' HO_120001.out).1; omega))
                obtain ⟨ve125_2, rfl, ge125_2⟩ := k43_openM hMe125
                have hv125_2 := hcc125 2 _ rfl
                rw [add_field _ _ 2 (by omega)] at hv125_2
                replace hv125_2 := Option.some.inj (hv125_2.symm.trans hx125_2)
                rw [hv125_2] at ge125_2
                have HL125_2 := Aside0.mk (show Kd.R (Kd.int .i64) 3 _ _ _ _ ((rd_T43 t116 0).f2) from ge125_2)
                clear hv125_2 ge125_2
                clear hcc125 hce125
                have qi125 : (0 < t116.length) = True := eq_true (by omega)
                (try rw [show ((0 : Int)).toNat = 0 from rfl] at hx125_0)
                (try rw [show 0 * 3 = 0 from rfl] at hx125_0)
                (try rw [Addr.add_zero'] at hx125_0)
                (try rw [show ((0 : Int)).toNat = 0 from rfl] at hx125_1)
                (try rw [show 0 * 3 = 0 from rfl] at hx125_1)
                (try rw [Addr.add_zero'] at hx125_1)
                (try rw [show ((0 : Int)).toNat = 0 from rfl] at hx125_2)
                (try rw [show 0 * 3 = 0 from rfl] at hx125_2)
                (try rw [Addr.add_zero'] at hx125_2)
                have HR125_2 := Aside0.mk hi125_2
                have HC125_2 := Aside0.mk hl125_2
                clear hi125_2 hl125_2
                replace p125 := eq_true p125
                replace q125 := eq_true q125
                have p126 : 0 ≤ (0 : Int) := (by omega)
                have q126 : 0 < (t116.length : Int) := of_decide_eq_true (by first | (with_reducible assumption) | assumption)
                obtain ⟨ad126, A126_2, c126_2, e126, hx126_0, hx126_1, hx126_2, hl126_2, hi126_2⟩ := at_T43 (Kd.S_reads' HO_120001.out).2.2 0 p126 q126
                obtain rfl : ad125 = ad126 := (by injection e126)
                obtain ⟨ce126, hce126, hMe126, hcc126⟩ := Kd.S_get HO_120001.out z43 0 p126 (by first | exact q126 | exact of_decide_eq_true (by first | (with_reducible assumption) | assumption) | (have e_ := (Kd.S_reads' HO_120001.out).1; omega))
                obtain ⟨ve126_2, rfl, ge126_2⟩ := k43_openM hMe126
                have hv126_2 := hcc126 2 _ rfl
                rw [add_field _ _ 2 (by omega)] at hv126_2
                replace hv126_2 := Option.some.inj (hv126_2.symm.trans hx126_2)
                rw [hv126_2] at ge126_2
                have HL126_2 := Aside0.mk (show Kd.R (Kd.int .i64) 3 _ _ _ _ ((rd_T43 t116 0).f2) from ge126_2)
                clear hv126_2 ge126_2
                clear hcc126 hce126
                have qi126 : (0 < t116.length) = True := eq_true (by omega)
                (try rw [show ((0 : Int)).toNat = 0 from rfl] at hx126_0)
                (try rw [show 0 * 3 = 0 from rfl] at hx126_0)
                (try rw [Addr.add_zero'] at hx126_0)
                (try rw [show ((0 : Int)).toNat = 0 from rfl] at hx126_1)
                (try rw [show 0 * 3 = 0 from rfl] at hx126_1)
                (try rw [Addr.add_zero'] at hx126_1)
                (try rw [show ((0 : Int)).toNat = 0 from rfl] at hx126_2)
                (try rw [show 0 * 3 = 0 from rfl] at hx126_2)
                (try rw [Addr.add_zero'] at hx126_2)
                have HR126_2 := Aside0.mk hi126_2
                have HC126_2 := Aside0.mk hl126_2
                clear hi126_2 hl126_2
                replace p126 := eq_true p126
                replace q126 := eq_true q126
                have ea_ := Option.some.inj (hx125_2.symm.trans hx126_2)
                injection ea_ with ea_ en_ ec_
                subst ea_
                subst ec_
                clear en_
                have p127 : 0 ≤ (0 : Int) := (by omega)
                have q127 : 0 < (t116.length : Int) := of_decide_eq_true (by first | (with_reducible assumption) | assumption)
                obtain ⟨ad127, A127_2, c127_2, e127, hx127_0, hx127_1, hx127_2, hl127_2, hi127_2⟩ := at_T43 (Kd.S_reads' HO_120001.out).2.2 0 p127 q127
                obtain rfl : ad125 = ad127 := (by injection e127)
                obtain ⟨ce127, hce127, hMe127, hcc127⟩ := Kd.S_get HO_120001.out z43 0 p127 (by first | exact q127 | exact of_decide_eq_true (by first | (with_reducible assumption) | assumption) | (have e_ := (Kd.S_reads' HO_120001.out).1; omega))
                obtain ⟨ve127_2, rfl, ge127_2⟩ := k43_openM hMe127
                have hv127_2 := hcc127 2 _ rfl
                rw [add_field _ _ 2 (by omega)] at hv127_2
                replace hv127_2 := Option.some.inj (hv127_2.symm.trans hx127_2)
                rw [hv127_2] at ge127_2
                have HL127_2 := Aside0.mk (show Kd.R (Kd.int .i64) 3 _ _ _ _ ((rd_T43 t116 0).f2) from ge127_2)
                clear hv127_2 ge127_2
                clear hcc127 hce127
                have qi127 : (0 < t116.length) = True := eq_true (by omega)
                (try rw [show ((0 : Int)).toNat = 0 from rfl] at hx127_0)
                (try rw [show 0 * 3 = 0 from rfl] at hx127_0)
                (try rw [Addr.add_zero'] at hx127_0)
                (try rw [show ((0 : Int)).toNat = 0 from rfl] at hx127_1)
                (try rw [show 0 * 3 = 0 from rfl] at hx127_1)
                (try rw [Addr.add_zero'] at hx127_1)
                (try rw [show ((0 : Int)).toNat = 0 from rfl] at hx127_2)
                (try rw [show 0 * 3 = 0 from rfl] at hx127_2)
                (try rw [Addr.add_zero'] at hx127_2)
                have HR127_2 := Aside0.mk hi127_2
                have HC127_2 := Aside0.mk hl127_2
                clear hi127_2 hl127_2
                replace p127 := eq_true p127
                replace q127 := eq_true q127
                have ea_ := Option.some.inj (hx125_2.symm.trans hx127_2)
                injection ea_ with ea_ en_ ec_
                subst ea_
                subst ec_
                clear en_
                have p128 : 0 ≤ (0 : Int) := (by omega)
                have q128 : 0 < (((rd_T43 t116 0).f2).length : Int) := of_decide_eq_true (by first | (with_reducible assumption) | assumption)
                obtain ⟨ad128, e128, hx128_0⟩ := Kd.at_int (by repeat (first | (with_reducible exact HR127_2.out) | (with_reducible refine Kd.C_alloc ?_ _) | (with_reducible refine Kd.C_drewN ?_ _) | (with_reducible refine Kd.C_drew ?_) | exact HR127_2.out)) 0 p128 q128
                cases e128
                have qi128 : (0 < ((rd_T43 t116 0).f2).length) = True := eq_true (by omega)
                (try rw [show ((0 : Int)).toNat = 0 from rfl] at hx128_0)
                (try rw [Addr.add_zero'] at hx128_0)
                replace p128 := eq_true p128
                replace q128 := eq_true q128
                have p129 : 0 ≤ (1 : Int) := (by omega)
                have q129 : 1 < (t116.length : Int) := of_decide_eq_true (by first | (with_reducible assumption) | assumption)
                obtain ⟨ad129, A129_2, c129_2, e129, hx129_0, hx129_1, hx129_2, hl129_2, hi129_2⟩ := at_T43 (Kd.S_reads' HO_120001.out).2.2 1 p129 q129
                obtain rfl : ad125 = ad129 := (by injection e129)
                obtain ⟨ce129, hce129, hMe129, hcc129⟩ := Kd.S_get HO_120001.out z43 1 p129 (by first | exact q129 | exact of_decide_eq_true (by first | (with_reducible assumption) | assumption) | (have e_ := (Kd.S_reads' HO_120001.out).1; omega))
                obtain ⟨ve129_2, rfl, ge129_2⟩ := k43_openM hMe129
                have hv129_2 := hcc129 2 _ rfl
                rw [add_field _ _ 2 (by omega)] at hv129_2
                replace hv129_2 := Option.some.inj (hv129_2.symm.trans hx129_2)
                rw [hv129_2] at ge129_2
                have HL129_2 := Aside0.mk (show Kd.R (Kd.int .i64) 3 _ _ _ _ ((rd_T43 t116 1).f2) from ge129_2)
                clear hv129_2 ge129_2
                clear hcc129 hce129
                (try simp only [show (1 : Int).toNat = 1 from rfl, Nat.reduceMul, Nat.reduceEqDiff, Go.Addr.add, ↓reduceIte] at hx129_0)
                (try simp only [show (1 : Int).toNat = 1 from rfl, Nat.reduceMul, Nat.reduceEqDiff, Go.Addr.add, ↓reduceIte] at hx129_1)
                (try simp only [show (1 : Int).toNat = 1 from rfl, Nat.reduceMul, Nat.reduceEqDiff, Go.Addr.add, ↓reduceIte] at hx129_2)
                have qi129 : (1 < t116.length) = True := eq_true (by omega)
                (try rw [show ((1 : Int)).toNat = 1 from rfl] at hx129_0)
                (try rw [show 1 * 3 = 3 from rfl] at hx129_0)
                (try rw [show ((1 : Int)).toNat = 1 from rfl] at hx129_1)
                (try rw [show 1 * 3 = 3 from rfl] at hx129_1)
                (try rw [show ((1 : Int)).toNat = 1 from rfl] at hx129_2)
                (try rw [show 1 * 3 = 3 from rfl] at hx129_2)
                have HR129_2 := Aside0.mk hi129_2
                have HC129_2 := Aside0.mk hl129_2
                clear hi129_2 hl129_2
                replace p129 := eq_true p129
                replace q129 := eq_true q129
                have p130 : 0 ≤ (1 : Int) := (by omega)
                have q130 : 1 < (((rd_T43 t116 1).f2).length : Int) := of_decide_eq_true (by first | (with_reducible assumption) | assumption)
                obtain ⟨ad130, e130, hx130_0⟩ := Kd.at_int (by repeat (first | (with_reducible exact HR129_2.out) | (with_reducible refine Kd.C_alloc ?_ _) | (with_reducible refine Kd.C_drewN ?_ _) | (with_reducible refine Kd.C_drew ?_) | exact HR129_2.out)) 1 p130 q130
                cases e130
                (try simp only [show (1 : Int).toNat = 1 from rfl, Nat.reduceMul, Nat.reduceEqDiff, Go.Addr.add, ↓reduceIte] at hx130_0)
                have qi130 : (1 < ((rd_T43 t116 1).f2).length) = True := eq_true (by omega)
                (try rw [show ((1 : Int)).toNat = 1 from rfl] at hx130_0)
                replace p130 := eq_true p130
                replace q130 := eq_true q130
                obtain ⟨Ao48, co48, eo48⟩ := Kd.R_slice HO_3.out
                subst eo48
                have p131 : 0 ≤ (1 : Int) := (by omega)
                have q131 : 1 < (t120.length : Int) := of_decide_eq_true (by first | (with_reducible assumption) | assumption)
                obtain ⟨ad131, e131, hx131_0⟩ := Kd.at_int (Kd.R_reads' HO_3.out).2.2 1 p131 q131
                cases e131
                (try simp only [show (1 : Int).toNat = 1 from rfl, Nat.reduceMul, Nat.reduceEqDiff, Go.Addr.add, ↓reduceIte] at hx131_0)
                have qi131 : (1 < t120.length) = True := eq_true (by omega)
                (try rw [show ((1 : Int)).toNat = 1 from rfl] at hx131_0)
                replace p131 := eq_true p131
                replace q131 := eq_true q131
                go_wp2_with (first | (go_at_call 14; (with_reducible refine (evindex_Check.calls kj2 t115 _ _ t116 t132 _ ?side1 ?side2 A35.out).mono ?_); (case side1 => repeat (first | exact (Kd.S_reads' HO_120001.out).2.2 | (with_reducible refine Kd.C_alloc ?_ _) | (with_reducible refine Kd.C_drewN ?_ _) | (with_reducible refine Kd.C_drew ?_))); (case side2 => exact (Kd.S_reads' HO_120001.out).2.1); rintro e w49 ⟨rfl, hb⟩; have n0_ := Aside0.mk (Kd.R_below (rq HO_3.out) hb); have n1_ := Aside0.mk (Kd.S_below (by (with_reducible repeat (first | apply Kd.S_alloc | apply Kd.S_drewN | apply Kd.S_drew)); exact HO_120001.out) hb); have n2_ := Aside0.mk (Kd.R_below (by (with_reducible repeat (first | apply Kd.R_alloc | apply Kd.R_drewN | apply Kd.R_drew)); exact HL125_2.out) hb); have n3_ := Aside0.mk (Kd.R_below (by (with_reducible repeat (first | apply Kd.R_alloc | apply Kd.R_drewN | apply Kd.R_drew)); exact HL126_2.out) hb); have n4_ := Aside0.mk (Kd.R_below (by (with_reducible repeat (first | apply Kd.R_alloc | apply Kd.R_drewN | apply Kd.R_drew)); exact HL127_2.out) hb); have n5_ := Aside0.mk (Kd.R_below (by (with_reducible repeat (first | apply Kd.R_alloc | apply Kd.R_drewN | apply Kd.R_drew)); exact HL129_2.out) hb); have n6_ := Aside0.mk (blk_below (bg BK119.out) hb); have n7_ := Aside0.mk (Kd.C_below (by repeat (first | (with_reducible exact HR125_2.out) | (with_reducible refine Kd.C_alloc ?_ _) | (with_reducible refine Kd.C_drewN ?_ _) | (with_reducible refine Kd.C_drew ?_) | exact HR125_2.out)) hb); have n8_ := Aside0.mk (Kd.C_below (by repeat (first | (with_reducible exact HR126_2.out) | (with_reducible refine Kd.C_alloc ?_ _) | (with_reducible refine Kd.C_drewN ?_ _) | (with_reducible refine Kd.C_drew ?_) | exact HR126_2.out)) hb); have n9_ := Aside0.mk (Kd.C_below (by repeat (first | (with_reducible exact HR127_2.out) | (with_reducible refine Kd.C_alloc ?_ _) | (with_reducible refine Kd.C_drewN ?_ _) | (with_reducible refine Kd.C_drew ?_) | exact HR127_2.out)) hb); have n10_ := Aside0.mk (Kd.C_below (by repeat (first | (with_reducible exact HR129_2.out) | (with_reducible refine Kd.C_alloc ?_ _) | (with_reducible refine Kd.C_drewN ?_ _) | (with_reducible refine Kd.C_drew ?_) | exact HR129_2.out)) hb); have n11_ := Aside0.mk (below_step (bs HB.out) hb); clear HO_3; clear HO_120001; clear HL125_2; clear HL126_2; clear HL127_2; clear HL129_2; clear BK119; clear HR125_2; clear HR126_2; clear HR127_2; clear HR129_2; clear HB; have HO_3 := n0_; have HO_120001 := n1_; have HL125_2 := n2_; have HL126_2 := n3_; have HL127_2 := n4_; have HL129_2 := n5_; have BK119 := n6_; have HR125_2 := n7_; have HR126_2 := n8_; have HR127_2 := n9_; have HR129_2 := n10_; have HB := n11_; clear n0_ n1_ n2_ n3_ n4_ n5_ n6_ n7_ n8_ n9_ n10_ n11_; (try clear hb); (try clear hb2); (try clear hk); (try clear hi); obtain ⟨hcz50_0, hcz50_1⟩ := bc2 BK119.out; obtain ⟨hfz50_0, hfz50_1⟩ := bf2 BK119.out) | (go_at_call 19; (with_reducible refine (evindex_Next.calls kj2 t115 _ _ t116 1 3 1 t133 _ ?side1 ?side2 A37.out).mono ?_); (case side1 => repeat (first | exact (Kd.S_reads' HO_120001.out).2.2 | (with_reducible refine Kd.C_alloc ?_ _) | (with_reducible refine Kd.C_drewN ?_ _) | (with_reducible refine Kd.C_drew ?_))); (case side2 => exact (Kd.S_reads' HO_120001.out).2.1); rintro e w51 ⟨rfl, hb⟩; have n0_ := Aside0.mk (Kd.R_below (rq HO_3.out) hb); have n1_ := Aside0.mk (Kd.S_below (by (with_reducible repeat (first | apply Kd.S_alloc | apply Kd.S_drewN | apply Kd.S_drew)); exact HO_120001.out) hb); have n2_ := Aside0.mk (Kd.R_below (by (with_reducible repeat (first | apply Kd.R_alloc | apply Kd.R_drewN | apply Kd.R_drew)); exact HL125_2.out) hb); have n3_ := Aside0.mk (Kd.R_below (by (with_reducible repeat (first | apply Kd.R_alloc | apply Kd.R_drewN | apply Kd.R_drew)); exact HL126_2.out) hb); have n4_ := Aside0.mk (Kd.R_below (by (with_reducible repeat (first | apply Kd.R_alloc | apply Kd.R_drewN | apply Kd.R_drew)); exact HL127_2.out) hb); have n5_ := Aside0.mk (Kd.R_below (by (with_reducible repeat (first | apply Kd.R_alloc | apply Kd.R_drewN | apply Kd.R_drew)); exact HL129_2.out) hb); have n6_ := Aside0.mk (blk_below (bg BK119.out) hb); have n7_ := Aside0.mk (Kd.C_below (by repeat (first | (with_reducible exact HR125_2.out) | (with_reducible refine Kd.C_alloc ?_ _) | (with_reducible refine Kd.C_drewN ?_ _) | (with_reducible refine Kd.C_drew ?_) | exact HR125_2.out)) hb); have n8_ := Aside0.mk (Kd.C_below (by repeat (first | (with_reducible exact HR126_2.out) | (with_reducible refine Kd.C_alloc ?_ _) | (with_reducible refine Kd.C_drewN ?_ _) | (with_reducible refine Kd.C_drew ?_) | exact HR126_2.out)) hb); have n9_ := Aside0.mk (Kd.C_below (by repeat (first | (with_reducible exact HR127_2.out) | (with_reducible refine Kd.C_alloc ?_ _) | (with_reducible refine Kd.C_drewN ?_ _) | (with_reducible refine Kd.C_drew ?_) | exact HR127_2.out)) hb); have n10_ := Aside0.mk (Kd.C_below (by repeat (first | (with_reducible exact HR129_2.out) | (with_reducible refine Kd.C_alloc ?_ _) | (with_reducible refine Kd.C_drewN ?_ _) | (with_reducible refine Kd.C_drew ?_) | exact HR129_2.out)) hb); have n11_ := Aside0.mk (below_step (bs HB.out) hb); clear HO_3; clear HO_120001; clear HL125_2; clear HL126_2; clear HL127_2; clear HL129_2; clear BK119; clear HR125_2; clear HR126_2; clear HR127_2; clear HR129_2; clear HB; have HO_3 := n0_; have HO_120001 := n1_; have HL125_2 := n2_; have HL126_2 := n3_; have HL127_2 := n4_; have HL129_2 := n5_; have BK119 := n6_; have HR125_2 := n7_; have HR126_2 := n8_; have HR127_2 := n9_; have HR129_2 := n10_; have HB := n11_; clear n0_ n1_ n2_ n3_ n4_ n5_ n6_ n7_ n8_ n9_ n10_ n11_; (try clear hb); (try clear hb2); (try clear hk); (try clear hi)))
                go_ret
                exact ⟨by first | rfl | (simp [errW_none, errW_some] <;> rfl) | (simp [*, errW_none, errW_some] <;> rfl), bs HB.out⟩
              ·
               rw [if_neg c36] at H
               have c36b0 : (t132 == 0) = false := beq_eq_false_iff_ne.mpr c36
               have c36b1 : (t132 != 0) = true := bne_iff_ne.mpr c36
               obtain rfl := Option.some.inj H
               obtain ⟨hcz52_0, hcz52_1⟩ := bc2 BK119.out
               obtain ⟨hfz52_0, hfz52_1⟩ := bf2 BK119.out
               have p125 : 0 ≤ (0 : Int) := (by omega)
               have q125 : 0 < (t116.length : Int) := of_decide_eq_true (by first | (with_reducible assumption) | assumption)
               obtain ⟨ad125, A125_2, c125_2, e125, hx125_0, hx125_1, hx125_2, hl125_2, hi125_2⟩ := at_T43 (Kd.S_reads' HO_120001.out).2.2 0 p125 q125
               cases e125
               obtain ⟨ce125, hce125, hMe125, hcc125⟩ := Kd.S_get HO_120001.out z43 0 p125 (by first | exact q125 | exact of_decide_eq_true (by first | (with_reducible assumption) | assumption) | (have e_ := (Kd.S_reads' HO_120001.out).1; omega))
               obtain ⟨ve125_2, rfl, ge125_2⟩ := k43_openM hMe125
               have hv125_2 := hcc125 2 _ rfl
               rw [add_field _ _ 2 (by omega)] at hv125_2
               replace hv125_2 := Option.some.inj (hv125_2.symm.trans hx125_2)
               rw [hv125_2] at ge125_2
               have HL125_2 := Aside0.mk (show Kd.R (Kd.int .i64) 3 _ _ _ _ ((rd_T43 t116 0).f2) from ge125_2)
               clear hv125_2 ge125_2
               clear hcc125 hce125
               have qi125 : (0 < t116.length) = True := eq_true (by omega)
               (try rw [show ((0 : Int)).toNat = 0 from rfl] at hx125_0)
               (try rw [show 0 * 3 = 0 from rfl] at hx125_0)
               (try rw [Addr.add_zero'] at hx125_0)
               (try rw [show ((0 : Int)).toNat = 0 from rfl] at hx125_1)
               (try rw [show 0 * 3 = 0 from rfl] at hx125_1)
               (try rw [Addr.add_zero'] at hx125_1)
               (try rw [show ((0 : Int)).toNat = 0 from rfl] at hx125_2)
               (try rw [show 0 * 3 = 0 from rfl] at hx125_2)
               (try rw [Addr.add_zero'] at hx125_2)
               have HR125_2 := Aside0.mk hi125_2
               have HC125_2 := Aside0.mk hl125_2
               clear hi125_2 hl125_2
               replace p125 := eq_true p125
               replace q125 := eq_true q125
               have p126 : 0 ≤ (0 : Int) := (by omega)
               have q126 : 0 < (t116.length : Int) := of_decide_eq_true (by first | (with_reducible assumption) | assumption)
               obtain ⟨ad126, A126_2, c126_2, e126, hx126_0, hx126_1, hx126_2, hl126_2, hi126_2⟩ := at_T43 (Kd.S_reads' HO_120001.out).2.2 0 p126 q126
               obtain rfl : ad125 = ad126 := (by injection e126)
               obtain ⟨ce126, hce126, hMe126, hcc126⟩ := Kd.S_get HO_120001.out z43 0 p126 (by first | exact q126 | exact of_decide_eq_true (by first | (with_reducible assumption) | assumption) | (have e_ := (Kd.S_reads' HO_120001.out).1; omega))
               obtain ⟨ve126_2, rfl, ge126_2⟩ := k43_openM hMe126
               have hv126_2 := hcc126 2 _ rfl
               rw [add_field _ _ 2 (by omega)] at hv126_2
               replace hv126_2 := Option.some.inj (hv126_2.symm.trans hx126_2)
               rw [hv126_2] at ge126_2
               have HL126_2 := Aside0.mk (show Kd.R (Kd.int .i64) 3 _ _ _ _ ((rd_T43 t116 0).f2) from ge126_2)
               clear hv126_2 ge126_2
               clear hcc126 hce126
               have qi126 : (0 < t116.length) = True := eq_true (by omega)
               (try rw [show ((0 : Int)).toNat = 0 from rfl] at hx126_0)
               (try rw [show 0 * 3 = 0 from rfl] at hx126_0)
               (try rw [Addr.add_zero'] at hx126_0)
               (try rw [show ((0 : Int)).toNat = 0 from rfl] at hx126_1)
               (try rw [show 0 * 3 = 0 from rfl] at hx126_1)
               (try rw [Addr.add_zero'] at hx126_1)
               (try rw [show ((0 : Int)).toNat = 0 from rfl] at hx126_2)
               (try rw [show 0 * 3 = 0 from rfl] at hx126_2)
               (try rw [Addr.add_zero'] at hx126_2)
               have HR126_2 := Aside0.mk hi126_2
               have HC126_2 := Aside0.mk hl126_2
               clear hi126_2 hl126_2
               replace p126 := eq_true p126
               replace q126 := eq_true q126
               have ea_ := Option.some.inj (hx125_2.symm.trans hx126_2)
               injection ea_ with ea_ en_ ec_
               subst ea_
               subst ec_
               clear en_
               have p127 : 0 ≤ (0 : Int) := (by omega)
               have q127 : 0 < (t116.length : Int) := of_decide_eq_true (by first | (with_reducible assumption) | assumption)
               obtain ⟨ad127, A127_2, c127_2, e127, hx127_0, hx127_1, hx127_2, hl127_2, hi127_2⟩ := at_T43 (Kd.S_reads' HO_120001.out).2.2 0 p127 q127
               obtain rfl : ad125 = ad127 := (by injection e127)
               obtain ⟨ce127, hce127, hMe127, hcc127⟩ := Kd.S_get HO_120001.out z43 0 p127 (by first | exact q127 | exact of_decide_eq_true (by first | (with_reducible assumption) | assumption) | (have e_ := (Kd.S_reads' HO_120001.out).1; omega))
               obtain ⟨ve127_2, rfl, ge127_2⟩ := k43_openM hMe127
               have hv127_2 := hcc127 2 _ rfl
               rw [add_field _ _ 2 (by omega)] at hv127_2
               replace hv127_2 := Option.some.inj (hv127_2.symm.trans hx127_2)
               rw [hv127_2] at ge127_2
               have HL127_2 := Aside0.mk (show Kd.R (Kd.int .i64) 3 _ _ _ _ ((rd_T43 t116 0).f2) from ge127_2)
               clear hv127_2 ge127_2
               clear hcc127 hce127
               have qi127 : (0 < t116.length) = True := eq_true (by omega)
               (try rw [show ((0 : Int)).toNat = 0 from rfl] at hx127_0)
               (try rw [show 0 * 3 = 0 from rfl] at hx127_0)
               (try rw [Addr.add_zero'] at hx127_0)
               (try rw [show ((0 : Int)).toNat = 0 from rfl] at hx127_1)
               (try rw [show 0 * 3 = 0 from rfl] at hx127_1)
               (try rw [Addr.add_zero'] at hx127_1)
               (try rw [show ((0 : Int)).toNat = 0 from rfl] at hx127_2)
               (try rw [show 0 * 3 = 0 from rfl] at hx127_2)
               (try rw [Addr.add_zero'] at hx127_2)
               have HR127_2 := Aside0.mk hi127_2
               have HC127_2 := Aside0.mk hl127_2
               clear hi127_2 hl127_2
               replace p127 := eq_true p127
               replace q127 := eq_true q127
               have ea_ := Option.some.inj (hx125_2.symm.trans hx127_2)
               injection ea_ with ea_ en_ ec_
               subst ea_
               subst ec_
               clear en_
               have p128 : 0 ≤ (0 : Int) := (by omega)
               have q128 : 0 < (((rd_T43 t116 0).f2).length : Int) := of_decide_eq_true (by first | (with_reducible assumption) | assumption)
               obtain ⟨ad128, e128, hx128_0⟩ := Kd.at_int (by repeat (first | (with_reducible exact HR127_2.out) | (with_reducible refine Kd.C_alloc ?_ _) | (with_reducible refine Kd.C_drewN ?_ _) | (with_reducible refine Kd.C_drew ?_) | exact HR127_2.out)) 0 p128 q128
               cases e128
               have qi128 : (0 < ((rd_T43 t116 0).f2).length) = True := eq_true (by omega)
               (try rw [show ((0 : Int)).toNat = 0 from rfl] at hx128_0)
               (try rw [Addr.add_zero'] at hx128_0)
               replace p128 := eq_true p128
               replace q128 := eq_true q128
               have p129 : 0 ≤ (1 : Int) := (by omega)
               have q129 : 1 < (t116.length : Int) := of_decide_eq_true (by first | (with_reducible assumption) | assumption)
               obtain ⟨ad129, A129_2, c129_2, e129, hx129_0, hx129_1, hx129_2, hl129_2, hi129_2⟩ := at_T43 (Kd.S_reads' HO_120001.out).2.2 1 p129 q129
               obtain rfl : ad125 = ad129 := (by injection e129)
               obtain ⟨ce129, hce129, hMe129, hcc129⟩ := Kd.S_get HO_120001.out z43 1 p129 (by first | exact q129 | exact of_decide_eq_true (by first | (with_reducible assumption) | assumption) | (have e_ := (Kd.S_reads' HO_120001.out).1; omega))
               obtain ⟨ve129_2, rfl, ge129_2⟩ := k43_openM hMe129
               have hv129_2 := hcc129 2 _ rfl
               rw [add_field _ _ 2 (by omega)] at hv129_2
               replace hv129_2 := Option.some.inj (hv129_2.symm.trans hx129_2)
               rw [hv129_2] at ge129_2
               have HL129_2 := Aside0.mk (show Kd.R (Kd.int .i64) 3 _ _ _ _ ((rd_T43 t116 1).f2) from ge129_2)
               clear hv129_2 ge129_2
               clear hcc129 hce129
               (try simp only [show (1 : Int).toNat = 1 from rfl, Nat.reduceMul, Nat.reduceEqDiff, Go.Addr.add, ↓reduceIte] at hx129_0)
               (try simp only [show (1 : Int).toNat = 1 from rfl, Nat.reduceMul, Nat.reduceEqDiff, Go.Addr.add, ↓reduceIte] at hx129_1)
               (try simp only [show (1 : Int).toNat = 1 from rfl, Nat.reduceMul, Nat.reduceEqDiff, Go.Addr.add, ↓reduceIte] at hx129_2)
               have qi129 : (1 < t116.length) = True := eq_true (by omega)
               (try rw [show ((1 : Int)).toNat = 1 from rfl] at hx129_0)
               (try rw [show 1 * 3 = 3 from rfl] at hx129_0)
               (try rw [show ((1 : Int)).toNat = 1 from rfl] at hx129_1)
               (try rw [show 1 * 3 = 3 from rfl] at hx129_1)
               (try rw [show ((1 : Int)).toNat = 1 from rfl] at hx129_2)
               (try rw [show 1 * 3 = 3 from rfl] at hx129_2)
               have HR129_2 := Aside0.mk hi129_2
               have HC129_2 := Aside0.mk hl129_2
               clear hi129_2 hl129_2
               replace p129 := eq_true p129
               replace q129 := eq_true q129
               have p130 : 0 ≤ (1 : Int) := (by omega)
               have q130 : 1 < (((rd_T43 t116 1).f2).length : Int) := of_decide_eq_true (by first | (with_reducible assumption) | assumption)
               obtain ⟨ad130, e130, hx130_0⟩ := Kd.at_int (by repeat (first | (with_reducible exact HR129_2.out) | (with_reducible refine Kd.C_alloc ?_ _) | (with_reducible refine Kd.C_drewN ?_ _) | (with_reducible refine Kd.C_drew ?_) | exact HR129_2.out)) 1 p130 q130
               cases e130
               (try simp only [show (1 : Int).toNat = 1 from rfl, Nat.reduceMul, Nat.reduceEqDiff, Go.Addr.add, ↓reduceIte] at hx130_0)
               have qi130 : (1 < ((rd_T43 t116 1).f2).length) = True := eq_true (by omega)
               (try rw [show ((1 : Int)).toNat = 1 from rfl] at hx130_0)
               replace p130 := eq_true p130
               replace q130 := eq_true q130
               obtain ⟨Ao53, co53, eo53⟩ := Kd.R_slice HO_3.out
               subst eo53
               have p131 : 0 ≤ (1 : Int) := (by omega)
               have q131 : 1 < (t120.length : Int) := of_decide_eq_true (by first | (with_reducible assumption) | assumption)
               obtain ⟨ad131, e131, hx131_0⟩ := Kd.at_int (Kd.R_reads' HO_3.out).2.2 1 p131 q131
               cases e131
               (try simp only [show (1 : Int).toNat = 1 from rfl, Nat.reduceMul, Nat.reduceEqDiff, Go.Addr.add, ↓reduceIte] at hx131_0)
               have qi131 : (1 < t120.length) = True := eq_true (by omega)
               (try rw [show ((1 : Int)).toNat = 1 from rfl] at hx131_0)
               replace p131 := eq_true p131
               replace q131 := eq_true q131
               go_wp2_with (first | (go_at_call 14; (with_reducible refine (evindex_Check.calls kj2 t115 _ _ t116 t132 _ ?side1 ?side2 A35.out).mono ?_); (case side1 => repeat (first | exact (Kd.S_reads' HO_120001.out).2.2 | (with_reducible refine Kd.C_alloc ?_ _) | (with_reducible refine Kd.C_drewN ?_ _) | (with_reducible refine Kd.C_drew ?_))); (case side2 => exact (Kd.S_reads' HO_120001.out).2.1); rintro e w54 ⟨rfl, hb⟩; have n0_ := Aside0.mk (Kd.R_below (rq HO_3.out) hb); have n1_ := Aside0.mk (Kd.S_below (by (with_reducible repeat (first | apply Kd.S_alloc | apply Kd.S_drewN | apply Kd.S_drew)); exact HO_120001.out) hb); have n2_ := Aside0.mk (Kd.R_below (by (with_reducible repeat (first | apply Kd.R_alloc | apply Kd.R_drewN | apply Kd.R_drew)); exact HL125_2.out) hb); have n3_ := Aside0.mk (Kd.R_below (by (with_reducible repeat (first | apply Kd.R_alloc | apply Kd.R_drewN | apply Kd.R_drew)); exact HL126_2.out) hb); have n4_ := Aside0.mk (Kd.R_below (by (with_reducible repeat (first | apply Kd.R_alloc | apply Kd.R_drewN | apply Kd.R_drew)); exact HL127_2.out) hb); have n5_ := Aside0.mk (Kd.R_below (by (with_reducible repeat (first | apply Kd.R_alloc | apply Kd.R_drewN | apply Kd.R_drew)); exact HL129_2.out) hb); have n6_ := Aside0.mk (blk_below (bg BK119.out) hb); have n7_ := Aside0.mk (Kd.C_below (by repeat (first | (with_reducible exact HR125_2.out) | (with_reducible refine Kd.C_alloc ?_ _) | (with_reducible refine Kd.C_drewN ?_ _) | (with_reducible refine Kd.C_drew ?_) | exact HR125_2.out)) hb); have n8_ := Aside0.mk (Kd.C_below (by repeat (first | (with_reducible exact HR126_2.out) | (with_reducible refine Kd.C_alloc ?_ _) | (with_reducible refine Kd.C_drewN ?_ _) | (with_reducible refine Kd.C_drew ?_) | exact HR126_2.out)) hb); have n9_ := Aside0.mk (Kd.C_below (by repeat (first | (with_reducible exact HR127_2.out) | (with_reducible refine Kd.C_alloc ?_ _) | (with_reducible refine Kd.C_drewN ?_ _) | (with_reducible refine Kd.C_drew ?_) | exact HR127_2.out)) hb); have n10_ := Aside0.mk (Kd.C_below (by repeat (first | (with_reducible exact HR129_2.out) | (with_reducible refine Kd.C_alloc ?_ _) | (with_reducible refine Kd.C_drewN ?_ _) | (with_reducible refine Kd.C_drew ?_) | exact HR129_2.out)) hb); have n11_ := Aside0.mk (below_step (bs HB.out) hb); clear HO_3; clear HO_120001; clear HL125_2; clear HL126_2; clear HL127_2; clear HL129_2; clear BK119; clear HR125_2; clear HR126_2; clear HR127_2; clear HR129_2; clear HB; have HO_3 := n0_; have HO_120001 := n1_; have HL125_2 := n2_; have HL126_2 := n3_; have HL127_2 := n4_; have HL129_2 := n5_; have BK119 := n6_; have HR125_2 := n7_; have HR126_2 := n8_; have HR127_2 := n9_; have HR129_2 := n10_; have HB := n11_; clear n0_ n1_ n2_ n3_ n4_ n5_ n6_ n7_ n8_ n9_ n10_ n11_; (try clear hb); (try clear hb2); (try clear hk); (try clear hi)))
               go_ret
               exact ⟨by first | rfl | (simp [errW_none, errW_some] <;> rfl) | (simp [*, errW_none, errW_some] <;> rfl), bs HB.out⟩
             ·
              rw [if_neg c34] at H
              have c34b0 : ((rd t120 1) == 2) = false := beq_eq_false_iff_ne.mpr c34
              have c34b1 : ((rd t120 1) != 2) = true := bne_iff_ne.mpr c34
              obtain rfl := Option.some.inj H
              obtain ⟨hcz55_0, hcz55_1⟩ := bc2 BK119.out
              obtain ⟨hfz55_0, hfz55_1⟩ := bf2 BK119.out
              have p125 : 0 ≤ (0 : Int) := (by omega)
              have q125 : 0 < (t116.length : Int) := of_decide_eq_true (by first | (with_reducible assumption) | assumption)
              obtain ⟨ad125, A125_2, c125_2, e125, hx125_0, hx125_1, hx125_2, hl125_2, hi125_2⟩ := at_T43 (Kd.S_reads' HO_120001.out).2.2 0 p125 q125
              cases e125
              obtain ⟨ce125, hce125, hMe125, hcc125⟩ := Kd.S_get HO_120001.out z43 0 p125 (by first | exact q125 | exact of_decide_eq_true (by first | (with_reducible assumption) | assumption) | (have e_ := (Kd.S_reads' HO_120001.out).1; omega))
              obtain ⟨ve125_2, rfl, ge125_2⟩ := k43_openM hMe125
              have hv125_2 := hcc125 2 _ rfl
              rw [add_field _ _ 2 (by omega)] at hv125_2
              replace hv125_2 := Option.some.inj (hv125_2.symm.trans hx125_2)
              rw [hv125_2] at ge125_2
              have HL125_2 := Aside0.mk (show Kd.R (Kd.int .i64) 3 _ _ _ _ ((rd_T43 t116 0).f2) from ge125_2)
              clear hv125_2 ge125_2
              clear hcc125 hce125
              have qi125 : (0 < t116.length) = True := eq_true (by omega)
              (try rw [show ((0 : Int)).toNat = 0 from rfl] at hx125_0)
              (try rw [show 0 * 3 = 0 from rfl] at hx125_0)
              (try rw [Addr.add_zero'] at hx125_0)
              (try rw [show ((0 : Int)).toNat = 0 from rfl] at hx125_1)
              (try rw [show 0 * 3 = 0 from rfl] at hx125_1)
              (try rw [Addr.add_zero'] at hx125_1)
              (try rw [show ((0 : Int)).toNat = 0 from rfl] at hx125_2)
              (try rw [show 0 * 3 = 0 from rfl] at hx125_2)
              (try rw [Addr.add_zero'] at hx125_2)
              have HR125_2 := Aside0.mk hi125_2
              have HC125_2 := Aside0.mk hl125_2
              clear hi125_2 hl125_2
              replace p125 := eq_true p125
              replace q125 := eq_true q125
              have p126 : 0 ≤ (0 : Int) := (by omega)
              have q126 : 0 < (t116.length : Int) := of_decide_eq_true (by first | (with_reducible assumption) | assumption)
              obtain ⟨ad126, A126_2, c126_2, e126, hx126_0, hx126_1, hx126_2, hl126_2, hi126_2⟩ := at_T43 (Kd.S_reads' HO_120001.out).2.2 0 p126 q126
              obtain rfl : ad125 = ad126 := (by injection e126)
              obtain ⟨ce126, hce126, hMe126, hcc126⟩ := Kd.S_get HO_120001.out z43 0 p126 (by first | exact q126 | exact of_decide_eq_true (by first | (with_reducible assumption) | assumption) | (have e_ := (Kd.S_reads' HO_120001.out).1; omega))
              obtain ⟨ve126_2, rfl, ge126_2⟩ := k43_openM hMe126
              have hv126_2 := hcc126 2 _ rfl
              rw [add_field _ _ 2 (by omega)] at hv126_2
              replace hv126_2 := Option.some.inj (hv126_2.symm.trans hx126_2)
              rw [hv126_2] at ge126_2
              have HL126_2 := Aside0.mk (show Kd.R (Kd.int .i64) 3 _ _ _ _ ((rd_T43 t116 0).f2) from ge126_2)
              clear hv126_2 ge126_2
              clear hcc126 hce126
              have qi126 : (0 < t116.length) = True := eq_true (by omega)
              (try rw [show ((0 : Int)).toNat = 0 from rfl] at hx126_0)
              (try rw [show 0 * 3 = 0 from rfl] at hx126_0)
              (try rw [Addr.add_zero'] at hx126_0)
              (try rw [show ((0 : Int)).toNat = 0 from rfl] at hx126_1)
              (try rw [show 0 * 3 = 0 from rfl] at hx126_1)
              (try rw [Addr.add_zero'] at hx126_1)
              (try rw [show ((0 : Int)).toNat = 0 from rfl] at hx126_2)
              (try rw [show 0 * 3 = 0 from rfl] at hx126_2)
              (try rw [Addr.add_zero'] at hx126_2)
              have HR126_2 := Aside0.mk hi126_2
              have HC126_2 := Aside0.mk hl126_2
              clear hi126_2 hl126_2
              replace p126 := eq_true p126
              replace q126 := eq_true q126
              have ea_ := Option.some.inj (hx125_2.symm.trans hx126_2)
              injection ea_ with ea_ en_ ec_
              subst ea_
              subst ec_
              clear en_
              have p127 : 0 ≤ (0 : Int) := (by omega)
              have q127 : 0 < (t116.length : Int) := of_decide_eq_true (by first | (with_reducible assumption) | assumption)
              obtain ⟨ad127, A127_2, c127_2, e127, hx127_0, hx127_1, hx127_2, hl127_2, hi127_2⟩ := at_T43 (Kd.S_reads' HO_120001.out).2.2 0 p127 q127
              obtain rfl : ad125 = ad127 := (by injection e127)
              obtain ⟨ce127, hce127, hMe127, hcc127⟩ := Kd.S_get HO_120001.out z43 0 p127 (by first | exact q127 | exact of_decide_eq_true (by first | (with_reducible assumption) | assumption) | (have e_ := (Kd.S_reads' HO_120001.out).1; omega))
              obtain ⟨ve127_2, rfl, ge127_2⟩ := k43_openM hMe127
              have hv127_2 := hcc127 2 _ rfl
              rw [add_field _ _ 2 (by omega)] at hv127_2
              replace hv127_2 := Option.some.inj (hv127_2.symm.trans hx127_2)
              rw [hv127_2] at ge127_2
              have HL127_2 := Aside0.mk (show Kd.R (Kd.int .i64) 3 _ _ _ _ ((rd_T43 t116 0).f2) from ge127_2)
              clear hv127_2 ge127_2
              clear hcc127 hce127
              have qi127 : (0 < t116.length) = True := eq_true (by omega)
              (try rw [show ((0 : Int)).toNat = 0 from rfl] at hx127_0)
              (try rw [show 0 * 3 = 0 from rfl] at hx127_0)
              (try rw [Addr.add_zero'] at hx127_0)
              (try rw [show ((0 : Int)).toNat = 0 from rfl] at hx127_1)
              (try rw [show 0 * 3 = 0 from rfl] at hx127_1)
              (try rw [Addr.add_zero'] at hx127_1)
              (try rw [show ((0 : Int)).toNat = 0 from rfl] at hx127_2)
              (try rw [show 0 * 3 = 0 from rfl] at hx127_2)
              (try rw [Addr.add_zero'] at hx127_2)
              have HR127_2 := Aside0.mk hi127_2
              have HC127_2 := Aside0.mk hl127_2
              clear hi127_2 hl127_2
              replace p127 := eq_true p127
              replace q127 := eq_true q127
              have ea_ := Option.some.inj (hx125_2.symm.trans hx127_2)
              injection ea_ with ea_ en_ ec_
              subst ea_
              subst ec_
              clear en_
              have p128 : 0 ≤ (0 : Int) := (by omega)
              have q128 : 0 < (((rd_T43 t116 0).f2).length : Int) := of_decide_eq_true (by first | (with_reducible assumption) | assumption)
              obtain ⟨ad128, e128, hx128_0⟩ := Kd.at_int (by repeat (first | (with_reducible exact HR127_2.out) | (with_reducible refine Kd.C_alloc ?_ _) | (with_reducible refine Kd.C_drewN ?_ _) | (with_reducible refine Kd.C_drew ?_) | exact HR127_2.out)) 0 p128 q128
              cases e128
              have qi128 : (0 < ((rd_T43 t116 0).f2).length) = True := eq_true (by omega)
              (try rw [show ((0 : Int)).toNat = 0 from rfl] at hx128_0)
              (try rw [Addr.add_zero'] at hx128_0)
              replace p128 := eq_true p128
              replace q128 := eq_true q128
              have p129 : 0 ≤ (1 : Int) := (by omega)
              have q129 : 1 < (t116.length : Int) := of_decide_eq_true (by first | (with_reducible assumption) | assumption)
              obtain ⟨ad129, A129_2, c129_2, e129, hx129_0, hx129_1, hx129_2, hl129_2, hi129_2⟩ := at_T43 (Kd.S_reads' HO_120001.out).2.2 1 p129 q129
              obtain rfl : ad125 = ad129 := (by injection e129)
              obtain ⟨ce129, hce129, hMe129, hcc129⟩ := Kd.S_get HO_120001.out z43 1 p129 (by first | exact q129 | exact of_decide_eq_true (by first | (with_reducible assumption) | assumption) | (have e_ := (Kd.S_reads' HO_120001.out).1; omega))
              obtain ⟨ve129_2, rfl, ge129_2⟩ := k43_openM hMe129
              have hv129_2 := hcc129 2 _ rfl
              rw [add_field _ _ 2 (by omega)] at hv129_2
              replace hv129_2 := Option.some.inj (hv129_2.symm.trans hx129_2)
              rw [hv129_2] at ge129_2
              have HL129_2 := Aside0.mk (show Kd.R (Kd.int .i64) 3 _ _ _ _ ((rd_T43 t116 1).f2) from ge129_2)
              clear hv129_2 ge129_2
              clear hcc129 hce129
              (try simp only [show (1 : Int).toNat = 1 from rfl, Nat.reduceMul, Nat.reduceEqDiff, Go.Addr.add, ↓reduceIte] at hx129_0)
              (try simp only [show (1 : Int).toNat = 1 from rfl, Nat.reduceMul, Nat.reduceEqDiff, Go.Addr.add, ↓reduceIte] at hx129_1)
              (try simp only [show (1 : Int).toNat = 1 from rfl, Nat.reduceMul, Nat.reduceEqDiff, Go.Addr.add, ↓reduceIte] at hx129_2)
              have qi129 : (1 < t116.length) = True := eq_true (by omega)
              (try rw [show ((1 : Int)).toNat = 1 from rfl] at hx129_0)
              (try rw [show 1 * 3 = 3 from rfl] at hx129_0)
              (try rw [show ((1 : Int)).toNat = 1 from rfl] at hx129_1)
              (try rw [show 1 * 3 = 3 from rfl] at hx129_1)
              (try rw [show ((1 : Int)).toNat = 1 from rfl] at hx129_2)
              (try rw [show 1 * 3 = 3 from rfl] at hx129_2)
              have HR129_2 := Aside0.mk hi129_2
              have HC129_2 := Aside0.mk hl129_2
              clear hi129_2 hl129_2
              replace p129 := eq_true p129
              replace q129 := eq_true q129
              have p130 : 0 ≤ (1 : Int) := (by omega)
              have q130 : 1 < (((rd_T43 t116 1).f2).length : Int) := of_decide_eq_true (by first | (with_reducible assumption) | assumption)
              obtain ⟨ad130, e130, hx130_0⟩ := Kd.at_int (by repeat (first | (with_reducible exact HR129_2.out) | (with_reducible refine Kd.C_alloc ?_ _) | (with_reducible refine Kd.C_drewN ?_ _) | (with_reducible refine Kd.C_drew ?_) | exact HR129_2.out)) 1 p130 q130
              cases e130
              (try simp only [show (1 : Int).toNat = 1 from rfl, Nat.reduceMul, Nat.reduceEqDiff, Go.Addr.add, ↓reduceIte] at hx130_0)
              have qi130 : (1 < ((rd_T43 t116 1).f2).length) = True := eq_true (by omega)
              (try rw [show ((1 : Int)).toNat = 1 from rfl] at hx130_0)
              replace p130 := eq_true p130
              replace q130 := eq_true q130
              obtain ⟨Ao56, co56, eo56⟩ := Kd.R_slice HO_3.out
              subst eo56
              have p131 : 0 ≤ (1 : Int) := (by omega)
              have q131 : 1 < (t120.length : Int) := of_decide_eq_true (by first | (with_reducible assumption) | assumption)
              obtain ⟨ad131, e131, hx131_0⟩ := Kd.at_int (Kd.R_reads' HO_3.out).2.2 1 p131 q131
              cases e131
              (try simp only [show (1 : Int).toNat = 1 from rfl, Nat.reduceMul, Nat.reduceEqDiff, Go.Addr.add, ↓reduceIte] at hx131_0)
              have qi131 : (1 < t120.length) = True := eq_true (by omega)
              (try rw [show ((1 : Int)).toNat = 1 from rfl] at hx131_0)
              replace p131 := eq_true p131
              replace q131 := eq_true q131
              go_wp2
              go_ret
              exact ⟨by first | rfl | (simp [errW_none, errW_some] <;> rfl) | (simp [*, errW_none, errW_some] <;> rfl), bs HB.out⟩
            ·
             rw [if_neg c33] at H
             exact absurd H (by simp)
           ·
            rw [if_neg c32] at H
            have c32b0 : ((rd ((rd_T43 t116 1).f2) 1) == 2) = false := beq_eq_false_iff_ne.mpr c32
            have c32b1 : ((rd ((rd_T43 t116 1).f2) 1) != 2) = true := bne_iff_ne.mpr c32
            obtain rfl := Option.some.inj H
            obtain ⟨hcz57_0, hcz57_1⟩ := bc2 BK119.out
            obtain ⟨hfz57_0, hfz57_1⟩ := bf2 BK119.out
            have p125 : 0 ≤ (0 : Int) := (by omega)
            have q125 : 0 < (t116.length : Int) := of_decide_eq_true (by first | (with_reducible assumption) | assumption)
            obtain ⟨ad125, A125_2, c125_2, e125, hx125_0, hx125_1, hx125_2, hl125_2, hi125_2⟩ := at_T43 (Kd.S_reads' HO_120001.out).2.2 0 p125 q125
            cases e125
            obtain ⟨ce125, hce125, hMe125, hcc125⟩ := Kd.S_get HO_120001.out z43 0 p125 (by first | exact q125 | exact of_decide_eq_true (by first | (with_reducible assumption) | assumption) | (have e_ := (Kd.S_reads' HO_120001.out).1; omega))
            obtain ⟨ve125_2, rfl, ge125_2⟩ := k43_openM hMe125
            have hv125_2 := hcc125 2 _ rfl
            rw [add_field _ _ 2 (by omega)] at hv125_2
            replace hv125_2 := Option.some.inj (hv125_2.symm.trans hx125_2)
            rw [hv125_2] at ge125_2
            have HL125_2 := Aside0.mk (show Kd.R (Kd.int .i64) 3 _ _ _ _ ((rd_T43 t116 0).f2) from ge125_2)
            clear hv125_2 ge125_2
            clear hcc125 hce125
            have qi125 : (0 < t116.length) = True := eq_true (by omega)
            (try rw [show ((0 : Int)).toNat = 0 from rfl] at hx125_0)
            (try rw [show 0 * 3 = 0 from rfl] at hx125_0)
            (try rw [Addr.add_zero'] at hx125_0)
            (try rw [show ((0 : Int)).toNat = 0 from rfl] at hx125_1)
            (try rw [show 0 * 3 = 0 from rfl] at hx125_1)
            (try rw [Addr.add_zero'] at hx125_1)
            (try rw [show ((0 : Int)).toNat = 0 from rfl] at hx125_2)
            (try rw [show 0 * 3 = 0 from rfl] at hx125_2)
            (try rw [Addr.add_zero'] at hx125_2)
            have HR125_2 := Aside0.mk hi125_2
            have HC125_2 := Aside0.mk hl125_2
            clear hi125_2 hl125_2
            replace p125 := eq_true p125
            replace q125 := eq_true q125
            have p126 : 0 ≤ (0 : Int) := (by omega)
            have q126 : 0 < (t116.length : Int) := of_decide_eq_true (by first | (with_reducible assumption) | assumption)
            obtain ⟨ad126, A126_2, c126_2, e126, hx126_0, hx126_1, hx126_2, hl126_2, hi126_2⟩ := at_T43 (Kd.S_reads' HO_120001.out).2.2 0 p126 q126
            obtain rfl : ad125 = ad126 := (by injection e126)
            obtain ⟨ce126, hce126, hMe126, hcc126⟩ := Kd.S_get HO_120001.out z43 0 p126 (by first | exact q126 | exact of_decide_eq_true (by first | (with_reducible assumption) | assumption) | (have e_ := (Kd.S_reads' HO_120001.out).1; omega))
            obtain ⟨ve126_2, rfl, ge126_2⟩ := k43_openM hMe126
            have hv126_2 := hcc126 2 _ rfl
            rw [add_field _ _ 2 (by omega)] at hv126_2
            replace hv126_2 := Option.some.inj (hv126_2.symm.trans hx126_2)
            rw [hv126_2] at ge126_2
            have HL126_2 := Aside0.mk (show Kd.R (Kd.int .i64) 3 _ _ _ _ ((rd_T43 t116 0).f2) from ge126_2)
            clear hv126_2 ge126_2
            clear hcc126 hce126
            have qi126 : (0 < t116.length) = True := eq_true (by omega)
            (try rw [show ((0 : Int)).toNat = 0 from rfl] at hx126_0)
            (try rw [show 0 * 3 = 0 from rfl] at hx126_0)
            (try rw [Addr.add_zero'] at hx126_0)
            (try rw [show ((0 : Int)).toNat = 0 from rfl] at hx126_1)
            (try rw [show 0 * 3 = 0 from rfl] at hx126_1)
            (try rw [Addr.add_zero'] at hx126_1)
            (try rw [show ((0 : Int)).toNat = 0 from rfl] at hx126_2)
            (try rw [show 0 * 3 = 0 from rfl] at hx126_2)
            (try rw [Addr.add_zero'] at hx126_2)
            have HR126_2 := Aside0.mk hi126_2
            have HC126_2 := Aside0.mk hl126_2
            clear hi126_2 hl126_2
            replace p126 := eq_true p126
            replace q126 := eq_true q126
            have ea_ := Option.some.inj (hx125_2.symm.trans hx126_2)
            injection ea_ with ea_ en_ ec_
            subst ea_
            subst ec_
            clear en_
            have p127 : 0 ≤ (0 : Int) := (by omega)
            have q127 : 0 < (t116.length : Int) := of_decide_eq_true (by first | (with_reducible assumption) | assumption)
            obtain ⟨ad127, A127_2, c127_2, e127, hx127_0, hx127_1, hx127_2, hl127_2, hi127_2⟩ := at_T43 (Kd.S_reads' HO_120001.out).2.2 0 p127 q127
            obtain rfl : ad125 = ad127 := (by injection e127)
            obtain ⟨ce127, hce127, hMe127, hcc127⟩ := Kd.S_get HO_120001.out z43 0 p127 (by first | exact q127 | exact of_decide_eq_true (by first | (with_reducible assumption) | assumption) | (have e_ := (Kd.S_reads' HO_120001.out).1; omega))
            obtain ⟨ve127_2, rfl, ge127_2⟩ := k43_openM hMe127
            have hv127_2 := hcc127 2 _ rfl
            rw [add_field _ _ 2 (by omega)] at hv127_2
            replace hv127_2 := Option.some.inj (hv127_2.symm.trans hx127_2)
            rw [hv127_2] at ge127_2
            have HL127_2 := Aside0.mk (show Kd.R (Kd.int .i64) 3 _ _ _ _ ((rd_T43 t116 0).f2) from ge127_2)
            clear hv127_2 ge127_2
            clear hcc127 hce127
            have qi127 : (0 < t116.length) = True := eq_true (by omega)
            (try rw [show ((0 : Int)).toNat = 0 from rfl] at hx127_0)
            (try rw [show 0 * 3 = 0 from rfl] at hx127_0)
            (try rw [Addr.add_zero'] at hx127_0)
            (try rw [show ((0 : Int)).toNat = 0 from rfl] at hx127_1)
            (try rw [show 0 * 3 = 0 from rfl] at hx127_1)
            (try rw [Addr.add_zero'] at hx127_1)
            (try rw [show ((0 : Int)).toNat = 0 from rfl] at hx127_2)
            (try rw [show 0 * 3 = 0 from rfl] at hx127_2)
            (try rw [Addr.add_zero'] at hx127_2)
            have HR127_2 := Aside0.mk hi127_2
            have HC127_2 := Aside0.mk hl127_2
            clear hi127_2 hl127_2
            replace p127 := eq_true p127
            replace q127 := eq_true q127
            have ea_ := Option.some.inj (hx125_2.symm.trans hx127_2)
            injection ea_ with ea_ en_ ec_
            subst ea_
            subst ec_
            clear en_
            have p128 : 0 ≤ (0 : Int) := (by omega)
            have q128 : 0 < (((rd_T43 t116 0).f2).length : Int) := of_decide_eq_true (by first | (with_reducible assumption) | assumption)
            obtain ⟨ad128, e128, hx128_0⟩ := Kd.at_int (by repeat (first | (with_reducible exact HR127_2.out) | (with_reducible refine Kd.C_alloc ?_ _) | (with_reducible refine Kd.C_drewN ?_ _) | (with_reducible refine Kd.C_drew ?_) | exact HR127_2.out)) 0 p128 q128
            cases e128
            have qi128 : (0 < ((rd_T43 t116 0).f2).length) = True := eq_true (by omega)
            (try rw [show ((0 : Int)).toNat = 0 from rfl] at hx128_0)
            (try rw [Addr.add_zero'] at hx128_0)
            replace p128 := eq_true p128
            replace q128 := eq_true q128
            have p129 : 0 ≤ (1 : Int) := (by omega)
            have q129 : 1 < (t116.length : Int) := of_decide_eq_true (by first | (with_reducible assumption) | assumption)
            obtain ⟨ad129, A129_2, c129_2, e129, hx129_0, hx129_1, hx129_2, hl129_2, hi129_2⟩ := at_T43 (Kd.S_reads' HO_120001.out).2.2 1 p129 q129
            obtain rfl : ad125 = ad129 := (by injection e129)
            obtain ⟨ce129, hce129, hMe129, hcc129⟩ := Kd.S_get HO_120001.out z43 1 p129 (by first | exact q129 | exact of_decide_eq_true (by first | (with_reducible assumption) | assumption) | (have e_ := (Kd.S_reads' HO_120001.out).1; omega))
            obtain ⟨ve129_2, rfl, ge129_2⟩ := k43_openM hMe129
            have hv129_2 := hcc129 2 _ rfl
            rw [add_field _ _ 2 (by omega)] at hv129_2
            replace hv129_2 := Option.some.inj (hv129_2.symm.trans hx129_2)
            rw [hv129_2] at ge129_2
            have HL129_2 := Aside0.mk (show Kd.R (Kd.int .i64) 3 _ _ _ _ ((rd_T43 t116 1).f2) from ge129_2)
            clear hv129_2 ge129_2
            clear hcc129 hce129
            (try simp only [show (1 : Int).toNat = 1 from rfl, Nat.reduceMul, Nat.reduceEqDiff, Go.Addr.add, ↓reduceIte] at hx129_0)
            (try simp only [show (1 : Int).toNat = 1 from rfl, Nat.reduceMul, Nat.reduceEqDiff, Go.Addr.add, ↓reduceIte] at hx129_1)
            (try simp only [show (1 : Int).toNat = 1 from rfl, Nat.reduceMul, Nat.reduceEqDiff, Go.Addr.add, ↓reduceIte] at hx129_2)
            have qi129 : (1 < t116.length) = True := eq_true (by omega)
            (try rw [show ((1 : Int)).toNat = 1 from rfl] at hx129_0)
            (try rw [show 1 * 3 = 3 from rfl] at hx129_0)
            (try rw [show ((1 : Int)).toNat = 1 from rfl] at hx129_1)
            (try rw [show 1 * 3 = 3 from rfl] at hx129_1)
            (try rw [show ((1 : Int)).toNat = 1 from rfl] at hx129_2)
            (try rw [show 1 * 3 = 3 from rfl] at hx129_2)
            have HR129_2 := Aside0.mk hi129_2
            have HC129_2 := Aside0.mk hl129_2
            clear hi129_2 hl129_2
            replace p129 := eq_true p129
            replace q129 := eq_true q129
            have p130 : 0 ≤ (1 : Int) := (by omega)
            have q130 : 1 < (((rd_T43 t116 1).f2).length : Int) := of_decide_eq_true (by first | (with_reducible assumption) | assumption)
            obtain ⟨ad130, e130, hx130_0⟩ := Kd.at_int (by repeat (first | (with_reducible exact HR129_2.out) | (with_reducible refine Kd.C_alloc ?_ _) | (with_reducible refine Kd.C_drewN ?_ _) | (with_reducible refine Kd.C_drew ?_) | exact HR129_2.out)) 1 p130 q130
            cases e130
            (try simp only [show (1 : Int).toNat = 1 from rfl, Nat.reduceMul, Nat.reduceEqDiff, Go.Addr.add, ↓reduceIte] at hx130_0)
            have qi130 : (1 < ((rd_T43 t116 1).f2).length) = True := eq_true (by omega)
            (try rw [show ((1 : Int)).toNat = 1 from rfl] at hx130_0)
            replace p130 := eq_true p130
            replace q130 := eq_true q130
            go_wp2
            go_ret
            exact ⟨by first | rfl | (simp [errW_none, errW_some] <;> rfl) | (simp [*, errW_none, errW_some] <;> rfl), bs HB.out⟩
          ·
           rw [if_neg c31] at H
           exact absurd H (by simp)
         ·
          rw [if_neg c30] at H
          exact absurd H (by simp)
        ·
         rw [if_neg c29] at H
         have c29b0 : ((rd ((rd_T43 t116 0).f2) 0) == 1) = false := beq_eq_false_iff_ne.mpr c29
         have c29b1 : ((rd ((rd_T43 t116 0).f2) 0) != 1) = true := bne_iff_ne.mpr c29
         obtain rfl := Option.some.inj H
         obtain ⟨hcz58_0, hcz58_1⟩ := bc2 BK119.out
         obtain ⟨hfz58_0, hfz58_1⟩ := bf2 BK119.out
         have p125 : 0 ≤ (0 : Int) := (by omega)
         have q125 : 0 < (t116.length : Int) := of_decide_eq_true (by first | (with_reducible assumption) | assumption)
         obtain ⟨ad125, A125_2, c125_2, e125, hx125_0, hx125_1, hx125_2, hl125_2, hi125_2⟩ := at_T43 (Kd.S_reads' HO_120001.out).2.2 0 p125 q125
         cases e125
         obtain ⟨ce125, hce125, hMe125, hcc125⟩ := Kd.S_get HO_120001.out z43 0 p125 (by first | exact q125 | exact of_decide_eq_true (by first | (with_reducible assumption) | assumption) | (have e_ := (Kd.S_reads' HO_120001.out).1; omega))
         obtain ⟨ve125_2, rfl, ge125_2⟩ := k43_openM hMe125
         have hv125_2 := hcc125 2 _ rfl
         rw [add_field _ _ 2 (by omega)] at hv125_2
         replace hv125_2 := Option.some.inj (hv125_2.symm.trans hx125_2)
         rw [hv125_2] at ge125_2
         have HL125_2 := Aside0.mk (show Kd.R (Kd.int .i64) 3 _ _ _ _ ((rd_T43 t116 0).f2) from ge125_2)
         clear hv125_2 ge125_2
         clear hcc125 hce125
         have qi125 : (0 < t116.length) = True := eq_true (by omega)
         (try rw [show ((0 : Int)).toNat = 0 from rfl] at hx125_0)
         (try rw [show 0 * 3 = 0 from rfl] at hx125_0)
         (try rw [Addr.add_zero'] at hx125_0)
         (try rw [show ((0 : Int)).toNat = 0 from rfl] at hx125_1)
         (try rw [show 0 * 3 = 0 from rfl] at hx125_1)
         (try rw [Addr.add_zero'] at hx125_1)
         (try rw [show ((0 : Int)).toNat = 0 from rfl] at hx125_2)
         (try rw [show 0 * 3 = 0 from rfl] at hx125_2)
         (try rw [Addr.add_zero'] at hx125_2)
         have HR125_2 := Aside0.mk hi125_2
         have HC125_2 := Aside0.mk hl125_2
         clear hi125_2 hl125_2
         replace p125 := eq_true p125
         replace q125 := eq_true q125
         have p126 : 0 ≤ (0 : Int) := (by omega)
         have q126 : 0 < (t116.length : Int) := of_decide_eq_true (by first | (with_reducible assumption) | assumption)
         obtain ⟨ad126, A126_2, c126_2, e126, hx126_0, hx126_1, hx126_2, hl126_2, hi126_2⟩ := at_T43 (Kd.S_reads' HO_120001.out).2.2 0 p126 q126
         obtain rfl : ad125 = ad126 := (by injection e126)
         obtain ⟨ce126, hce126, hMe126, hcc126⟩ := Kd.S_get HO_120001.out z43 0 p126 (by first | exact q126 | exact of_decide_eq_true (by first | (with_reducible assumption) | assumption) | (have e_ := (Kd.S_reads' HO_120001.out).1; omega))
         obtain ⟨ve126_2, rfl, ge126_2⟩ := k43_openM hMe126
         have hv126_2 := hcc126 2 _ rfl
         rw [add_field _ _ 2 (by omega)] at hv126_2
         replace hv126_2 := Option.some.inj (hv126_2.symm.trans hx126_2)
         rw [hv126_2] at ge126_2
         have HL126_2 := Aside0.mk (show Kd.R (Kd.int .i64) 3 _ _ _ _ ((rd_T43 t116 0).f2) from ge126_2)
         clear hv126_2 ge126_2
         clear hcc126 hce126
         have qi126 : (0 < t116.length) = True := eq_true (by omega)
         (try rw [show ((0 : Int)).toNat = 0 from rfl] at hx126_0)
         (try rw [show 0 * 3 = 0 from rfl] at hx126_0)
         (try rw [Addr.add_zero'] at hx126_0)
         (try rw [show ((0 : Int)).toNat = 0 from rfl] at hx126_1)
         (try rw [show 0 * 3 = 0 from rfl] at hx126_1)
         (try rw [Addr.add_zero'] at hx126_1)
         (try rw [show ((0 : Int)).toNat = 0 from rfl] at hx126_2)
         (try rw [show 0 * 3 = 0 from rfl] at hx126_2)
         (try rw [Addr.add_zero'] at hx126_2)
         have HR126_2 := Aside0.mk hi126_2
         have HC126_2 := Aside0.mk hl126_2
         clear hi126_2 hl126_2
         replace p126 := eq_true p126
         replace q126 := eq_true q126
         have ea_ := Option.some.inj (hx125_2.symm.trans hx126_2)
         injection ea_ with ea_ en_ ec_
         subst ea_
         subst ec_
         clear en_
         have p127 : 0 ≤ (0 : Int) := (by omega)
         have q127 : 0 < (t116.length : Int) := of_decide_eq_true (by first | (with_reducible assumption) | assumption)
         obtain ⟨ad127, A127_2, c127_2, e127, hx127_0, hx127_1, hx127_2, hl127_2, hi127_2⟩ := at_T43 (Kd.S_reads' HO_120001.out).2.2 0 p127 q127
         obtain rfl : ad125 = ad127 := (by injection e127)
         obtain ⟨ce127, hce127, hMe127, hcc127⟩ := Kd.S_get HO_120001.out z43 0 p127 (by first | exact q127 | exact of_decide_eq_true (by first | (with_reducible assumption) | assumption) | (have e_ := (Kd.S_reads' HO_120001.out).1; omega))
         obtain ⟨ve127_2, rfl, ge127_2⟩ := k43_openM hMe127
         have hv127_2 := hcc127 2 _ rfl
         rw [add_field _ _ 2 (by omega)] at hv127_2
         replace hv127_2 := Option.some.inj (hv127_2.symm.trans hx127_2)
         rw [hv127_2] at ge127_2
         have HL127_2 := Aside0.mk (show Kd.R (Kd.int .i64) 3 _ _ _ _ ((rd_T43 t116 0).f2) from ge127_2)
         clear hv127_2 ge127_2
         clear hcc127 hce127
         have qi127 : (0 < t116.length) = True := eq_true (by omega)
         (try rw [show ((0 : Int)).toNat = 0 from rfl] at hx127_0)
         (try rw [show 0 * 3 = 0 from rfl] at hx127_0)
         (try rw [Addr.add_zero'] at hx127_0)
         (try rw [show ((0 : Int)).toNat = 0 from rfl] at hx127_1)
         (try rw [show 0 * 3 = 0 from rfl] at hx127_1)
         (try rw [Addr.add_zero'] at hx127_1)
         (try rw [show ((0 : Int)).toNat = 0 from rfl] at hx127_2)
         (try rw [show 0 * 3 = 0 from rfl] at hx127_2)
         (try rw [Addr.add_zero'] at hx127_2)
         have HR127_2 := Aside0.mk hi127_2
         have HC127_2 := Aside0.mk hl127_2
         clear hi127_2 hl127_2
         replace p127 := eq_true p127
         replace q127 := eq_true q127
         have ea_ := Option.some.inj (hx125_2.symm.trans hx127_2)
         injection ea_ with ea_ en_ ec_
         subst ea_
         subst ec_
         clear en_
         have p128 : 0 ≤ (0 : Int) := (by omega)
         have q128 : 0 < (((rd_T43 t116 0).f2).length : Int) := of_decide_eq_true (by first | (with_reducible assumption) | assumption)
         obtain ⟨ad128, e128, hx128_0⟩ := Kd.at_int (by repeat (first | (with_reducible exact HR127_2.out) | (with_reducible refine Kd.C_alloc ?_ _) | (with_reducible refine Kd.C_drewN ?_ _) | (with_reducible refine Kd.C_drew ?_) | exact HR127_2.out)) 0 p128 q128
         cases e128
         have qi128 : (0 < ((rd_T43 t116 0).f2).length) = True := eq_true (by omega)
         (try rw [show ((0 : Int)).toNat = 0 from rfl] at hx128_0)
         (try rw [Addr.add_zero'] at hx128_0)
         replace p128 := eq_true p128
         replace q128 := eq_true q128
         go_wp2
         go_ret
         exact ⟨by first | rfl | (simp [errW_none, errW_some] <;> rfl) | (simp [*, errW_none, errW_some] <;> rfl), bs HB.out⟩
       ·
        rw [if_neg c28] at H
        exact absurd H (by simp)
      ·
       rw [if_neg c27] at H
       have c27b0 : (((rd_T43 t116 0).f1) == 5) = false := beq_eq_false_iff_ne.mpr c27
       have c27b1 : (((rd_T43 t116 0).f1) != 5) = true := bne_iff_ne.mpr c27
       obtain rfl := Option.some.inj H
       obtain ⟨hcz59_0, hcz59_1⟩ := bc2 BK119.out
       obtain ⟨hfz59_0, hfz59_1⟩ := bf2 BK119.out
       have p125 : 0 ≤ (0 : Int) := (by omega)
       have q125 : 0 < (t116.length : Int) := of_decide_eq_true (by first | (with_reducible assumption) | assumption)
       obtain ⟨ad125, A125_2, c125_2, e125, hx125_0, hx125_1, hx125_2, hl125_2, hi125_2⟩ := at_T43 (Kd.S_reads' HO_120001.out).2.2 0 p125 q125
       cases e125
       obtain ⟨ce125, hce125, hMe125, hcc125⟩ := Kd.S_get HO_120001.out z43 0 p125 (by first | exact q125 | exact of_decide_eq_true (by first | (with_reducible assumption) | assumption) | (have e_ := (Kd.S_reads' HO_120001.out).1; omega))
       obtain ⟨ve125_2, rfl, ge125_2⟩ := k43_openM hMe125
       have hv125_2 := hcc125 2 _ rfl
       rw [add_field _ _ 2 (by omega)] at hv125_2
       replace hv125_2 := Option.some.inj (hv125_2.symm.trans hx125_2)
       rw [hv125_2] at ge125_2
       have HL125_2 := Aside0.mk (show Kd.R (Kd.int .i64) 3 _ _ _ _ ((rd_T43 t116 0).f2) from ge125_2)
       clear hv125_2 ge125_2
       clear hcc125 hce125
       have qi125 : (0 < t116.length) = True := eq_true (by omega)
       (try rw [show ((0 : Int)).toNat = 0 from rfl] at hx125_0)
       (try rw [show 0 * 3 = 0 from rfl] at hx125_0)
       (try rw [Addr.add_zero'] at hx125_0)
       (try rw [show ((0 : Int)).toNat = 0 from rfl] at hx125_1)
       (try rw [show 0 * 3 = 0 from rfl] at hx125_1)
       (try rw [Addr.add_zero'] at hx125_1)
       (try rw [show ((0 : Int)).toNat = 0 from rfl] at hx125_2)
       (try rw [show 0 * 3 = 0 from rfl] at hx125_2)
       (try rw [Addr.add_zero'] at hx125_2)
       have HR125_2 := Aside0.mk hi125_2
       have HC125_2 := Aside0.mk hl125_2
       clear hi125_2 hl125_2
       replace p125 := eq_true p125
       replace q125 := eq_true q125
       have p126 : 0 ≤ (0 : Int) := (by omega)
       have q126 : 0 < (t116.length : Int) := of_decide_eq_true (by first | (with_reducible assumption) | assumption)
       obtain ⟨ad126, A126_2, c126_2, e126, hx126_0, hx126_1, hx126_2, hl126_2, hi126_2⟩ := at_T43 (Kd.S_reads' HO_120001.out).2.2 0 p126 q126
       obtain rfl : ad125 = ad126 := (by injection e126)
       obtain ⟨ce126, hce126, hMe126, hcc126⟩ := Kd.S_get HO_120001.out z43 0 p126 (by first | exact q126 | exact of_decide_eq_true (by first | (with_reducible assumption) | assumption) | (have e_ := (Kd.S_reads' HO_120001.out).1; omega))
       obtain ⟨ve126_2, rfl, ge126_2⟩ := k43_openM hMe126
       have hv126_2 := hcc126 2 _ rfl
       rw [add_field _ _ 2 (by omega)] at hv126_2
       replace hv126_2 := Option.some.inj (hv126_2.symm.trans hx126_2)
       rw [hv126_2] at ge126_2
       have HL126_2 := Aside0.mk (show Kd.R (Kd.int .i64) 3 _ _ _ _ ((rd_T43 t116 0).f2) from ge126_2)
       clear hv126_2 ge126_2
       clear hcc126 hce126
       have qi126 : (0 < t116.length) = True := eq_true (by omega)
       (try rw [show ((0 : Int)).toNat = 0 from rfl] at hx126_0)
       (try rw [show 0 * 3 = 0 from rfl] at hx126_0)
       (try rw [Addr.add_zero'] at hx126_0)
       (try rw [show ((0 : Int)).toNat = 0 from rfl] at hx126_1)
       (try rw [show 0 * 3 = 0 from rfl] at hx126_1)
       (try rw [Addr.add_zero'] at hx126_1)
       (try rw [show ((0 : Int)).toNat = 0 from rfl] at hx126_2)
       (try rw [show 0 * 3 = 0 from rfl] at hx126_2)
       (try rw [Addr.add_zero'] at hx126_2)
       have HR126_2 := Aside0.mk hi126_2
       have HC126_2 := Aside0.mk hl126_2
       clear hi126_2 hl126_2
       replace p126 := eq_true p126
       replace q126 := eq_true q126
       have ea_ := Option.some.inj (hx125_2.symm.trans hx126_2)
       injection ea_ with ea_ en_ ec_
       subst ea_
       subst ec_
       clear en_
       go_wp2
       go_ret
       exact ⟨by first | rfl | (simp [errW_none, errW_some] <;> rfl) | (simp [*, errW_none, errW_some] <;> rfl), bs HB.out⟩
     ·
      rw [if_neg c26] at H
      have c26b0 : (((rd_T43 t116 0).f0) == 0) = false := beq_eq_false_iff_ne.mpr c26
      have c26b1 : (((rd_T43 t116 0).f0) != 0) = true := bne_iff_ne.mpr c26
      obtain rfl := Option.some.inj H
      obtain ⟨hcz60_0, hcz60_1⟩ := bc2 BK119.out
      obtain ⟨hfz60_0, hfz60_1⟩ := bf2 BK119.out
      have p125 : 0 ≤ (0 : Int) := (by omega)
      have q125 : 0 < (t116.length : Int) := of_decide_eq_true (by first | (with_reducible assumption) | assumption)
      obtain ⟨ad125, A125_2, c125_2, e125, hx125_0, hx125_1, hx125_2, hl125_2, hi125_2⟩ := at_T43 (Kd.S_reads' HO_120001.out).2.2 0 p125 q125
      cases e125
      obtain ⟨ce125, hce125, hMe125, hcc125⟩ := Kd.S_get HO_120001.out z43 0 p125 (by first | exact q125 | exact of_decide_eq_true (by first | (with_reducible assumption) | assumption) | (have e_ := (Kd.S_reads' HO_120001.out).1; omega))
      obtain ⟨ve125_2, rfl, ge125_2⟩ := k43_openM hMe125
      have hv125_2 := hcc125 2 _ rfl
      rw [add_field _ _ 2 (by omega)] at hv125_2
      replace hv125_2 := Option.some.inj (hv125_2.symm.trans hx125_2)
      rw [hv125_2] at ge125_2
      have HL125_2 := Aside0.mk (show Kd.R (Kd.int .i64) 3 _ _ _ _ ((rd_T43 t116 0).f2) from ge125_2)
      clear hv125_2 ge125_2
      clear hcc125 hce125
      have qi125 : (0 < t116.length) = True := eq_true (by omega)
      (try rw [show ((0 : Int)).toNat = 0 from rfl] at hx125_0)
      (try rw [show 0 * 3 = 0 from rfl] at hx125_0)
      (try rw [Addr.add_zero'] at hx125_0)
      (try rw [show ((0 : Int)).toNat = 0 from rfl] at hx125_1)
      (try rw [show 0 * 3 = 0 from rfl] at hx125_1)
      (try rw [Addr.add_zero'] at hx125_1)
      (try rw [show ((0 : Int)).toNat = 0 from rfl] at hx125_2)
      (try rw [show 0 * 3 = 0 from rfl] at hx125_2)
      (try rw [Addr.add_zero'] at hx125_2)
      have HR125_2 := Aside0.mk hi125_2
      have HC125_2 := Aside0.mk hl125_2
      clear hi125_2 hl125_2
      replace p125 := eq_true p125
      replace q125 := eq_true q125
      go_wp2
      go_ret
      exact ⟨by first | rfl | (simp [errW_none, errW_some] <;> rfl) | (simp [*, errW_none, errW_some] <;> rfl), bs HB.out⟩
    ·
     rw [if_neg c25] at H
     exact absurd H (by simp)

end Go.Proofs.Yteifekndhgkgcaa.H
