-- Printed by wip/hprint.py (this project's own driver of the kit's print) out of the translation; Lean checks it.
import Derived.Test.YtioedeglgljblaaH0
import Derived.Test.YtioedeglgljblaaH19
namespace Go.Proofs.Ytioedeglgljblaa.H
open Go.RowKit Go.Proofs.YtioedeglgljblaaW.PrintWords Go.Proofs.YtioedeglgljblaaW.PrintLast Go.Proofs.YtioedeglgljblaaW.PrintMore
attribute [local go_sem] max2_int min2_int max_two min_two max_three min_three max_four min_four   -- for this text's walks alone
set_option linter.unusedVariables false
set_option linter.unusedSimpArgs false

/-! ### signalbenchref14_Runs: function 18 -/
def signalbenchref14_Runs.l0 : Nat → List (S48) → List (S46) → Int → Int → Option ((List (S46)) × Int)
 | 0, _, _, _, _ => none
 | k + 1, x0, x4, x5, x6 => if x6 < (x0.length : Int) then (if 0 ≤ x6 then ((signalbenchref14_Plain.f ((rd_T48 x0 x6).f0) ((rd_T48 x0 x6).f1) ((rd_T48 x0 x6).f2) ((rd_T48 x0 x6).f3) ((rd_T48 x0 x6).f4) ((rd_T48 x0 x6).f5) ((rd_T48 x0 x6).f6)).bind fun t378 => (if t378 = true then (if ((rd_T48 x0 x6).f1) = x5 then (if ((rd_T48 x0 x6).f2) ≤ x5 then (some (([] : List (S46)), 1)) else (if ((rd_T48 x0 x6).f2) > 1099511627776 then (some (([] : List (S46)), 1)) else (if ((rd_T48 x0 x6).f3) < 0 then (some (([] : List (S46)), 1)) else (if ((rd_T48 x0 x6).f3) > 65535 then (some (([] : List (S46)), 1)) else (if x4.length < 8796093022208 then (signalbenchref14_Runs.l0 k x0 (x4 ++ [(⟨(rd_T48 x0 x6).f3, wrap64 (((rd_T48 x0 x6).f2) - ((rd_T48 x0 x6).f1))⟩ : S46)]) ((rd_T48 x0 x6).f2) (wrap64 (x6 + 1))) else (none)))))) else (some (([] : List (S46)), 1))) else (some (([] : List (S46)), 1)))) else (none)) else (some (x4, 0))
def signalbenchref14_Runs.f (k : Nat) (l0 : List (S48)) : Option ((List (S46)) × Int) := if (l0.length : Int) > 262144 then (some (([] : List (S46)), 6)) else (if 0 ≤ (l0.length : Int) then (if ((l0.length : Int) : Int).toNat ≤ 17592186044416 then (signalbenchref14_Runs.l0 k l0 (([] : List (S46))) 0 0) else (none)) else (none))
set_option maxHeartbeats 8000000 in
set_option maxRecDepth 100000 in
theorem signalbenchref14_Runs.calls (k : Nat) (A0 : Option Addr) (c0 : Nat) (l0 : List (S48)) (r1 : List (S46)) (r2 : Int) (w : World) (hr0 : Kd.C k48 w A0 l0.length l0) (hc0 : l0.length ≤ c0) (h : signalbenchref14_Runs.f k l0 = some (r1, r2)) :
  Calls Try.prog 18 #[.slice A0 l0.length c0] w fun e w' => ∃ v0_ : Value, e = .returned (.tuple #[v0_, .int .i64 r2]) ∧ Kd.R k46 46 w' w.heap.size (fun _ => True) v0_ r1 ∧ Below w.heap.size w w' := by
 have hu48 := Try.underlying48
 have hu46 := Try.underlying46
 have HR0 := Aside0.mk hr0
 have HC0 := Aside0.mk hc0
 clear hr0 hc0
 have HB := Aside0.mk (Below.refl w.heap.size w)
 have H : (if (l0.length : Int) > 262144 then (some (([] : List (S46)), 6)) else (if 0 ≤ (l0.length : Int) then (if ((l0.length : Int) : Int).toNat ≤ 17592186044416 then (signalbenchref14_Runs.l0 k l0 (([] : List (S46))) 0 0) else (none)) else (none))) = some (r1, r2) := h
 clear h
 by_cases c2 : (l0.length : Int) > 262144
 ·
  rw [if_pos c2] at H
  have c2b0 : decide (262144 < (l0.length : Int)) = true := decide_eq_true c2
  have c2b1 : decide (262144 < l0.length) = true := decide_eq_true (by omega)
  clear c2
  simp only [Option.some.injEq, Prod.mk.injEq] at H
  obtain ⟨rfl, rfl⟩ := H
  go_enter Try.func18, Try.ntmps18
  go_wp2
  go_ret2
  exact ⟨_, by first | rfl | (simp [errW_none, errW_some] <;> rfl) | (simp [*, errW_none, errW_some] <;> rfl), by first | exact Kd.R_nil _ _ _ _ _ | exact Kd.N_nil _ _ _ _ _ | exact Kd.V_nil _ _ _ _ _ | exact Kd.Q_nil _ _ _ _ _ | exact Kd.S_nil _ _ _ _ _, bs HB.out⟩
 ·
  rw [if_neg c2] at H
  have c2b0 : decide (262144 < (l0.length : Int)) = false := decide_eq_false c2
  have c2b1 : decide (262144 < l0.length) = false := decide_eq_false (by omega)
  clear c2
  by_cases c3 : 0 ≤ (l0.length : Int)
  ·
   rw [if_pos c3] at H
   have c3b0 := eq_true c3
   have c3b1 : decide (0 ≤ (l0.length : Int)) = true := decide_eq_true c3
   clear c3
   by_cases c4 : ((l0.length : Int) : Int).toNat ≤ 17592186044416
   ·
    rw [if_pos c4] at H
    have c4b0 := eq_true c4
    have c4b1 : decide (((l0.length : Int) : Int).toNat ≤ 17592186044416) = true := decide_eq_true c4
    clear c4
    obtain ⟨y373, hy373⟩ : ∃ y_ : List (S46), y_ = (([] : List (S46))) := ⟨_, rfl⟩
    replace H : (signalbenchref14_Runs.l0 k l0 y373 0 0) = some (r1, r2) := by first | (rw [hy373]; with_reducible exact H) | (have H2_ := (Option.bind_some _ _).symm.trans H; rw [hy373]; with_reducible exact H2_) | (have H2_ := (Option.bind_some _ _).symm.trans H; with_reducible exact H2_) | with_reducible exact H | (rw [hy373]; exact H) | exact H
    have Ny373 := Aside0.mk hy373
    clear hy373
    have H' := Aside0.mk H
    clear H
    go_enter Try.func18, Try.ntmps18
    go_wp2_with (first | ((with_reducible refine gate_dst (N := 13) rfl ?_); refine Kd.R_make0 k46 _ 46 rfl (N := 13) rfl 23 _ _ rfl (l0.length : Int) rfl rfl Try.underlying23 (.agg #[(.int .i64 0), (.int .i64 0)]) 16 info46 rfl (by decide) (by omega) z46 (ok := fun _ => True) (okp := fun _ => True) (k46_mkM _ _ _ z46 ) (fun _ hk => hk) trivial (of_decide_eq_true (by first | (with_reducible assumption) | assumption)) (Nat.le_trans (Nat.mul_le_mul_right _ (of_decide_eq_true (by first | (with_reducible assumption) | assumption) : (l0.length : Int).toNat ≤ 17592186044416)) (by omega)) (Below.refl _ _) (Nat.le_refl _) ?_; intro v374 w5 ho6 hb hg_ hnew_; clear hg_ hnew_; (first | rw [← Ny373.out] at ho6 | (simp only [Int.reduceToNat] at ho6; rw [← Ny373.out] at ho6)); have n0_ := Aside0.mk (Kd.R_lower ho6 (below_size (bs HB.out))); have n1_ := Aside0.mk (below_step (bs HB.out) hb); clear HB; have HO375 := n0_; have HB := n1_; clear n0_ n1_; clear hb ho6))
    go_loopg [4, 5, 6] k (fun kq v4 v5 v6 w' => ∃ (x4_1 : List (S46)) (x5_1 : Int) (x6_1 : Int), v5 = .int .i64 x5_1 ∧ v6 = .int .i64 x6_1 ∧ Aside0 (signalbenchref14_Runs.l0 kq l0 x4_1 x5_1 x6_1 = some (r1, r2)) ∧ Aside0 (kq ≤ k) ∧ Aside0 (Kd.R k46 46 w' w.heap.size (fun _ => True) v4 x4_1) ∧ Aside0 (Below w.heap.size w w'))
    case atStart => exact ⟨(y373), (0), (0), (by first | rfl | (simp; done) | (simp [*]; done)), (by first | rfl | (simp; done) | (simp [*]; done)), H', ⟨Nat.le_refl _⟩, ⟨by (with_reducible repeat (first | apply Kd.R_alloc | apply Kd.R_drewN | apply Kd.R_drew)); exact HO375.out⟩, ⟨bs HB.out⟩⟩
    case round =>
     clear H'
     try clear c1
     try clear c2
     try clear c2b0
     try clear c2b1
     try clear p2
     try clear c3
     try clear c3b0
     try clear c3b1
     try clear c4
     try clear c4b0
     try clear c4b1
     obtain ⟨x4_1, x5_1, x6_1, rfl, rfl, HA, HK1, HO_4, HB⟩ := hrel
     cases gk with
     | zero => exact absurd HA.out (by simp [signalbenchref14_Runs.l0])
     | succ k1 =>
      have H := HA.out
      clear HA
      simp only [signalbenchref14_Runs.l0] at H
      by_cases c7 : x6_1 < (l0.length : Int)
      ·
       rw [if_pos c7] at H
       have c7b0 : decide (x6_1 < (l0.length : Int)) = true := decide_eq_true c7
       clear c7
       by_cases c8 : 0 ≤ x6_1
       ·
        rw [if_pos c8] at H
        have c8b0 : decide (0 ≤ x6_1) = true := decide_eq_true c8
        clear c8
        replace H := Option.bind_eq_some_iff.mp H
        obtain ⟨t378, A90, H⟩ := H
        replace H : (if t378 = true then (if ((rd_T48 l0 x6_1).f1) = x5_1 then (if ((rd_T48 l0 x6_1).f2) ≤ x5_1 then (some (([] : List (S46)), 1)) else (if ((rd_T48 l0 x6_1).f2) > 1099511627776 then (some (([] : List (S46)), 1)) else (if ((rd_T48 l0 x6_1).f3) < 0 then (some (([] : List (S46)), 1)) else (if ((rd_T48 l0 x6_1).f3) > 65535 then (some (([] : List (S46)), 1)) else (if x4_1.length < 8796093022208 then (signalbenchref14_Runs.l0 k1 l0 (x4_1 ++ [(⟨(rd_T48 l0 x6_1).f3, wrap64 (((rd_T48 l0 x6_1).f2) - ((rd_T48 l0 x6_1).f1))⟩ : S46)]) ((rd_T48 l0 x6_1).f2) (wrap64 (x6_1 + 1))) else (none)))))) else (some (([] : List (S46)), 1))) else (some (([] : List (S46)), 1))) = some (r1, r2) := H
        have A9 := Aside0.mk A90
        clear A90
        by_cases c10 : t378 = true
        ·
         subst c10
         have H1 : (if ((rd_T48 l0 x6_1).f1) = x5_1 then (if ((rd_T48 l0 x6_1).f2) ≤ x5_1 then (some (([] : List (S46)), 1)) else (if ((rd_T48 l0 x6_1).f2) > 1099511627776 then (some (([] : List (S46)), 1)) else (if ((rd_T48 l0 x6_1).f3) < 0 then (some (([] : List (S46)), 1)) else (if ((rd_T48 l0 x6_1).f3) > 65535 then (some (([] : List (S46)), 1)) else (if x4_1.length < 8796093022208 then (signalbenchref14_Runs.l0 k1 l0 (x4_1 ++ [(⟨(rd_T48 l0 x6_1).f3, wrap64 (((rd_T48 l0 x6_1).f2) - ((rd_T48 l0 x6_1).f1))⟩ : S46)]) ((rd_T48 l0 x6_1).f2) (wrap64 (x6_1 + 1))) else (none)))))) else (some (([] : List (S46)), 1))) = some (r1, r2) := by rw [if_pos rfl] at H; exact H
         clear H
         have H := H1
         clear H1
         by_cases c11 : ((rd_T48 l0 x6_1).f1) = x5_1
         ·
          rw [if_pos c11] at H
          have c11b0 : (((rd_T48 l0 x6_1).f1) == x5_1) = true := beq_iff_eq.mpr c11
          have c11b1 : (((rd_T48 l0 x6_1).f1) != x5_1) = false := bne_eq_false_iff_eq.mpr c11
          clear c11
          by_cases c12 : ((rd_T48 l0 x6_1).f2) ≤ x5_1
          ·
           rw [if_pos c12] at H
           have c12b0 : decide (((rd_T48 l0 x6_1).f2) ≤ x5_1) = true := decide_eq_true c12
           clear c12
           simp only [Option.some.injEq, Prod.mk.injEq] at H
           obtain ⟨rfl, rfl⟩ := H
           have p376 : 0 ≤ (x6_1 : Int) := of_decide_eq_true (by first | (with_reducible assumption) | assumption)
           have q376 : x6_1 < (l0.length : Int) := of_decide_eq_true (by first | (with_reducible assumption) | assumption)
           obtain ⟨ad376, e376, hx376_0, hx376_1, hx376_2, hx376_3, hx376_4, hx376_5, hx376_6⟩ := at_T48 HR0.out x6_1 p376 q376
           cases e376
           replace hx376_0 := pw_cell_below HB.out hx376_0
           replace hx376_1 := pw_cell_below HB.out hx376_1
           replace hx376_2 := pw_cell_below HB.out hx376_2
           replace hx376_3 := pw_cell_below HB.out hx376_3
           replace hx376_4 := pw_cell_below HB.out hx376_4
           replace hx376_5 := pw_cell_below HB.out hx376_5
           replace hx376_6 := pw_cell_below HB.out hx376_6
           replace p376 := eq_true p376
           replace q376 := eq_true q376
           go_wp2_with (first | ((with_reducible refine gate_dst (N := 7) rfl ?_); refine box_event ?hg (N := 7) ?hd (cs := #[.int .i64 0, .int .i64 0, .int .i64 0, .int .i64 0, .int .i64 0, .string (⟨#[]⟩ : ByteArray), .int .i64 0]) (t := 48) ?hr ?_; (case hd => rfl); (case hg => rfl); (case hr => first | (go_simp; done) | (go_simp; rfl)); intro gb377 hg w13 hbox hb; have n0_ := Aside0.mk (Kd.R_below (rq HO_4.out) hb); have n1_ := Aside0.mk (below_step (bs HB.out) hb); have n2_ := Aside0.mk (hbox); have n3_ := Aside0.mk ((by rw [hg]; exact (below_size (bs HB.out)) : w.heap.size ≤ gb377)); have n4_ := n3_; clear HO_4; clear HB; have HO_4 := n0_; have HB := n1_; have BK377 := n2_; have GW377 := n3_; have GE377 := n4_; clear n0_ n1_ n2_ n3_ n4_; clear hb hbox hg; obtain ⟨hcz14_0, hcz14_1, hcz14_2, hcz14_3, hcz14_4, hcz14_5, hcz14_6⟩ := bc7 BK377.out; obtain ⟨hfz14_0, hfz14_1, hfz14_2, hfz14_3, hfz14_4, hfz14_5, hfz14_6⟩ := bf7 BK377.out) | ((with_reducible refine gate_callee (f := 31) rfl ?_); refine goesL_ (some 25) rfl rfl Try.func31 (by kernel_rfl) rfl #[.agg #[.int .i64 ((rd_T48 l0 x6_1).f0), .int .i64 ((rd_T48 l0 x6_1).f1), .int .i64 ((rd_T48 l0 x6_1).f2), .int .i64 ((rd_T48 l0 x6_1).f3), .int .i64 ((rd_T48 l0 x6_1).f4), .string ((rd_T48 l0 x6_1).f5), .int .i64 ((rd_T48 l0 x6_1).f6)]] rfl (by (try simp only [List.map_toArray, List.map_cons, List.map_nil]); first | done | rfl | (simp only [List.length_drop, List.length_take]; rfl)) ?_; (with_reducible refine (signalbenchref14_Plain.calls ((rd_T48 l0 x6_1).f0) ((rd_T48 l0 x6_1).f1) ((rd_T48 l0 x6_1).f2) ((rd_T48 l0 x6_1).f3) ((rd_T48 l0 x6_1).f4) ((rd_T48 l0 x6_1).f5) ((rd_T48 l0 x6_1).f6) true _ A9.out).mono ?_); rintro e w15 ⟨rfl, hb⟩; refine ⟨_, rfl, ?_⟩; have n0_ := Aside0.mk (Kd.R_below (by (with_reducible repeat (first | apply Kd.R_alloc | apply Kd.R_drewN | apply Kd.R_drew)); exact (Kd.R_mono (Kd.R_far (p := ⟨gb377, 6, none⟩) (Kd.R_far (p := ⟨gb377, 5, none⟩) (Kd.R_far (p := ⟨gb377, 4, none⟩) (Kd.R_far (p := ⟨gb377, 3, none⟩) (Kd.R_far (p := ⟨gb377, 2, none⟩) (Kd.R_far (p := ⟨gb377, 1, none⟩) (Kd.R_far (p := ⟨gb377, 0, none⟩) (Kd.R_types HO_4.out BK377.out (by decide)) (fun _ hk => hk.2) (.int .i64 ((rd_T48 l0 x6_1).f0))) (fun _ hk => hk.2) (.int .i64 ((rd_T48 l0 x6_1).f1))) (fun _ hk => hk.2) (.int .i64 ((rd_T48 l0 x6_1).f2))) (fun _ hk => hk.2) (.int .i64 ((rd_T48 l0 x6_1).f3))) (fun _ hk => hk.2) (.int .i64 ((rd_T48 l0 x6_1).f4))) (fun _ hk => hk.2) (.string ((rd_T48 l0 x6_1).f5))) (fun _ hk => hk.2) (.int .i64 ((rd_T48 l0 x6_1).f6))) (fun _ h_ => h_.1))) hb); have n1_ := Aside0.mk (blk_below (g := gb377) (o := .cells #[.int .i64 ((rd_T48 l0 x6_1).f0), .int .i64 ((rd_T48 l0 x6_1).f1), .int .i64 ((rd_T48 l0 x6_1).f2), .int .i64 ((rd_T48 l0 x6_1).f3), .int .i64 ((rd_T48 l0 x6_1).f4), .string ((rd_T48 l0 x6_1).f5), .int .i64 ((rd_T48 l0 x6_1).f6)] 48 (0, 0)) (by exact pt7 (bg BK377.out)) hb); have n2_ := Aside0.mk (below_step (bs HB.out) hb); clear HO_4; clear BK377; clear HB; have HO_4 := n0_; have BK377 := n1_; have HB := n2_; clear n0_ n1_ n2_; (try clear hb); (try clear hb2); (try clear hk); (try clear hi); obtain ⟨hcz16_0, hcz16_1, hcz16_2, hcz16_3, hcz16_4, hcz16_5, hcz16_6⟩ := bc7 BK377.out; obtain ⟨hfz16_0, hfz16_1, hfz16_2, hfz16_3, hfz16_4, hfz16_5, hfz16_6⟩ := bf7 BK377.out))
           go_ret2
           exact ⟨_, by first | rfl | (simp [errW_none, errW_some] <;> rfl) | (simp [*, errW_none, errW_some] <;> rfl), by first | exact Kd.R_nil _ _ _ _ _ | exact Kd.N_nil _ _ _ _ _ | exact Kd.V_nil _ _ _ _ _ | exact Kd.Q_nil _ _ _ _ _ | exact Kd.S_nil _ _ _ _ _, bs HB.out⟩
          ·
           rw [if_neg c12] at H
           have c12b0 : decide (((rd_T48 l0 x6_1).f2) ≤ x5_1) = false := decide_eq_false c12
           clear c12
           by_cases c17 : ((rd_T48 l0 x6_1).f2) > 1099511627776
           ·
            rw [if_pos c17] at H
            have c17b0 : decide (1099511627776 < ((rd_T48 l0 x6_1).f2)) = true := decide_eq_true c17
            clear c17
            simp only [Option.some.injEq, Prod.mk.injEq] at H
            obtain ⟨rfl, rfl⟩ := H
            have p376 : 0 ≤ (x6_1 : Int) := of_decide_eq_true (by first | (with_reducible assumption) | assumption)
            have q376 : x6_1 < (l0.length : Int) := of_decide_eq_true (by first | (with_reducible assumption) | assumption)
            obtain ⟨ad376, e376, hx376_0, hx376_1, hx376_2, hx376_3, hx376_4, hx376_5, hx376_6⟩ := at_T48 HR0.out x6_1 p376 q376
            cases e376
            replace hx376_0 := pw_cell_below HB.out hx376_0
            replace hx376_1 := pw_cell_below HB.out hx376_1
            replace hx376_2 := pw_cell_below HB.out hx376_2
            replace hx376_3 := pw_cell_below HB.out hx376_3
            replace hx376_4 := pw_cell_below HB.out hx376_4
            replace hx376_5 := pw_cell_below HB.out hx376_5
            replace hx376_6 := pw_cell_below HB.out hx376_6
            replace p376 := eq_true p376
            replace q376 := eq_true q376
            go_wp2_with (first | ((with_reducible refine gate_dst (N := 7) rfl ?_); refine box_event ?hg (N := 7) ?hd (cs := #[.int .i64 0, .int .i64 0, .int .i64 0, .int .i64 0, .int .i64 0, .string (⟨#[]⟩ : ByteArray), .int .i64 0]) (t := 48) ?hr ?_; (case hd => rfl); (case hg => rfl); (case hr => first | (go_simp; done) | (go_simp; rfl)); intro gb377 hg w18 hbox hb; have n0_ := Aside0.mk (Kd.R_below (rq HO_4.out) hb); have n1_ := Aside0.mk (below_step (bs HB.out) hb); have n2_ := Aside0.mk (hbox); have n3_ := Aside0.mk ((by rw [hg]; exact (below_size (bs HB.out)) : w.heap.size ≤ gb377)); have n4_ := n3_; clear HO_4; clear HB; have HO_4 := n0_; have HB := n1_; have BK377 := n2_; have GW377 := n3_; have GE377 := n4_; clear n0_ n1_ n2_ n3_ n4_; clear hb hbox hg; obtain ⟨hcz19_0, hcz19_1, hcz19_2, hcz19_3, hcz19_4, hcz19_5, hcz19_6⟩ := bc7 BK377.out; obtain ⟨hfz19_0, hfz19_1, hfz19_2, hfz19_3, hfz19_4, hfz19_5, hfz19_6⟩ := bf7 BK377.out) | ((with_reducible refine gate_callee (f := 31) rfl ?_); refine goesL_ (some 25) rfl rfl Try.func31 (by kernel_rfl) rfl #[.agg #[.int .i64 ((rd_T48 l0 x6_1).f0), .int .i64 ((rd_T48 l0 x6_1).f1), .int .i64 ((rd_T48 l0 x6_1).f2), .int .i64 ((rd_T48 l0 x6_1).f3), .int .i64 ((rd_T48 l0 x6_1).f4), .string ((rd_T48 l0 x6_1).f5), .int .i64 ((rd_T48 l0 x6_1).f6)]] rfl (by (try simp only [List.map_toArray, List.map_cons, List.map_nil]); first | done | rfl | (simp only [List.length_drop, List.length_take]; rfl)) ?_; (with_reducible refine (signalbenchref14_Plain.calls ((rd_T48 l0 x6_1).f0) ((rd_T48 l0 x6_1).f1) ((rd_T48 l0 x6_1).f2) ((rd_T48 l0 x6_1).f3) ((rd_T48 l0 x6_1).f4) ((rd_T48 l0 x6_1).f5) ((rd_T48 l0 x6_1).f6) true _ A9.out).mono ?_); rintro e w20 ⟨rfl, hb⟩; refine ⟨_, rfl, ?_⟩; have n0_ := Aside0.mk (Kd.R_below (by (with_reducible repeat (first | apply Kd.R_alloc | apply Kd.R_drewN | apply Kd.R_drew)); exact (Kd.R_mono (Kd.R_far (p := ⟨gb377, 6, none⟩) (Kd.R_far (p := ⟨gb377, 5, none⟩) (Kd.R_far (p := ⟨gb377, 4, none⟩) (Kd.R_far (p := ⟨gb377, 3, none⟩) (Kd.R_far (p := ⟨gb377, 2, none⟩) (Kd.R_far (p := ⟨gb377, 1, none⟩) (Kd.R_far (p := ⟨gb377, 0, none⟩) (Kd.R_types HO_4.out BK377.out (by decide)) (fun _ hk => hk.2) (.int .i64 ((rd_T48 l0 x6_1).f0))) (fun _ hk => hk.2) (.int .i64 ((rd_T48 l0 x6_1).f1))) (fun _ hk => hk.2) (.int .i64 ((rd_T48 l0 x6_1).f2))) (fun _ hk => hk.2) (.int .i64 ((rd_T48 l0 x6_1).f3))) (fun _ hk => hk.2) (.int .i64 ((rd_T48 l0 x6_1).f4))) (fun _ hk => hk.2) (.string ((rd_T48 l0 x6_1).f5))) (fun _ hk => hk.2) (.int .i64 ((rd_T48 l0 x6_1).f6))) (fun _ h_ => h_.1))) hb); have n1_ := Aside0.mk (blk_below (g := gb377) (o := .cells #[.int .i64 ((rd_T48 l0 x6_1).f0), .int .i64 ((rd_T48 l0 x6_1).f1), .int .i64 ((rd_T48 l0 x6_1).f2), .int .i64 ((rd_T48 l0 x6_1).f3), .int .i64 ((rd_T48 l0 x6_1).f4), .string ((rd_T48 l0 x6_1).f5), .int .i64 ((rd_T48 l0 x6_1).f6)] 48 (0, 0)) (by exact pt7 (bg BK377.out)) hb); have n2_ := Aside0.mk (below_step (bs HB.out) hb); clear HO_4; clear BK377; clear HB; have HO_4 := n0_; have BK377 := n1_; have HB := n2_; clear n0_ n1_ n2_; (try clear hb); (try clear hb2); (try clear hk); (try clear hi); obtain ⟨hcz21_0, hcz21_1, hcz21_2, hcz21_3, hcz21_4, hcz21_5, hcz21_6⟩ := bc7 BK377.out; obtain ⟨hfz21_0, hfz21_1, hfz21_2, hfz21_3, hfz21_4, hfz21_5, hfz21_6⟩ := bf7 BK377.out))
            go_ret2
            exact ⟨_, by first | rfl | (simp [errW_none, errW_some] <;> rfl) | (simp [*, errW_none, errW_some] <;> rfl), by first | exact Kd.R_nil _ _ _ _ _ | exact Kd.N_nil _ _ _ _ _ | exact Kd.V_nil _ _ _ _ _ | exact Kd.Q_nil _ _ _ _ _ | exact Kd.S_nil _ _ _ _ _, bs HB.out⟩
           ·
            rw [if_neg c17] at H
            have c17b0 : decide (1099511627776 < ((rd_T48 l0 x6_1).f2)) = false := decide_eq_false c17
            clear c17
            by_cases c22 : ((rd_T48 l0 x6_1).f3) < 0
            ·
             rw [if_pos c22] at H
             have c22b0 : decide (((rd_T48 l0 x6_1).f3) < 0) = true := decide_eq_true c22
             clear c22
             simp only [Option.some.injEq, Prod.mk.injEq] at H
             obtain ⟨rfl, rfl⟩ := H
             have p376 : 0 ≤ (x6_1 : Int) := of_decide_eq_true (by first | (with_reducible assumption) | assumption)
             have q376 : x6_1 < (l0.length : Int) := of_decide_eq_true (by first | (with_reducible assumption) | assumption)
             obtain ⟨ad376, e376, hx376_0, hx376_1, hx376_2, hx376_3, hx376_4, hx376_5, hx376_6⟩ := at_T48 HR0.out x6_1 p376 q376
             cases e376
             replace hx376_0 := pw_cell_below HB.out hx376_0
             replace hx376_1 := pw_cell_below HB.out hx376_1
             replace hx376_2 := pw_cell_below HB.out hx376_2
             replace hx376_3 := pw_cell_below HB.out hx376_3
             replace hx376_4 := pw_cell_below HB.out hx376_4
             replace hx376_5 := pw_cell_below HB.out hx376_5
             replace hx376_6 := pw_cell_below HB.out hx376_6
             replace p376 := eq_true p376
             replace q376 := eq_true q376
             go_wp2_with (first | ((with_reducible refine gate_dst (N := 7) rfl ?_); refine box_event ?hg (N := 7) ?hd (cs := #[.int .i64 0, .int .i64 0, .int .i64 0, .int .i64 0, .int .i64 0, .string (⟨#[]⟩ : ByteArray), .int .i64 0]) (t := 48) ?hr ?_; (case hd => rfl); (case hg => rfl); (case hr => first | (go_simp; done) | (go_simp; rfl)); intro gb377 hg w23 hbox hb; have n0_ := Aside0.mk (Kd.R_below (rq HO_4.out) hb); have n1_ := Aside0.mk (below_step (bs HB.out) hb); have n2_ := Aside0.mk (hbox); have n3_ := Aside0.mk ((by rw [hg]; exact (below_size (bs HB.out)) : w.heap.size ≤ gb377)); have n4_ := n3_; clear HO_4; clear HB; have HO_4 := n0_; have HB := n1_; have BK377 := n2_; have GW377 := n3_; have GE377 := n4_; clear n0_ n1_ n2_ n3_ n4_; clear hb hbox hg; obtain ⟨hcz24_0, hcz24_1, hcz24_2, hcz24_3, hcz24_4, hcz24_5, hcz24_6⟩ := bc7 BK377.out; obtain ⟨hfz24_0, hfz24_1, hfz24_2, hfz24_3, hfz24_4, hfz24_5, hfz24_6⟩ := bf7 BK377.out) | ((with_reducible refine gate_callee (f := 31) rfl ?_); refine goesL_ (some 25) rfl rfl Try.func31 (by kernel_rfl) rfl #[.agg #[.int .i64 ((rd_T48 l0 x6_1).f0), .int .i64 ((rd_T48 l0 x6_1).f1), .int .i64 ((rd_T48 l0 x6_1).f2), .int .i64 ((rd_T48 l0 x6_1).f3), .int .i64 ((rd_T48 l0 x6_1).f4), .string ((rd_T48 l0 x6_1).f5), .int .i64 ((rd_T48 l0 x6_1).f6)]] rfl (by (try simp only [List.map_toArray, List.map_cons, List.map_nil]); first | done | rfl | (simp only [List.length_drop, List.length_take]; rfl)) ?_; (with_reducible refine (signalbenchref14_Plain.calls ((rd_T48 l0 x6_1).f0) ((rd_T48 l0 x6_1).f1) ((rd_T48 l0 x6_1).f2) ((rd_T48 l0 x6_1).f3) ((rd_T48 l0 x6_1).f4) ((rd_T48 l0 x6_1).f5) ((rd_T48 l0 x6_1).f6) true _ A9.out).mono ?_); rintro e w25 ⟨rfl, hb⟩; refine ⟨_, rfl, ?_⟩; have n0_ := Aside0.mk (Kd.R_below (by (with_reducible repeat (first | apply Kd.R_alloc | apply Kd.R_drewN | apply Kd.R_drew)); exact (Kd.R_mono (Kd.R_far (p := ⟨gb377, 6, none⟩) (Kd.R_far (p := ⟨gb377, 5, none⟩) (Kd.R_far (p := ⟨gb377, 4, none⟩) (Kd.R_far (p := ⟨gb377, 3, none⟩) (Kd.R_far (p := ⟨gb377, 2, none⟩) (Kd.R_far (p := ⟨gb377, 1, none⟩) (Kd.R_far (p := ⟨gb377, 0, none⟩) (Kd.R_types HO_4.out BK377.out (by decide)) (fun _ hk => hk.2) (.int .i64 ((rd_T48 l0 x6_1).f0))) (fun _ hk => hk.2) (.int .i64 ((rd_T48 l0 x6_1).f1))) (fun _ hk => hk.2) (.int .i64 ((rd_T48 l0 x6_1).f2))) (fun _ hk => hk.2) (.int .i64 ((rd_T48 l0 x6_1).f3))) (fun _ hk => hk.2) (.int .i64 ((rd_T48 l0 x6_1).f4))) (fun _ hk => hk.2) (.string ((rd_T48 l0 x6_1).f5))) (fun _ hk => hk.2) (.int .i64 ((rd_T48 l0 x6_1).f6))) (fun _ h_ => h_.1))) hb); have n1_ := Aside0.mk (blk_below (g := gb377) (o := .cells #[.int .i64 ((rd_T48 l0 x6_1).f0), .int .i64 ((rd_T48 l0 x6_1).f1), .int .i64 ((rd_T48 l0 x6_1).f2), .int .i64 ((rd_T48 l0 x6_1).f3), .int .i64 ((rd_T48 l0 x6_1).f4), .string ((rd_T48 l0 x6_1).f5), .int .i64 ((rd_T48 l0 x6_1).f6)] 48 (0, 0)) (by exact pt7 (bg BK377.out)) hb); have n2_ := Aside0.mk (below_step (bs HB.out) hb); clear HO_4; clear BK377; clear HB; have HO_4 := n0_; have BK377 := n1_; have HB := n2_; clear n0_ n1_ n2_; (try clear hb); (try clear hb2); (try clear hk); (try clear hi); obtain ⟨hcz26_0, hcz26_1, hcz26_2, hcz26_3, hcz26_4, hcz26_5, hcz26_6⟩ := bc7 BK377.out; obtain ⟨hfz26_0, hfz26_1, hfz26_2, hfz26_3, hfz26_4, hfz26_5, hfz26_6⟩ := bf7 BK377.out))
             go_ret2
             exact ⟨_, by first | rfl | (simp [errW_none, errW_some] <;> rfl) | (simp [*, errW_none, errW_some] <;> rfl), by first | exact Kd.R_nil _ _ _ _ _ | exact Kd.N_nil _ _ _ _ _ | exact Kd.V_nil _ _ _ _ _ | exact Kd.Q_nil _ _ _ _ _ | exact Kd.S_nil _ _ _ _ _, bs HB.out⟩
            ·
             rw [if_neg c22] at H
             have c22b0 : decide (((rd_T48 l0 x6_1).f3) < 0) = false := decide_eq_false c22
             clear c22
             by_cases c27 : ((rd_T48 l0 x6_1).f3) > 65535
             ·
              rw [if_pos c27] at H
              have c27b0 : decide (65535 < ((rd_T48 l0 x6_1).f3)) = true := decide_eq_true c27
              clear c27
              simp only [Option.some.injEq, Prod.mk.injEq] at H
              obtain ⟨rfl, rfl⟩ := H
              have p376 : 0 ≤ (x6_1 : Int) := of_decide_eq_true (by first | (with_reducible assumption) | assumption)
              have q376 : x6_1 < (l0.length : Int) := of_decide_eq_true (by first | (with_reducible assumption) | assumption)
              obtain ⟨ad376, e376, hx376_0, hx376_1, hx376_2, hx376_3, hx376_4, hx376_5, hx376_6⟩ := at_T48 HR0.out x6_1 p376 q376
              cases e376
              replace hx376_0 := pw_cell_below HB.out hx376_0
              replace hx376_1 := pw_cell_below HB.out hx376_1
              replace hx376_2 := pw_cell_below HB.out hx376_2
              replace hx376_3 := pw_cell_below HB.out hx376_3
              replace hx376_4 := pw_cell_below HB.out hx376_4
              replace hx376_5 := pw_cell_below HB.out hx376_5
              replace hx376_6 := pw_cell_below HB.out hx376_6
              replace p376 := eq_true p376
              replace q376 := eq_true q376
              go_wp2_with (first | ((with_reducible refine gate_dst (N := 7) rfl ?_); refine box_event ?hg (N := 7) ?hd (cs := #[.int .i64 0, .int .i64 0, .int .i64 0, .int .i64 0, .int .i64 0, .string (⟨#[]⟩ : ByteArray), .int .i64 0]) (t := 48) ?hr ?_; (case hd => rfl); (case hg => rfl); (case hr => first | (go_simp; done) | (go_simp; rfl)); intro gb377 hg w28 hbox hb; have n0_ := Aside0.mk (Kd.R_below (rq HO_4.out) hb); have n1_ := Aside0.mk (below_step (bs HB.out) hb); have n2_ := Aside0.mk (hbox); have n3_ := Aside0.mk ((by rw [hg]; exact (below_size (bs HB.out)) : w.heap.size ≤ gb377)); have n4_ := n3_; clear HO_4; clear HB; have HO_4 := n0_; have HB := n1_; have BK377 := n2_; have GW377 := n3_; have GE377 := n4_; clear n0_ n1_ n2_ n3_ n4_; clear hb hbox hg; obtain ⟨hcz29_0, hcz29_1, hcz29_2, hcz29_3, hcz29_4, hcz29_5, hcz29_6⟩ := bc7 BK377.out; obtain ⟨hfz29_0, hfz29_1, hfz29_2, hfz29_3, hfz29_4, hfz29_5, hfz29_6⟩ := bf7 BK377.out) | ((with_reducible refine gate_callee (f := 31) rfl ?_); refine goesL_ (some 25) rfl rfl Try.func31 (by kernel_rfl) rfl #[.agg #[.int .i64 ((rd_T48 l0 x6_1).f0), .int .i64 ((rd_T48 l0 x6_1).f1), .int .i64 ((rd_T48 l0 x6_1).f2), .int .i64 ((rd_T48 l0 x6_1).f3), .int .i64 ((rd_T48 l0 x6_1).f4), .string ((rd_T48 l0 x6_1).f5), .int .i64 ((rd_T48 l0 x6_1).f6)]] rfl (by (try simp only [List.map_toArray, List.map_cons, List.map_nil]); first | done | rfl | (simp only [List.length_drop, List.length_take]; rfl)) ?_; (with_reducible refine (signalbenchref14_Plain.calls ((rd_T48 l0 x6_1).f0) ((rd_T48 l0 x6_1).f1) ((rd_T48 l0 x6_1).f2) ((rd_T48 l0 x6_1).f3) ((rd_T48 l0 x6_1).f4) ((rd_T48 l0 x6_1).f5) ((rd_T48 l0 x6_1).f6) true _ A9.out).mono ?_); rintro e w30 ⟨rfl, hb⟩; refine ⟨_, rfl, ?_⟩; have n0_ := Aside0.mk (Kd.R_below (by (with_reducible repeat (first | apply Kd.R_alloc | apply Kd.R_drewN | apply Kd.R_drew)); exact (Kd.R_mono (Kd.R_far (p := ⟨gb377, 6, none⟩) (Kd.R_far (p := ⟨gb377, 5, none⟩) (Kd.R_far (p := ⟨gb377, 4, none⟩) (Kd.R_far (p := ⟨gb377, 3, none⟩) (Kd.R_far (p := ⟨gb377, 2, none⟩) (Kd.R_far (p := ⟨gb377, 1, none⟩) (Kd.R_far (p := ⟨gb377, 0, none⟩) (Kd.R_types HO_4.out BK377.out (by decide)) (fun _ hk => hk.2) (.int .i64 ((rd_T48 l0 x6_1).f0))) (fun _ hk => hk.2) (.int .i64 ((rd_T48 l0 x6_1).f1))) (fun _ hk => hk.2) (.int .i64 ((rd_T48 l0 x6_1).f2))) (fun _ hk => hk.2) (.int .i64 ((rd_T48 l0 x6_1).f3))) (fun _ hk => hk.2) (.int .i64 ((rd_T48 l0 x6_1).f4))) (fun _ hk => hk.2) (.string ((rd_T48 l0 x6_1).f5))) (fun _ hk => hk.2) (.int .i64 ((rd_T48 l0 x6_1).f6))) (fun _ h_ => h_.1))) hb); have n1_ := Aside0.mk (blk_below (g := gb377) (o := .cells #[.int .i64 ((rd_T48 l0 x6_1).f0), .int .i64 ((rd_T48 l0 x6_1).f1), .int .i64 ((rd_T48 l0 x6_1).f2), .int .i64 ((rd_T48 l0 x6_1).f3), .int .i64 ((rd_T48 l0 x6_1).f4), .string ((rd_T48 l0 x6_1).f5), .int .i64 ((rd_T48 l0 x6_1).f6)] 48 (0, 0)) (by exact pt7 (bg BK377.out)) hb); have n2_ := Aside0.mk (below_step (bs HB.out) hb); clear HO_4; clear BK377; clear HB; have HO_4 := n0_; have BK377 := n1_; have HB := n2_; clear n0_ n1_ n2_; (try clear hb); (try clear hb2); (try clear hk); (try clear hi); obtain ⟨hcz31_0, hcz31_1, hcz31_2, hcz31_3, hcz31_4, hcz31_5, hcz31_6⟩ := bc7 BK377.out; obtain ⟨hfz31_0, hfz31_1, hfz31_2, hfz31_3, hfz31_4, hfz31_5, hfz31_6⟩ := bf7 BK377.out))
              go_ret2
              exact ⟨_, by first | rfl | (simp [errW_none, errW_some] <;> rfl) | (simp [*, errW_none, errW_some] <;> rfl), by first | exact Kd.R_nil _ _ _ _ _ | exact Kd.N_nil _ _ _ _ _ | exact Kd.V_nil _ _ _ _ _ | exact Kd.Q_nil _ _ _ _ _ | exact Kd.S_nil _ _ _ _ _, bs HB.out⟩
             ·
              rw [if_neg c27] at H
              have c27b0 : decide (65535 < ((rd_T48 l0 x6_1).f3)) = false := decide_eq_false c27
              clear c27
              by_cases c32 : x4_1.length < 8796093022208
              ·
               rw [if_pos c32] at H
               have LMc32 := Aside0.mk c32
               clear c32
               obtain ⟨y379, hy379⟩ : ∃ y_ : List (S46), y_ = (x4_1 ++ [(⟨(rd_T48 l0 x6_1).f3, wrap64 (((rd_T48 l0 x6_1).f2) - ((rd_T48 l0 x6_1).f1))⟩ : S46)]) := ⟨_, rfl⟩
               replace H : (signalbenchref14_Runs.l0 k1 l0 y379 ((rd_T48 l0 x6_1).f2) (wrap64 (x6_1 + 1))) = some (r1, r2) := by first | (rw [hy379]; with_reducible exact H) | (have H2_ := (Option.bind_some _ _).symm.trans H; rw [hy379]; with_reducible exact H2_) | (have H2_ := (Option.bind_some _ _).symm.trans H; with_reducible exact H2_) | with_reducible exact H | (rw [hy379]; exact H) | exact H
               have Ny379 := Aside0.mk hy379
               clear hy379
               have H' := Aside0.mk H
               clear H
               have p376 : 0 ≤ (x6_1 : Int) := of_decide_eq_true (by first | (with_reducible assumption) | assumption)
               have q376 : x6_1 < (l0.length : Int) := of_decide_eq_true (by first | (with_reducible assumption) | assumption)
               obtain ⟨ad376, e376, hx376_0, hx376_1, hx376_2, hx376_3, hx376_4, hx376_5, hx376_6⟩ := at_T48 HR0.out x6_1 p376 q376
               cases e376
               replace hx376_0 := pw_cell_below HB.out hx376_0
               replace hx376_1 := pw_cell_below HB.out hx376_1
               replace hx376_2 := pw_cell_below HB.out hx376_2
               replace hx376_3 := pw_cell_below HB.out hx376_3
               replace hx376_4 := pw_cell_below HB.out hx376_4
               replace hx376_5 := pw_cell_below HB.out hx376_5
               replace hx376_6 := pw_cell_below HB.out hx376_6
               replace p376 := eq_true p376
               replace q376 := eq_true q376
               go_wp2_with (first | ((with_reducible refine gate_dst (N := 7) rfl ?_); refine box_event ?hg (N := 7) ?hd (cs := #[.int .i64 0, .int .i64 0, .int .i64 0, .int .i64 0, .int .i64 0, .string (⟨#[]⟩ : ByteArray), .int .i64 0]) (t := 48) ?hr ?_; (case hd => rfl); (case hg => rfl); (case hr => first | (go_simp; done) | (go_simp; rfl)); intro gb377 hg w33 hbox hb; have n0_ := Aside0.mk (Kd.R_below (rq HO_4.out) hb); have n1_ := Aside0.mk (below_step (bs HB.out) hb); have n2_ := Aside0.mk (hbox); have n3_ := Aside0.mk ((by rw [hg]; exact (below_size (bs HB.out)) : w.heap.size ≤ gb377)); have n4_ := n3_; clear HO_4; clear HB; have HO_4 := n0_; have HB := n1_; have BK377 := n2_; have GW377 := n3_; have GE377 := n4_; clear n0_ n1_ n2_ n3_ n4_; clear hb hbox hg; obtain ⟨hcz34_0, hcz34_1, hcz34_2, hcz34_3, hcz34_4, hcz34_5, hcz34_6⟩ := bc7 BK377.out; obtain ⟨hfz34_0, hfz34_1, hfz34_2, hfz34_3, hfz34_4, hfz34_5, hfz34_6⟩ := bf7 BK377.out) | ((with_reducible refine gate_callee (f := 31) rfl ?_); refine goesL_ (some 25) rfl rfl Try.func31 (by kernel_rfl) rfl #[.agg #[.int .i64 ((rd_T48 l0 x6_1).f0), .int .i64 ((rd_T48 l0 x6_1).f1), .int .i64 ((rd_T48 l0 x6_1).f2), .int .i64 ((rd_T48 l0 x6_1).f3), .int .i64 ((rd_T48 l0 x6_1).f4), .string ((rd_T48 l0 x6_1).f5), .int .i64 ((rd_T48 l0 x6_1).f6)]] rfl (by (try simp only [List.map_toArray, List.map_cons, List.map_nil]); first | done | rfl | (simp only [List.length_drop, List.length_take]; rfl)) ?_; (with_reducible refine (signalbenchref14_Plain.calls ((rd_T48 l0 x6_1).f0) ((rd_T48 l0 x6_1).f1) ((rd_T48 l0 x6_1).f2) ((rd_T48 l0 x6_1).f3) ((rd_T48 l0 x6_1).f4) ((rd_T48 l0 x6_1).f5) ((rd_T48 l0 x6_1).f6) true _ A9.out).mono ?_); rintro e w35 ⟨rfl, hb⟩; refine ⟨_, rfl, ?_⟩; have n0_ := Aside0.mk (Kd.R_below (by (with_reducible repeat (first | apply Kd.R_alloc | apply Kd.R_drewN | apply Kd.R_drew)); exact (Kd.R_mono (Kd.R_far (p := ⟨gb377, 6, none⟩) (Kd.R_far (p := ⟨gb377, 5, none⟩) (Kd.R_far (p := ⟨gb377, 4, none⟩) (Kd.R_far (p := ⟨gb377, 3, none⟩) (Kd.R_far (p := ⟨gb377, 2, none⟩) (Kd.R_far (p := ⟨gb377, 1, none⟩) (Kd.R_far (p := ⟨gb377, 0, none⟩) (Kd.R_types HO_4.out BK377.out (by decide)) (fun _ hk => hk.2) (.int .i64 ((rd_T48 l0 x6_1).f0))) (fun _ hk => hk.2) (.int .i64 ((rd_T48 l0 x6_1).f1))) (fun _ hk => hk.2) (.int .i64 ((rd_T48 l0 x6_1).f2))) (fun _ hk => hk.2) (.int .i64 ((rd_T48 l0 x6_1).f3))) (fun _ hk => hk.2) (.int .i64 ((rd_T48 l0 x6_1).f4))) (fun _ hk => hk.2) (.string ((rd_T48 l0 x6_1).f5))) (fun _ hk => hk.2) (.int .i64 ((rd_T48 l0 x6_1).f6))) (fun _ h_ => h_.1))) hb); have n1_ := Aside0.mk (blk_below (g := gb377) (o := .cells #[.int .i64 ((rd_T48 l0 x6_1).f0), .int .i64 ((rd_T48 l0 x6_1).f1), .int .i64 ((rd_T48 l0 x6_1).f2), .int .i64 ((rd_T48 l0 x6_1).f3), .int .i64 ((rd_T48 l0 x6_1).f4), .string ((rd_T48 l0 x6_1).f5), .int .i64 ((rd_T48 l0 x6_1).f6)] 48 (0, 0)) (by exact pt7 (bg BK377.out)) hb); have n2_ := Aside0.mk (below_step (bs HB.out) hb); clear HO_4; clear BK377; clear HB; have HO_4 := n0_; have BK377 := n1_; have HB := n2_; clear n0_ n1_ n2_; (try clear hb); (try clear hb2); (try clear hk); (try clear hi); obtain ⟨hcz36_0, hcz36_1, hcz36_2, hcz36_3, hcz36_4, hcz36_5, hcz36_6⟩ := bc7 BK377.out; obtain ⟨hfz36_0, hfz36_1, hfz36_2, hfz36_3, hfz36_4, hfz36_5, hfz36_6⟩ := bf7 BK377.out) | ((with_reducible refine gate_builtin (b := .append) (xs := #[.tmp 54, .tmp 63]) rfl ?_); at_builtin; refine Kd.R_append k46 (w0 := w) w.heap.size rfl (.tmp 54) (.tmp 63) 23 46 (.agg #[(.int .i64 0), (.int .i64 0)]) 16 rfl Try.underlying23 info46 rfl (by decide) (by omega) u4 x4_1 (⟨(rd_T48 l0 x6_1).f3, wrap64 (((rd_T48 l0 x6_1).f2) - ((rd_T48 l0 x6_1).f1))⟩ : S46) [.int .i64 ((rd_T48 l0 x6_1).f3), .int .i64 (wrap64 (((rd_T48 l0 x6_1).f2) - ((rd_T48 l0 x6_1).f1)))] (fun _ => True) (fun _ => False) rfl rfl ?aP (fun _ hk => hk.elim) ?aF ?aO ?aB ?aS ?aL ?_; (case aP => exact k46_mkM _ _ _ (⟨(rd_T48 l0 x6_1).f3, wrap64 (((rd_T48 l0 x6_1).f2) - ((rd_T48 l0 x6_1).f1))⟩ : S46)); (case aB => exact (bs HB.out)); (case aF => exact (fun _ _ => trivial)); (case aO => exact (rq HO_4.out)); (case aS => exact (below_size (bs HB.out))); (case aL => have := LMc32.out; omega); intro v380 w37 ho hb hg hat; rw [← Ny379.out] at ho; have n0_ := Aside0.mk (blk_grown (g := gb377) (o := .cells #[.int .i64 ((rd_T48 l0 x6_1).f0), .int .i64 ((rd_T48 l0 x6_1).f1), .int .i64 ((rd_T48 l0 x6_1).f2), .int .i64 ((rd_T48 l0 x6_1).f3), .int .i64 ((rd_T48 l0 x6_1).f4), .string ((rd_T48 l0 x6_1).f5), .int .i64 ((rd_T48 l0 x6_1).f6)] 48 (0, 0)) (bg BK377.out) hg (Kd.R_ne HO_4.out BK377.out (by decide))); have n1_ := Aside0.mk (hb); have n2_ := Aside0.mk (ho); clear BK377; clear HB; clear HO_4; have BK377 := n0_; have HB := n1_; have HO381 := n2_; clear n0_ n1_ n2_; clear ho hb hg hat; obtain ⟨hcz38_0, hcz38_1, hcz38_2, hcz38_3, hcz38_4, hcz38_5, hcz38_6⟩ := bc7 BK377.out; obtain ⟨hfz38_0, hfz38_1, hfz38_2, hfz38_3, hfz38_4, hfz38_5, hfz38_6⟩ := bf7 BK377.out))
               go_roundg k1
               case measure => have := HK1.out; omega
               case rel => exact ⟨(y379), ((rd_T48 l0 x6_1).f2), (wrap64 (x6_1 + 1)), (by first | rfl | (simp; done) | (simp [*]; done)), (by first | rfl | (simp; done) | (simp [*]; done)), H', ⟨by have := HK1.out; omega⟩, ⟨by (with_reducible repeat (first | apply Kd.R_alloc | apply Kd.R_drewN | apply Kd.R_drew)); exact HO381.out⟩, ⟨bs HB.out⟩⟩
              ·
               rw [if_neg c32] at H
               exact absurd H (by simp)
         ·
          rw [if_neg c11] at H
          have c11b0 : (((rd_T48 l0 x6_1).f1) == x5_1) = false := beq_eq_false_iff_ne.mpr c11
          have c11b1 : (((rd_T48 l0 x6_1).f1) != x5_1) = true := bne_iff_ne.mpr c11
          simp only [Option.some.injEq, Prod.mk.injEq] at H
          obtain ⟨rfl, rfl⟩ := H
          have p376 : 0 ≤ (x6_1 : Int) := of_decide_eq_true (by first | (with_reducible assumption) | assumption)
          have q376 : x6_1 < (l0.length : Int) := of_decide_eq_true (by first | (with_reducible assumption) | assumption)
          obtain ⟨ad376, e376, hx376_0, hx376_1, hx376_2, hx376_3, hx376_4, hx376_5, hx376_6⟩ := at_T48 HR0.out x6_1 p376 q376
          cases e376
          replace hx376_0 := pw_cell_below HB.out hx376_0
          replace hx376_1 := pw_cell_below HB.out hx376_1
          replace hx376_2 := pw_cell_below HB.out hx376_2
          replace hx376_3 := pw_cell_below HB.out hx376_3
          replace hx376_4 := pw_cell_below HB.out hx376_4
          replace hx376_5 := pw_cell_below HB.out hx376_5
          replace hx376_6 := pw_cell_below HB.out hx376_6
          replace p376 := eq_true p376
          replace q376 := eq_true q376
          go_wp2_with (first | ((with_reducible refine gate_dst (N := 7) rfl ?_); refine box_event ?hg (N := 7) ?hd (cs := #[.int .i64 0, .int .i64 0, .int .i64 0, .int .i64 0, .int .i64 0, .string (⟨#[]⟩ : ByteArray), .int .i64 0]) (t := 48) ?hr ?_; (case hd => rfl); (case hg => rfl); (case hr => first | (go_simp; done) | (go_simp; rfl)); intro gb377 hg w39 hbox hb; have n0_ := Aside0.mk (Kd.R_below (rq HO_4.out) hb); have n1_ := Aside0.mk (below_step (bs HB.out) hb); have n2_ := Aside0.mk (hbox); have n3_ := Aside0.mk ((by rw [hg]; exact (below_size (bs HB.out)) : w.heap.size ≤ gb377)); have n4_ := n3_; clear HO_4; clear HB; have HO_4 := n0_; have HB := n1_; have BK377 := n2_; have GW377 := n3_; have GE377 := n4_; clear n0_ n1_ n2_ n3_ n4_; clear hb hbox hg; obtain ⟨hcz40_0, hcz40_1, hcz40_2, hcz40_3, hcz40_4, hcz40_5, hcz40_6⟩ := bc7 BK377.out; obtain ⟨hfz40_0, hfz40_1, hfz40_2, hfz40_3, hfz40_4, hfz40_5, hfz40_6⟩ := bf7 BK377.out) | ((with_reducible refine gate_callee (f := 31) rfl ?_); refine goesL_ (some 25) rfl rfl Try.func31 (by kernel_rfl) rfl #[.agg #[.int .i64 ((rd_T48 l0 x6_1).f0), .int .i64 ((rd_T48 l0 x6_1).f1), .int .i64 ((rd_T48 l0 x6_1).f2), .int .i64 ((rd_T48 l0 x6_1).f3), .int .i64 ((rd_T48 l0 x6_1).f4), .string ((rd_T48 l0 x6_1).f5), .int .i64 ((rd_T48 l0 x6_1).f6)]] rfl (by (try simp only [List.map_toArray, List.map_cons, List.map_nil]); first | done | rfl | (simp only [List.length_drop, List.length_take]; rfl)) ?_; (with_reducible refine (signalbenchref14_Plain.calls ((rd_T48 l0 x6_1).f0) ((rd_T48 l0 x6_1).f1) ((rd_T48 l0 x6_1).f2) ((rd_T48 l0 x6_1).f3) ((rd_T48 l0 x6_1).f4) ((rd_T48 l0 x6_1).f5) ((rd_T48 l0 x6_1).f6) true _ A9.out).mono ?_); rintro e w41 ⟨rfl, hb⟩; refine ⟨_, rfl, ?_⟩; have n0_ := Aside0.mk (Kd.R_below (by (with_reducible repeat (first | apply Kd.R_alloc | apply Kd.R_drewN | apply Kd.R_drew)); exact (Kd.R_mono (Kd.R_far (p := ⟨gb377, 6, none⟩) (Kd.R_far (p := ⟨gb377, 5, none⟩) (Kd.R_far (p := ⟨gb377, 4, none⟩) (Kd.R_far (p := ⟨gb377, 3, none⟩) (Kd.R_far (p := ⟨gb377, 2, none⟩) (Kd.R_far (p := ⟨gb377, 1, none⟩) (Kd.R_far (p := ⟨gb377, 0, none⟩) (Kd.R_types HO_4.out BK377.out (by decide)) (fun _ hk => hk.2) (.int .i64 ((rd_T48 l0 x6_1).f0))) (fun _ hk => hk.2) (.int .i64 ((rd_T48 l0 x6_1).f1))) (fun _ hk => hk.2) (.int .i64 ((rd_T48 l0 x6_1).f2))) (fun _ hk => hk.2) (.int .i64 ((rd_T48 l0 x6_1).f3))) (fun _ hk => hk.2) (.int .i64 ((rd_T48 l0 x6_1).f4))) (fun _ hk => hk.2) (.string ((rd_T48 l0 x6_1).f5))) (fun _ hk => hk.2) (.int .i64 ((rd_T48 l0 x6_1).f6))) (fun _ h_ => h_.1))) hb); have n1_ := Aside0.mk (blk_below (g := gb377) (o := .cells #[.int .i64 ((rd_T48 l0 x6_1).f0), .int .i64 ((rd_T48 l0 x6_1).f1), .int .i64 ((rd_T48 l0 x6_1).f2), .int .i64 ((rd_T48 l0 x6_1).f3), .int .i64 ((rd_T48 l0 x6_1).f4), .string ((rd_T48 l0 x6_1).f5), .int .i64 ((rd_T48 l0 x6_1).f6)] 48 (0, 0)) (by exact pt7 (bg BK377.out)) hb); have n2_ := Aside0.mk (below_step (bs HB.out) hb); clear HO_4; clear BK377; clear HB; have HO_4 := n0_; have BK377 := n1_; have HB := n2_; clear n0_ n1_ n2_; (try clear hb); (try clear hb2); (try clear hk); (try clear hi); obtain ⟨hcz42_0, hcz42_1, hcz42_2, hcz42_3, hcz42_4, hcz42_5, hcz42_6⟩ := bc7 BK377.out; obtain ⟨hfz42_0, hfz42_1, hfz42_2, hfz42_3, hfz42_4, hfz42_5, hfz42_6⟩ := bf7 BK377.out))
          go_ret2
          exact ⟨_, by first | rfl | (simp [errW_none, errW_some] <;> rfl) | (simp [*, errW_none, errW_some] <;> rfl), by first | exact Kd.R_nil _ _ _ _ _ | exact Kd.N_nil _ _ _ _ _ | exact Kd.V_nil _ _ _ _ _ | exact Kd.Q_nil _ _ _ _ _ | exact Kd.S_nil _ _ _ _ _, bs HB.out⟩
        ·
         replace c10 := Bool.eq_false_iff.mpr c10
         subst c10
         have H1 : (some (([] : List (S46)), 1)) = some (r1, r2) := by rw [if_neg (show ¬ (false = true) by decide)] at H; exact H
         clear H
         have H := H1
         clear H1
         simp only [Option.some.injEq, Prod.mk.injEq] at H
         obtain ⟨rfl, rfl⟩ := H
         have p376 : 0 ≤ (x6_1 : Int) := of_decide_eq_true (by first | (with_reducible assumption) | assumption)
         have q376 : x6_1 < (l0.length : Int) := of_decide_eq_true (by first | (with_reducible assumption) | assumption)
         obtain ⟨ad376, e376, hx376_0, hx376_1, hx376_2, hx376_3, hx376_4, hx376_5, hx376_6⟩ := at_T48 HR0.out x6_1 p376 q376
         cases e376
         replace hx376_0 := pw_cell_below HB.out hx376_0
         replace hx376_1 := pw_cell_below HB.out hx376_1
         replace hx376_2 := pw_cell_below HB.out hx376_2
         replace hx376_3 := pw_cell_below HB.out hx376_3
         replace hx376_4 := pw_cell_below HB.out hx376_4
         replace hx376_5 := pw_cell_below HB.out hx376_5
         replace hx376_6 := pw_cell_below HB.out hx376_6
         replace p376 := eq_true p376
         replace q376 := eq_true q376
         go_wp2_with (first | ((with_reducible refine gate_dst (N := 7) rfl ?_); refine box_event ?hg (N := 7) ?hd (cs := #[.int .i64 0, .int .i64 0, .int .i64 0, .int .i64 0, .int .i64 0, .string (⟨#[]⟩ : ByteArray), .int .i64 0]) (t := 48) ?hr ?_; (case hd => rfl); (case hg => rfl); (case hr => first | (go_simp; done) | (go_simp; rfl)); intro gb377 hg w43 hbox hb; have n0_ := Aside0.mk (Kd.R_below (rq HO_4.out) hb); have n1_ := Aside0.mk (below_step (bs HB.out) hb); have n2_ := Aside0.mk (hbox); have n3_ := Aside0.mk ((by rw [hg]; exact (below_size (bs HB.out)) : w.heap.size ≤ gb377)); have n4_ := n3_; clear HO_4; clear HB; have HO_4 := n0_; have HB := n1_; have BK377 := n2_; have GW377 := n3_; have GE377 := n4_; clear n0_ n1_ n2_ n3_ n4_; clear hb hbox hg; obtain ⟨hcz44_0, hcz44_1, hcz44_2, hcz44_3, hcz44_4, hcz44_5, hcz44_6⟩ := bc7 BK377.out; obtain ⟨hfz44_0, hfz44_1, hfz44_2, hfz44_3, hfz44_4, hfz44_5, hfz44_6⟩ := bf7 BK377.out) | ((with_reducible refine gate_callee (f := 31) rfl ?_); refine goesL_ (some 25) rfl rfl Try.func31 (by kernel_rfl) rfl #[.agg #[.int .i64 ((rd_T48 l0 x6_1).f0), .int .i64 ((rd_T48 l0 x6_1).f1), .int .i64 ((rd_T48 l0 x6_1).f2), .int .i64 ((rd_T48 l0 x6_1).f3), .int .i64 ((rd_T48 l0 x6_1).f4), .string ((rd_T48 l0 x6_1).f5), .int .i64 ((rd_T48 l0 x6_1).f6)]] rfl (by (try simp only [List.map_toArray, List.map_cons, List.map_nil]); first | done | rfl | (simp only [List.length_drop, List.length_take]; rfl)) ?_; (with_reducible refine (signalbenchref14_Plain.calls ((rd_T48 l0 x6_1).f0) ((rd_T48 l0 x6_1).f1) ((rd_T48 l0 x6_1).f2) ((rd_T48 l0 x6_1).f3) ((rd_T48 l0 x6_1).f4) ((rd_T48 l0 x6_1).f5) ((rd_T48 l0 x6_1).f6) false _ A9.out).mono ?_); rintro e w45 ⟨rfl, hb⟩; refine ⟨_, rfl, ?_⟩; have n0_ := Aside0.mk (Kd.R_below (by (with_reducible repeat (first | apply Kd.R_alloc | apply Kd.R_drewN | apply Kd.R_drew)); exact (Kd.R_mono (Kd.R_far (p := ⟨gb377, 6, none⟩) (Kd.R_far (p := ⟨gb377, 5, none⟩) (Kd.R_far (p := ⟨gb377, 4, none⟩) (Kd.R_far (p := ⟨gb377, 3, none⟩) (Kd.R_far (p := ⟨gb377, 2, none⟩) (Kd.R_far (p := ⟨gb377, 1, none⟩) (Kd.R_far (p := ⟨gb377, 0, none⟩) (Kd.R_types HO_4.out BK377.out (by decide)) (fun _ hk => hk.2) (.int .i64 ((rd_T48 l0 x6_1).f0))) (fun _ hk => hk.2) (.int .i64 ((rd_T48 l0 x6_1).f1))) (fun _ hk => hk.2) (.int .i64 ((rd_T48 l0 x6_1).f2))) (fun _ hk => hk.2) (.int .i64 ((rd_T48 l0 x6_1).f3))) (fun _ hk => hk.2) (.int .i64 ((rd_T48 l0 x6_1).f4))) (fun _ hk => hk.2) (.string ((rd_T48 l0 x6_1).f5))) (fun _ hk => hk.2) (.int .i64 ((rd_T48 l0 x6_1).f6))) (fun _ h_ => h_.1))) hb); have n1_ := Aside0.mk (blk_below (g := gb377) (o := .cells #[.int .i64 ((rd_T48 l0 x6_1).f0), .int .i64 ((rd_T48 l0 x6_1).f1), .int .i64 ((rd_T48 l0 x6_1).f2), .int .i64 ((rd_T48 l0 x6_1).f3), .int .i64 ((rd_T48 l0 x6_1).f4), .string ((rd_T48 l0 x6_1).f5), .int .i64 ((rd_T48 l0 x6_1).f6)] 48 (0, 0)) (by exact pt7 (bg BK377.out)) hb); have n2_ := Aside0.mk (below_step (bs HB.out) hb); clear HO_4; clear BK377; clear HB; have HO_4 := n0_; have BK377 := n1_; have HB := n2_; clear n0_ n1_ n2_; (try clear hb); (try clear hb2); (try clear hk); (try clear hi)))
         go_ret2
         exact ⟨_, by first | rfl | (simp [errW_none, errW_some] <;> rfl) | (simp [*, errW_none, errW_some] <;> rfl), by first | exact Kd.R_nil _ _ _ _ _ | exact Kd.N_nil _ _ _ _ _ | exact Kd.V_nil _ _ _ _ _ | exact Kd.Q_nil _ _ _ _ _ | exact Kd.S_nil _ _ _ _ _, bs HB.out⟩
       ·
        rw [if_neg c8] at H
        exact absurd H (by simp)
      ·
       rw [if_neg c7] at H
       have c7b0 : decide (x6_1 < (l0.length : Int)) = false := decide_eq_false c7
       clear c7
       simp only [Option.some.injEq, Prod.mk.injEq] at H
       obtain ⟨rfl, rfl⟩ := H
       go_wp2
       go_ret2
       exact ⟨_, by first | rfl | (simp [errW_none, errW_some] <;> rfl) | (simp [*, errW_none, errW_some] <;> rfl), by (with_reducible repeat (first | apply Kd.R_alloc | apply Kd.R_drewN | apply Kd.R_drew)); exact HO_4.out, bs HB.out⟩
   ·
    rw [if_neg c4] at H
    exact absurd H (by simp)
  ·
   rw [if_neg c3] at H
   exact absurd H (by simp)

end Go.Proofs.Ytioedeglgljblaa.H
