-- Printed by wip/hprint.py (this project's own driver of the kit's print) out of the translation; Lean checks it.
import Derived.Test.YtioedeglgljblaaH0
import Derived.Test.YtioedeglgljblaaH15
namespace Go.Proofs.Ytioedeglgljblaa.H
open Go.RowKit Go.Proofs.YtioedeglgljblaaW.PrintWords Go.Proofs.YtioedeglgljblaaW.PrintLast Go.Proofs.YtioedeglgljblaaW.PrintMore
attribute [local go_sem] max2_int min2_int max_two min_two max_three min_three max_four min_four   -- for this text's walks alone
set_option linter.unusedVariables false
set_option linter.unusedSimpArgs false

-- STUB: function 15 (feed_Split): YtioedeglgljblaaHSplit

/-! ### feed_Runs: function 17 -/
def feed_Runs.l0 : Nat → List (S46) → Int → List (S48) → Int → Int → Option ((List (S46)) × Int)
 | 0, _, _, _, _, _ => none
 | k + 1, x4, x5, x11, x12, x13 => if x13 < x12 then (if 0 ≤ x13 then (if x13 < (x11.length : Int) then ((feed_plain.f ((rd_T48 x11 x13).f0) ((rd_T48 x11 x13).f1) ((rd_T48 x11 x13).f2) ((rd_T48 x11 x13).f3) ((rd_T48 x11 x13).f4) ((rd_T48 x11 x13).f5) ((rd_T48 x11 x13).f6)).bind fun t195 => (if t195 = true then (if ((rd_T48 x11 x13).f1) = x5 then (if ((rd_T48 x11 x13).f1) ≥ ((rd_T48 x11 x13).f2) then (some (([] : List (S46)), 1)) else (if ((rd_T48 x11 x13).f2) > 1099511627776 then (some (([] : List (S46)), 1)) else (if ((rd_T48 x11 x13).f3) < 0 then (some (([] : List (S46)), 1)) else (if ((rd_T48 x11 x13).f3) ≥ 65536 then (some (([] : List (S46)), 1)) else (if x4.length < 8796093022208 then (feed_Runs.l0 k (x4 ++ [(⟨(rd_T48 x11 x13).f3, wrap64 (((rd_T48 x11 x13).f2) - ((rd_T48 x11 x13).f1))⟩ : S46)]) ((rd_T48 x11 x13).f2) x11 x12 (wrap64 (x13 + 1))) else (none)))))) else (some (([] : List (S46)), 1))) else (some (([] : List (S46)), 1)))) else (none)) else (none)) else (some (x4, 0))
def feed_Runs.f (k : Nat) (l0 : List (S48)) : Option ((List (S46)) × Int) := if (l0.length : Int) > 262144 then (some (([] : List (S46)), 6)) else (feed_Runs.l0 k ([] : List (S46)) 0 l0 (l0.length : Int) 0)
set_option maxHeartbeats 8000000 in
set_option maxRecDepth 100000 in
theorem feed_Runs.calls (k : Nat) (A0 : Option Addr) (c0 : Nat) (l0 : List (S48)) (r1 : List (S46)) (r2 : Int) (w : World) (hr0 : Kd.C k48 w A0 l0.length l0) (hc0 : l0.length ≤ c0) (h : feed_Runs.f k l0 = some (r1, r2)) :
  Calls Try.prog 17 #[.slice A0 l0.length c0] w fun e w' => ∃ v0_ : Value, e = .returned (.tuple #[v0_, .int .i64 r2]) ∧ Kd.R k46 46 w' w.heap.size (fun _ => True) v0_ r1 ∧ Below w.heap.size w w' := by
 have hu48 := Try.underlying48
 have hu46 := Try.underlying46
 have HR0 := Aside0.mk hr0
 have HC0 := Aside0.mk hc0
 clear hr0 hc0
 have HB := Aside0.mk (Below.refl w.heap.size w)
 have H : (if (l0.length : Int) > 262144 then (some (([] : List (S46)), 6)) else (feed_Runs.l0 k ([] : List (S46)) 0 l0 (l0.length : Int) 0)) = some (r1, r2) := h
 clear h
 by_cases c2 : (l0.length : Int) > 262144
 ·
  rw [if_pos c2] at H
  have c2b0 : decide (262144 < (l0.length : Int)) = true := decide_eq_true c2
  have c2b1 : decide (262144 < l0.length) = true := decide_eq_true (by omega)
  clear c2
  simp only [Option.some.injEq, Prod.mk.injEq] at H
  obtain ⟨rfl, rfl⟩ := H
  go_enter Try.func17, Try.ntmps17
  go_wp2
  go_ret2
  exact ⟨_, by first | rfl | (simp [errW_none, errW_some] <;> rfl) | (simp [*, errW_none, errW_some] <;> rfl), by first | exact Kd.R_nil _ _ _ _ _ | exact Kd.N_nil _ _ _ _ _ | exact Kd.V_nil _ _ _ _ _ | exact Kd.Q_nil _ _ _ _ _ | exact Kd.S_nil _ _ _ _ _, bs HB.out⟩
 ·
  rw [if_neg c2] at H
  have c2b0 : decide (262144 < (l0.length : Int)) = false := decide_eq_false c2
  have c2b1 : decide (262144 < l0.length) = false := decide_eq_false (by omega)
  clear c2
  have H' := Aside0.mk H
  clear H
  go_enter Try.func17, Try.ntmps17
  go_wp2
  go_loopg [4, 5, 13] k (fun kq v4 v5 v13 w' => ∃ (x4_1 : List (S46)) (x5_1 : Int) (x13_1 : Int), v5 = .int .i64 x5_1 ∧ v13 = .int .i64 x13_1 ∧ Aside0 (feed_Runs.l0 kq x4_1 x5_1 l0 (l0.length : Int) x13_1 = some (r1, r2)) ∧ Aside0 (kq ≤ k) ∧ Aside0 (Kd.R k46 46 w' w.heap.size (fun _ => True) v4 x4_1) ∧ Aside0 (Below w.heap.size w w'))
  case atStart => exact ⟨(([] : List (S46))), (0), (0), (by first | rfl | (simp; done) | (simp [*]; done)), (by first | rfl | (simp; done) | (simp [*]; done)), H', ⟨Nat.le_refl _⟩, ⟨by first | exact Kd.R_nil _ _ _ _ _ | exact Kd.N_nil _ _ _ _ _ | exact Kd.V_nil _ _ _ _ _ | exact Kd.Q_nil _ _ _ _ _ | exact Kd.S_nil _ _ _ _ _⟩, ⟨bs HB.out⟩⟩
  case round =>
   clear H'
   try clear c1
   try clear c2
   try clear c2b0
   try clear c2b1
   try clear p2
   obtain ⟨x4_1, x5_1, x13_1, rfl, rfl, HA, HK1, HO_4, HB⟩ := hrel
   cases gk with
   | zero => exact absurd HA.out (by simp [feed_Runs.l0])
   | succ k1 =>
    have H := HA.out
    clear HA
    simp only [feed_Runs.l0] at H
    by_cases c3 : x13_1 < (l0.length : Int)
    ·
     rw [if_pos c3] at H
     have c3b0 : decide (x13_1 < (l0.length : Int)) = true := decide_eq_true c3
     clear c3
     by_cases c4 : 0 ≤ x13_1
     ·
      rw [if_pos c4] at H
      have c4b0 : decide (0 ≤ x13_1) = true := decide_eq_true c4
      clear c4
      by_cases c5 : x13_1 < (l0.length : Int)
      ·
       rw [if_pos c5] at H
       have c5b0 : decide (x13_1 < (l0.length : Int)) = true := decide_eq_true c5
       clear c5
       replace H := Option.bind_eq_some_iff.mp H
       obtain ⟨t195, A60, H⟩ := H
       replace H : (if t195 = true then (if ((rd_T48 l0 x13_1).f1) = x5_1 then (if ((rd_T48 l0 x13_1).f1) ≥ ((rd_T48 l0 x13_1).f2) then (some (([] : List (S46)), 1)) else (if ((rd_T48 l0 x13_1).f2) > 1099511627776 then (some (([] : List (S46)), 1)) else (if ((rd_T48 l0 x13_1).f3) < 0 then (some (([] : List (S46)), 1)) else (if ((rd_T48 l0 x13_1).f3) ≥ 65536 then (some (([] : List (S46)), 1)) else (if x4_1.length < 8796093022208 then (feed_Runs.l0 k1 (x4_1 ++ [(⟨(rd_T48 l0 x13_1).f3, wrap64 (((rd_T48 l0 x13_1).f2) - ((rd_T48 l0 x13_1).f1))⟩ : S46)]) ((rd_T48 l0 x13_1).f2) l0 (l0.length : Int) (wrap64 (x13_1 + 1))) else (none)))))) else (some (([] : List (S46)), 1))) else (some (([] : List (S46)), 1))) = some (r1, r2) := H
       have A6 := Aside0.mk A60
       clear A60
       by_cases c7 : t195 = true
       ·
        subst c7
        have H1 : (if ((rd_T48 l0 x13_1).f1) = x5_1 then (if ((rd_T48 l0 x13_1).f1) ≥ ((rd_T48 l0 x13_1).f2) then (some (([] : List (S46)), 1)) else (if ((rd_T48 l0 x13_1).f2) > 1099511627776 then (some (([] : List (S46)), 1)) else (if ((rd_T48 l0 x13_1).f3) < 0 then (some (([] : List (S46)), 1)) else (if ((rd_T48 l0 x13_1).f3) ≥ 65536 then (some (([] : List (S46)), 1)) else (if x4_1.length < 8796093022208 then (feed_Runs.l0 k1 (x4_1 ++ [(⟨(rd_T48 l0 x13_1).f3, wrap64 (((rd_T48 l0 x13_1).f2) - ((rd_T48 l0 x13_1).f1))⟩ : S46)]) ((rd_T48 l0 x13_1).f2) l0 (l0.length : Int) (wrap64 (x13_1 + 1))) else (none)))))) else (some (([] : List (S46)), 1))) = some (r1, r2) := by rw [if_pos rfl] at H; exact H
        clear H
        have H := H1
        clear H1
        by_cases c8 : ((rd_T48 l0 x13_1).f1) = x5_1
        ·
         rw [if_pos c8] at H
         have c8b0 : (((rd_T48 l0 x13_1).f1) == x5_1) = true := beq_iff_eq.mpr c8
         have c8b1 : (((rd_T48 l0 x13_1).f1) != x5_1) = false := bne_eq_false_iff_eq.mpr c8
         clear c8
         by_cases c9 : ((rd_T48 l0 x13_1).f1) ≥ ((rd_T48 l0 x13_1).f2)
         ·
          rw [if_pos c9] at H
          have c9b0 : decide (((rd_T48 l0 x13_1).f2) ≤ ((rd_T48 l0 x13_1).f1)) = true := decide_eq_true c9
          clear c9
          simp only [Option.some.injEq, Prod.mk.injEq] at H
          obtain ⟨rfl, rfl⟩ := H
          have p193 : 0 ≤ (x13_1 : Int) := of_decide_eq_true (by first | (with_reducible assumption) | assumption)
          have q193 : x13_1 < (l0.length : Int) := of_decide_eq_true (by first | (with_reducible assumption) | assumption)
          obtain ⟨ad193, e193, hx193_0, hx193_1, hx193_2, hx193_3, hx193_4, hx193_5, hx193_6⟩ := at_T48 HR0.out x13_1 p193 q193
          cases e193
          replace hx193_0 := pw_cell_below HB.out hx193_0
          replace hx193_1 := pw_cell_below HB.out hx193_1
          replace hx193_2 := pw_cell_below HB.out hx193_2
          replace hx193_3 := pw_cell_below HB.out hx193_3
          replace hx193_4 := pw_cell_below HB.out hx193_4
          replace hx193_5 := pw_cell_below HB.out hx193_5
          replace hx193_6 := pw_cell_below HB.out hx193_6
          replace p193 := eq_true p193
          replace q193 := eq_true q193
          go_wp2_with (first | ((with_reducible refine gate_dst (N := 7) rfl ?_); refine box_event ?hg (N := 7) ?hd (cs := #[.int .i64 0, .int .i64 0, .int .i64 0, .int .i64 0, .int .i64 0, .string (⟨#[]⟩ : ByteArray), .int .i64 0]) (t := 48) ?hr ?_; (case hd => rfl); (case hg => rfl); (case hr => first | (go_simp; done) | (go_simp; rfl)); intro gb194 hg w10 hbox hb; have n0_ := Aside0.mk (Kd.R_below (rq HO_4.out) hb); have n1_ := Aside0.mk (below_step (bs HB.out) hb); have n2_ := Aside0.mk (hbox); have n3_ := Aside0.mk ((by rw [hg]; exact (below_size (bs HB.out)) : w.heap.size ≤ gb194)); have n4_ := n3_; clear HO_4; clear HB; have HO_4 := n0_; have HB := n1_; have BK194 := n2_; have GW194 := n3_; have GE194 := n4_; clear n0_ n1_ n2_ n3_ n4_; clear hb hbox hg; obtain ⟨hcz11_0, hcz11_1, hcz11_2, hcz11_3, hcz11_4, hcz11_5, hcz11_6⟩ := bc7 BK194.out; obtain ⟨hfz11_0, hfz11_1, hfz11_2, hfz11_3, hfz11_4, hfz11_5, hfz11_6⟩ := bf7 BK194.out) | ((with_reducible refine gate_callee (f := 30) rfl ?_); refine goesL_ (some 18) rfl rfl Try.func30 (by kernel_rfl) rfl #[.agg #[.int .i64 ((rd_T48 l0 x13_1).f0), .int .i64 ((rd_T48 l0 x13_1).f1), .int .i64 ((rd_T48 l0 x13_1).f2), .int .i64 ((rd_T48 l0 x13_1).f3), .int .i64 ((rd_T48 l0 x13_1).f4), .string ((rd_T48 l0 x13_1).f5), .int .i64 ((rd_T48 l0 x13_1).f6)]] rfl (by (try simp only [List.map_toArray, List.map_cons, List.map_nil]); first | done | rfl | (simp only [List.length_drop, List.length_take]; rfl)) ?_; (with_reducible refine (feed_plain.calls ((rd_T48 l0 x13_1).f0) ((rd_T48 l0 x13_1).f1) ((rd_T48 l0 x13_1).f2) ((rd_T48 l0 x13_1).f3) ((rd_T48 l0 x13_1).f4) ((rd_T48 l0 x13_1).f5) ((rd_T48 l0 x13_1).f6) true _ A6.out).mono ?_); rintro e w12 ⟨rfl, hb⟩; refine ⟨_, rfl, ?_⟩; have n0_ := Aside0.mk (Kd.R_below (by (with_reducible repeat (first | apply Kd.R_alloc | apply Kd.R_drewN | apply Kd.R_drew)); exact (Kd.R_mono (Kd.R_far (p := ⟨gb194, 6, none⟩) (Kd.R_far (p := ⟨gb194, 5, none⟩) (Kd.R_far (p := ⟨gb194, 4, none⟩) (Kd.R_far (p := ⟨gb194, 3, none⟩) (Kd.R_far (p := ⟨gb194, 2, none⟩) (Kd.R_far (p := ⟨gb194, 1, none⟩) (Kd.R_far (p := ⟨gb194, 0, none⟩) (Kd.R_types HO_4.out BK194.out (by decide)) (fun _ hk => hk.2) (.int .i64 ((rd_T48 l0 x13_1).f0))) (fun _ hk => hk.2) (.int .i64 ((rd_T48 l0 x13_1).f1))) (fun _ hk => hk.2) (.int .i64 ((rd_T48 l0 x13_1).f2))) (fun _ hk => hk.2) (.int .i64 ((rd_T48 l0 x13_1).f3))) (fun _ hk => hk.2) (.int .i64 ((rd_T48 l0 x13_1).f4))) (fun _ hk => hk.2) (.string ((rd_T48 l0 x13_1).f5))) (fun _ hk => hk.2) (.int .i64 ((rd_T48 l0 x13_1).f6))) (fun _ h_ => h_.1))) hb); have n1_ := Aside0.mk (blk_below (g := gb194) (o := .cells #[.int .i64 ((rd_T48 l0 x13_1).f0), .int .i64 ((rd_T48 l0 x13_1).f1), .int .i64 ((rd_T48 l0 x13_1).f2), .int .i64 ((rd_T48 l0 x13_1).f3), .int .i64 ((rd_T48 l0 x13_1).f4), .string ((rd_T48 l0 x13_1).f5), .int .i64 ((rd_T48 l0 x13_1).f6)] 48 (0, 0)) (by exact pt7 (bg BK194.out)) hb); have n2_ := Aside0.mk (below_step (bs HB.out) hb); clear HO_4; clear BK194; clear HB; have HO_4 := n0_; have BK194 := n1_; have HB := n2_; clear n0_ n1_ n2_; (try clear hb); (try clear hb2); (try clear hk); (try clear hi); obtain ⟨hcz13_0, hcz13_1, hcz13_2, hcz13_3, hcz13_4, hcz13_5, hcz13_6⟩ := bc7 BK194.out; obtain ⟨hfz13_0, hfz13_1, hfz13_2, hfz13_3, hfz13_4, hfz13_5, hfz13_6⟩ := bf7 BK194.out))
          go_ret2
          exact ⟨_, by first | rfl | (simp [errW_none, errW_some] <;> rfl) | (simp [*, errW_none, errW_some] <;> rfl), by first | exact Kd.R_nil _ _ _ _ _ | exact Kd.N_nil _ _ _ _ _ | exact Kd.V_nil _ _ _ _ _ | exact Kd.Q_nil _ _ _ _ _ | exact Kd.S_nil _ _ _ _ _, bs HB.out⟩
         ·
          rw [if_neg c9] at H
          have c9b0 : decide (((rd_T48 l0 x13_1).f2) ≤ ((rd_T48 l0 x13_1).f1)) = false := decide_eq_false c9
          clear c9
          by_cases c14 : ((rd_T48 l0 x13_1).f2) > 1099511627776
          ·
           rw [if_pos c14] at H
           have c14b0 : decide (1099511627776 < ((rd_T48 l0 x13_1).f2)) = true := decide_eq_true c14
           clear c14
           simp only [Option.some.injEq, Prod.mk.injEq] at H
           obtain ⟨rfl, rfl⟩ := H
           have p193 : 0 ≤ (x13_1 : Int) := of_decide_eq_true (by first | (with_reducible assumption) | assumption)
           have q193 : x13_1 < (l0.length : Int) := of_decide_eq_true (by first | (with_reducible assumption) | assumption)
           obtain ⟨ad193, e193, hx193_0, hx193_1, hx193_2, hx193_3, hx193_4, hx193_5, hx193_6⟩ := at_T48 HR0.out x13_1 p193 q193
           cases e193
           replace hx193_0 := pw_cell_below HB.out hx193_0
           replace hx193_1 := pw_cell_below HB.out hx193_1
           replace hx193_2 := pw_cell_below HB.out hx193_2
           replace hx193_3 := pw_cell_below HB.out hx193_3
           replace hx193_4 := pw_cell_below HB.out hx193_4
           replace hx193_5 := pw_cell_below HB.out hx193_5
           replace hx193_6 := pw_cell_below HB.out hx193_6
           replace p193 := eq_true p193
           replace q193 := eq_true q193
           go_wp2_with (first | ((with_reducible refine gate_dst (N := 7) rfl ?_); refine box_event ?hg (N := 7) ?hd (cs := #[.int .i64 0, .int .i64 0, .int .i64 0, .int .i64 0, .int .i64 0, .string (⟨#[]⟩ : ByteArray), .int .i64 0]) (t := 48) ?hr ?_; (case hd => rfl); (case hg => rfl); (case hr => first | (go_simp; done) | (go_simp; rfl)); intro gb194 hg w15 hbox hb; have n0_ := Aside0.mk (Kd.R_below (rq HO_4.out) hb); have n1_ := Aside0.mk (below_step (bs HB.out) hb); have n2_ := Aside0.mk (hbox); have n3_ := Aside0.mk ((by rw [hg]; exact (below_size (bs HB.out)) : w.heap.size ≤ gb194)); have n4_ := n3_; clear HO_4; clear HB; have HO_4 := n0_; have HB := n1_; have BK194 := n2_; have GW194 := n3_; have GE194 := n4_; clear n0_ n1_ n2_ n3_ n4_; clear hb hbox hg; obtain ⟨hcz16_0, hcz16_1, hcz16_2, hcz16_3, hcz16_4, hcz16_5, hcz16_6⟩ := bc7 BK194.out; obtain ⟨hfz16_0, hfz16_1, hfz16_2, hfz16_3, hfz16_4, hfz16_5, hfz16_6⟩ := bf7 BK194.out) | ((with_reducible refine gate_callee (f := 30) rfl ?_); refine goesL_ (some 18) rfl rfl Try.func30 (by kernel_rfl) rfl #[.agg #[.int .i64 ((rd_T48 l0 x13_1).f0), .int .i64 ((rd_T48 l0 x13_1).f1), .int .i64 ((rd_T48 l0 x13_1).f2), .int .i64 ((rd_T48 l0 x13_1).f3), .int .i64 ((rd_T48 l0 x13_1).f4), .string ((rd_T48 l0 x13_1).f5), .int .i64 ((rd_T48 l0 x13_1).f6)]] rfl (by (try simp only [List.map_toArray, List.map_cons, List.map_nil]); first | done | rfl | (simp only [List.length_drop, List.length_take]; rfl)) ?_; (with_reducible refine (feed_plain.calls ((rd_T48 l0 x13_1).f0) ((rd_T48 l0 x13_1).f1) ((rd_T48 l0 x13_1).f2) ((rd_T48 l0 x13_1).f3) ((rd_T48 l0 x13_1).f4) ((rd_T48 l0 x13_1).f5) ((rd_T48 l0 x13_1).f6) true _ A6.out).mono ?_); rintro e w17 ⟨rfl, hb⟩; refine ⟨_, rfl, ?_⟩; have n0_ := Aside0.mk (Kd.R_below (by (with_reducible repeat (first | apply Kd.R_alloc | apply Kd.R_drewN | apply Kd.R_drew)); exact (Kd.R_mono (Kd.R_far (p := ⟨gb194, 6, none⟩) (Kd.R_far (p := ⟨gb194, 5, none⟩) (Kd.R_far (p := ⟨gb194, 4, none⟩) (Kd.R_far (p := ⟨gb194, 3, none⟩) (Kd.R_far (p := ⟨gb194, 2, none⟩) (Kd.R_far (p := ⟨gb194, 1, none⟩) (Kd.R_far (p := ⟨gb194, 0, none⟩) (Kd.R_types HO_4.out BK194.out (by decide)) (fun _ hk => hk.2) (.int .i64 ((rd_T48 l0 x13_1).f0))) (fun _ hk => hk.2) (.int .i64 ((rd_T48 l0 x13_1).f1))) (fun _ hk => hk.2) (.int .i64 ((rd_T48 l0 x13_1).f2))) (fun _ hk => hk.2) (.int .i64 ((rd_T48 l0 x13_1).f3))) (fun _ hk => hk.2) (.int .i64 ((rd_T48 l0 x13_1).f4))) (fun _ hk => hk.2) (.string ((rd_T48 l0 x13_1).f5))) (fun _ hk => hk.2) (.int .i64 ((rd_T48 l0 x13_1).f6))) (fun _ h_ => h_.1))) hb); have n1_ := Aside0.mk (blk_below (g := gb194) (o := .cells #[.int .i64 ((rd_T48 l0 x13_1).f0), .int .i64 ((rd_T48 l0 x13_1).f1), .int .i64 ((rd_T48 l0 x13_1).f2), .int .i64 ((rd_T48 l0 x13_1).f3), .int .i64 ((rd_T48 l0 x13_1).f4), .string ((rd_T48 l0 x13_1).f5), .int .i64 ((rd_T48 l0 x13_1).f6)] 48 (0, 0)) (by exact pt7 (bg BK194.out)) hb); have n2_ := Aside0.mk (below_step (bs HB.out) hb); clear HO_4; clear BK194; clear HB; have HO_4 := n0_; have BK194 := n1_; have HB := n2_; clear n0_ n1_ n2_; (try clear hb); (try clear hb2); (try clear hk); (try clear hi); obtain ⟨hcz18_0, hcz18_1, hcz18_2, hcz18_3, hcz18_4, hcz18_5, hcz18_6⟩ := bc7 BK194.out; obtain ⟨hfz18_0, hfz18_1, hfz18_2, hfz18_3, hfz18_4, hfz18_5, hfz18_6⟩ := bf7 BK194.out))
           go_ret2
           exact ⟨_, by first | rfl | (simp [errW_none, errW_some] <;> rfl) | (simp [*, errW_none, errW_some] <;> rfl), by first | exact Kd.R_nil _ _ _ _ _ | exact Kd.N_nil _ _ _ _ _ | exact Kd.V_nil _ _ _ _ _ | exact Kd.Q_nil _ _ _ _ _ | exact Kd.S_nil _ _ _ _ _, bs HB.out⟩
          ·
           rw [if_neg c14] at H
           have c14b0 : decide (1099511627776 < ((rd_T48 l0 x13_1).f2)) = false := decide_eq_false c14
           clear c14
           by_cases c19 : ((rd_T48 l0 x13_1).f3) < 0
           ·
            rw [if_pos c19] at H
            have c19b0 : decide (((rd_T48 l0 x13_1).f3) < 0) = true := decide_eq_true c19
            clear c19
            simp only [Option.some.injEq, Prod.mk.injEq] at H
            obtain ⟨rfl, rfl⟩ := H
            have p193 : 0 ≤ (x13_1 : Int) := of_decide_eq_true (by first | (with_reducible assumption) | assumption)
            have q193 : x13_1 < (l0.length : Int) := of_decide_eq_true (by first | (with_reducible assumption) | assumption)
            obtain ⟨ad193, e193, hx193_0, hx193_1, hx193_2, hx193_3, hx193_4, hx193_5, hx193_6⟩ := at_T48 HR0.out x13_1 p193 q193
            cases e193
            replace hx193_0 := pw_cell_below HB.out hx193_0
            replace hx193_1 := pw_cell_below HB.out hx193_1
            replace hx193_2 := pw_cell_below HB.out hx193_2
            replace hx193_3 := pw_cell_below HB.out hx193_3
            replace hx193_4 := pw_cell_below HB.out hx193_4
            replace hx193_5 := pw_cell_below HB.out hx193_5
            replace hx193_6 := pw_cell_below HB.out hx193_6
            replace p193 := eq_true p193
            replace q193 := eq_true q193
            go_wp2_with (first | ((with_reducible refine gate_dst (N := 7) rfl ?_); refine box_event ?hg (N := 7) ?hd (cs := #[.int .i64 0, .int .i64 0, .int .i64 0, .int .i64 0, .int .i64 0, .string (⟨#[]⟩ : ByteArray), .int .i64 0]) (t := 48) ?hr ?_; (case hd => rfl); (case hg => rfl); (case hr => first | (go_simp; done) | (go_simp; rfl)); intro gb194 hg w20 hbox hb; have n0_ := Aside0.mk (Kd.R_below (rq HO_4.out) hb); have n1_ := Aside0.mk (below_step (bs HB.out) hb); have n2_ := Aside0.mk (hbox); have n3_ := Aside0.mk ((by rw [hg]; exact (below_size (bs HB.out)) : w.heap.size ≤ gb194)); have n4_ := n3_; clear HO_4; clear HB; have HO_4 := n0_; have HB := n1_; have BK194 := n2_; have GW194 := n3_; have GE194 := n4_; clear n0_ n1_ n2_ n3_ n4_; clear hb hbox hg; obtain ⟨hcz21_0, hcz21_1, hcz21_2, hcz21_3, hcz21_4, hcz21_5, hcz21_6⟩ := bc7 BK194.out; obtain ⟨hfz21_0, hfz21_1, hfz21_2, hfz21_3, hfz21_4, hfz21_5, hfz21_6⟩ := bf7 BK194.out) | ((with_reducible refine gate_callee (f := 30) rfl ?_); refine goesL_ (some 18) rfl rfl Try.func30 (by kernel_rfl) rfl #[.agg #[.int .i64 ((rd_T48 l0 x13_1).f0), .int .i64 ((rd_T48 l0 x13_1).f1), .int .i64 ((rd_T48 l0 x13_1).f2), .int .i64 ((rd_T48 l0 x13_1).f3), .int .i64 ((rd_T48 l0 x13_1).f4), .string ((rd_T48 l0 x13_1).f5), .int .i64 ((rd_T48 l0 x13_1).f6)]] rfl (by (try simp only [List.map_toArray, List.map_cons, List.map_nil]); first | done | rfl | (simp only [List.length_drop, List.length_take]; rfl)) ?_; (with_reducible refine (feed_plain.calls ((rd_T48 l0 x13_1).f0) ((rd_T48 l0 x13_1).f1) ((rd_T48 l0 x13_1).f2) ((rd_T48 l0 x13_1).f3) ((rd_T48 l0 x13_1).f4) ((rd_T48 l0 x13_1).f5) ((rd_T48 l0 x13_1).f6) true _ A6.out).mono ?_); rintro e w22 ⟨rfl, hb⟩; refine ⟨_, rfl, ?_⟩; have n0_ := Aside0.mk (Kd.R_below (by (with_reducible repeat (first | apply Kd.R_alloc | apply Kd.R_drewN | apply Kd.R_drew)); exact (Kd.R_mono (Kd.R_far (p := ⟨gb194, 6, none⟩) (Kd.R_far (p := ⟨gb194, 5, none⟩) (Kd.R_far (p := ⟨gb194, 4, none⟩) (Kd.R_far (p := ⟨gb194, 3, none⟩) (Kd.R_far (p := ⟨gb194, 2, none⟩) (Kd.R_far (p := ⟨gb194, 1, none⟩) (Kd.R_far (p := ⟨gb194, 0, none⟩) (Kd.R_types HO_4.out BK194.out (by decide)) (fun _ hk => hk.2) (.int .i64 ((rd_T48 l0 x13_1).f0))) (fun _ hk => hk.2) (.int .i64 ((rd_T48 l0 x13_1).f1))) (fun _ hk => hk.2) (.int .i64 ((rd_T48 l0 x13_1).f2))) (fun _ hk => hk.2) (.int .i64 ((rd_T48 l0 x13_1).f3))) (fun _ hk => hk.2) (.int .i64 ((rd_T48 l0 x13_1).f4))) (fun _ hk => hk.2) (.string ((rd_T48 l0 x13_1).f5))) (fun _ hk => hk.2) (.int .i64 ((rd_T48 l0 x13_1).f6))) (fun _ h_ => h_.1))) hb); have n1_ := Aside0.mk (blk_below (g := gb194) (o := .cells #[.int .i64 ((rd_T48 l0 x13_1).f0), .int .i64 ((rd_T48 l0 x13_1).f1), .int .i64 ((rd_T48 l0 x13_1).f2), .int .i64 ((rd_T48 l0 x13_1).f3), .int .i64 ((rd_T48 l0 x13_1).f4), .string ((rd_T48 l0 x13_1).f5), .int .i64 ((rd_T48 l0 x13_1).f6)] 48 (0, 0)) (by exact pt7 (bg BK194.out)) hb); have n2_ := Aside0.mk (below_step (bs HB.out) hb); clear HO_4; clear BK194; clear HB; have HO_4 := n0_; have BK194 := n1_; have HB := n2_; clear n0_ n1_ n2_; (try clear hb); (try clear hb2); (try clear hk); (try clear hi); obtain ⟨hcz23_0, hcz23_1, hcz23_2, hcz23_3, hcz23_4, hcz23_5, hcz23_6⟩ := bc7 BK194.out; obtain ⟨hfz23_0, hfz23_1, hfz23_2, hfz23_3, hfz23_4, hfz23_5, hfz23_6⟩ := bf7 BK194.out))
            go_ret2
            exact ⟨_, by first | rfl | (simp [errW_none, errW_some] <;> rfl) | (simp [*, errW_none, errW_some] <;> rfl), by first | exact Kd.R_nil _ _ _ _ _ | exact Kd.N_nil _ _ _ _ _ | exact Kd.V_nil _ _ _ _ _ | exact Kd.Q_nil _ _ _ _ _ | exact Kd.S_nil _ _ _ _ _, bs HB.out⟩
           ·
            rw [if_neg c19] at H
            have c19b0 : decide (((rd_T48 l0 x13_1).f3) < 0) = false := decide_eq_false c19
            clear c19
            by_cases c24 : ((rd_T48 l0 x13_1).f3) ≥ 65536
            ·
             rw [if_pos c24] at H
             have c24b0 : decide (65536 ≤ ((rd_T48 l0 x13_1).f3)) = true := decide_eq_true c24
             clear c24
             simp only [Option.some.injEq, Prod.mk.injEq] at H
             obtain ⟨rfl, rfl⟩ := H
             have p193 : 0 ≤ (x13_1 : Int) := of_decide_eq_true (by first | (with_reducible assumption) | assumption)
             have q193 : x13_1 < (l0.length : Int) := of_decide_eq_true (by first | (with_reducible assumption) | assumption)
             obtain ⟨ad193, e193, hx193_0, hx193_1, hx193_2, hx193_3, hx193_4, hx193_5, hx193_6⟩ := at_T48 HR0.out x13_1 p193 q193
             cases e193
             replace hx193_0 := pw_cell_below HB.out hx193_0
             replace hx193_1 := pw_cell_below HB.out hx193_1
             replace hx193_2 := pw_cell_below HB.out hx193_2
             replace hx193_3 := pw_cell_below HB.out hx193_3
             replace hx193_4 := pw_cell_below HB.out hx193_4
             replace hx193_5 := pw_cell_below HB.out hx193_5
             replace hx193_6 := pw_cell_below HB.out hx193_6
             replace p193 := eq_true p193
             replace q193 := eq_true q193
             go_wp2_with (first | ((with_reducible refine gate_dst (N := 7) rfl ?_); refine box_event ?hg (N := 7) ?hd (cs := #[.int .i64 0, .int .i64 0, .int .i64 0, .int .i64 0, .int .i64 0, .string (⟨#[]⟩ : ByteArray), .int .i64 0]) (t := 48) ?hr ?_; (case hd => rfl); (case hg => rfl); (case hr => first | (go_simp; done) | (go_simp; rfl)); intro gb194 hg w25 hbox hb; have n0_ := Aside0.mk (Kd.R_below (rq HO_4.out) hb); have n1_ := Aside0.mk (below_step (bs HB.out) hb); have n2_ := Aside0.mk (hbox); have n3_ := Aside0.mk ((by rw [hg]; exact (below_size (bs HB.out)) : w.heap.size ≤ gb194)); have n4_ := n3_; clear HO_4; clear HB; have HO_4 := n0_; have HB := n1_; have BK194 := n2_; have GW194 := n3_; have GE194 := n4_; clear n0_ n1_ n2_ n3_ n4_; clear hb hbox hg; obtain ⟨hcz26_0, hcz26_1, hcz26_2, hcz26_3, hcz26_4, hcz26_5, hcz26_6⟩ := bc7 BK194.out; obtain ⟨hfz26_0, hfz26_1, hfz26_2, hfz26_3, hfz26_4, hfz26_5, hfz26_6⟩ := bf7 BK194.out) | ((with_reducible refine gate_callee (f := 30) rfl ?_); refine goesL_ (some 18) rfl rfl Try.func30 (by kernel_rfl) rfl #[.agg #[.int .i64 ((rd_T48 l0 x13_1).f0), .int .i64 ((rd_T48 l0 x13_1).f1), .int .i64 ((rd_T48 l0 x13_1).f2), .int .i64 ((rd_T48 l0 x13_1).f3), .int .i64 ((rd_T48 l0 x13_1).f4), .string ((rd_T48 l0 x13_1).f5), .int .i64 ((rd_T48 l0 x13_1).f6)]] rfl (by (try simp only [List.map_toArray, List.map_cons, List.map_nil]); first | done | rfl | (simp only [List.length_drop, List.length_take]; rfl)) ?_; (with_reducible refine (feed_plain.calls ((rd_T48 l0 x13_1).f0) ((rd_T48 l0 x13_1).f1) ((rd_T48 l0 x13_1).f2) ((rd_T48 l0 x13_1).f3) ((rd_T48 l0 x13_1).f4) ((rd_T48 l0 x13_1).f5) ((rd_T48 l0 x13_1).f6) true _ A6.out).mono ?_); rintro e w27 ⟨rfl, hb⟩; refine ⟨_, rfl, ?_⟩; have n0_ := Aside0.mk (Kd.R_below (by (with_reducible repeat (first | apply Kd.R_alloc | apply Kd.R_drewN | apply Kd.R_drew)); exact (Kd.R_mono (Kd.R_far (p := ⟨gb194, 6, none⟩) (Kd.R_far (p := ⟨gb194, 5, none⟩) (Kd.R_far (p := ⟨gb194, 4, none⟩) (Kd.R_far (p := ⟨gb194, 3, none⟩) (Kd.R_far (p := ⟨gb194, 2, none⟩) (Kd.R_far (p := ⟨gb194, 1, none⟩) (Kd.R_far (p := ⟨gb194, 0, none⟩) (Kd.R_types HO_4.out BK194.out (by decide)) (fun _ hk => hk.2) (.int .i64 ((rd_T48 l0 x13_1).f0))) (fun _ hk => hk.2) (.int .i64 ((rd_T48 l0 x13_1).f1))) (fun _ hk => hk.2) (.int .i64 ((rd_T48 l0 x13_1).f2))) (fun _ hk => hk.2) (.int .i64 ((rd_T48 l0 x13_1).f3))) (fun _ hk => hk.2) (.int .i64 ((rd_T48 l0 x13_1).f4))) (fun _ hk => hk.2) (.string ((rd_T48 l0 x13_1).f5))) (fun _ hk => hk.2) (.int .i64 ((rd_T48 l0 x13_1).f6))) (fun _ h_ => h_.1))) hb); have n1_ := Aside0.mk (blk_below (g := gb194) (o := .cells #[.int .i64 ((rd_T48 l0 x13_1).f0), .int .i64 ((rd_T48 l0 x13_1).f1), .int .i64 ((rd_T48 l0 x13_1).f2), .int .i64 ((rd_T48 l0 x13_1).f3), .int .i64 ((rd_T48 l0 x13_1).f4), .string ((rd_T48 l0 x13_1).f5), .int .i64 ((rd_T48 l0 x13_1).f6)] 48 (0, 0)) (by exact pt7 (bg BK194.out)) hb); have n2_ := Aside0.mk (below_step (bs HB.out) hb); clear HO_4; clear BK194; clear HB; have HO_4 := n0_; have BK194 := n1_; have HB := n2_; clear n0_ n1_ n2_; (try clear hb); (try clear hb2); (try clear hk); (try clear hi); obtain ⟨hcz28_0, hcz28_1, hcz28_2, hcz28_3, hcz28_4, hcz28_5, hcz28_6⟩ := bc7 BK194.out; obtain ⟨hfz28_0, hfz28_1, hfz28_2, hfz28_3, hfz28_4, hfz28_5, hfz28_6⟩ := bf7 BK194.out))
             go_ret2
             exact ⟨_, by first | rfl | (simp [errW_none, errW_some] <;> rfl) | (simp [*, errW_none, errW_some] <;> rfl), by first | exact Kd.R_nil _ _ _ _ _ | exact Kd.N_nil _ _ _ _ _ | exact Kd.V_nil _ _ _ _ _ | exact Kd.Q_nil _ _ _ _ _ | exact Kd.S_nil _ _ _ _ _, bs HB.out⟩
            ·
             rw [if_neg c24] at H
             have c24b0 : decide (65536 ≤ ((rd_T48 l0 x13_1).f3)) = false := decide_eq_false c24
             clear c24
             by_cases c29 : x4_1.length < 8796093022208
             ·
              rw [if_pos c29] at H
              have LMc29 := Aside0.mk c29
              clear c29
              obtain ⟨y196, hy196⟩ : ∃ y_ : List (S46), y_ = (x4_1 ++ [(⟨(rd_T48 l0 x13_1).f3, wrap64 (((rd_T48 l0 x13_1).f2) - ((rd_T48 l0 x13_1).f1))⟩ : S46)]) := ⟨_, rfl⟩
              replace H : (feed_Runs.l0 k1 y196 ((rd_T48 l0 x13_1).f2) l0 (l0.length : Int) (wrap64 (x13_1 + 1))) = some (r1, r2) := by first | (rw [hy196]; with_reducible exact H) | (have H2_ := (Option.bind_some _ _).symm.trans H; rw [hy196]; with_reducible exact H2_) | (have H2_ := (Option.bind_some _ _).symm.trans H; with_reducible exact H2_) | with_reducible exact H | (rw [hy196]; exact H) | exact H
              have Ny196 := Aside0.mk hy196
              clear hy196
              have H' := Aside0.mk H
              clear H
              have p193 : 0 ≤ (x13_1 : Int) := of_decide_eq_true (by first | (with_reducible assumption) | assumption)
              have q193 : x13_1 < (l0.length : Int) := of_decide_eq_true (by first | (with_reducible assumption) | assumption)
              obtain ⟨ad193, e193, hx193_0, hx193_1, hx193_2, hx193_3, hx193_4, hx193_5, hx193_6⟩ := at_T48 HR0.out x13_1 p193 q193
              cases e193
              replace hx193_0 := pw_cell_below HB.out hx193_0
              replace hx193_1 := pw_cell_below HB.out hx193_1
              replace hx193_2 := pw_cell_below HB.out hx193_2
              replace hx193_3 := pw_cell_below HB.out hx193_3
              replace hx193_4 := pw_cell_below HB.out hx193_4
              replace hx193_5 := pw_cell_below HB.out hx193_5
              replace hx193_6 := pw_cell_below HB.out hx193_6
              replace p193 := eq_true p193
              replace q193 := eq_true q193
              go_wp2_with (first | ((with_reducible refine gate_dst (N := 7) rfl ?_); refine box_event ?hg (N := 7) ?hd (cs := #[.int .i64 0, .int .i64 0, .int .i64 0, .int .i64 0, .int .i64 0, .string (⟨#[]⟩ : ByteArray), .int .i64 0]) (t := 48) ?hr ?_; (case hd => rfl); (case hg => rfl); (case hr => first | (go_simp; done) | (go_simp; rfl)); intro gb194 hg w30 hbox hb; have n0_ := Aside0.mk (Kd.R_below (rq HO_4.out) hb); have n1_ := Aside0.mk (below_step (bs HB.out) hb); have n2_ := Aside0.mk (hbox); have n3_ := Aside0.mk ((by rw [hg]; exact (below_size (bs HB.out)) : w.heap.size ≤ gb194)); have n4_ := n3_; clear HO_4; clear HB; have HO_4 := n0_; have HB := n1_; have BK194 := n2_; have GW194 := n3_; have GE194 := n4_; clear n0_ n1_ n2_ n3_ n4_; clear hb hbox hg; obtain ⟨hcz31_0, hcz31_1, hcz31_2, hcz31_3, hcz31_4, hcz31_5, hcz31_6⟩ := bc7 BK194.out; obtain ⟨hfz31_0, hfz31_1, hfz31_2, hfz31_3, hfz31_4, hfz31_5, hfz31_6⟩ := bf7 BK194.out) | ((with_reducible refine gate_callee (f := 30) rfl ?_); refine goesL_ (some 18) rfl rfl Try.func30 (by kernel_rfl) rfl #[.agg #[.int .i64 ((rd_T48 l0 x13_1).f0), .int .i64 ((rd_T48 l0 x13_1).f1), .int .i64 ((rd_T48 l0 x13_1).f2), .int .i64 ((rd_T48 l0 x13_1).f3), .int .i64 ((rd_T48 l0 x13_1).f4), .string ((rd_T48 l0 x13_1).f5), .int .i64 ((rd_T48 l0 x13_1).f6)]] rfl (by (try simp only [List.map_toArray, List.map_cons, List.map_nil]); first | done | rfl | (simp only [List.length_drop, List.length_take]; rfl)) ?_; (with_reducible refine (feed_plain.calls ((rd_T48 l0 x13_1).f0) ((rd_T48 l0 x13_1).f1) ((rd_T48 l0 x13_1).f2) ((rd_T48 l0 x13_1).f3) ((rd_T48 l0 x13_1).f4) ((rd_T48 l0 x13_1).f5) ((rd_T48 l0 x13_1).f6) true _ A6.out).mono ?_); rintro e w32 ⟨rfl, hb⟩; refine ⟨_, rfl, ?_⟩; have n0_ := Aside0.mk (Kd.R_below (by (with_reducible repeat (first | apply Kd.R_alloc | apply Kd.R_drewN | apply Kd.R_drew)); exact (Kd.R_mono (Kd.R_far (p := ⟨gb194, 6, none⟩) (Kd.R_far (p := ⟨gb194, 5, none⟩) (Kd.R_far (p := ⟨gb194, 4, none⟩) (Kd.R_far (p := ⟨gb194, 3, none⟩) (Kd.R_far (p := ⟨gb194, 2, none⟩) (Kd.R_far (p := ⟨gb194, 1, none⟩) (Kd.R_far (p := ⟨gb194, 0, none⟩) (Kd.R_types HO_4.out BK194.out (by decide)) (fun _ hk => hk.2) (.int .i64 ((rd_T48 l0 x13_1).f0))) (fun _ hk => hk.2) (.int .i64 ((rd_T48 l0 x13_1).f1))) (fun _ hk => hk.2) (.int .i64 ((rd_T48 l0 x13_1).f2))) (fun _ hk => hk.2) (.int .i64 ((rd_T48 l0 x13_1).f3))) (fun _ hk => hk.2) (.int .i64 ((rd_T48 l0 x13_1).f4))) (fun _ hk => hk.2) (.string ((rd_T48 l0 x13_1).f5))) (fun _ hk => hk.2) (.int .i64 ((rd_T48 l0 x13_1).f6))) (fun _ h_ => h_.1))) hb); have n1_ := Aside0.mk (blk_below (g := gb194) (o := .cells #[.int .i64 ((rd_T48 l0 x13_1).f0), .int .i64 ((rd_T48 l0 x13_1).f1), .int .i64 ((rd_T48 l0 x13_1).f2), .int .i64 ((rd_T48 l0 x13_1).f3), .int .i64 ((rd_T48 l0 x13_1).f4), .string ((rd_T48 l0 x13_1).f5), .int .i64 ((rd_T48 l0 x13_1).f6)] 48 (0, 0)) (by exact pt7 (bg BK194.out)) hb); have n2_ := Aside0.mk (below_step (bs HB.out) hb); clear HO_4; clear BK194; clear HB; have HO_4 := n0_; have BK194 := n1_; have HB := n2_; clear n0_ n1_ n2_; (try clear hb); (try clear hb2); (try clear hk); (try clear hi); obtain ⟨hcz33_0, hcz33_1, hcz33_2, hcz33_3, hcz33_4, hcz33_5, hcz33_6⟩ := bc7 BK194.out; obtain ⟨hfz33_0, hfz33_1, hfz33_2, hfz33_3, hfz33_4, hfz33_5, hfz33_6⟩ := bf7 BK194.out) | ((with_reducible refine gate_builtin (b := .append) (xs := #[.tmp 48, .tmp 57]) rfl ?_); at_builtin; refine Kd.R_append k46 (w0 := w) w.heap.size rfl (.tmp 48) (.tmp 57) 23 46 (.agg #[(.int .i64 0), (.int .i64 0)]) 16 rfl Try.underlying23 info46 rfl (by decide) (by omega) u4 x4_1 (⟨(rd_T48 l0 x13_1).f3, wrap64 (((rd_T48 l0 x13_1).f2) - ((rd_T48 l0 x13_1).f1))⟩ : S46) [.int .i64 ((rd_T48 l0 x13_1).f3), .int .i64 (wrap64 (((rd_T48 l0 x13_1).f2) - ((rd_T48 l0 x13_1).f1)))] (fun _ => True) (fun _ => False) rfl rfl ?aP (fun _ hk => hk.elim) ?aF ?aO ?aB ?aS ?aL ?_; (case aP => exact k46_mkM _ _ _ (⟨(rd_T48 l0 x13_1).f3, wrap64 (((rd_T48 l0 x13_1).f2) - ((rd_T48 l0 x13_1).f1))⟩ : S46)); (case aB => exact (bs HB.out)); (case aF => exact (fun _ _ => trivial)); (case aO => exact (rq HO_4.out)); (case aS => exact (below_size (bs HB.out))); (case aL => have := LMc29.out; omega); intro v197 w34 ho hb hg hat; rw [← Ny196.out] at ho; have n0_ := Aside0.mk (blk_grown (g := gb194) (o := .cells #[.int .i64 ((rd_T48 l0 x13_1).f0), .int .i64 ((rd_T48 l0 x13_1).f1), .int .i64 ((rd_T48 l0 x13_1).f2), .int .i64 ((rd_T48 l0 x13_1).f3), .int .i64 ((rd_T48 l0 x13_1).f4), .string ((rd_T48 l0 x13_1).f5), .int .i64 ((rd_T48 l0 x13_1).f6)] 48 (0, 0)) (bg BK194.out) hg (Kd.R_ne HO_4.out BK194.out (by decide))); have n1_ := Aside0.mk (hb); have n2_ := Aside0.mk (ho); clear BK194; clear HB; clear HO_4; have BK194 := n0_; have HB := n1_; have HO198 := n2_; clear n0_ n1_ n2_; clear ho hb hg hat; obtain ⟨hcz35_0, hcz35_1, hcz35_2, hcz35_3, hcz35_4, hcz35_5, hcz35_6⟩ := bc7 BK194.out; obtain ⟨hfz35_0, hfz35_1, hfz35_2, hfz35_3, hfz35_4, hfz35_5, hfz35_6⟩ := bf7 BK194.out))
              go_roundg k1
              case measure => have := HK1.out; omega
              case rel => exact ⟨(y196), ((rd_T48 l0 x13_1).f2), (wrap64 (x13_1 + 1)), (by first | rfl | (simp; done) | (simp [*]; done)), (by first | rfl | (simp; done) | (simp [*]; done)), H', ⟨by have := HK1.out; omega⟩, ⟨by (with_reducible repeat (first | apply Kd.R_alloc | apply Kd.R_drewN | apply Kd.R_drew)); exact HO198.out⟩, ⟨bs HB.out⟩⟩
             ·
              rw [if_neg c29] at H
              exact absurd H (by simp)
        ·
         rw [if_neg c8] at H
         have c8b0 : (((rd_T48 l0 x13_1).f1) == x5_1) = false := beq_eq_false_iff_ne.mpr c8
         have c8b1 : (((rd_T48 l0 x13_1).f1) != x5_1) = true := bne_iff_ne.mpr c8
         simp only [Option.some.injEq, Prod.mk.injEq] at H
         obtain ⟨rfl, rfl⟩ := H
         have p193 : 0 ≤ (x13_1 : Int) := of_decide_eq_true (by first | (with_reducible assumption) | assumption)
         have q193 : x13_1 < (l0.length : Int) := of_decide_eq_true (by first | (with_reducible assumption) | assumption)
         obtain ⟨ad193, e193, hx193_0, hx193_1, hx193_2, hx193_3, hx193_4, hx193_5, hx193_6⟩ := at_T48 HR0.out x13_1 p193 q193
         cases e193
         replace hx193_0 := pw_cell_below HB.out hx193_0
         replace hx193_1 := pw_cell_below HB.out hx193_1
         replace hx193_2 := pw_cell_below HB.out hx193_2
         replace hx193_3 := pw_cell_below HB.out hx193_3
         replace hx193_4 := pw_cell_below HB.out hx193_4
         replace hx193_5 := pw_cell_below HB.out hx193_5
         replace hx193_6 := pw_cell_below HB.out hx193_6
         replace p193 := eq_true p193
         replace q193 := eq_true q193
         go_wp2_with (first | ((with_reducible refine gate_dst (N := 7) rfl ?_); refine box_event ?hg (N := 7) ?hd (cs := #[.int .i64 0, .int .i64 0, .int .i64 0, .int .i64 0, .int .i64 0, .string (⟨#[]⟩ : ByteArray), .int .i64 0]) (t := 48) ?hr ?_; (case hd => rfl); (case hg => rfl); (case hr => first | (go_simp; done) | (go_simp; rfl)); intro gb194 hg w36 hbox hb; have n0_ := Aside0.mk (Kd.R_below (rq HO_4.out) hb); have n1_ := Aside0.mk (below_step (bs HB.out) hb); have n2_ := Aside0.mk (hbox); have n3_ := Aside0.mk ((by rw [hg]; exact (below_size (bs HB.out)) : w.heap.size ≤ gb194)); have n4_ := n3_; clear HO_4; clear HB; have HO_4 := n0_; have HB := n1_; have BK194 := n2_; have GW194 := n3_; have GE194 := n4_; clear n0_ n1_ n2_ n3_ n4_; clear hb hbox hg; obtain ⟨hcz37_0, hcz37_1, hcz37_2, hcz37_3, hcz37_4, hcz37_5, hcz37_6⟩ := bc7 BK194.out; obtain ⟨hfz37_0, hfz37_1, hfz37_2, hfz37_3, hfz37_4, hfz37_5, hfz37_6⟩ := bf7 BK194.out) | ((with_reducible refine gate_callee (f := 30) rfl ?_); refine goesL_ (some 18) rfl rfl Try.func30 (by kernel_rfl) rfl #[.agg #[.int .i64 ((rd_T48 l0 x13_1).f0), .int .i64 ((rd_T48 l0 x13_1).f1), .int .i64 ((rd_T48 l0 x13_1).f2), .int .i64 ((rd_T48 l0 x13_1).f3), .int .i64 ((rd_T48 l0 x13_1).f4), .string ((rd_T48 l0 x13_1).f5), .int .i64 ((rd_T48 l0 x13_1).f6)]] rfl (by (try simp only [List.map_toArray, List.map_cons, List.map_nil]); first | done | rfl | (simp only [List.length_drop, List.length_take]; rfl)) ?_; (with_reducible refine (feed_plain.calls ((rd_T48 l0 x13_1).f0) ((rd_T48 l0 x13_1).f1) ((rd_T48 l0 x13_1).f2) ((rd_T48 l0 x13_1).f3) ((rd_T48 l0 x13_1).f4) ((rd_T48 l0 x13_1).f5) ((rd_T48 l0 x13_1).f6) true _ A6.out).mono ?_); rintro e w38 ⟨rfl, hb⟩; refine ⟨_, rfl, ?_⟩; have n0_ := Aside0.mk (Kd.R_below (by (with_reducible repeat (first | apply Kd.R_alloc | apply Kd.R_drewN | apply Kd.R_drew)); exact (Kd.R_mono (Kd.R_far (p := ⟨gb194, 6, none⟩) (Kd.R_far (p := ⟨gb194, 5, none⟩) (Kd.R_far (p := ⟨gb194, 4, none⟩) (Kd.R_far (p := ⟨gb194, 3, none⟩) (Kd.R_far (p := ⟨gb194, 2, none⟩) (Kd.R_far (p := ⟨gb194, 1, none⟩) (Kd.R_far (p := ⟨gb194, 0, none⟩) (Kd.R_types HO_4.out BK194.out (by decide)) (fun _ hk => hk.2) (.int .i64 ((rd_T48 l0 x13_1).f0))) (fun _ hk => hk.2) (.int .i64 ((rd_T48 l0 x13_1).f1))) (fun _ hk => hk.2) (.int .i64 ((rd_T48 l0 x13_1).f2))) (fun _ hk => hk.2) (.int .i64 ((rd_T48 l0 x13_1).f3))) (fun _ hk => hk.2) (.int .i64 ((rd_T48 l0 x13_1).f4))) (fun _ hk => hk.2) (.string ((rd_T48 l0 x13_1).f5))) (fun _ hk => hk.2) (.int .i64 ((rd_T48 l0 x13_1).f6))) (fun _ h_ => h_.1))) hb); have n1_ := Aside0.mk (blk_below (g := gb194) (o := .cells #[.int .i64 ((rd_T48 l0 x13_1).f0), .int .i64 ((rd_T48 l0 x13_1).f1), .int .i64 ((rd_T48 l0 x13_1).f2), .int .i64 ((rd_T48 l0 x13_1).f3), .int .i64 ((rd_T48 l0 x13_1).f4), .string ((rd_T48 l0 x13_1).f5), .int .i64 ((rd_T48 l0 x13_1).f6)] 48 (0, 0)) (by exact pt7 (bg BK194.out)) hb); have n2_ := Aside0.mk (below_step (bs HB.out) hb); clear HO_4; clear BK194; clear HB; have HO_4 := n0_; have BK194 := n1_; have HB := n2_; clear n0_ n1_ n2_; (try clear hb); (try clear hb2); (try clear hk); (try clear hi); obtain ⟨hcz39_0, hcz39_1, hcz39_2, hcz39_3, hcz39_4, hcz39_5, hcz39_6⟩ := bc7 BK194.out; obtain ⟨hfz39_0, hfz39_1, hfz39_2, hfz39_3, hfz39_4, hfz39_5, hfz39_6⟩ := bf7 BK194.out))
         go_ret2
         exact ⟨_, by first | rfl | (simp [errW_none, errW_some] <;> rfl) | (simp [*, errW_none, errW_some] <;> rfl), by first | exact Kd.R_nil _ _ _ _ _ | exact Kd.N_nil _ _ _ _ _ | exact Kd.V_nil _ _ _ _ _ | exact Kd.Q_nil _ _ _ _ _ | exact Kd.S_nil _ _ _ _ _, bs HB.out⟩
       ·
        replace c7 := Bool.eq_false_iff.mpr c7
        subst c7
        have H1 : (some (([] : List (S46)), 1)) = some (r1, r2) := by rw [if_neg (show ¬ (false = true) by decide)] at H; exact H
        clear H
        have H := H1
        clear H1
        simp only [Option.some.injEq, Prod.mk.injEq] at H
        obtain ⟨rfl, rfl⟩ := H
        have p193 : 0 ≤ (x13_1 : Int) := of_decide_eq_true (by first | (with_reducible assumption) | assumption)
        have q193 : x13_1 < (l0.length : Int) := of_decide_eq_true (by first | (with_reducible assumption) | assumption)
        obtain ⟨ad193, e193, hx193_0, hx193_1, hx193_2, hx193_3, hx193_4, hx193_5, hx193_6⟩ := at_T48 HR0.out x13_1 p193 q193
        cases e193
        replace hx193_0 := pw_cell_below HB.out hx193_0
        replace hx193_1 := pw_cell_below HB.out hx193_1
        replace hx193_2 := pw_cell_below HB.out hx193_2
        replace hx193_3 := pw_cell_below HB.out hx193_3
        replace hx193_4 := pw_cell_below HB.out hx193_4
        replace hx193_5 := pw_cell_below HB.out hx193_5
        replace hx193_6 := pw_cell_below HB.out hx193_6
        replace p193 := eq_true p193
        replace q193 := eq_true q193
        go_wp2_with (first | ((with_reducible refine gate_dst (N := 7) rfl ?_); refine box_event ?hg (N := 7) ?hd (cs := #[.int .i64 0, .int .i64 0, .int .i64 0, .int .i64 0, .int .i64 0, .string (⟨#[]⟩ : ByteArray), .int .i64 0]) (t := 48) ?hr ?_; (case hd => rfl); (case hg => rfl); (case hr => first | (go_simp; done) | (go_simp; rfl)); intro gb194 hg w40 hbox hb; have n0_ := Aside0.mk (Kd.R_below (rq HO_4.out) hb); have n1_ := Aside0.mk (below_step (bs HB.out) hb); have n2_ := Aside0.mk (hbox); have n3_ := Aside0.mk ((by rw [hg]; exact (below_size (bs HB.out)) : w.heap.size ≤ gb194)); have n4_ := n3_; clear HO_4; clear HB; have HO_4 := n0_; have HB := n1_; have BK194 := n2_; have GW194 := n3_; have GE194 := n4_; clear n0_ n1_ n2_ n3_ n4_; clear hb hbox hg; obtain ⟨hcz41_0, hcz41_1, hcz41_2, hcz41_3, hcz41_4, hcz41_5, hcz41_6⟩ := bc7 BK194.out; obtain ⟨hfz41_0, hfz41_1, hfz41_2, hfz41_3, hfz41_4, hfz41_5, hfz41_6⟩ := bf7 BK194.out) | ((with_reducible refine gate_callee (f := 30) rfl ?_); refine goesL_ (some 18) rfl rfl Try.func30 (by kernel_rfl) rfl #[.agg #[.int .i64 ((rd_T48 l0 x13_1).f0), .int .i64 ((rd_T48 l0 x13_1).f1), .int .i64 ((rd_T48 l0 x13_1).f2), .int .i64 ((rd_T48 l0 x13_1).f3), .int .i64 ((rd_T48 l0 x13_1).f4), .string ((rd_T48 l0 x13_1).f5), .int .i64 ((rd_T48 l0 x13_1).f6)]] rfl (by (try simp only [List.map_toArray, List.map_cons, List.map_nil]); first | done | rfl | (simp only [List.length_drop, List.length_take]; rfl)) ?_; (with_reducible refine (feed_plain.calls ((rd_T48 l0 x13_1).f0) ((rd_T48 l0 x13_1).f1) ((rd_T48 l0 x13_1).f2) ((rd_T48 l0 x13_1).f3) ((rd_T48 l0 x13_1).f4) ((rd_T48 l0 x13_1).f5) ((rd_T48 l0 x13_1).f6) false _ A6.out).mono ?_); rintro e w42 ⟨rfl, hb⟩; refine ⟨_, rfl, ?_⟩; have n0_ := Aside0.mk (Kd.R_below (by (with_reducible repeat (first | apply Kd.R_alloc | apply Kd.R_drewN | apply Kd.R_drew)); exact (Kd.R_mono (Kd.R_far (p := ⟨gb194, 6, none⟩) (Kd.R_far (p := ⟨gb194, 5, none⟩) (Kd.R_far (p := ⟨gb194, 4, none⟩) (Kd.R_far (p := ⟨gb194, 3, none⟩) (Kd.R_far (p := ⟨gb194, 2, none⟩) (Kd.R_far (p := ⟨gb194, 1, none⟩) (Kd.R_far (p := ⟨gb194, 0, none⟩) (Kd.R_types HO_4.out BK194.out (by decide)) (fun _ hk => hk.2) (.int .i64 ((rd_T48 l0 x13_1).f0))) (fun _ hk => hk.2) (.int .i64 ((rd_T48 l0 x13_1).f1))) (fun _ hk => hk.2) (.int .i64 ((rd_T48 l0 x13_1).f2))) (fun _ hk => hk.2) (.int .i64 ((rd_T48 l0 x13_1).f3))) (fun _ hk => hk.2) (.int .i64 ((rd_T48 l0 x13_1).f4))) (fun _ hk => hk.2) (.string ((rd_T48 l0 x13_1).f5))) (fun _ hk => hk.2) (.int .i64 ((rd_T48 l0 x13_1).f6))) (fun _ h_ => h_.1))) hb); have n1_ := Aside0.mk (blk_below (g := gb194) (o := .cells #[.int .i64 ((rd_T48 l0 x13_1).f0), .int .i64 ((rd_T48 l0 x13_1).f1), .int .i64 ((rd_T48 l0 x13_1).f2), .int .i64 ((rd_T48 l0 x13_1).f3), .int .i64 ((rd_T48 l0 x13_1).f4), .string ((rd_T48 l0 x13_1).f5), .int .i64 ((rd_T48 l0 x13_1).f6)] 48 (0, 0)) (by exact pt7 (bg BK194.out)) hb); have n2_ := Aside0.mk (below_step (bs HB.out) hb); clear HO_4; clear BK194; clear HB; have HO_4 := n0_; have BK194 := n1_; have HB := n2_; clear n0_ n1_ n2_; (try clear hb); (try clear hb2); (try clear hk); (try clear hi)))
        go_ret2
        exact ⟨_, by first | rfl | (simp [errW_none, errW_some] <;> rfl) | (simp [*, errW_none, errW_some] <;> rfl), by first | exact Kd.R_nil _ _ _ _ _ | exact Kd.N_nil _ _ _ _ _ | exact Kd.V_nil _ _ _ _ _ | exact Kd.Q_nil _ _ _ _ _ | exact Kd.S_nil _ _ _ _ _, bs HB.out⟩
      ·
       rw [if_neg c5] at H
       exact absurd H (by simp)
     ·
      rw [if_neg c4] at H
      exact absurd H (by simp)
    ·
     rw [if_neg c3] at H
     have c3b0 : decide (x13_1 < (l0.length : Int)) = false := decide_eq_false c3
     clear c3
     simp only [Option.some.injEq, Prod.mk.injEq] at H
     obtain ⟨rfl, rfl⟩ := H
     go_wp2
     go_ret2
     exact ⟨_, by first | rfl | (simp [errW_none, errW_some] <;> rfl) | (simp [*, errW_none, errW_some] <;> rfl), by (with_reducible repeat (first | apply Kd.R_alloc | apply Kd.R_drewN | apply Kd.R_drew)); exact HO_4.out, bs HB.out⟩

end Go.Proofs.Ytioedeglgljblaa.H
