-- Printed by wip/hprint.py (this project's own driver of the kit's print) out of the translation; Lean checks it.
import Derived.Test.YtioedeglgljblaaH0
import Derived.Test.YtioedeglgljblaaHNext
namespace Go.Proofs.Ytioedeglgljblaa.H
open Go.RowKit Go.Proofs.YtioedeglgljblaaW.PrintWords Go.Proofs.YtioedeglgljblaaW.PrintLast Go.Proofs.YtioedeglgljblaaW.PrintMore
attribute [local go_sem] max2_int min2_int max_two min_two max_three min_three max_four min_four   -- for this text's walks alone
set_option linter.unusedVariables false
set_option linter.unusedSimpArgs false

theorem keep_world {P : Program} {ops : Array Oper} {Q : Exit → Act → World → Prop} {o : Oper} {rest : List Oper} {a : Act} {W : World} (I : World → Prop) (hI : I W) (h : ∀ W_, I W_ → wpList P ops Q (o :: rest) a W_) : wpList P ops Q (o :: rest) a W := h W hI
/-! ### signalbenchref14_Split: function 16 -/
mutual
def signalbenchref14_Split.l0 : Nat → List (S48) → List Int → List (S48) → Int → Option ((List (S48)))
 | 0, _, _, _, _ => none
 | k + 1, x0, x1, x5, x6 => if x6 < (x0.length : Int) then (if 0 ≤ x6 then ((signalbenchref14_Plain.f ((rd_T48 x0 x6).f0) ((rd_T48 x0 x6).f1) ((rd_T48 x0 x6).f2) ((rd_T48 x0 x6).f3) ((rd_T48 x0 x6).f4) ((rd_T48 x0 x6).f5) ((rd_T48 x0 x6).f6)).bind fun t351 => (if t351 = true then ((signalbenchref14_next.f k x1 ((rd_T48 x0 x6).f1) ((rd_T48 x0 x6).f2)).bind fun t352 => (signalbenchref14_Split.l1 k x0 x1 x5 x6 t352 ((rd_T48 x0 x6).f0) ((rd_T48 x0 x6).f1) ((rd_T48 x0 x6).f2) ((rd_T48 x0 x6).f3) ((rd_T48 x0 x6).f4) ((rd_T48 x0 x6).f5) ((rd_T48 x0 x6).f6))) else (if x5.length < 2199023255552 then (signalbenchref14_Split.l0 k x0 x1 (x5 ++ [(⟨(rd_T48 x0 x6).f0, (rd_T48 x0 x6).f1, (rd_T48 x0 x6).f2, (rd_T48 x0 x6).f3, (rd_T48 x0 x6).f4, (rd_T48 x0 x6).f5, (rd_T48 x0 x6).f6⟩ : S48)]) (wrap64 (x6 + 1))) else (none)))) else (none)) else (some x5)
def signalbenchref14_Split.l1 : Nat → List (S48) → List Int → List (S48) → Int → Int → Int → Int → Int → Int → Int → ByteArray → Int → Option ((List (S48)))
 | 0, _, _, _, _, _, _, _, _, _, _, _, _ => none
 | k + 1, x0, x1, x5, x6, x8, x351000, x351001, x351002, x351003, x351004, x351005, x351006 => if x8 < x351002 then (if x5.length < 2199023255552 then ((signalbenchref14_next.f k x1 x8 x351002).bind fun t357 => (signalbenchref14_Split.l1 k x0 x1 (x5 ++ [(⟨x351000, x351001, x8, x351003, x351004, x351005, x351006⟩ : S48)]) x6 t357 x351000 x8 x351002 x351003 x351004 x351005 x351006)) else (none)) else (if x5.length < 2199023255552 then (signalbenchref14_Split.l0 k x0 x1 (x5 ++ [(⟨x351000, x351001, x351002, x351003, x351004, x351005, x351006⟩ : S48)]) (wrap64 (x6 + 1))) else (none))
end
def signalbenchref14_Split.f (k : Nat) (l0 : List (S48)) (l1 : List Int) : Option ((List (S48))) := signalbenchref14_Split.l0 k l0 l1 (([] : List (S48))) 0
set_option maxHeartbeats 8000000 in
set_option maxRecDepth 100000 in
theorem signalbenchref14_Split.calls (k : Nat) (A0 : Option Addr) (c0 : Nat) (l0 : List (S48)) (A1 : Option Addr) (c1 : Nat) (l1 : List Int) (r : List (S48)) (w : World) (hr0 : Kd.C k48 w A0 l0.length l0) (hc0 : l0.length ≤ c0) (hr1 : Kd.C (Kd.int .i64) w A1 l1.length l1) (hc1 : l1.length ≤ c1) (h : signalbenchref14_Split.f k l0 l1 = some r) :
  Calls Try.prog 16 #[.slice A0 l0.length c0, .slice A1 l1.length c1] w fun e w' => ∃ v0_ : Value, e = .returned (v0_) ∧ Kd.R k48 48 w' w.heap.size (fun _ => True) v0_ r ∧ Below w.heap.size w w' := by
 have hu48 := Try.underlying48
 have HR0 := Aside0.mk hr0
 have HC0 := Aside0.mk hc0
 clear hr0 hc0
 have HR1 := Aside0.mk hr1
 have HC1 := Aside0.mk hc1
 clear hr1 hc1
 have HB := Aside0.mk (Below.refl w.heap.size w)
 have H : (signalbenchref14_Split.l0 k l0 l1 (([] : List (S48))) 0) = some r := h
 clear h
 obtain ⟨y346, hy346⟩ : ∃ y_ : List (S48), y_ = (([] : List (S48))) := ⟨_, rfl⟩
 replace H : (signalbenchref14_Split.l0 k l0 l1 y346 0) = some r := by first | (rw [hy346]; with_reducible exact H) | (have H2_ := (Option.bind_some _ _).symm.trans H; rw [hy346]; with_reducible exact H2_) | (have H2_ := (Option.bind_some _ _).symm.trans H; with_reducible exact H2_) | with_reducible exact H | (rw [hy346]; exact H) | exact H
 have Ny346 := Aside0.mk hy346
 clear hy346
 have H' := Aside0.mk H
 clear H
 go_enter Try.func16, Try.ntmps16
 go_wp2_with (first | ((with_reducible refine gate_dst (N := 10) rfl ?_); refine Kd.R_lit k48 _ 48 ?hg (N := 10) ?hd (xs := ([] : List (S48))) (inner := []) (ok := fun _ => True) (okp := fun _ => True) ?hr ?hp (fun _ hk => hk) trivial (Below.refl _ _) (Nat.le_refl _) (by simp) ?_; (case hd => rfl); (case hg => rfl); (case hr => first | (go_simp; done) | (go_simp; rfl)); (case hp => exact (Reps.none _ _)); intro v347 w3 ho4 hb hg_ hnew_; clear hg_ hnew_; (first | rw [← Ny346.out] at ho4 | (simp only [Int.reduceToNat] at ho4; rw [← Ny346.out] at ho4)); have n0_ := Aside0.mk (Kd.R_lower ho4 (below_size (bs HB.out))); have n1_ := Aside0.mk (below_step (bs HB.out) hb); clear HB; have HO348 := n0_; have HB := n1_; clear n0_ n1_; clear hb ho4))
 go_loopg [5, 6] k (fun kq v5 v6 w' => ∃ (x5_1 : List (S48)) (x6_1 : Int), v6 = .int .i64 x6_1 ∧ Aside0 (signalbenchref14_Split.l0 kq l0 l1 x5_1 x6_1 = some r) ∧ Aside0 (kq ≤ k) ∧ Aside0 (Kd.R k48 48 w' w.heap.size (fun _ => True) v5 x5_1) ∧ Aside0 (Below w.heap.size w w'))
 case atStart => exact ⟨(y346), (0), (by first | rfl | (simp; done) | (simp [*]; done)), H', ⟨Nat.le_refl _⟩, ⟨by (with_reducible repeat (first | apply Kd.R_alloc | apply Kd.R_drewN | apply Kd.R_drew)); exact HO348.out⟩, ⟨bs HB.out⟩⟩
 case round =>
  clear H'
  try clear c1
  try clear p2
  obtain ⟨x5_1, x6_1, rfl, HA, HK1, HO_5, HB⟩ := hrel
  cases gk with
  | zero => exact absurd HA.out (by simp [signalbenchref14_Split.l0])
  | succ k1 =>
   have H := HA.out
   clear HA
   simp only [signalbenchref14_Split.l0] at H
   by_cases c5 : x6_1 < (l0.length : Int)
   ·
    rw [if_pos c5] at H
    have c5b0 : decide (x6_1 < (l0.length : Int)) = true := decide_eq_true c5
    clear c5
    by_cases c6 : 0 ≤ x6_1
    ·
     rw [if_pos c6] at H
     have c6b0 : decide (0 ≤ x6_1) = true := decide_eq_true c6
     clear c6
     replace H := Option.bind_eq_some_iff.mp H
     obtain ⟨t351, A70, H⟩ := H
     replace H : (if t351 = true then ((signalbenchref14_next.f k1 l1 ((rd_T48 l0 x6_1).f1) ((rd_T48 l0 x6_1).f2)).bind fun t352 => (signalbenchref14_Split.l1 k1 l0 l1 x5_1 x6_1 t352 ((rd_T48 l0 x6_1).f0) ((rd_T48 l0 x6_1).f1) ((rd_T48 l0 x6_1).f2) ((rd_T48 l0 x6_1).f3) ((rd_T48 l0 x6_1).f4) ((rd_T48 l0 x6_1).f5) ((rd_T48 l0 x6_1).f6))) else (if x5_1.length < 2199023255552 then (signalbenchref14_Split.l0 k1 l0 l1 (x5_1 ++ [(⟨(rd_T48 l0 x6_1).f0, (rd_T48 l0 x6_1).f1, (rd_T48 l0 x6_1).f2, (rd_T48 l0 x6_1).f3, (rd_T48 l0 x6_1).f4, (rd_T48 l0 x6_1).f5, (rd_T48 l0 x6_1).f6⟩ : S48)]) (wrap64 (x6_1 + 1))) else (none))) = some r := H
     have A7 := Aside0.mk A70
     clear A70
     by_cases c8 : t351 = true
     ·
      subst c8
      have H1 : ((signalbenchref14_next.f k1 l1 ((rd_T48 l0 x6_1).f1) ((rd_T48 l0 x6_1).f2)).bind fun t352 => (signalbenchref14_Split.l1 k1 l0 l1 x5_1 x6_1 t352 ((rd_T48 l0 x6_1).f0) ((rd_T48 l0 x6_1).f1) ((rd_T48 l0 x6_1).f2) ((rd_T48 l0 x6_1).f3) ((rd_T48 l0 x6_1).f4) ((rd_T48 l0 x6_1).f5) ((rd_T48 l0 x6_1).f6))) = some r := by rw [if_pos rfl] at H; exact H
      clear H
      have H := H1
      clear H1
      replace H := Option.bind_eq_some_iff.mp H
      obtain ⟨t352, A90, H⟩ := H
      replace H : (signalbenchref14_Split.l1 k1 l0 l1 x5_1 x6_1 t352 ((rd_T48 l0 x6_1).f0) ((rd_T48 l0 x6_1).f1) ((rd_T48 l0 x6_1).f2) ((rd_T48 l0 x6_1).f3) ((rd_T48 l0 x6_1).f4) ((rd_T48 l0 x6_1).f5) ((rd_T48 l0 x6_1).f6)) = some r := H
      have A9 := Aside0.mk A90
      clear A90
      have H' := Aside0.mk H
      clear H
      have p349 : 0 ≤ (x6_1 : Int) := of_decide_eq_true (by first | (with_reducible assumption) | assumption)
      have q349 : x6_1 < (l0.length : Int) := of_decide_eq_true (by first | (with_reducible assumption) | assumption)
      obtain ⟨ad349, e349, hx349_0, hx349_1, hx349_2, hx349_3, hx349_4, hx349_5, hx349_6⟩ := at_T48 HR0.out x6_1 p349 q349
      cases e349
      replace hx349_0 := pw_cell_below HB.out hx349_0
      replace hx349_1 := pw_cell_below HB.out hx349_1
      replace hx349_2 := pw_cell_below HB.out hx349_2
      replace hx349_3 := pw_cell_below HB.out hx349_3
      replace hx349_4 := pw_cell_below HB.out hx349_4
      replace hx349_5 := pw_cell_below HB.out hx349_5
      replace hx349_6 := pw_cell_below HB.out hx349_6
      replace p349 := eq_true p349
      replace q349 := eq_true q349
      go_wp2_with (first | ((with_reducible refine gate_dst (N := 7) rfl ?_); refine box_event ?hg (N := 7) ?hd (cs := #[.int .i64 0, .int .i64 0, .int .i64 0, .int .i64 0, .int .i64 0, .string (⟨#[]⟩ : ByteArray), .int .i64 0]) (t := 48) ?hr ?_; (case hd => rfl); (case hg => rfl); (case hr => first | (go_simp; done) | (go_simp; rfl)); intro gb350 hg w10 hbox hb; have n0_ := Aside0.mk (Kd.R_below (Kd.R_elderB (rq HO_5.out) gb350 (Nat.le_of_eq hg.symm)) hb); have n1_ := Aside0.mk (below_step (bs HB.out) hb); have n2_ := Aside0.mk (hbox); have n3_ := Aside0.mk ((by rw [hg]; exact (below_size (bs HB.out)) : w.heap.size ≤ gb350)); have n4_ := n3_; clear HO_5; clear HB; have HO_5 := n0_; have HB := n1_; have BK350 := n2_; have GW350 := n3_; have GE350 := n4_; clear n0_ n1_ n2_ n3_ n4_; clear hb hbox hg; obtain ⟨hcz11_0, hcz11_1, hcz11_2, hcz11_3, hcz11_4, hcz11_5, hcz11_6⟩ := bc7 BK350.out; obtain ⟨hfz11_0, hfz11_1, hfz11_2, hfz11_3, hfz11_4, hfz11_5, hfz11_6⟩ := bf7 BK350.out) | ((with_reducible refine gate_callee (f := 31) rfl ?_); refine goesL_ (some 22) rfl rfl Try.func31 (by kernel_rfl) rfl #[.agg #[.int .i64 ((rd_T48 l0 x6_1).f0), .int .i64 ((rd_T48 l0 x6_1).f1), .int .i64 ((rd_T48 l0 x6_1).f2), .int .i64 ((rd_T48 l0 x6_1).f3), .int .i64 ((rd_T48 l0 x6_1).f4), .string ((rd_T48 l0 x6_1).f5), .int .i64 ((rd_T48 l0 x6_1).f6)]] rfl (by (try simp only [List.map_toArray, List.map_cons, List.map_nil]); first | done | rfl | (simp only [List.length_drop, List.length_take]; rfl)) ?_; (with_reducible refine (signalbenchref14_Plain.calls ((rd_T48 l0 x6_1).f0) ((rd_T48 l0 x6_1).f1) ((rd_T48 l0 x6_1).f2) ((rd_T48 l0 x6_1).f3) ((rd_T48 l0 x6_1).f4) ((rd_T48 l0 x6_1).f5) ((rd_T48 l0 x6_1).f6) true _ A7.out).mono ?_); rintro e w12 ⟨rfl, hb⟩; refine ⟨_, rfl, ?_⟩; have n0_ := Aside0.mk (Kd.R_below (by (with_reducible repeat (first | apply Kd.R_alloc | apply Kd.R_drewN | apply Kd.R_drew)); exact (Kd.R_mono (Kd.R_far (p := ⟨gb350, 6, none⟩) (Kd.R_far (p := ⟨gb350, 5, none⟩) (Kd.R_far (p := ⟨gb350, 4, none⟩) (Kd.R_far (p := ⟨gb350, 3, none⟩) (Kd.R_far (p := ⟨gb350, 2, none⟩) (Kd.R_far (p := ⟨gb350, 1, none⟩) (Kd.R_far (p := ⟨gb350, 0, none⟩) (Kd.R_mono HO_5.out (fun k_ hk => (⟨hk, hk.2⟩ : _ ∧ k_ ≠ gb350))) (fun _ hk => hk.2) (.int .i64 ((rd_T48 l0 x6_1).f0))) (fun _ hk => hk.2) (.int .i64 ((rd_T48 l0 x6_1).f1))) (fun _ hk => hk.2) (.int .i64 ((rd_T48 l0 x6_1).f2))) (fun _ hk => hk.2) (.int .i64 ((rd_T48 l0 x6_1).f3))) (fun _ hk => hk.2) (.int .i64 ((rd_T48 l0 x6_1).f4))) (fun _ hk => hk.2) (.string ((rd_T48 l0 x6_1).f5))) (fun _ hk => hk.2) (.int .i64 ((rd_T48 l0 x6_1).f6))) (fun _ h_ => h_.1))) hb); have n1_ := Aside0.mk (blk_below (g := gb350) (o := .cells #[.int .i64 ((rd_T48 l0 x6_1).f0), .int .i64 ((rd_T48 l0 x6_1).f1), .int .i64 ((rd_T48 l0 x6_1).f2), .int .i64 ((rd_T48 l0 x6_1).f3), .int .i64 ((rd_T48 l0 x6_1).f4), .string ((rd_T48 l0 x6_1).f5), .int .i64 ((rd_T48 l0 x6_1).f6)] 48 (0, 0)) (by exact pt7 (bg BK350.out)) hb); have n2_ := Aside0.mk (below_step (bs HB.out) hb); clear HO_5; clear BK350; clear HB; have HO_5 := n0_; have BK350 := n1_; have HB := n2_; clear n0_ n1_ n2_; (try clear hb); (try clear hb2); (try clear hk); (try clear hi); obtain ⟨hcz13_0, hcz13_1, hcz13_2, hcz13_3, hcz13_4, hcz13_5, hcz13_6⟩ := bc7 BK350.out; obtain ⟨hfz13_0, hfz13_1, hfz13_2, hfz13_3, hfz13_4, hfz13_5, hfz13_6⟩ := bf7 BK350.out) | ((with_reducible refine gate_callee (f := 35) rfl ?_); refine goesL_ (some 28) rfl rfl Try.func35 (by kernel_rfl) rfl #[.slice A1 l1.length c1, .int .i64 ((rd_T48 l0 x6_1).f1), .int .i64 ((rd_T48 l0 x6_1).f2)] rfl (by (try simp only [List.map_toArray, List.map_cons, List.map_nil]); first | done | rfl | (simp only [List.length_drop, List.length_take]; rfl)) ?_; (with_reducible refine (signalbenchref14_next.calls k1 _ _ l1 ((rd_T48 l0 x6_1).f1) ((rd_T48 l0 x6_1).f2) t352 _ ?side1 ?side2 A9.out).mono ?_); (case side1 => repeat (first | exact (Kd.C_below HR1.out HB.out) | (with_reducible refine Kd.C_alloc ?_ _) | (with_reducible refine Kd.C_drewN ?_ _) | (with_reducible refine Kd.C_drew ?_))); (case side2 => exact HC1.out); rintro e w' ⟨rfl, ⟨nd, rfl⟩⟩; refine ⟨_, rfl, ?_⟩))
      go_loopg [5, 8] k1 (fun kq v5 v8 w' => ∃ (x5_2 : List (S48)) (x8_2 : Int) (x351001_2 : Int), v8 = .int .i64 x8_2 ∧ Aside0 (signalbenchref14_Split.l1 kq l0 l1 x5_2 x6_1 x8_2 ((rd_T48 l0 x6_1).f0) x351001_2 ((rd_T48 l0 x6_1).f2) ((rd_T48 l0 x6_1).f3) ((rd_T48 l0 x6_1).f4) ((rd_T48 l0 x6_1).f5) ((rd_T48 l0 x6_1).f6) = some r) ∧ Aside0 (kq ≤ k1) ∧ Aside0 (Kd.R k48 48 w' w.heap.size (fun k_ => k_ ≠ gb350) v5 x5_2) ∧ Aside0 (w'.heap[gb350]? = some (.cells #[.int .i64 ((rd_T48 l0 x6_1).f0), .int .i64 x351001_2, .int .i64 ((rd_T48 l0 x6_1).f2), .int .i64 ((rd_T48 l0 x6_1).f3), .int .i64 ((rd_T48 l0 x6_1).f4), .string ((rd_T48 l0 x6_1).f5), .int .i64 ((rd_T48 l0 x6_1).f6)] 48 (0, 0))) ∧ Aside0 (Below w.heap.size w w'))
      case atStart => exact ⟨(x5_1), (t352), ((rd_T48 l0 x6_1).f1), (by first | rfl | (simp; done) | (simp [*]; done)), H', ⟨Nat.le_refl _⟩, ⟨by (with_reducible repeat (first | apply Kd.R_alloc | apply Kd.R_drewN | apply Kd.R_drew)); exact Kd.R_mono HO_5.out (fun _ hk => hk.2)⟩, ⟨bg BK350.out⟩, ⟨bs HB.out⟩⟩
      case round =>
       clear H'
       try clear c1
       try clear p2
       try clear c3
       try clear p3
       try clear q3
       try clear hx3
       try clear c5
       try clear c5b0
       try clear c6
       try clear c6b0
       try clear p6
       try clear c8
       try clear hcz11_0 hcz11_1 hcz11_2 hcz11_3 hcz11_4 hcz11_5 hcz11_6
       try clear hcz13_0 hcz13_1 hcz13_2 hcz13_3 hcz13_4 hcz13_5 hcz13_6
       try clear hfz11_0 hfz11_1 hfz11_2 hfz11_3 hfz11_4 hfz11_5 hfz11_6
       try clear hfz13_0 hfz13_1 hfz13_2 hfz13_3 hfz13_4 hfz13_5 hfz13_6
       try clear hx349_0
       try clear hx349_1
       try clear hx349_2
       try clear hx349_3
       try clear hx349_4
       try clear hx349_5
       try clear hx349_6
       try clear p2
       try clear p349
       try clear q349
       obtain ⟨x5_2, x8_2, x351001_2, rfl, HA, HK2, HO_5, BK350, HB⟩ := hrel
       cases gk with
       | zero => exact absurd HA.out (by simp [signalbenchref14_Split.l1])
       | succ k2 =>
        have H := HA.out
        clear HA
        simp only [signalbenchref14_Split.l1] at H
        by_cases c14 : x8_2 < ((rd_T48 l0 x6_1).f2)
        ·
         rw [if_pos c14] at H
         have c14b0 : decide (x8_2 < ((rd_T48 l0 x6_1).f2)) = true := decide_eq_true c14
         clear c14
         by_cases c15 : x5_2.length < 2199023255552
         ·
          rw [if_pos c15] at H
          have LMc15 := Aside0.mk c15
          clear c15
          obtain ⟨y354, hy354⟩ : ∃ y_ : List (S48), y_ = (x5_2 ++ [(⟨((rd_T48 l0 x6_1).f0), x351001_2, x8_2, ((rd_T48 l0 x6_1).f3), ((rd_T48 l0 x6_1).f4), ((rd_T48 l0 x6_1).f5), ((rd_T48 l0 x6_1).f6)⟩ : S48)]) := ⟨_, rfl⟩
          replace H : ((signalbenchref14_next.f k2 l1 x8_2 ((rd_T48 l0 x6_1).f2)).bind fun t357 => (signalbenchref14_Split.l1 k2 l0 l1 y354 x6_1 t357 ((rd_T48 l0 x6_1).f0) x8_2 ((rd_T48 l0 x6_1).f2) ((rd_T48 l0 x6_1).f3) ((rd_T48 l0 x6_1).f4) ((rd_T48 l0 x6_1).f5) ((rd_T48 l0 x6_1).f6))) = some r := by first | (rw [hy354]; with_reducible exact H) | (have H2_ := (Option.bind_some _ _).symm.trans H; rw [hy354]; with_reducible exact H2_) | (have H2_ := (Option.bind_some _ _).symm.trans H; with_reducible exact H2_) | with_reducible exact H | (rw [hy354]; exact H) | exact H
          have Ny354 := Aside0.mk hy354
          clear hy354
          replace H := Option.bind_eq_some_iff.mp H
          obtain ⟨t357, A160, H⟩ := H
          replace H : (signalbenchref14_Split.l1 k2 l0 l1 y354 x6_1 t357 ((rd_T48 l0 x6_1).f0) x8_2 ((rd_T48 l0 x6_1).f2) ((rd_T48 l0 x6_1).f3) ((rd_T48 l0 x6_1).f4) ((rd_T48 l0 x6_1).f5) ((rd_T48 l0 x6_1).f6)) = some r := H
          have A16 := Aside0.mk A160
          clear A160
          have H' := Aside0.mk H
          clear H
          obtain ⟨hcz17_0, hcz17_1, hcz17_2, hcz17_3, hcz17_4, hcz17_5, hcz17_6⟩ := bc7 BK350.out
          obtain ⟨hfz17_0, hfz17_1, hfz17_2, hfz17_3, hfz17_4, hfz17_5, hfz17_6⟩ := bf7 BK350.out
          go_wp2_with (first | ((with_reducible refine gate_dst (N := 43) rfl ?_); refine keep_world (fun W_ => W_.heap[gb350]? = some (.cells #[.int .i64 ((rd_T48 l0 x6_1).f0), .int .i64 x351001_2, .int .i64 ((rd_T48 l0 x6_1).f2), .int .i64 ((rd_T48 l0 x6_1).f3), .int .i64 ((rd_T48 l0 x6_1).f4), .string ((rd_T48 l0 x6_1).f5), .int .i64 ((rd_T48 l0 x6_1).f6)] 48 (0, 0)) ∧ W_.heap[gb353]? = some (.cells #[.int .i64 ((rd_T48 l0 x6_1).f0), .int .i64 x351001_2, .int .i64 x8_2, .int .i64 ((rd_T48 l0 x6_1).f3), .int .i64 ((rd_T48 l0 x6_1).f4), .string ((rd_T48 l0 x6_1).f5), .int .i64 ((rd_T48 l0 x6_1).f6)] 48 (0, 0)) ∧ Below w.heap.size w W_ ∧ Kd.R k48 48 W_ w.heap.size (fun k_ => k_ ≠ gb350 ∧ k_ ≠ gb353) u5 x5_2) ⟨(by (iterate 8 (with_reducible repeat (first | refine blk_drewN ?_ _ | refine blk_drew ?_ | refine blk_alloc ?_ _)); refine blk_far ?_ NB350_353.out _); exact bg BK350.out), (by (with_reducible repeat (first | refine blk_drewN ?_ _ | refine blk_drew ?_ | refine blk_alloc ?_ _)); refine blk_put (cs := #[.int .i64 ((rd_T48 l0 x6_1).f0), .int .i64 x351001_2, .int .i64 ((rd_T48 l0 x6_1).f2), .int .i64 ((rd_T48 l0 x6_1).f3), .int .i64 ((rd_T48 l0 x6_1).f4), .string ((rd_T48 l0 x6_1).f5), .int .i64 ((rd_T48 l0 x6_1).f6)]) ?_ 2 _ rfl; exact pt7 (bg BK353.out)), bs HB.out, (by (with_reducible repeat (first | apply Kd.R_alloc | apply Kd.R_drewN | apply Kd.R_drew)); exact Kd.R_mono (Kd.R_far (p := ⟨gb353, 2, none⟩) (Kd.R_far (p := ⟨gb353, 6, none⟩) (Kd.R_far (p := ⟨gb353, 5, none⟩) (Kd.R_far (p := ⟨gb353, 4, none⟩) (Kd.R_far (p := ⟨gb353, 3, none⟩) (Kd.R_far (p := ⟨gb353, 2, none⟩) (Kd.R_far (p := ⟨gb353, 1, none⟩) (Kd.R_far (p := ⟨gb353, 0, none⟩) (Kd.R_mono HO_5.out (fun k_ hk => (⟨hk, hk.2⟩ : _ ∧ k_ ≠ gb353))) (fun _ hk => hk.2) (.int .i64 ((rd_T48 l0 x6_1).f0))) (fun _ hk => hk.2) (.int .i64 x351001_2)) (fun _ hk => hk.2) (.int .i64 ((rd_T48 l0 x6_1).f2))) (fun _ hk => hk.2) (.int .i64 ((rd_T48 l0 x6_1).f3))) (fun _ hk => hk.2) (.int .i64 ((rd_T48 l0 x6_1).f4))) (fun _ hk => hk.2) (.string ((rd_T48 l0 x6_1).f5))) (fun _ hk => hk.2) (.int .i64 ((rd_T48 l0 x6_1).f6))) (fun _ hk => hk.2) (.int .i64 x8_2)) (fun _ hk => ⟨hk.1.1, hk.1.2⟩))⟩ ?_; clear BK350; clear BK353; clear HB; clear HO_5; rintro W43 ⟨b350_, b353_, bb_, bo_⟩; have BK350 := Aside0.mk b350_; have BK353 := Aside0.mk b353_; have HB := Aside0.mk bb_; have HO_5 := Aside0.mk bo_; clear b350_ b353_ bb_ bo_; obtain ⟨hcv_0, hcv_1, hcv_2, hcv_3, hcv_4, hcv_5, hcv_6⟩ := bc7 BK353.out) | ((with_reducible refine gate_dst (N := 9) rfl ?_); refine box_event ?hg (N := 9) ?hd (cs := #[.int .i64 0, .int .i64 0, .int .i64 0, .int .i64 0, .int .i64 0, .string (⟨#[]⟩ : ByteArray), .int .i64 0]) (t := 48) ?hr ?_; (case hd => rfl); (case hg => rfl); (case hr => first | (go_simp; done) | (go_simp; rfl)); intro gb353 hg w18 hbox hb; have n0_ := Aside0.mk (Kd.R_below (Kd.R_elderB (rq HO_5.out) gb353 (Nat.le_of_eq hg.symm)) hb); have n1_ := Aside0.mk (blk_below (bg BK350.out) hb); have n2_ := Aside0.mk (below_step (bs HB.out) hb); have n3_ := Aside0.mk (hbox); have n4_ := Aside0.mk ((by rw [hg]; exact (below_size (bs HB.out)) : w.heap.size ≤ gb353)); have n5_ := n4_; have n6_ := Aside0.mk ((by rw [hg]; exact Nat.ne_of_lt (blk_lt (bg BK350.out)) : gb350 ≠ gb353)); have n7_ := Aside0.mk ((by rw [hg]; exact Nat.ne_of_gt (blk_lt (bg BK350.out)) : gb353 ≠ gb350)); clear HO_5; clear BK350; clear HB; have HO_5 := n0_; have BK350 := n1_; have HB := n2_; have BK353 := n3_; have GW353 := n4_; have GE353 := n5_; have NB350_353 := n6_; have NB353_350 := n7_; clear n0_ n1_ n2_ n3_ n4_ n5_ n6_ n7_; clear hb hbox hg; have hnb19 := NB353_350.out; have hnc19 := NB350_353.out; obtain ⟨hcz20_0, hcz20_1, hcz20_2, hcz20_3, hcz20_4, hcz20_5, hcz20_6⟩ := bc7 BK353.out; obtain ⟨hfz20_0, hfz20_1, hfz20_2, hfz20_3, hfz20_4, hfz20_5, hfz20_6⟩ := bf7 BK353.out) | ((with_reducible refine gate_builtin (b := .append) (xs := #[.tmp 42, .tmp 44]) rfl ?_); at_builtin; refine Kd.R_append k48 (w0 := w) w.heap.size rfl (.tmp 42) (.tmp 44) 26 48 (.agg #[(.int .i64 0), (.int .i64 0), (.int .i64 0), (.int .i64 0), (.int .i64 0), (.string ⟨#[]⟩), (.int .i64 0)]) 64 rfl Try.underlying26 info48 rfl (by decide) (by omega) u5 x5_2 (⟨((rd_T48 l0 x6_1).f0), x351001_2, x8_2, ((rd_T48 l0 x6_1).f3), ((rd_T48 l0 x6_1).f4), ((rd_T48 l0 x6_1).f5), ((rd_T48 l0 x6_1).f6)⟩ : S48) [.int .i64 ((rd_T48 l0 x6_1).f0), .int .i64 x351001_2, .int .i64 x8_2, .int .i64 ((rd_T48 l0 x6_1).f3), .int .i64 ((rd_T48 l0 x6_1).f4), .string ((rd_T48 l0 x6_1).f5), .int .i64 ((rd_T48 l0 x6_1).f6)] (fun k_ => k_ ≠ gb350 ∧ k_ ≠ gb353) (fun _ => False) rfl (by first | (go_simp; done) | (go_simp; rfl)) ?aP (fun _ hk => hk.elim) ?aF ?aO ?aB ?aS ?aL ?_; (case aP => exact k48_mkM _ _ _ (⟨((rd_T48 l0 x6_1).f0), x351001_2, x8_2, ((rd_T48 l0 x6_1).f3), ((rd_T48 l0 x6_1).f4), ((rd_T48 l0 x6_1).f5), ((rd_T48 l0 x6_1).f6)⟩ : S48)); (case aB => exact (bs HB.out)); (case aF => exact (fun k_ hk => ⟨Kd.freshB (g := gb350) (o := .cells #[.int .i64 ((rd_T48 l0 x6_1).f0), .int .i64 x351001_2, .int .i64 ((rd_T48 l0 x6_1).f2), .int .i64 ((rd_T48 l0 x6_1).f3), .int .i64 ((rd_T48 l0 x6_1).f4), .string ((rd_T48 l0 x6_1).f5), .int .i64 ((rd_T48 l0 x6_1).f6)] 48 (0, 0)) (bg BK350.out) k_ hk, Kd.freshB (g := gb353) (o := .cells #[.int .i64 ((rd_T48 l0 x6_1).f0), .int .i64 x351001_2, .int .i64 x8_2, .int .i64 ((rd_T48 l0 x6_1).f3), .int .i64 ((rd_T48 l0 x6_1).f4), .string ((rd_T48 l0 x6_1).f5), .int .i64 ((rd_T48 l0 x6_1).f6)] 48 (0, 0)) (bg BK353.out) k_ hk⟩)); (case aO => exact HO_5.out); (case aS => exact (below_size (bs HB.out))); (case aL => have := LMc15.out; omega); intro v355 w21 ho hb hg hat; rw [← Ny354.out] at ho; have n0_ := Aside0.mk (blk_grown (g := gb350) (o := .cells #[.int .i64 ((rd_T48 l0 x6_1).f0), .int .i64 x351001_2, .int .i64 ((rd_T48 l0 x6_1).f2), .int .i64 ((rd_T48 l0 x6_1).f3), .int .i64 ((rd_T48 l0 x6_1).f4), .string ((rd_T48 l0 x6_1).f5), .int .i64 ((rd_T48 l0 x6_1).f6)] 48 (0, 0)) (bg BK350.out) hg (Kd.R_away HO_5.out (fun _ hk => hk.1))); have n1_ := Aside0.mk (blk_grown (g := gb353) (o := .cells #[.int .i64 ((rd_T48 l0 x6_1).f0), .int .i64 x351001_2, .int .i64 x8_2, .int .i64 ((rd_T48 l0 x6_1).f3), .int .i64 ((rd_T48 l0 x6_1).f4), .string ((rd_T48 l0 x6_1).f5), .int .i64 ((rd_T48 l0 x6_1).f6)] 48 (0, 0)) (bg BK353.out) hg (Kd.R_away HO_5.out (fun _ hk => hk.2))); have n2_ := Aside0.mk (hb); have n3_ := Aside0.mk (ho); clear BK350; clear BK353; clear HB; clear HO_5; have BK350 := n0_; have BK353 := n1_; have HB := n2_; have HO356 := n3_; clear n0_ n1_ n2_ n3_; clear ho hb hg hat; obtain ⟨hcz22_0, hcz22_1, hcz22_2, hcz22_3, hcz22_4, hcz22_5, hcz22_6⟩ := bc7 BK350.out; obtain ⟨hfz22_0, hfz22_1, hfz22_2, hfz22_3, hfz22_4, hfz22_5, hfz22_6⟩ := bf7 BK350.out) | ((with_reducible refine gate_callee (f := 35) rfl ?_); refine goesL_ (some 38) rfl rfl Try.func35 (by kernel_rfl) rfl #[.slice A1 l1.length c1, .int .i64 x8_2, .int .i64 ((rd_T48 l0 x6_1).f2)] rfl (by (try simp only [List.map_toArray, List.map_cons, List.map_nil]); first | done | rfl | (simp only [List.length_drop, List.length_take]; rfl)) ?_; (with_reducible refine (signalbenchref14_next.calls k2 _ _ l1 x8_2 ((rd_T48 l0 x6_1).f2) t357 _ ?side1 ?side2 A16.out).mono ?_); (case side1 => exact Kd.C_below HR1.out (bs HB.out)); (case side2 => exact HC1.out); rintro e w' ⟨rfl, ⟨nd, rfl⟩⟩; refine ⟨_, rfl, ?_⟩))
          go_roundg k2
          case measure => have := HK1.out; have := HK2.out; omega
          case rel => exact ⟨(y354), (t357), (x8_2), (by first | rfl | (simp; done) | (simp [*]; done)), H', ⟨by have := HK1.out; have := HK2.out; omega⟩, ⟨by (with_reducible repeat (first | apply Kd.R_alloc | apply Kd.R_drewN | apply Kd.R_drew)); exact Kd.R_mono (Kd.R_far (p := ⟨gb350, 1, none⟩) (Kd.R_mono HO356.out (fun k_ hk => (⟨hk, hk.1⟩ : _ ∧ k_ ≠ gb350))) (fun _ hk => hk.2) (.int .i64 x8_2)) (fun _ hk => hk.1.1)⟩, ⟨by (with_reducible repeat (first | refine blk_drewN ?_ _ | refine blk_drew ?_ | refine blk_alloc ?_ _)); refine blk_put (cs := #[.int .i64 ((rd_T48 l0 x6_1).f0), .int .i64 x351001_2, .int .i64 ((rd_T48 l0 x6_1).f2), .int .i64 ((rd_T48 l0 x6_1).f3), .int .i64 ((rd_T48 l0 x6_1).f4), .string ((rd_T48 l0 x6_1).f5), .int .i64 ((rd_T48 l0 x6_1).f6)]) ?_ 1 _ rfl; exact bg BK350.out⟩, ⟨bs HB.out⟩⟩
         ·
          rw [if_neg c15] at H
          exact absurd H (by simp)
        ·
         rw [if_neg c14] at H
         have c14b0 : decide (x8_2 < ((rd_T48 l0 x6_1).f2)) = false := decide_eq_false c14
         clear c14
         by_cases c23 : x5_2.length < 2199023255552
         ·
          rw [if_pos c23] at H
          have LMc23 := Aside0.mk c23
          clear c23
          obtain ⟨y358, hy358⟩ : ∃ y_ : List (S48), y_ = (x5_2 ++ [(⟨((rd_T48 l0 x6_1).f0), x351001_2, ((rd_T48 l0 x6_1).f2), ((rd_T48 l0 x6_1).f3), ((rd_T48 l0 x6_1).f4), ((rd_T48 l0 x6_1).f5), ((rd_T48 l0 x6_1).f6)⟩ : S48)]) := ⟨_, rfl⟩
          replace H : (signalbenchref14_Split.l0 k2 l0 l1 y358 (wrap64 (x6_1 + 1))) = some r := by first | (rw [hy358]; with_reducible exact H) | (have H2_ := (Option.bind_some _ _).symm.trans H; rw [hy358]; with_reducible exact H2_) | (have H2_ := (Option.bind_some _ _).symm.trans H; with_reducible exact H2_) | with_reducible exact H | (rw [hy358]; exact H) | exact H
          have Ny358 := Aside0.mk hy358
          clear hy358
          have H' := Aside0.mk H
          clear H
          obtain ⟨hcz24_0, hcz24_1, hcz24_2, hcz24_3, hcz24_4, hcz24_5, hcz24_6⟩ := bc7 BK350.out
          obtain ⟨hfz24_0, hfz24_1, hfz24_2, hfz24_3, hfz24_4, hfz24_5, hfz24_6⟩ := bf7 BK350.out
          go_wp2_with (first | ((with_reducible refine gate_builtin (b := .append) (xs := #[.tmp 48, .tmp 50]) rfl ?_); at_builtin; refine Kd.R_append k48 (w0 := w) w.heap.size rfl (.tmp 48) (.tmp 50) 26 48 (.agg #[(.int .i64 0), (.int .i64 0), (.int .i64 0), (.int .i64 0), (.int .i64 0), (.string ⟨#[]⟩), (.int .i64 0)]) 64 rfl Try.underlying26 info48 rfl (by decide) (by omega) u5 x5_2 (⟨((rd_T48 l0 x6_1).f0), x351001_2, ((rd_T48 l0 x6_1).f2), ((rd_T48 l0 x6_1).f3), ((rd_T48 l0 x6_1).f4), ((rd_T48 l0 x6_1).f5), ((rd_T48 l0 x6_1).f6)⟩ : S48) [.int .i64 ((rd_T48 l0 x6_1).f0), .int .i64 x351001_2, .int .i64 ((rd_T48 l0 x6_1).f2), .int .i64 ((rd_T48 l0 x6_1).f3), .int .i64 ((rd_T48 l0 x6_1).f4), .string ((rd_T48 l0 x6_1).f5), .int .i64 ((rd_T48 l0 x6_1).f6)] (fun k_ => k_ ≠ gb350) (fun _ => False) rfl rfl ?aP (fun _ hk => hk.elim) ?aF ?aO ?aB ?aS ?aL ?_; (case aP => exact k48_mkM _ _ _ (⟨((rd_T48 l0 x6_1).f0), x351001_2, ((rd_T48 l0 x6_1).f2), ((rd_T48 l0 x6_1).f3), ((rd_T48 l0 x6_1).f4), ((rd_T48 l0 x6_1).f5), ((rd_T48 l0 x6_1).f6)⟩ : S48)); (case aB => exact (bs HB.out)); (case aF => exact (fun k_ hk => Kd.freshB (g := gb350) (o := .cells #[.int .i64 ((rd_T48 l0 x6_1).f0), .int .i64 x351001_2, .int .i64 ((rd_T48 l0 x6_1).f2), .int .i64 ((rd_T48 l0 x6_1).f3), .int .i64 ((rd_T48 l0 x6_1).f4), .string ((rd_T48 l0 x6_1).f5), .int .i64 ((rd_T48 l0 x6_1).f6)] 48 (0, 0)) (bg BK350.out) k_ hk)); (case aO => exact (rq HO_5.out)); (case aS => exact (below_size (bs HB.out))); (case aL => have := LMc23.out; omega); intro v359 w25 ho hb hg hat; rw [← Ny358.out] at ho; have n0_ := Aside0.mk (blk_grown (g := gb350) (o := .cells #[.int .i64 ((rd_T48 l0 x6_1).f0), .int .i64 x351001_2, .int .i64 ((rd_T48 l0 x6_1).f2), .int .i64 ((rd_T48 l0 x6_1).f3), .int .i64 ((rd_T48 l0 x6_1).f4), .string ((rd_T48 l0 x6_1).f5), .int .i64 ((rd_T48 l0 x6_1).f6)] 48 (0, 0)) (bg BK350.out) hg (Kd.R_away HO_5.out (fun _ hk => hk))); have n1_ := Aside0.mk (hb); have n2_ := Aside0.mk (ho); clear BK350; clear HB; clear HO_5; have BK350 := n0_; have HB := n1_; have HO360 := n2_; clear n0_ n1_ n2_; clear ho hb hg hat))
          go_roundg k2
          case measure => have := HK1.out; have := HK2.out; omega
          case rel => exact ⟨(y358), (wrap64 (x6_1 + 1)), (by first | rfl | (simp; done) | (simp [*]; done)), H', ⟨by have := HK1.out; have := HK2.out; omega⟩, ⟨by (with_reducible repeat (first | apply Kd.R_alloc | apply Kd.R_drewN | apply Kd.R_drew)); exact Kd.R_mono HO360.out (fun _ hk => trivial)⟩, ⟨bs HB.out⟩⟩
         ·
          rw [if_neg c23] at H
          exact absurd H (by simp)
     ·
      replace c8 := Bool.eq_false_iff.mpr c8
      subst c8
      have H1 : (if x5_1.length < 2199023255552 then (signalbenchref14_Split.l0 k1 l0 l1 (x5_1 ++ [(⟨(rd_T48 l0 x6_1).f0, (rd_T48 l0 x6_1).f1, (rd_T48 l0 x6_1).f2, (rd_T48 l0 x6_1).f3, (rd_T48 l0 x6_1).f4, (rd_T48 l0 x6_1).f5, (rd_T48 l0 x6_1).f6⟩ : S48)]) (wrap64 (x6_1 + 1))) else (none)) = some r := by rw [if_neg (show ¬ (false = true) by decide)] at H; exact H
      clear H
      have H := H1
      clear H1
      by_cases c26 : x5_1.length < 2199023255552
      ·
       rw [if_pos c26] at H
       have LMc26 := Aside0.mk c26
       clear c26
       obtain ⟨y361, hy361⟩ : ∃ y_ : List (S48), y_ = (x5_1 ++ [(⟨(rd_T48 l0 x6_1).f0, (rd_T48 l0 x6_1).f1, (rd_T48 l0 x6_1).f2, (rd_T48 l0 x6_1).f3, (rd_T48 l0 x6_1).f4, (rd_T48 l0 x6_1).f5, (rd_T48 l0 x6_1).f6⟩ : S48)]) := ⟨_, rfl⟩
       replace H : (signalbenchref14_Split.l0 k1 l0 l1 y361 (wrap64 (x6_1 + 1))) = some r := by first | (rw [hy361]; with_reducible exact H) | (have H2_ := (Option.bind_some _ _).symm.trans H; rw [hy361]; with_reducible exact H2_) | (have H2_ := (Option.bind_some _ _).symm.trans H; with_reducible exact H2_) | with_reducible exact H | (rw [hy361]; exact H) | exact H
       have Ny361 := Aside0.mk hy361
       clear hy361
       have H' := Aside0.mk H
       clear H
       have p349 : 0 ≤ (x6_1 : Int) := of_decide_eq_true (by first | (with_reducible assumption) | assumption)
       have q349 : x6_1 < (l0.length : Int) := of_decide_eq_true (by first | (with_reducible assumption) | assumption)
       obtain ⟨ad349, e349, hx349_0, hx349_1, hx349_2, hx349_3, hx349_4, hx349_5, hx349_6⟩ := at_T48 HR0.out x6_1 p349 q349
       cases e349
       replace hx349_0 := pw_cell_below HB.out hx349_0
       replace hx349_1 := pw_cell_below HB.out hx349_1
       replace hx349_2 := pw_cell_below HB.out hx349_2
       replace hx349_3 := pw_cell_below HB.out hx349_3
       replace hx349_4 := pw_cell_below HB.out hx349_4
       replace hx349_5 := pw_cell_below HB.out hx349_5
       replace hx349_6 := pw_cell_below HB.out hx349_6
       replace p349 := eq_true p349
       replace q349 := eq_true q349
       go_wp2_with (first | ((with_reducible refine gate_dst (N := 7) rfl ?_); refine box_event ?hg (N := 7) ?hd (cs := #[.int .i64 0, .int .i64 0, .int .i64 0, .int .i64 0, .int .i64 0, .string (⟨#[]⟩ : ByteArray), .int .i64 0]) (t := 48) ?hr ?_; (case hd => rfl); (case hg => rfl); (case hr => first | (go_simp; done) | (go_simp; rfl)); intro gb350 hg w27 hbox hb; have n0_ := Aside0.mk (Kd.R_below (Kd.R_elderB (rq HO_5.out) gb350 (Nat.le_of_eq hg.symm)) hb); have n1_ := Aside0.mk (below_step (bs HB.out) hb); have n2_ := Aside0.mk (hbox); have n3_ := Aside0.mk ((by rw [hg]; exact (below_size (bs HB.out)) : w.heap.size ≤ gb350)); have n4_ := n3_; clear HO_5; clear HB; have HO_5 := n0_; have HB := n1_; have BK350 := n2_; have GW350 := n3_; have GE350 := n4_; clear n0_ n1_ n2_ n3_ n4_; clear hb hbox hg; obtain ⟨hcz28_0, hcz28_1, hcz28_2, hcz28_3, hcz28_4, hcz28_5, hcz28_6⟩ := bc7 BK350.out; obtain ⟨hfz28_0, hfz28_1, hfz28_2, hfz28_3, hfz28_4, hfz28_5, hfz28_6⟩ := bf7 BK350.out) | ((with_reducible refine gate_callee (f := 31) rfl ?_); refine goesL_ (some 22) rfl rfl Try.func31 (by kernel_rfl) rfl #[.agg #[.int .i64 ((rd_T48 l0 x6_1).f0), .int .i64 ((rd_T48 l0 x6_1).f1), .int .i64 ((rd_T48 l0 x6_1).f2), .int .i64 ((rd_T48 l0 x6_1).f3), .int .i64 ((rd_T48 l0 x6_1).f4), .string ((rd_T48 l0 x6_1).f5), .int .i64 ((rd_T48 l0 x6_1).f6)]] rfl (by (try simp only [List.map_toArray, List.map_cons, List.map_nil]); first | done | rfl | (simp only [List.length_drop, List.length_take]; rfl)) ?_; (with_reducible refine (signalbenchref14_Plain.calls ((rd_T48 l0 x6_1).f0) ((rd_T48 l0 x6_1).f1) ((rd_T48 l0 x6_1).f2) ((rd_T48 l0 x6_1).f3) ((rd_T48 l0 x6_1).f4) ((rd_T48 l0 x6_1).f5) ((rd_T48 l0 x6_1).f6) false _ A7.out).mono ?_); rintro e w29 ⟨rfl, hb⟩; refine ⟨_, rfl, ?_⟩; have n0_ := Aside0.mk (Kd.R_below (by (with_reducible repeat (first | apply Kd.R_alloc | apply Kd.R_drewN | apply Kd.R_drew)); exact (Kd.R_mono (Kd.R_far (p := ⟨gb350, 6, none⟩) (Kd.R_far (p := ⟨gb350, 5, none⟩) (Kd.R_far (p := ⟨gb350, 4, none⟩) (Kd.R_far (p := ⟨gb350, 3, none⟩) (Kd.R_far (p := ⟨gb350, 2, none⟩) (Kd.R_far (p := ⟨gb350, 1, none⟩) (Kd.R_far (p := ⟨gb350, 0, none⟩) (Kd.R_mono HO_5.out (fun k_ hk => (⟨hk, hk.2⟩ : _ ∧ k_ ≠ gb350))) (fun _ hk => hk.2) (.int .i64 ((rd_T48 l0 x6_1).f0))) (fun _ hk => hk.2) (.int .i64 ((rd_T48 l0 x6_1).f1))) (fun _ hk => hk.2) (.int .i64 ((rd_T48 l0 x6_1).f2))) (fun _ hk => hk.2) (.int .i64 ((rd_T48 l0 x6_1).f3))) (fun _ hk => hk.2) (.int .i64 ((rd_T48 l0 x6_1).f4))) (fun _ hk => hk.2) (.string ((rd_T48 l0 x6_1).f5))) (fun _ hk => hk.2) (.int .i64 ((rd_T48 l0 x6_1).f6))) (fun _ h_ => h_.1))) hb); have n1_ := Aside0.mk (blk_below (g := gb350) (o := .cells #[.int .i64 ((rd_T48 l0 x6_1).f0), .int .i64 ((rd_T48 l0 x6_1).f1), .int .i64 ((rd_T48 l0 x6_1).f2), .int .i64 ((rd_T48 l0 x6_1).f3), .int .i64 ((rd_T48 l0 x6_1).f4), .string ((rd_T48 l0 x6_1).f5), .int .i64 ((rd_T48 l0 x6_1).f6)] 48 (0, 0)) (by exact pt7 (bg BK350.out)) hb); have n2_ := Aside0.mk (below_step (bs HB.out) hb); clear HO_5; clear BK350; clear HB; have HO_5 := n0_; have BK350 := n1_; have HB := n2_; clear n0_ n1_ n2_; (try clear hb); (try clear hb2); (try clear hk); (try clear hi); obtain ⟨hcz30_0, hcz30_1, hcz30_2, hcz30_3, hcz30_4, hcz30_5, hcz30_6⟩ := bc7 BK350.out; obtain ⟨hfz30_0, hfz30_1, hfz30_2, hfz30_3, hfz30_4, hfz30_5, hfz30_6⟩ := bf7 BK350.out) | ((with_reducible refine gate_builtin (b := .append) (xs := #[.tmp 48, .tmp 50]) rfl ?_); at_builtin; refine Kd.R_append k48 (w0 := w) w.heap.size rfl (.tmp 48) (.tmp 50) 26 48 (.agg #[(.int .i64 0), (.int .i64 0), (.int .i64 0), (.int .i64 0), (.int .i64 0), (.string ⟨#[]⟩), (.int .i64 0)]) 64 rfl Try.underlying26 info48 rfl (by decide) (by omega) u5 x5_1 (⟨(rd_T48 l0 x6_1).f0, (rd_T48 l0 x6_1).f1, (rd_T48 l0 x6_1).f2, (rd_T48 l0 x6_1).f3, (rd_T48 l0 x6_1).f4, (rd_T48 l0 x6_1).f5, (rd_T48 l0 x6_1).f6⟩ : S48) [.int .i64 ((rd_T48 l0 x6_1).f0), .int .i64 ((rd_T48 l0 x6_1).f1), .int .i64 ((rd_T48 l0 x6_1).f2), .int .i64 ((rd_T48 l0 x6_1).f3), .int .i64 ((rd_T48 l0 x6_1).f4), .string ((rd_T48 l0 x6_1).f5), .int .i64 ((rd_T48 l0 x6_1).f6)] (fun k_ => k_ ≠ gb350) (fun _ => False) rfl rfl ?aP (fun _ hk => hk.elim) ?aF ?aO ?aB ?aS ?aL ?_; (case aP => exact k48_mkM _ _ _ (⟨(rd_T48 l0 x6_1).f0, (rd_T48 l0 x6_1).f1, (rd_T48 l0 x6_1).f2, (rd_T48 l0 x6_1).f3, (rd_T48 l0 x6_1).f4, (rd_T48 l0 x6_1).f5, (rd_T48 l0 x6_1).f6⟩ : S48)); (case aB => exact (bs HB.out)); (case aF => exact (fun k_ hk => Kd.freshB (g := gb350) (o := .cells #[.int .i64 ((rd_T48 l0 x6_1).f0), .int .i64 ((rd_T48 l0 x6_1).f1), .int .i64 ((rd_T48 l0 x6_1).f2), .int .i64 ((rd_T48 l0 x6_1).f3), .int .i64 ((rd_T48 l0 x6_1).f4), .string ((rd_T48 l0 x6_1).f5), .int .i64 ((rd_T48 l0 x6_1).f6)] 48 (0, 0)) (bg BK350.out) k_ hk)); (case aO => exact (by (with_reducible repeat (first | apply Kd.R_alloc | apply Kd.R_drewN | apply Kd.R_drew)); exact Kd.R_mono HO_5.out (fun _ hk => hk.2))); (case aS => exact (below_size (bs HB.out))); (case aL => have := LMc26.out; omega); intro v362 w31 ho hb hg hat; rw [← Ny361.out] at ho; have n0_ := Aside0.mk (blk_grown (g := gb350) (o := .cells #[.int .i64 ((rd_T48 l0 x6_1).f0), .int .i64 ((rd_T48 l0 x6_1).f1), .int .i64 ((rd_T48 l0 x6_1).f2), .int .i64 ((rd_T48 l0 x6_1).f3), .int .i64 ((rd_T48 l0 x6_1).f4), .string ((rd_T48 l0 x6_1).f5), .int .i64 ((rd_T48 l0 x6_1).f6)] 48 (0, 0)) (bg BK350.out) hg (Kd.R_away HO_5.out (fun _ hk => hk.2))); have n1_ := Aside0.mk (hb); have n2_ := Aside0.mk (ho); clear BK350; clear HB; clear HO_5; have BK350 := n0_; have HB := n1_; have HO363 := n2_; clear n0_ n1_ n2_; clear ho hb hg hat))
       go_roundg k1
       case measure => have := HK1.out; omega
       case rel => exact ⟨(y361), (wrap64 (x6_1 + 1)), (by first | rfl | (simp; done) | (simp [*]; done)), H', ⟨by have := HK1.out; omega⟩, ⟨by (with_reducible repeat (first | apply Kd.R_alloc | apply Kd.R_drewN | apply Kd.R_drew)); exact Kd.R_mono HO363.out (fun _ hk => trivial)⟩, ⟨bs HB.out⟩⟩
      ·
       rw [if_neg c26] at H
       exact absurd H (by simp)
    ·
     rw [if_neg c6] at H
     exact absurd H (by simp)
   ·
    rw [if_neg c5] at H
    have c5b0 : decide (x6_1 < (l0.length : Int)) = false := decide_eq_false c5
    clear c5
    obtain rfl := Option.some.inj H
    go_wp2
    go_ret
    exact ⟨_, by first | rfl | (simp [errW_none, errW_some] <;> rfl) | (simp [*, errW_none, errW_some] <;> rfl), by (with_reducible repeat (first | apply Kd.R_alloc | apply Kd.R_drewN | apply Kd.R_drew)); exact HO_5.out, bs HB.out⟩

end Go.Proofs.Ytioedeglgljblaa.H
