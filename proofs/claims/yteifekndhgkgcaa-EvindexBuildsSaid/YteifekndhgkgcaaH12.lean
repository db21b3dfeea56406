-- Printed by wip/hprint.py (this project's own driver of the kit's print) out of the translation; Lean checks it.
import Derived.Test.YteifekndhgkgcaaH0
namespace Go.Proofs.Yteifekndhgkgcaa.H
open Go.RowKit Go.Proofs.YteifekndhgkgcaaW.PrintWords Go.Proofs.YteifekndhgkgcaaW.PrintLast Go.Proofs.YteifekndhgkgcaaW.PrintMore
attribute [local go_sem] max2_int min2_int max_two min_two max_three min_three max_four min_four   -- for this text's walks alone
set_option linter.unusedVariables false
set_option linter.unusedSimpArgs false

/-! ### signalbenchref46_Lookup: function 18 -/
def signalbenchref46_Lookup.l0 : Nat → Int → Int → Int → Int → List (S43) → Option (List Int)
 | 0, _, _, _, _, _ => none
 | k + 1, x1, x2, x7, x193000, x193001 => if x7 < (x193001.length : Int) then (if 0 ≤ x7 then (if ((rd_T43 x193001 x7).f0) = x1 then (if ((rd_T43 x193001 x7).f1) = x2 then (some ((rd_T43 x193001 x7).f2)) else (signalbenchref46_Lookup.l0 k x1 x2 (wrap64 (x7 + 1)) x193000 x193001)) else (signalbenchref46_Lookup.l0 k x1 x2 (wrap64 (x7 + 1)) x193000 x193001)) else (none)) else (some ([] : List Int))
def signalbenchref46_Lookup.f (k : Nat) (a0_0 : Int) (l0_1 : List (S43)) (a1 : Int) (a2 : Int) : Option (List Int) := signalbenchref46_Lookup.l0 k a1 a2 0 a0_0 l0_1
set_option maxHeartbeats 8000000 in
set_option maxRecDepth 100000 in
theorem signalbenchref46_Lookup.calls (k : Nat) (a0_0 : Int) (P0_1_ : Nat → Prop) (A0_1 : Option Addr) (c0_1 : Nat) (l0_1 : List (S43)) (a1 : Int) (a2 : Int) (r : List Int) (w : World) (hs0_1 : Kd.V k43 43 w w.heap.size (fun k_ => P0_1_ k_) (.slice A0_1 l0_1.length c0_1) l0_1) (h : signalbenchref46_Lookup.f k a0_0 l0_1 a1 a2 = some r) :
  Calls Try.prog 18 #[.agg #[.int .i64 a0_0, .slice A0_1 l0_1.length c0_1], .int .i64 a1, .int .i64 a2] w fun e w' => ∃ v0_ : Value, e = .returned (v0_) ∧ Kd.V (Kd.int .i64) 3 w' w.heap.size (fun k_ => (P0_1_ k_ ∨ w.heap.size ≤ k_)) v0_ r ∧ Below w.heap.size w w' := by
 have hu27 := Try.underlying27
 have HO0_1 := Aside0.mk (show Kd.V k43 43 w w.heap.size (fun k_ => (P0_1_ k_ ∨ w.heap.size ≤ k_)) (.slice A0_1 l0_1.length c0_1) l0_1 from Kd.V_mono hs0_1 (fun k_ hk => .inl hk))
 have HB := Aside0.mk (Below.refl w.heap.size w)
 have H : (signalbenchref46_Lookup.l0 k a1 a2 0 a0_0 l0_1) = some r := h
 clear h
 have H' := Aside0.mk H
 clear H
 go_enter Try.func18, Try.ntmps18
 go_wp2_with (first | ((with_reducible refine gate_dst (N := 3) rfl ?_); refine box_event ?hg (N := 3) ?hd (cs := #[.int .i64 a0_0, .slice A0_1 l0_1.length c0_1]) (t := 27) ?hr ?_; (case hd => rfl); (case hg => rfl); (case hr => first | (go_simp; done) | (go_simp; rfl)); intro gb192 hg w4 hbox hb; have n0_ := Aside0.mk (Kd.V_below (Kd.V_elderB (by (with_reducible repeat (first | apply Kd.V_alloc | apply Kd.V_drewN | apply Kd.V_drew)); exact HO0_1.out) gb192 (Nat.le_of_eq hg.symm)) hb); have n1_ := Aside0.mk (below_step (bs HB.out) hb); have n2_ := Aside0.mk (hbox); have n3_ := Aside0.mk ((by rw [hg]; exact (below_size (bs HB.out)) : w.heap.size ≤ gb192)); have n4_ := n3_; clear HO0_1; clear HB; have HO0_1 := n0_; have HB := n1_; have BK192 := n2_; have GW192 := n3_; have GE192 := n4_; clear n0_ n1_ n2_ n3_ n4_; clear hb hbox hg))
 go_loopg [7] k (fun kq v7 w' => ∃ (x7_1 : Int), v7 = .int .i64 x7_1 ∧ Aside0 (signalbenchref46_Lookup.l0 kq a1 a2 x7_1 a0_0 l0_1 = some r) ∧ Aside0 (kq ≤ k) ∧ Aside0 (Kd.V k43 43 w' w.heap.size (fun k_ => (P0_1_ k_ ∨ w.heap.size ≤ k_) ∧ k_ ≠ gb192) (.slice A0_1 l0_1.length c0_1) l0_1) ∧ Aside0 (w'.heap[gb192]? = some (.cells #[.int .i64 a0_0, (.slice A0_1 l0_1.length c0_1)] 27 (0, 0))) ∧ Aside0 (Below w.heap.size w w'))
 case atStart => exact ⟨(0), (by first | rfl | (simp; done) | (simp [*]; done)), H', ⟨Nat.le_refl _⟩, ⟨by (with_reducible repeat (first | apply Kd.V_alloc | apply Kd.V_drewN | apply Kd.V_drew)); exact HO0_1.out⟩, ⟨bg BK192.out⟩, ⟨bs HB.out⟩⟩
 case round =>
  clear H'
  try clear c1
  try clear p2
  obtain ⟨x7_1, rfl, HA, HK1, HO_193001, BK192, HB⟩ := hrel
  cases gk with
  | zero => exact absurd HA.out (by simp [signalbenchref46_Lookup.l0])
  | succ k1 =>
   have H := HA.out
   clear HA
   simp only [signalbenchref46_Lookup.l0] at H
   by_cases c5 : x7_1 < (l0_1.length : Int)
   ·
    rw [if_pos c5] at H
    have c5b0 : decide (x7_1 < (l0_1.length : Int)) = true := decide_eq_true c5
    clear c5
    by_cases c6 : 0 ≤ x7_1
    ·
     rw [if_pos c6] at H
     have c6b0 : decide (0 ≤ x7_1) = true := decide_eq_true c6
     clear c6
     by_cases c7 : ((rd_T43 l0_1 x7_1).f0) = a1
     ·
      rw [if_pos c7] at H
      have c7b0 : (((rd_T43 l0_1 x7_1).f0) == a1) = true := beq_iff_eq.mpr c7
      have c7b1 : (((rd_T43 l0_1 x7_1).f0) != a1) = false := bne_eq_false_iff_eq.mpr c7
      clear c7
      by_cases c8 : ((rd_T43 l0_1 x7_1).f1) = a2
      ·
       rw [if_pos c8] at H
       have c8b0 : (((rd_T43 l0_1 x7_1).f1) == a2) = true := beq_iff_eq.mpr c8
       have c8b1 : (((rd_T43 l0_1 x7_1).f1) != a2) = false := bne_eq_false_iff_eq.mpr c8
       clear c8
       obtain rfl := Option.some.inj H
       obtain ⟨hcz9_0, hcz9_1⟩ := bc2 BK192.out
       obtain ⟨hfz9_0, hfz9_1⟩ := bf2 BK192.out
       have p193 : 0 ≤ (x7_1 : Int) := of_decide_eq_true (by first | (with_reducible assumption) | assumption)
       have q193 : x7_1 < (l0_1.length : Int) := of_decide_eq_true (by first | (with_reducible assumption) | assumption)
       obtain ⟨ad193, A193_2, c193_2, e193, hx193_0, hx193_1, hx193_2, hl193_2, hi193_2⟩ := at_T43 (Kd.V_reads' HO_193001.out).2.2 x7_1 p193 q193
       cases e193
       obtain ⟨ce193, hce193, hMe193, hcc193⟩ := Kd.V_get HO_193001.out z43 x7_1 p193 (by first | exact q193 | exact of_decide_eq_true (by first | (with_reducible assumption) | assumption) | (have e_ := (Kd.V_reads' HO_193001.out).1; omega))
       obtain ⟨ua193_2, uc193_2, rfl, ul193_2, ge193_2⟩ := k43_openF hMe193
       have hv193_2 := hcc193 2 _ rfl
       rw [add_field _ _ 2 (by omega)] at hv193_2
       replace hv193_2 := Option.some.inj (hv193_2.symm.trans hx193_2)
       injection hv193_2 with hva_ hvn_ hvc_
       rw [hva_] at ge193_2
       rw [hvc_] at ul193_2
       have HL193_2 := Aside0.mk (show Kd.V (Kd.int .i64) 3 _ w.heap.size _ _ ((rd_T43 l0_1 x7_1).f2) from Kd.V_mk ul193_2 ge193_2)
       clear hva_ hvn_ hvc_ ge193_2 ul193_2
       clear hcc193 hce193
       have HR193_2 := Aside0.mk hi193_2
       have HC193_2 := Aside0.mk hl193_2
       clear hi193_2 hl193_2
       replace p193 := eq_true p193
       replace q193 := eq_true q193
       have p194 : 0 ≤ (x7_1 : Int) := of_decide_eq_true (by first | (with_reducible assumption) | assumption)
       have q194 : x7_1 < (l0_1.length : Int) := of_decide_eq_true (by first | (with_reducible assumption) | assumption)
       obtain ⟨ad194, A194_2, c194_2, e194, hx194_0, hx194_1, hx194_2, hl194_2, hi194_2⟩ := at_T43 (Kd.V_reads' HO_193001.out).2.2 x7_1 p194 q194
       obtain rfl : ad193 = ad194 := (by injection e194)
       obtain ⟨ce194, hce194, hMe194, hcc194⟩ := Kd.V_get HO_193001.out z43 x7_1 p194 (by first | exact q194 | exact of_decide_eq_true (by first | (with_reducible assumption) | assumption) | (have e_ := (Kd.V_reads' HO_193001.out).1; omega))
       obtain ⟨ua194_2, uc194_2, rfl, ul194_2, ge194_2⟩ := k43_openF hMe194
       have hv194_2 := hcc194 2 _ rfl
       rw [add_field _ _ 2 (by omega)] at hv194_2
       replace hv194_2 := Option.some.inj (hv194_2.symm.trans hx194_2)
       injection hv194_2 with hva_ hvn_ hvc_
       rw [hva_] at ge194_2
       rw [hvc_] at ul194_2
       have HL194_2 := Aside0.mk (show Kd.V (Kd.int .i64) 3 _ w.heap.size _ _ ((rd_T43 l0_1 x7_1).f2) from Kd.V_mk ul194_2 ge194_2)
       clear hva_ hvn_ hvc_ ge194_2 ul194_2
       clear hcc194 hce194
       have HR194_2 := Aside0.mk hi194_2
       have HC194_2 := Aside0.mk hl194_2
       clear hi194_2 hl194_2
       replace p194 := eq_true p194
       replace q194 := eq_true q194
       have ea_ := Option.some.inj (hx193_2.symm.trans hx194_2)
       injection ea_ with ea_ en_ ec_
       subst ea_
       subst ec_
       clear en_
       have p195 : 0 ≤ (x7_1 : Int) := of_decide_eq_true (by first | (with_reducible assumption) | assumption)
       have q195 : x7_1 < (l0_1.length : Int) := of_decide_eq_true (by first | (with_reducible assumption) | assumption)
       obtain ⟨ad195, A195_2, c195_2, e195, hx195_0, hx195_1, hx195_2, hl195_2, hi195_2⟩ := at_T43 (Kd.V_reads' HO_193001.out).2.2 x7_1 p195 q195
       obtain rfl : ad193 = ad195 := (by injection e195)
       obtain ⟨ce195, hce195, hMe195, hcc195⟩ := Kd.V_get HO_193001.out z43 x7_1 p195 (by first | exact q195 | exact of_decide_eq_true (by first | (with_reducible assumption) | assumption) | (have e_ := (Kd.V_reads' HO_193001.out).1; omega))
       obtain ⟨ua195_2, uc195_2, rfl, ul195_2, ge195_2⟩ := k43_openF hMe195
       have hv195_2 := hcc195 2 _ rfl
       rw [add_field _ _ 2 (by omega)] at hv195_2
       replace hv195_2 := Option.some.inj (hv195_2.symm.trans hx195_2)
       injection hv195_2 with hva_ hvn_ hvc_
       rw [hva_] at ge195_2
       rw [hvc_] at ul195_2
       have HL195_2 := Aside0.mk (show Kd.V (Kd.int .i64) 3 _ w.heap.size _ _ ((rd_T43 l0_1 x7_1).f2) from Kd.V_mk ul195_2 ge195_2)
       clear hva_ hvn_ hvc_ ge195_2 ul195_2
       clear hcc195 hce195
       have HR195_2 := Aside0.mk hi195_2
       have HC195_2 := Aside0.mk hl195_2
       clear hi195_2 hl195_2
       replace p195 := eq_true p195
       replace q195 := eq_true q195
       have ea_ := Option.some.inj (hx193_2.symm.trans hx195_2)
       injection ea_ with ea_ en_ ec_
       subst ea_
       subst ec_
       clear en_
       go_wp2
       go_ret
       exact ⟨_, by first | rfl | (simp [errW_none, errW_some] <;> rfl) | (simp [*, errW_none, errW_some] <;> rfl), by (with_reducible repeat (first | apply Kd.V_alloc | apply Kd.V_drewN | apply Kd.V_drew)); exact Kd.V_mono HL195_2.out (fun _ hk => hk.1), bs HB.out⟩
      ·
       rw [if_neg c8] at H
       have c8b0 : (((rd_T43 l0_1 x7_1).f1) == a2) = false := beq_eq_false_iff_ne.mpr c8
       have c8b1 : (((rd_T43 l0_1 x7_1).f1) != a2) = true := bne_iff_ne.mpr c8
       have H' := Aside0.mk H
       clear H
       obtain ⟨hcz10_0, hcz10_1⟩ := bc2 BK192.out
       obtain ⟨hfz10_0, hfz10_1⟩ := bf2 BK192.out
       have p193 : 0 ≤ (x7_1 : Int) := of_decide_eq_true (by first | (with_reducible assumption) | assumption)
       have q193 : x7_1 < (l0_1.length : Int) := of_decide_eq_true (by first | (with_reducible assumption) | assumption)
       obtain ⟨ad193, A193_2, c193_2, e193, hx193_0, hx193_1, hx193_2, hl193_2, hi193_2⟩ := at_T43 (Kd.V_reads' HO_193001.out).2.2 x7_1 p193 q193
       cases e193
       obtain ⟨ce193, hce193, hMe193, hcc193⟩ := Kd.V_get HO_193001.out z43 x7_1 p193 (by first | exact q193 | exact of_decide_eq_true (by first | (with_reducible assumption) | assumption) | (have e_ := (Kd.V_reads' HO_193001.out).1; omega))
       obtain ⟨ua193_2, uc193_2, rfl, ul193_2, ge193_2⟩ := k43_openF hMe193
       have hv193_2 := hcc193 2 _ rfl
       rw [add_field _ _ 2 (by omega)] at hv193_2
       replace hv193_2 := Option.some.inj (hv193_2.symm.trans hx193_2)
       injection hv193_2 with hva_ hvn_ hvc_
       rw [hva_] at ge193_2
       rw [hvc_] at ul193_2
       have HL193_2 := Aside0.mk (show Kd.V (Kd.int .i64) 3 _ w.heap.size _ _ ((rd_T43 l0_1 x7_1).f2) from Kd.V_mk ul193_2 ge193_2)
       clear hva_ hvn_ hvc_ ge193_2 ul193_2
       clear hcc193 hce193
       have HR193_2 := Aside0.mk hi193_2
       have HC193_2 := Aside0.mk hl193_2
       clear hi193_2 hl193_2
       replace p193 := eq_true p193
       replace q193 := eq_true q193
       have p194 : 0 ≤ (x7_1 : Int) := of_decide_eq_true (by first | (with_reducible assumption) | assumption)
       have q194 : x7_1 < (l0_1.length : Int) := of_decide_eq_true (by first | (with_reducible assumption) | assumption)
       obtain ⟨ad194, A194_2, c194_2, e194, hx194_0, hx194_1, hx194_2, hl194_2, hi194_2⟩ := at_T43 (Kd.V_reads' HO_193001.out).2.2 x7_1 p194 q194
       obtain rfl : ad193 = ad194 := (by injection e194)
       obtain ⟨ce194, hce194, hMe194, hcc194⟩ := Kd.V_get HO_193001.out z43 x7_1 p194 (by first | exact q194 | exact of_decide_eq_true (by first | (with_reducible assumption) | assumption) | (have e_ := (Kd.V_reads' HO_193001.out).1; omega))
       obtain ⟨ua194_2, uc194_2, rfl, ul194_2, ge194_2⟩ := k43_openF hMe194
       have hv194_2 := hcc194 2 _ rfl
       rw [add_field _ _ 2 (by omega)] at hv194_2
       replace hv194_2 := Option.some.inj (hv194_2.symm.trans hx194_2)
       injection hv194_2 with hva_ hvn_ hvc_
       rw [hva_] at ge194_2
       rw [hvc_] at ul194_2
       have HL194_2 := Aside0.mk (show Kd.V (Kd.int .i64) 3 _ w.heap.size _ _ ((rd_T43 l0_1 x7_1).f2) from Kd.V_mk ul194_2 ge194_2)
       clear hva_ hvn_ hvc_ ge194_2 ul194_2
       clear hcc194 hce194
       have HR194_2 := Aside0.mk hi194_2
       have HC194_2 := Aside0.mk hl194_2
       clear hi194_2 hl194_2
       replace p194 := eq_true p194
       replace q194 := eq_true q194
       have ea_ := Option.some.inj (hx193_2.symm.trans hx194_2)
       injection ea_ with ea_ en_ ec_
       subst ea_
       subst ec_
       clear en_
       go_wp2
       go_roundg k1
       case measure => have := HK1.out; omega
       case rel => exact ⟨(wrap64 (x7_1 + 1)), (by first | rfl | (simp; done) | (simp [*]; done)), H', ⟨by have := HK1.out; omega⟩, ⟨by (with_reducible repeat (first | apply Kd.V_alloc | apply Kd.V_drewN | apply Kd.V_drew)); exact HO_193001.out⟩, ⟨bg BK192.out⟩, ⟨bs HB.out⟩⟩
     ·
      rw [if_neg c7] at H
      have c7b0 : (((rd_T43 l0_1 x7_1).f0) == a1) = false := beq_eq_false_iff_ne.mpr c7
      have c7b1 : (((rd_T43 l0_1 x7_1).f0) != a1) = true := bne_iff_ne.mpr c7
      have H' := Aside0.mk H
      clear H
      obtain ⟨hcz11_0, hcz11_1⟩ := bc2 BK192.out
      obtain ⟨hfz11_0, hfz11_1⟩ := bf2 BK192.out
      have p193 : 0 ≤ (x7_1 : Int) := of_decide_eq_true (by first | (with_reducible assumption) | assumption)
      have q193 : x7_1 < (l0_1.length : Int) := of_decide_eq_true (by first | (with_reducible assumption) | assumption)
      obtain ⟨ad193, A193_2, c193_2, e193, hx193_0, hx193_1, hx193_2, hl193_2, hi193_2⟩ := at_T43 (Kd.V_reads' HO_193001.out).2.2 x7_1 p193 q193
      cases e193
      obtain ⟨ce193, hce193, hMe193, hcc193⟩ := Kd.V_get HO_193001.out z43 x7_1 p193 (by first | exact q193 | exact of_decide_eq_true (by first | (with_reducible assumption) | assumption) | (have e_ := (Kd.V_reads' HO_193001.out).1; omega))
      obtain ⟨ua193_2, uc193_2, rfl, ul193_2, ge193_2⟩ := k43_openF hMe193
      have hv193_2 := hcc193 2 _ rfl
      rw [add_field _ _ 2 (by omega)] at hv193_2
      replace hv193_2 := Option.some.inj (hv193_2.symm.trans hx193_2)
      injection hv193_2 with hva_ hvn_ hvc_
      rw [hva_] at ge193_2
      rw [hvc_] at ul193_2
      have HL193_2 := Aside0.mk (show Kd.V (Kd.int .i64) 3 _ w.heap.size _ _ ((rd_T43 l0_1 x7_1).f2) from Kd.V_mk ul193_2 ge193_2)
      clear hva_ hvn_ hvc_ ge193_2 ul193_2
      clear hcc193 hce193
      have HR193_2 := Aside0.mk hi193_2
      have HC193_2 := Aside0.mk hl193_2
      clear hi193_2 hl193_2
      replace p193 := eq_true p193
      replace q193 := eq_true q193
      go_wp2
      go_roundg k1
      case measure => have := HK1.out; omega
      case rel => exact ⟨(wrap64 (x7_1 + 1)), (by first | rfl | (simp; done) | (simp [*]; done)), H', ⟨by have := HK1.out; omega⟩, ⟨by (with_reducible repeat (first | apply Kd.V_alloc | apply Kd.V_drewN | apply Kd.V_drew)); exact HO_193001.out⟩, ⟨bg BK192.out⟩, ⟨bs HB.out⟩⟩
    ·
     rw [if_neg c6] at H
     exact absurd H (by simp)
   ·
    rw [if_neg c5] at H
    have c5b0 : decide (x7_1 < (l0_1.length : Int)) = false := decide_eq_false c5
    clear c5
    obtain rfl := Option.some.inj H
    obtain ⟨hcz12_0, hcz12_1⟩ := bc2 BK192.out
    obtain ⟨hfz12_0, hfz12_1⟩ := bf2 BK192.out
    go_wp2
    go_ret
    exact ⟨_, by first | rfl | (simp [errW_none, errW_some] <;> rfl) | (simp [*, errW_none, errW_some] <;> rfl), Kd.V_mono (Kd.R_V (show Kd.R (Kd.int .i64) 3 wr w.heap.size (fun k_ => w.heap.size ≤ k_) (.slice none 0 0) ([] : List Int) from Kd.R_nil _ _ _ _ _)) (fun k_ hk => .inr hk), bs HB.out⟩

end Go.Proofs.Yteifekndhgkgcaa.H
