/- The reference's table of costs holds the distances of the rests; plain law over the printed functions. -/
import Derived.Test.YtbkncndagheijaaHPa
namespace Go.Proofs.Ytbkncndagheijaa.H
open Go.RowKit Go.Proofs.YtbkncndagheijaaW.PrintWords Go.Proofs.YtbkncndagheijaaW.PrintLast Go.Proofs.Ytbkncndagheijaa.Lev
section
variable {a b : List ByteArray} (ha : a.length ≤ 100000) (hb : b.length ≤ 100000)
include ha hb
theorem costs_l1 {i : Nat} (hi : i ≤ a.length) {T : List (List Int)} (hT : Tab a b T (i + 1)) (next : ∀ T, Tab a b T i → ∃ R, Tab a b R 0 ∧ Ev (fun k => signalbenchref54_costs.l0 k a b T ((i : Int) - 1)) R) :
    ∀ (d : Nat) (row : List Int), d ≤ b.length + 1 → Row a b i row d → ∃ R, Tab a b R 0 ∧ Ev (fun k => signalbenchref54_costs.l1 k a b T (i : Int) row ((d : Int) - 1)) R := by
  intro d
  have hTl := hT.1
  induction d with
  | zero =>
    intro row _ hR
    obtain ⟨R, hRR, he⟩ := next _ (hT.put hi hR)
    refine ⟨R, hRR, Ev.step (fun k => ?_) he⟩
    simp only [signalbenchref54_costs.l1]
    rw [if_neg (by omega), if_pos (by omega), if_pos (by omega), wr_in (by omega), Int.toNat_natCast]
  | succ d ih =>
    intro row hd hR
    have e1 : ((d + 1 : Nat) : Int) - 1 = (d : Int) := by omega
    rw [e1]
    have hRl : (row.length : Int) = b.length + 1 := by have := hR.1; omega
    have hset : ∀ v : Int, v = sd a b i d → ∃ R, Tab a b R 0 ∧ Ev (fun k => signalbenchref54_costs.l1 k a b T (i : Int) (row.set (d : Int).toNat v) (wrap64 ((d : Int) - 1))) R := by
      intro v hv
      rw [wr_in (by omega), Int.toNat_natCast]
      exact ih _ (by omega) (hR.put (by omega) hv)
    by_cases c1 : i = a.length
    · obtain ⟨R, hRR, he⟩ := hset (wrap64 ((b.length : Int) - d)) (by rw [wr_in (by omega), c1, sd_endL]; omega)
      refine ⟨R, hRR, Ev.step (fun k => ?_) he⟩
      simp only [signalbenchref54_costs.l1]
      rw [if_pos (by omega), if_pos (by omega), if_pos (by omega), if_pos (by omega)]
    · by_cases c2 : d = b.length
      · obtain ⟨R, hRR, he⟩ := hset (wrap64 ((a.length : Int) - i)) (by rw [wr_in (by omega), c2, sd_endR]; omega)
        refine ⟨R, hRR, Ev.step (fun k => ?_) he⟩
        simp only [signalbenchref54_costs.l1]
        rw [if_pos (by omega), if_neg (by omega), if_pos (by omega), if_pos (by omega), if_pos (by omega)]
      · have hrow := hT.2 (i + 1) (by omega) (by omega)
        have w1 : wrap64 ((i : Int) + 1) = ((i + 1 : Nat) : Int) := by rw [wr_in (by omega)]; omega
        have w2 : wrap64 ((d : Int) + 1) = ((d + 1 : Nat) : Int) := by rw [wr_in (by omega)]; omega
        have hNl : ((rd_L3 T ((i + 1 : Nat) : Int)).length : Int) = b.length + 1 := by
          have := hrow.1
          simp only [rd_L3, Int.toNat_natCast]
          omega
        have v1 : rd (rd_L3 T ((i + 1 : Nat) : Int)) ((d + 1 : Nat) : Int) = sd a b (i + 1) (d + 1) := by
          rw [rd_nat]; simp only [rd_L3, Int.toNat_natCast]; exact hrow.2 _ (by omega) (by omega)
        have v2 : rd (rd_L3 T ((i + 1 : Nat) : Int)) (d : Int) = sd a b (i + 1) d := by
          rw [rd_nat]; simp only [rd_L3, Int.toNat_natCast]; exact hrow.2 _ (by omega) (by omega)
        have v3 : rd row ((d + 1 : Nat) : Int) = sd a b i (d + 1) := by
          rw [rd_nat]; exact hR.2 _ (by omega) (by omega)
        by_cases c3 : (rdOf ByteArray.empty a i).toList = (rdOf ByteArray.empty b d).toList
        · obtain ⟨R, hRR, he⟩ := hset _ (v1.trans (by rw [sd_eq (by omega) (by omega) c3]))
          refine ⟨R, hRR, Ev.step (fun k => ?_) he⟩
          simp only [signalbenchref54_costs.l1, w1, w2]
          rw [if_pos (by omega), if_neg (by omega), if_neg (by omega), if_pos (by omega), if_pos (by omega), if_pos (by omega), if_pos (by omega), if_pos c3, if_pos (by omega), if_pos (by omega), if_pos (by omega), if_pos (by omega), if_pos (by omega)]
        · have s1 := sd_le a b (i + 1) d
          have s2 := sd_le a b i (d + 1)
          by_cases c4 : sd a b (i + 1) d ≤ sd a b i (d + 1)
          · obtain ⟨R, hRR, he⟩ := hset (wrap64 (rd (rd_L3 T ((i + 1 : Nat) : Int)) (d : Int) + 1)) (by
              rw [v2, sd_ne (by omega) (by omega) c3, wr_in (by omega)]; omega)
            refine ⟨R, hRR, Ev.step (fun k => ?_) he⟩
            simp only [signalbenchref54_costs.l1, w1, w2]
            rw [if_pos (by omega), if_neg (by omega), if_neg (by omega), if_pos (by omega), if_pos (by omega), if_pos (by omega), if_pos (by omega), if_neg c3, if_pos (by omega), if_pos (by omega), if_pos (by omega), if_pos (by omega), if_pos (by omega), if_pos (by omega), if_pos (by omega)]
          · obtain ⟨R, hRR, he⟩ := hset (wrap64 (rd row ((d + 1 : Nat) : Int) + 1)) (by
              rw [v3, sd_ne (by omega) (by omega) c3, wr_in (by omega)]; omega)
            refine ⟨R, hRR, Ev.step (fun k => ?_) he⟩
            simp only [signalbenchref54_costs.l1, w1, w2]
            rw [if_pos (by omega), if_neg (by omega), if_neg (by omega), if_pos (by omega), if_pos (by omega), if_pos (by omega), if_pos (by omega), if_neg c3, if_pos (by omega), if_pos (by omega), if_pos (by omega), if_pos (by omega), if_pos (by omega), if_neg (by omega), if_pos (by omega)]
theorem costs_l0 : ∀ (i : Nat) (T : List (List Int)), i ≤ a.length + 1 → Tab a b T i → ∃ R, Tab a b R 0 ∧ Ev (fun k => signalbenchref54_costs.l0 k a b T ((i : Int) - 1)) R := by
  intro i
  induction i with
  | zero =>
    intro T _ hT
    refine ⟨T, hT, Ev.step (f := fun _ => some T) (fun k => ?_) (Ev.now T)⟩
    simp only [signalbenchref54_costs.l0]
    rw [if_neg (by omega)]
  | succ i ih =>
    intro T hi hT
    have e1 : ((i + 1 : Nat) : Int) - 1 = (i : Int) := by omega
    rw [e1]
    obtain ⟨R, hRR, he⟩ := costs_l1 ha hb (i := i) (by omega) hT (fun T hT => ih T (by omega) hT) (b.length + 1) (List.replicate (b.length + 1) 0) (by omega)
      ⟨by rw [List.length_replicate], fun j h1 h2 => by omega⟩
    refine ⟨R, hRR, Ev.step (fun k => ?_) he⟩
    have w1 : wrap64 ((b.length : Int) + 1) = ((b.length + 1 : Nat) : Int) := by rw [wr_in (by omega)]; omega
    have w2 : ((b.length + 1 : Nat) : Int) - 1 = b.length := by omega
    simp only [signalbenchref54_costs.l0, w1, w2, Int.toNat_natCast]
    rw [if_pos (by omega), if_pos (by omega), if_pos (by omega)]
theorem costs_ev : ∃ R, Tab a b R 0 ∧ Ev (fun k => signalbenchref54_costs.f k a b) R := by
  obtain ⟨R, hR, he⟩ := costs_l0 ha hb (a.length + 1) (List.replicate (a.length + 1) []) (by omega) ⟨by rw [List.length_replicate], fun r h1 h2 => by omega⟩
  refine ⟨R, hR, Ev.congr (fun k => ?_) he⟩
  have w1 : wrap64 ((a.length : Int) + 1) = ((a.length + 1 : Nat) : Int) := by rw [wr_in (by omega)]; omega
  have w2 : ((a.length + 1 : Nat) : Int) - 1 = a.length := by omega
  simp only [signalbenchref54_costs.f, w1, w2, Int.toNat_natCast]
  rw [if_pos (by omega), if_pos (by omega)]
end
end Go.Proofs.Ytbkncndagheijaa.H
