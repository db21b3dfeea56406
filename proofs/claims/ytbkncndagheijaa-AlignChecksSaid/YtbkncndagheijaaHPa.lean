/- The tables of both alignments hold the distances of the rests, for lists of any length up to the limit; plain law over the printed functions. -/
import Derived.Test.YtbkncndagheijaaHLev
import Derived.Test.YtbkncndagheijaaH3
import Derived.Test.YtbkncndagheijaaH7
import Derived.Test.YtbkncndagheijaaHDist
namespace Go.Proofs.Ytbkncndagheijaa.H
open Go.RowKit Go.Proofs.YtbkncndagheijaaW.PrintWords Go.Proofs.YtbkncndagheijaaW.PrintLast Go.Proofs.Ytbkncndagheijaa.Lev
/-- the elements, as lists of bytes -/
def Ls (a : List ByteArray) : List (List UInt8) := a.map ByteArray.toList
theorem Ls_length (a : List ByteArray) : (Ls a).length = a.length := by simp [Ls]
/-- the distance of the rests from i and from j on -/
def sd (a b : List ByteArray) (i j : Nat) : Nat := lev ((Ls a).drop i) ((Ls b).drop j)
theorem Ls_drop (a : List ByteArray) (i : Nat) (h : i < a.length) : (Ls a).drop i = (rdOf ByteArray.empty a i).toList :: (Ls a).drop (i + 1) := by
  have h' : i < (Ls a).length := by rw [Ls_length]; exact h
  rw [List.drop_eq_getElem_cons h']
  congr 1
  simp only [Ls, List.getElem_map, rdOf, Int.toNat_natCast]
  rw [List.getD_eq_getElem?_getD, List.getElem?_eq_getElem h, Option.getD_some]
theorem sd_endL (a b : List ByteArray) (j : Nat) : sd a b a.length j = b.length - j := by
  unfold sd
  rw [List.drop_of_length_le (by rw [Ls_length]; omega), lev_nil, List.length_drop, Ls_length]
theorem sd_endR (a b : List ByteArray) (i : Nat) : sd a b i b.length = a.length - i := by
  unfold sd
  rw [List.drop_of_length_le (l := Ls b) (by rw [Ls_length]; omega), lev_nil', List.length_drop, Ls_length]
theorem sd_eq {a b : List ByteArray} {i j : Nat} (hi : i < a.length) (hj : j < b.length) (h : (rdOf ByteArray.empty a i).toList = (rdOf ByteArray.empty b j).toList) : sd a b i j = sd a b (i + 1) (j + 1) := by
  unfold sd
  rw [Ls_drop a i hi, Ls_drop b j hj, h, lev_eq]
theorem sd_ne {a b : List ByteArray} {i j : Nat} (hi : i < a.length) (hj : j < b.length) (h : (rdOf ByteArray.empty a i).toList ≠ (rdOf ByteArray.empty b j).toList) : sd a b i j = 1 + min (sd a b (i + 1) j) (sd a b i (j + 1)) := by
  unfold sd
  rw [Ls_drop a i hi, Ls_drop b j hj, lev_ne h]
theorem sd_le (a b : List ByteArray) (i j : Nat) : sd a b i j ≤ a.length + b.length := by
  unfold sd
  have := lev_bound ((Ls a).drop i) ((Ls b).drop j)
  simp only [List.length_drop, Ls_length] at this
  omega
/-- a row of the table, right from the place d on -/
def Row (a b : List ByteArray) (r : Nat) (row : List Int) (d : Nat) : Prop := row.length = b.length + 1 ∧ ∀ j, d ≤ j → j ≤ b.length → row.getD j 0 = sd a b r j
/-- the table, right from the row i on -/
def Tab (a b : List ByteArray) (T : List (List Int)) (i : Nat) : Prop := T.length = a.length + 1 ∧ ∀ r, i ≤ r → r ≤ a.length → Row a b r (T.getD r []) 0
theorem getD_set_same {α : Type} (l : List α) (i : Nat) (v d : α) (h : i < l.length) : (l.set i v).getD i d = v := by
  rw [List.getD_eq_getElem?_getD, List.getElem?_set_self h, Option.getD_some]
theorem getD_set_other {α : Type} (l : List α) (i j : Nat) (v d : α) (h : i ≠ j) : (l.set i v).getD j d = l.getD j d := by
  rw [List.getD_eq_getElem?_getD, List.getElem?_set_ne h, List.getD_eq_getElem?_getD]
theorem Row.put {a b : List ByteArray} {r d : Nat} {row : List Int} (h : Row a b r row (d + 1)) (hd : d ≤ b.length) {v : Int} (hv : v = sd a b r d) : Row a b r (row.set d v) d := by
  refine ⟨by rw [List.length_set]; exact h.1, fun j h1 h2 => ?_⟩
  by_cases e : d = j
  · subst e
    rw [getD_set_same _ _ _ _ (by rw [h.1]; omega), hv]
  · rw [getD_set_other _ _ _ _ _ e]
    exact h.2 j (by omega) h2
theorem Tab.put {a b : List ByteArray} {i : Nat} {T : List (List Int)} {row : List Int} (h : Tab a b T (i + 1)) (hi : i ≤ a.length) (hr : Row a b i row 0) : Tab a b (T.set i row) i := by
  refine ⟨by rw [List.length_set]; exact h.1, fun r h1 h2 => ?_⟩
  by_cases e : i = r
  · subst e
    rw [getD_set_same _ _ _ _ (by rw [h.1]; omega)]
    exact hr
  · rw [getD_set_other _ _ _ _ _ e]
    exact h.2 r (by omega) h2
theorem rd_nat (xs : List Int) (j : Nat) : rd xs (j : Int) = xs.getD j 0 := by simp [rd]
theorem wr_in {n : Int} (h : -9223372036854775808 ≤ n ∧ n ≤ 9223372036854775807) : wrap64 n = n := by unfold wrap64; omega
theorem getD_rep (n j : Nat) : (List.replicate n (0 : Int)).getD j 0 = 0 := by
  rw [List.getD_eq_getElem?_getD]
  by_cases h : j < n
  · rw [List.getElem?_replicate, if_pos h, Option.getD_some]
  · rw [List.getElem?_replicate, if_neg h, Option.getD_none]
section
variable {a b : List ByteArray} (ha : a.length ≤ 100000) (hb : b.length ≤ 100000)
include ha hb
theorem rests_l1 {i : Nat} (hi : i ≤ a.length) (next : ∀ T, Tab a b T i → ∃ R, Tab a b R 0 ∧ Ev (fun k => align_rests.l0 k a b T ((i : Int) - 1)) R) :
    ∀ (d : Nat) (T : List (List Int)), d ≤ b.length + 1 → Tab a b T (i + 1) → Row a b i (T.getD i []) d → ∃ R, Tab a b R 0 ∧ Ev (fun k => align_rests.l1 k a b T (i : Int) ((d : Int) - 1)) R := by
  intro d
  induction d with
  | zero =>
    intro T _ hT hR
    have hT' : Tab a b T i := by
      refine ⟨hT.1, fun r h1 h2 => ?_⟩
      by_cases e : i = r
      · subst e; exact hR
      · exact hT.2 r (by omega) h2
    obtain ⟨R, hR, he⟩ := next T hT'
    refine ⟨R, hR, Ev.step (fun k => ?_) he⟩
    simp only [align_rests.l1]
    rw [if_neg (by omega), wr_in (by omega)]
  | succ d ih =>
    intro T hd hT hR
    have e1 : ((d + 1 : Nat) : Int) - 1 = (d : Int) := by omega
    rw [e1]
    have hTl := hT.1
    have hRl : ((rd_L3 T (i : Int)).length : Int) = b.length + 1 := by
      have := hR.1
      simp only [rd_L3, Int.toNat_natCast]
      omega
    have hset : ∀ v : Int, v = sd a b i d → ∃ R, Tab a b R 0 ∧ Ev (fun k => align_rests.l1 k a b (T.set (i : Int).toNat ((rd_L3 T (i : Int)).set (d : Int).toNat v)) (i : Int) (wrap64 ((d : Int) - 1))) R := by
      intro v hv
      rw [wr_in (by omega), Int.toNat_natCast, Int.toNat_natCast]
      have hput := hR.put (by omega) hv
      apply ih _ (by omega)
      · refine ⟨by rw [List.length_set]; exact hTl, fun r h1 h2 => ?_⟩
        rw [getD_set_other _ _ _ _ _ (by omega)]
        exact hT.2 r h1 h2
      · rw [getD_set_same _ _ _ _ (by omega)]
        simp only [rd_L3, Int.toNat_natCast]
        exact hput
    by_cases c1 : i = a.length
    · obtain ⟨R, hRR, he⟩ := hset (wrap64 ((b.length : Int) - d)) (by rw [wr_in (by omega), c1, sd_endL]; omega)
      refine ⟨R, hRR, Ev.step (fun k => ?_) he⟩
      simp only [align_rests.l1]
      rw [if_pos (by omega), if_pos (by omega), if_pos (by omega), if_pos (by omega), if_pos (by omega), if_pos (by omega)]
    · by_cases c2 : d = b.length
      · obtain ⟨R, hRR, he⟩ := hset (wrap64 ((a.length : Int) - i)) (by rw [wr_in (by omega), c2, sd_endR]; omega)
        refine ⟨R, hRR, Ev.step (fun k => ?_) he⟩
        simp only [align_rests.l1]
        rw [if_pos (by omega), if_neg (by omega), if_pos (by omega), if_pos (by omega), if_pos (by omega), if_pos (by omega), if_pos (by omega)]
      · have hrow := hT.2 (i + 1) (by omega) (by omega)
        have w1 : wrap64 ((i : Int) + 1) = ((i + 1 : Nat) : Int) := by rw [wr_in (by omega)]; omega
        have w2 : wrap64 ((d : Int) + 1) = ((d + 1 : Nat) : Int) := by rw [wr_in (by omega)]; omega
        have hNl : ((rd_L3 T ((i + 1 : Nat) : Int)).length : Int) = b.length + 1 := by
          have := hrow.1
          simp only [rd_L3, Int.toNat_natCast]
          omega
        have v1 : rd (rd_L3 T ((i + 1 : Nat) : Int)) ((d + 1 : Nat) : Int) = sd a b (i + 1) (d + 1) := by
          rw [rd_nat]; simp only [rd_L3, Int.toNat_natCast]; exact hrow.2 _ (by omega) (by omega)
        have v2 : rd (rd_L3 T ((i + 1 : Nat) : Int)) (d : Int) = sd a b (i + 1) d := by
          rw [rd_nat]; simp only [rd_L3, Int.toNat_natCast]; exact hrow.2 _ (by omega) (by omega)
        have v3 : rd (rd_L3 T (i : Int)) ((d + 1 : Nat) : Int) = sd a b i (d + 1) := by
          rw [rd_nat]; simp only [rd_L3, Int.toNat_natCast]; exact hR.2 _ (by omega) (by omega)
        by_cases c3 : (rdOf ByteArray.empty a i).toList = (rdOf ByteArray.empty b d).toList
        · obtain ⟨R, hRR, he⟩ := hset _ (v1.trans (by rw [sd_eq (by omega) (by omega) c3]))
          refine ⟨R, hRR, Ev.step (fun k => ?_) he⟩
          simp only [align_rests.l1, w1, w2]
          rw [if_pos (by omega), if_neg (by omega), if_neg (by omega), if_pos (by omega), if_pos (by omega), if_pos (by omega), if_pos (by omega), if_pos c3, if_pos (by omega), if_pos (by omega), if_pos (by omega), if_pos (by omega), if_pos (by omega), if_pos (by omega)]
        · have s1 := sd_le a b (i + 1) d
          have s2 := sd_le a b i (d + 1)
          have hm : mn (sd a b (i + 1) d : Int) (sd a b i (d + 1) : Int) = ((min (sd a b (i + 1) d) (sd a b i (d + 1)) : Nat) : Int) := by unfold mn; split <;> omega
          obtain ⟨R, hRR, he⟩ := hset (wrap64 (1 + mn (rd (rd_L3 T ((i + 1 : Nat) : Int)) (d : Int)) (rd (rd_L3 T (i : Int)) ((d + 1 : Nat) : Int)))) (by
            rw [v2, v3, sd_ne (by omega) (by omega) c3, hm, wr_in (by omega)]; omega)
          refine ⟨R, hRR, Ev.step (fun k => ?_) he⟩
          simp only [align_rests.l1, w1, w2]
          rw [if_pos (by omega), if_neg (by omega), if_neg (by omega), if_pos (by omega), if_pos (by omega), if_pos (by omega), if_pos (by omega), if_neg c3, if_pos (by omega), if_pos (by omega), if_pos (by omega), if_pos (by omega), if_pos (by omega), if_pos (by omega), if_pos (by omega)]
theorem rests_l0 : ∀ (i : Nat) (T : List (List Int)), i ≤ a.length + 1 → Tab a b T i → ∃ R, Tab a b R 0 ∧ Ev (fun k => align_rests.l0 k a b T ((i : Int) - 1)) R := by
  intro i
  induction i with
  | zero =>
    intro T _ hT
    refine ⟨T, hT, Ev.step (f := fun _ => some T) (fun k => ?_) (Ev.now T)⟩
    simp only [align_rests.l0]
    rw [if_neg (by omega)]
  | succ i ih =>
    intro T hi hT
    have e1 : ((i + 1 : Nat) : Int) - 1 = (i : Int) := by omega
    rw [e1]
    have hTl := hT.1
    obtain ⟨R, hRR, he⟩ := rests_l1 ha hb (i := i) (by omega) (fun T hT => ih T (by omega) hT) (b.length + 1) (T.set i (List.replicate (b.length + 1) 0)) (by omega)
      ⟨by rw [List.length_set]; exact hTl, fun r h1 h2 => by rw [getD_set_other _ _ _ _ _ (by omega)]; exact hT.2 r h1 h2⟩
      (by rw [getD_set_same _ _ _ _ (by omega)]; exact ⟨by rw [List.length_replicate], fun j h1 h2 => by omega⟩)
    refine ⟨R, hRR, Ev.step (fun k => ?_) he⟩
    have w1 : wrap64 ((b.length : Int) + 1) = ((b.length + 1 : Nat) : Int) := by rw [wr_in (by omega)]; omega
    have w2 : ((b.length + 1 : Nat) : Int) - 1 = b.length := by omega
    simp only [align_rests.l0, w1, w2, Int.toNat_natCast]
    rw [if_pos (by omega), if_pos (by omega), if_pos (by omega), if_pos (by omega), if_pos (by omega)]
theorem rests_ev : ∃ R, Tab a b R 0 ∧ Ev (fun k => align_rests.f k a b) R := by
  obtain ⟨R, hR, he⟩ := rests_l0 ha hb (a.length + 1) (List.replicate (a.length + 1) []) (by omega) ⟨by rw [List.length_replicate], fun r h1 h2 => by omega⟩
  refine ⟨R, hR, Ev.congr (fun k => ?_) he⟩
  have w1 : wrap64 ((a.length : Int) + 1) = ((a.length + 1 : Nat) : Int) := by rw [wr_in (by omega)]; omega
  have w2 : ((a.length + 1 : Nat) : Int) - 1 = a.length := by omega
  simp only [align_rests.f, w1, w2, Int.toNat_natCast]
  rw [if_pos (by omega), if_pos (by omega)]
end
end Go.Proofs.Ytbkncndagheijaa.H
