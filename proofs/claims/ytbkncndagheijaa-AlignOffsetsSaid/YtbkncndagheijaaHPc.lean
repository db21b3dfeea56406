/- Both alignments are one and the same list, it is an alignment, and its cost is the distance; plain law over the printed functions. -/
import Derived.Test.YtbkncndagheijaaHPb
import Derived.Test.YtbkncndagheijaaH4
import Derived.Test.YtbkncndagheijaaH8
namespace Go.Proofs.Ytbkncndagheijaa.H
open Go.RowKit Go.Proofs.YtbkncndagheijaaW.PrintWords Go.Proofs.YtbkncndagheijaaW.PrintLast Go.Proofs.Ytbkncndagheijaa.Lev
/-- an alignment of the rests from i and from j on, with its cost -/
inductive PA (a b : List ByteArray) : Nat → Nat → List S43 → Nat → Prop
  | done : PA a b a.length b.length [] 0
  | both {i j n : Nat} {l : List S43} : i < a.length → j < b.length → (rdOf ByteArray.empty a i).toList = (rdOf ByteArray.empty b j).toList → PA a b (i + 1) (j + 1) l n → PA a b i j (⟨i, j⟩ :: l) n
  | left {i j n : Nat} {l : List S43} : i < a.length → PA a b (i + 1) j l n → PA a b i j (⟨i, -1⟩ :: l) (n + 1)
  | right {i j n : Nat} {l : List S43} : j < b.length → PA a b i (j + 1) l n → PA a b i j (⟨-1, j⟩ :: l) (n + 1)
theorem PA.al {a b : List ByteArray} {i j n : Nat} {l : List S43} (h : PA a b i j l n) : Al ((Ls a).drop i) ((Ls b).drop j) n := by
  induction h with
  | done => rw [List.drop_of_length_le (by rw [Ls_length]; omega), List.drop_of_length_le (by rw [Ls_length]; omega)]; exact .nil
  | both hi hj e _ ih => rw [Ls_drop a _ hi, Ls_drop b _ hj, e]; exact .both _ ih
  | left hi _ ih => rw [Ls_drop a _ hi]; exact .left _ ih
  | right hj _ ih => rw [Ls_drop b _ hj]; exact .right _ ih
theorem PA.least {a b : List ByteArray} {i j n : Nat} {l : List S43} (h : PA a b i j l n) : sd a b i j ≤ n := lev_le h.al
theorem PA.len {a b : List ByteArray} {i j n : Nat} {l : List S43} (h : PA a b i j l n) : l.length + i + j ≤ a.length + b.length ∧ n ≤ l.length := by
  induction h with
  | done => simp
  | both hi hj e _ ih => simp only [List.length_cons]; omega
  | left hi _ ih => simp only [List.length_cons]; omega
  | right hj _ ih => simp only [List.length_cons]; omega
theorem pairs_up {a b : List ByteArray} {i j : Nat} (hi : i < a.length) (hj : j < b.length) {T : List (List Int)} {out : List S43} {r : List S43 × Int}
    (h : Ev (fun k => align_Pairs.j2 k a b T out (i : Int) (j : Int) ((rdOf ByteArray.empty a i).toList == (rdOf ByteArray.empty b j).toList)) r) : Ev (fun k => align_Pairs.l0 k a b T out (i : Int) (j : Int)) r := by
  refine Ev.step (f := fun k => align_Pairs.j1 k a b T out (i : Int) (j : Int) true) (fun k => ?_) (Ev.step (fun k => ?_) h)
  · simp only [align_Pairs.l0]
    rw [if_pos (by omega)]
  · simp only [align_Pairs.j1]
    rw [if_pos trivial, if_pos (by omega), if_pos (by omega), if_pos (by omega), if_pos (by omega)]
theorem pairs_up' {a b : List ByteArray} {i j : Nat} (hi : i < a.length) (hj : j < b.length) {U : List (List Int)} {out : List S43} {r : List S43 × Int}
    (h : Ev (fun k => signalbenchref54_Pairs.j3 k a b U out (i : Int) (j : Int) ((rdOf ByteArray.empty a i).toList == (rdOf ByteArray.empty b j).toList)) r) : Ev (fun k => signalbenchref54_Pairs.l0 k a b U out (i : Int) (j : Int)) r := by
  refine Ev.step (f := fun k => signalbenchref54_Pairs.j2 k a b U out (i : Int) (j : Int) true) (fun k => ?_) (Ev.step (fun k => ?_) h)
  · simp only [signalbenchref54_Pairs.l0]
    rw [if_pos (by omega)]
  · simp only [signalbenchref54_Pairs.j2]
    rw [if_pos trivial, if_pos (by omega), if_pos (by omega), if_pos (by omega), if_pos (by omega)]
section
variable {a b : List ByteArray} (ha : a.length ≤ 100000) (hb : b.length ≤ 100000) {T U : List (List Int)} (hT : Tab a b T 0) (hU : Tab a b U 0)
include ha hb hT hU
set_option maxHeartbeats 4000000 in
theorem pairs_from : ∀ (N i j : Nat), i ≤ a.length → j ≤ b.length → (a.length - i) + (b.length - j) = N → ∃ P, PA a b i j P (sd a b i j) ∧
    (∀ out : List S43, out.length ≤ i + j → Ev (fun k => align_Pairs.l0 k a b T out (i : Int) (j : Int)) (out ++ P, 0)) ∧
    (∀ out : List S43, out.length ≤ i + j → Ev (fun k => signalbenchref54_Pairs.l0 k a b U out (i : Int) (j : Int)) (out ++ P, 0)) := by
  intro N
  induction N using Nat.strongRecOn with
  | ind N ih =>
  intro i j hi hj hN
  have hTl := hT.1
  have hUl := hU.1
  by_cases c0 : i = a.length ∧ j = b.length
  · obtain ⟨rfl, rfl⟩ := c0
    refine ⟨[], by rw [sd_endL, Nat.sub_self]; exact .done, fun out _ => ?_, fun out _ => ?_⟩
    · rw [List.append_nil]
      refine Ev.step (f := fun k => align_Pairs.j1 k a b T out (a.length : Int) (b.length : Int) (decide ((b.length : Int) < b.length))) (fun k => ?_) (Ev.step (f := fun _ => some (out, 0)) (fun k => ?_) (Ev.now _))
      · simp only [align_Pairs.l0]; rw [if_neg (by omega)]
      · simp only [align_Pairs.j1]; rw [if_neg (by simp)]
    · rw [List.append_nil]
      refine Ev.step (f := fun k => signalbenchref54_Pairs.j2 k a b U out (a.length : Int) (b.length : Int) (decide ((b.length : Int) < b.length))) (fun k => ?_) (Ev.step (f := fun _ => some (out, 0)) (fun k => ?_) (Ev.now _))
      · simp only [signalbenchref54_Pairs.l0]; rw [if_neg (by omega)]
      · simp only [signalbenchref54_Pairs.j2]; rw [if_neg (by simp)]
  have w1 : Aside0 (wrap64 ((i : Int) + 1) = ((i + 1 : Nat) : Int)) := ⟨by rw [wr_in (by omega)]; omega⟩
  have w2 : Aside0 (wrap64 ((j : Int) + 1) = ((j + 1 : Nat) : Int)) := ⟨by rw [wr_in (by omega)]; omega⟩
  by_cases c1 : i < a.length ∧ j < b.length
  · have up1 := fun out r => pairs_up (T := T) (out := out) (r := r) c1.1 c1.2
    have up2 := fun out r => pairs_up' (U := U) (out := out) (r := r) c1.1 c1.2
    by_cases c2 : (rdOf ByteArray.empty a i).toList = (rdOf ByteArray.empty b j).toList
    · obtain ⟨P, hP, h1, h2⟩ := ih (a.length - (i + 1) + (b.length - (j + 1))) (by omega) (i + 1) (j + 1) (by omega) (by omega) rfl
      refine ⟨⟨i, j⟩ :: P, by rw [sd_eq c1.1 c1.2 c2]; exact .both c1.1 c1.2 c2 hP, fun out ho => up1 _ _ ?_, fun out ho => up2 _ _ ?_⟩
      · have h := h1 (out ++ [⟨i, j⟩]) (by simp only [List.length_append, List.length_singleton]; omega)
        rw [List.append_assoc, List.singleton_append] at h
        refine Ev.step (fun k => ?_) h
        simp only [align_Pairs.j2, w1.out, w2.out]
        rw [if_pos (beq_iff_eq.2 c2), if_pos (by omega)]
      · have h := h2 (out ++ [⟨i, j⟩]) (by simp only [List.length_append, List.length_singleton]; omega)
        rw [List.append_assoc, List.singleton_append] at h
        refine Ev.step (fun k => ?_) h
        simp only [signalbenchref54_Pairs.j3, w1.out, w2.out]
        rw [if_pos (beq_iff_eq.2 c2), if_pos (by omega)]
    · have rT := hT.2 i (by omega) (by omega)
      have rT' := hT.2 (i + 1) (by omega) (by omega)
      have rU := hU.2 i (by omega) (by omega)
      have rU' := hU.2 (i + 1) (by omega) (by omega)
      have lT : ((rd_L3 T (i : Int)).length : Int) = b.length + 1 := by have := rT.1; simp only [rd_L3, Int.toNat_natCast]; omega
      have lT' : ((rd_L3 T ((i + 1 : Nat) : Int)).length : Int) = b.length + 1 := by have := rT'.1; simp only [rd_L3, Int.toNat_natCast]; omega
      have lU : ((rd_L3 U (i : Int)).length : Int) = b.length + 1 := by have := rU.1; simp only [rd_L3, Int.toNat_natCast]; omega
      have lU' : ((rd_L3 U ((i + 1 : Nat) : Int)).length : Int) = b.length + 1 := by have := rU'.1; simp only [rd_L3, Int.toNat_natCast]; omega
      have vT : rd (rd_L3 T (i : Int)) (j : Int) = sd a b i j := by rw [rd_nat]; simp only [rd_L3, Int.toNat_natCast]; exact rT.2 _ (by omega) (by omega)
      have vT' : rd (rd_L3 T ((i + 1 : Nat) : Int)) (j : Int) = sd a b (i + 1) j := by rw [rd_nat]; simp only [rd_L3, Int.toNat_natCast]; exact rT'.2 _ (by omega) (by omega)
      have vU : rd (rd_L3 U (i : Int)) (j : Int) = sd a b i j := by rw [rd_nat]; simp only [rd_L3, Int.toNat_natCast]; exact rU.2 _ (by omega) (by omega)
      have vU' : rd (rd_L3 U ((i + 1 : Nat) : Int)) (j : Int) = sd a b (i + 1) j := by rw [rd_nat]; simp only [rd_L3, Int.toNat_natCast]; exact rU'.2 _ (by omega) (by omega)
      have s1 := sd_le a b (i + 1) j
      have s2 := sd_ne c1.1 c1.2 c2
      have x1 : Aside0 (wrap64 (1 + (sd a b (i + 1) j : Int)) = 1 + sd a b (i + 1) j) := ⟨wr_in (by omega)⟩
      have x2 : Aside0 (wrap64 ((sd a b (i + 1) j : Int) + 1) = sd a b (i + 1) j + 1) := ⟨wr_in (by omega)⟩
      by_cases c3 : sd a b i j = 1 + sd a b (i + 1) j
      · obtain ⟨P, hP, h1, h2⟩ := ih (a.length - (i + 1) + (b.length - j)) (by omega) (i + 1) j (by omega) (by omega) rfl
        refine ⟨⟨i, -1⟩ :: P, by rw [c3, Nat.add_comm]; exact .left c1.1 hP, fun out ho => up1 _ _ ?_, fun out ho => up2 _ _ ?_⟩
        · have h := h1 (out ++ [⟨i, -1⟩]) (by simp only [List.length_append, List.length_singleton]; omega)
          rw [List.append_assoc, List.singleton_append] at h
          refine Ev.step (fun k => ?_) h
          simp only [align_Pairs.j2, w1.out, w2.out, vT, vT', x1.out]
          rw [if_neg (by rw [beq_iff_eq]; exact c2), if_neg (by omega), if_pos (by omega), if_pos (by omega), if_pos (by omega), if_pos (by omega), if_pos (by omega), if_pos (by omega), if_pos (by omega), if_pos (by omega), if_pos (by omega), if_pos (by omega)]
        · have h := h2 (out ++ [⟨i, -1⟩]) (by simp only [List.length_append, List.length_singleton]; omega)
          rw [List.append_assoc, List.singleton_append] at h
          refine Ev.step (fun k => ?_) h
          simp only [signalbenchref54_Pairs.j3, w1.out, w2.out, vU, vU', x2.out]
          rw [if_neg (by rw [beq_iff_eq]; exact c2), if_pos (by omega), if_pos (by omega), if_pos (by omega), if_pos (by omega), if_pos (by omega), if_pos (by omega), if_pos (by omega), if_pos (by omega), if_pos (by omega), if_pos (by omega)]
      · obtain ⟨P, hP, h1, h2⟩ := ih (a.length - i + (b.length - (j + 1))) (by omega) i (j + 1) (by omega) (by omega) rfl
        refine ⟨⟨-1, j⟩ :: P, by rw [show sd a b i j = sd a b i (j + 1) + 1 from by omega]; exact .right c1.2 hP, fun out ho => up1 _ _ ?_, fun out ho => up2 _ _ ?_⟩
        · have h := h1 (out ++ [⟨-1, j⟩]) (by simp only [List.length_append, List.length_singleton]; omega)
          rw [List.append_assoc, List.singleton_append] at h
          refine Ev.step (fun k => ?_) h
          simp only [align_Pairs.j2, w1.out, w2.out, vT, vT', x1.out]
          rw [if_neg (by rw [beq_iff_eq]; exact c2), if_neg (by omega), if_pos (by omega), if_pos (by omega), if_pos (by omega), if_pos (by omega), if_pos (by omega), if_pos (by omega), if_pos (by omega), if_pos (by omega), if_neg (by omega), if_pos (by omega)]
        · have h := h2 (out ++ [⟨-1, j⟩]) (by simp only [List.length_append, List.length_singleton]; omega)
          rw [List.append_assoc, List.singleton_append] at h
          refine Ev.step (fun k => ?_) h
          simp only [signalbenchref54_Pairs.j3, w1.out, w2.out, vU, vU', x2.out]
          rw [if_neg (by rw [beq_iff_eq]; exact c2), if_pos (by omega), if_pos (by omega), if_pos (by omega), if_pos (by omega), if_pos (by omega), if_pos (by omega), if_pos (by omega), if_pos (by omega), if_neg (by omega), if_pos (by omega)]
  · by_cases c4 : i < a.length
    · obtain rfl : j = b.length := by omega
      obtain ⟨P, hP, h1, h2⟩ := ih (a.length - (i + 1) + (b.length - b.length)) (by omega) (i + 1) b.length (by omega) (by omega) rfl
      have rU := hU.2 i (by omega) (by omega)
      have rU' := hU.2 (i + 1) (by omega) (by omega)
      have lU : ((rd_L3 U (i : Int)).length : Int) = b.length + 1 := by have := rU.1; simp only [rd_L3, Int.toNat_natCast]; omega
      have lU' : ((rd_L3 U ((i + 1 : Nat) : Int)).length : Int) = b.length + 1 := by have := rU'.1; simp only [rd_L3, Int.toNat_natCast]; omega
      have vU : rd (rd_L3 U (i : Int)) (b.length : Int) = sd a b i b.length := by rw [rd_nat]; simp only [rd_L3, Int.toNat_natCast]; exact rU.2 _ (by omega) (by omega)
      have vU' : rd (rd_L3 U ((i + 1 : Nat) : Int)) (b.length : Int) = sd a b (i + 1) b.length := by rw [rd_nat]; simp only [rd_L3, Int.toNat_natCast]; exact rU'.2 _ (by omega) (by omega)
      rw [sd_endR] at vU vU'
      have x2 : Aside0 (wrap64 (((a.length - (i + 1) : Nat) : Int) + 1) = ((a.length - (i + 1) : Nat) : Int) + 1) := ⟨wr_in (by omega)⟩
      rw [sd_endR] at hP ⊢
      refine ⟨⟨i, -1⟩ :: P, by rw [show a.length - i = a.length - (i + 1) + 1 from by omega]; exact .left c4 hP, fun out ho => ?_, fun out ho => ?_⟩
      · have h := h1 (out ++ [⟨i, -1⟩]) (by simp only [List.length_append, List.length_singleton]; omega)
        rw [List.append_assoc, List.singleton_append] at h
        refine Ev.step (f := fun k => align_Pairs.j1 k a b T out (i : Int) (b.length : Int) true) (fun k => ?_) (Ev.step (f := fun k => align_Pairs.j2 k a b T out (i : Int) (b.length : Int) false) (fun k => ?_) (Ev.step (fun k => ?_) h))
        · simp only [align_Pairs.l0]; rw [if_pos (by omega)]
        · simp only [align_Pairs.j1]; rw [if_pos trivial, if_pos (by omega), if_neg (by omega)]
        · simp only [align_Pairs.j2, w1.out]; rw [if_neg (by simp), if_pos trivial, if_pos (by omega)]
      · have h := h2 (out ++ [⟨i, -1⟩]) (by simp only [List.length_append, List.length_singleton]; omega)
        rw [List.append_assoc, List.singleton_append] at h
        refine Ev.step (f := fun k => signalbenchref54_Pairs.j2 k a b U out (i : Int) (b.length : Int) true) (fun k => ?_) (Ev.step (f := fun k => signalbenchref54_Pairs.j3 k a b U out (i : Int) (b.length : Int) false) (fun k => ?_) (Ev.step (fun k => ?_) h))
        · simp only [signalbenchref54_Pairs.l0]; rw [if_pos (by omega)]
        · simp only [signalbenchref54_Pairs.j2]; rw [if_pos trivial, if_pos (by omega), if_neg (by omega)]
        · simp only [signalbenchref54_Pairs.j3, w1.out, vU, vU', x2.out]
          rw [if_neg (by simp), if_pos (by omega), if_pos (by omega), if_pos (by omega), if_pos (by omega), if_pos (by omega), if_pos (by omega), if_pos (by omega), if_pos (by omega), if_pos (by omega), if_pos (by omega)]
    · obtain rfl : i = a.length := by omega
      have hjl : j < b.length := by omega
      obtain ⟨P, hP, h1, h2⟩ := ih (a.length - a.length + (b.length - (j + 1))) (by omega) a.length (j + 1) (by omega) (by omega) rfl
      rw [sd_endL] at hP ⊢
      refine ⟨⟨-1, j⟩ :: P, by rw [show b.length - j = b.length - (j + 1) + 1 from by omega]; exact .right hjl hP, fun out ho => ?_, fun out ho => ?_⟩
      · have h := h1 (out ++ [⟨-1, j⟩]) (by simp only [List.length_append, List.length_singleton]; omega)
        rw [List.append_assoc, List.singleton_append] at h
        refine Ev.step (f := fun k => align_Pairs.j1 k a b T out (a.length : Int) (j : Int) (decide ((j : Int) < b.length))) (fun k => ?_) (Ev.step (f := fun k => align_Pairs.j2 k a b T out (a.length : Int) (j : Int) false) (fun k => ?_) (Ev.step (fun k => ?_) h))
        · simp only [align_Pairs.l0]; rw [if_neg (by omega)]
        · simp only [align_Pairs.j1]; rw [if_pos (decide_eq_true (by omega)), if_neg (by omega)]
        · simp only [align_Pairs.j2, w2.out]; rw [if_neg (by simp), if_neg (by omega), if_neg (by omega), if_pos (by omega)]
      · have h := h2 (out ++ [⟨-1, j⟩]) (by simp only [List.length_append, List.length_singleton]; omega)
        rw [List.append_assoc, List.singleton_append] at h
        refine Ev.step (f := fun k => signalbenchref54_Pairs.j2 k a b U out (a.length : Int) (j : Int) (decide ((j : Int) < b.length))) (fun k => ?_) (Ev.step (f := fun k => signalbenchref54_Pairs.j3 k a b U out (a.length : Int) (j : Int) false) (fun k => ?_) (Ev.step (fun k => ?_) h))
        · simp only [signalbenchref54_Pairs.l0]; rw [if_neg (by omega)]
        · simp only [signalbenchref54_Pairs.j2]; rw [if_pos (decide_eq_true (by omega)), if_neg (by omega)]
        · simp only [signalbenchref54_Pairs.j3, w2.out]; rw [if_neg (by simp), if_neg (by omega), if_pos (by omega)]
end
end Go.Proofs.Ytbkncndagheijaa.H
