/- What feed.Merge comes to; no condition. -/
import Derived.Test.YtioedeglgljblaaHQBase
import Derived.Test.YtioedeglgljblaaH16
namespace Go.Proofs.Ytioedeglgljblaa.H
open Go.RowKit Go.Proofs.YtioedeglgljblaaW.PrintWords Go.Proofs.YtioedeglgljblaaW.PrintLast Go.Proofs.YtioedeglgljblaaW.PrintMore
set_option linter.unusedSimpArgs false
def joinsB (p x : S48) : Prop := plainB p = true ∧ plainB x = true ∧ p.f3 = x.f3 ∧ p.f2 = x.f1
instance (p x : S48) : Decidable (joinsB p x) := by unfold joinsB; infer_instance
def setTo (out : List S48) (v : Int) : List S48 :=
  match out.getLast? with
  | none => out
  | some z => out.dropLast ++ [⟨z.f0, z.f1, v, z.f3, z.f4, z.f5, z.f6⟩]
def mergeF : S48 → List S48 → List S48 → List S48
 | _, [], out => out
 | p, x :: l, out => mergeF x l (if joinsB p x then setTo out x.f2 else out ++ [x])
def mergeS : List S48 → List S48
 | [] => []
 | x :: l => mergeF x l [x]
theorem setTo_snoc (a : List S48) (z : S48) (v : Int) : setTo (a ++ [z]) v = a ++ [⟨z.f0, z.f1, v, z.f3, z.f4, z.f5, z.f6⟩] := by
  unfold setTo
  simp only [List.getLast?_concat, List.dropLast_concat]
theorem setTo_len (out : List S48) (v : Int) : (setTo out v).length = out.length := by
  rcases List.eq_nil_or_concat out with rfl | ⟨a, z, rfl⟩
  · rfl
  · rw [List.concat_eq_append, setTo_snoc]
    simp
theorem mergeF_len : ∀ (l : List S48) (p : S48) (out : List S48), (mergeF p l out).length ≤ out.length + l.length
  | [], _, _ => by simp [mergeF]
  | x :: l, p, out => by
    unfold mergeF
    have := mergeF_len l x (if joinsB p x then setTo out x.f2 else out ++ [x])
    simp only [List.length_cons]
    by_cases c : joinsB p x
    · rw [if_pos c] at this ⊢
      rw [setTo_len] at this
      omega
    · rw [if_neg c] at this ⊢
      rw [List.length_append] at this
      simp at this
      omega
theorem mergeS_len (l : List S48) : (mergeS l).length ≤ l.length := by
  cases l with
  | nil => exact Nat.le_refl _
  | cons x l =>
    have := mergeF_len l x [x]
    unfold mergeS
    simp only [List.length_cons, List.length_nil] at this ⊢
    omega
theorem set_last (a : List S48) (z : S48) (v : Int) :
    (a ++ [z]).set ((a.length : Nat) : Int).toNat (⟨(rd_T48 (a ++ [z]) (a.length : Int)).f0, (rd_T48 (a ++ [z]) (a.length : Int)).f1, v, (rd_T48 (a ++ [z]) (a.length : Int)).f3, (rd_T48 (a ++ [z]) (a.length : Int)).f4, (rd_T48 (a ++ [z]) (a.length : Int)).f5, (rd_T48 (a ++ [z]) (a.length : Int)).f6⟩ : S48) = setTo (a ++ [z]) v := by
  have hz : rd_T48 (a ++ [z]) (a.length : Int) = z := by rw [rd_at _ _ (by simp)]; simp
  rw [hz, setTo_snoc, Int.toNat_natCast, List.set_append_right _ _ (Nat.le_refl _)]
  simp
theorem merge_loop (l : List S48) (hl : l.length * 64 ≤ 140737488351232) : ∀ (m i : Nat) (k : Nat) (out : List S48), l.length - (i + 1) = m → (h : i < l.length) → 0 < out.length → out.length ≤ i + 1 → m + 1 ≤ k →
    feed_Merge.l0 k l out l (l.length : Int) ((i + 1 : Nat) : Int) = some (mergeF l[i] (l.drop (i + 1)) out) := by
  intro m
  induction m with
  | zero =>
    intro i k out h1 h2 h3 h4 hk
    obtain ⟨k, rfl⟩ : ∃ q, k = q + 1 := ⟨k - 1, by omega⟩
    rw [feed_Merge.l0, if_neg (by omega), List.drop_eq_nil_of_le (by omega)]
    rfl
  | succ m ih =>
    intro i k out h1 h2 h3 h4 hk
    obtain ⟨k, rfl⟩ : ∃ q, k = q + 1 := ⟨k - 1, by omega⟩
    have hi : i + 1 < l.length := by omega
    have hw := next_i (i + 1) _ hi (by omega)
    have hw2 : wrap64 (((i + 1 : Nat) : Int) - 1) = (i : Int) := by rw [wrap_id (by omega) (by omega)]; omega
    have hrec : ∀ o : List S48, 0 < o.length → o.length ≤ i + 2 → feed_Merge.l0 k l o l (l.length : Int) ((i + 1 + 1 : Nat) : Int) = some (mergeF l[i + 1] (l.drop (i + 1 + 1)) o) := fun o ho1 ho2 => ih (i + 1) k o (by omega) hi ho1 ho2 (by omega)
    obtain ⟨a, z, rfl⟩ : ∃ a z, out = a ++ [z] := by
      rcases List.eq_nil_or_concat out with rfl | ⟨a, z, rfl⟩
      · simp at h3
      · exact ⟨a, z, List.concat_eq_append⟩
    have hlz : (a ++ [z]).length = a.length + 1 := by simp
    have hw3 : wrap64 (((a ++ [z]).length : Int) - 1) = (a.length : Int) := by rw [wrap_id (by omega) (by omega)]; omega
    have hap := hrec ((a ++ [z]) ++ [l[i + 1]]) (by simp) (by simp at h4 ⊢; omega)
    have hst := hrec (setTo (a ++ [z]) l[i + 1].f2) (by rw [setTo_len]; exact h3) (by rw [setTo_len]; omega)
    rw [List.drop_eq_getElem_cons hi, mergeF]
    rw [feed_Merge.l0, if_pos (by omega), if_pos (by omega), if_pos (by omega), if_pos (by omega), hw2, if_pos (by omega), if_pos (by omega), rd_at l i h2, rd_at l (i + 1) hi, hw, hw3, plain_f, plain_f, set_last]
    simp only [Option.bind_some, S48_eta]
    have hlim : (a ++ [z]).length < 2199023255552 := by omega
    by_cases c1 : plainB l[i] = true
    · rw [if_pos c1]
      by_cases c2 : plainB l[i + 1] = true
      · rw [if_pos c2]
        by_cases c3 : l[i].f3 = l[i + 1].f3
        · rw [if_pos c3]
          by_cases c4 : l[i].f2 = l[i + 1].f1
          · rw [if_pos c4, if_pos (by omega), if_pos (by omega), if_pos (show joinsB _ _ from ⟨c1, c2, c3, c4⟩)]
            exact hst
          · rw [if_neg c4, if_pos hlim, if_neg (fun c => c4 c.2.2.2)]
            exact hap
        · rw [if_neg c3, if_pos hlim, if_neg (fun c => c3 c.2.2.1)]
          exact hap
      · rw [if_neg c2, if_pos hlim, if_neg (fun c => c2 c.2.1)]
        exact hap
    · rw [if_neg c1, if_pos hlim, if_neg (fun c => c1 c.1)]
      exact hap
theorem merge_ev (l : List S48) (hl : l.length * 64 ≤ 140737488351232) : Ev (fun k => feed_Merge.f k l) (mergeS l) := by
  refine ⟨l.length + 2, fun k hk => ?_⟩
  obtain ⟨k, rfl⟩ : ∃ q, k = q + 1 := ⟨k - 1, by omega⟩
  show feed_Merge.f (k + 1) l = _
  unfold feed_Merge.f
  cases l with
  | nil =>
    rw [feed_Merge.l0, if_neg (by simp)]
    rfl
  | cons x l =>
    have h0 : 0 < (x :: l).length := by simp
    have := merge_loop (x :: l) hl _ 0 k [x] rfl h0 (by simp) (by simp) (by simp at hk ⊢; omega)
    have hr := rd_at (x :: l) 0 h0
    rw [feed_Merge.l0, if_pos (by simp), if_pos (by omega), if_pos (by simp), if_neg (by omega), if_pos (by simp)]
    rw [show ((0 : Nat) : Int) = 0 from rfl] at hr
    rw [hr, show wrap64 (0 + 1) = ((0 + 1 : Nat) : Int) by rw [wrap_id (by omega) (by omega)]; rfl]
    exact this
end Go.Proofs.Ytioedeglgljblaa.H
