/- The slots of an index, in plain words: putting one place more; no condition. -/
import Derived.Test.YteifekndhgkgcaaH0
namespace Go.Proofs.Yteifekndhgkgcaa.H
open Go.RowKit Go.Proofs.YteifekndhgkgcaaW.PrintWords Go.Proofs.YteifekndhgkgcaaW.PrintLast Go.Proofs.YteifekndhgkgcaaW.PrintMore
def befK (a c n k : Int) : Prop := a < n ∨ a = n ∧ c < k
instance (a c n k : Int) : Decidable (befK a c n k) := by unfold befK; infer_instance
def putF (n k p : Int) : List S43 → List S43
 | [] => [⟨n, k, [p]⟩]
 | s :: l => if s.f0 = n ∧ s.f1 = k then ⟨s.f0, s.f1, s.f2 ++ [p]⟩ :: l else if befK s.f0 s.f1 n k then s :: putF n k p l else ⟨n, k, [p]⟩ :: s :: l
def findF (n k : Int) : List S43 → Option (List Int)
 | [] => none
 | s :: l => if s.f0 = n ∧ s.f1 = k then some s.f2 else findF n k l
def SortedK (l : List S43) : Prop := l.Pairwise fun s t => befK s.f0 s.f1 t.f0 t.f1
theorem find_above (n k : Int) : ∀ l : List S43, (∀ s ∈ l, befK n k s.f0 s.f1) → findF n k l = none
  | [], _ => rfl
  | s :: l, h => by
    have h1 := h s List.mem_cons_self
    unfold befK at h1
    rw [findF, if_neg (by omega)]
    exact find_above n k l (fun t ht => h t (List.mem_cons_of_mem _ ht))
theorem befK_trans {a b c d e f : Int} (h : befK a b c d) (g : befK c d e f) : befK a b e f := by unfold befK at *; omega
theorem put_mem (n k p : Int) : ∀ (l : List S43) (t : S43), t ∈ putF n k p l → (t.f0 = n ∧ t.f1 = k) ∨ t ∈ l
  | [], t, h => by
    simp only [putF, List.mem_singleton] at h
    subst h
    exact .inl ⟨rfl, rfl⟩
  | s :: l, t, h => by
    unfold putF at h
    split at h
    · rename_i c
      rcases List.mem_cons.1 h with rfl | h
      · exact .inl c
      · exact .inr (List.mem_cons_of_mem _ h)
    · split at h
      · rcases List.mem_cons.1 h with rfl | h
        · exact .inr List.mem_cons_self
        · rcases put_mem n k p l t h with h | h
          · exact .inl h
          · exact .inr (List.mem_cons_of_mem _ h)
      · rcases List.mem_cons.1 h with rfl | h
        · exact .inl ⟨rfl, rfl⟩
        · exact .inr h
theorem put_sorted (n k p : Int) : ∀ l : List S43, SortedK l → SortedK (putF n k p l)
  | [], _ => by simp [putF, SortedK]
  | s :: l, h => by
    have hh := List.pairwise_cons.1 h
    unfold putF
    split
    · exact List.pairwise_cons.2 ⟨hh.1, hh.2⟩
    · rename_i c1
      split
      · rename_i c2
        refine List.pairwise_cons.2 ⟨fun t ht => ?_, put_sorted n k p l hh.2⟩
        rcases put_mem n k p l t ht with ⟨e1, e2⟩ | ht
        · rw [e1, e2]; exact c2
        · exact hh.1 t ht
      · rename_i c2
        have hb : befK n k s.f0 s.f1 := by unfold befK at *; omega
        refine List.pairwise_cons.2 ⟨fun t ht => ?_, h⟩
        rcases List.mem_cons.1 ht with rfl | ht
        · exact hb
        · exact befK_trans hb (hh.1 t ht)
theorem find_put_same (n k p : Int) : ∀ l : List S43, SortedK l → findF n k (putF n k p l) = some ((findF n k l).getD [] ++ [p])
  | [], _ => by simp [putF, findF]
  | s :: l, h => by
    have hh := List.pairwise_cons.1 h
    unfold putF
    split
    · rename_i c
      rw [findF, if_pos c, findF, if_pos c]
      rfl
    · rename_i c1
      split
      · rw [findF, if_neg c1, findF, if_neg c1]
        exact find_put_same n k p l hh.2
      · rename_i c2
        have hb : befK n k s.f0 s.f1 := by unfold befK at *; omega
        rw [findF, if_pos ⟨rfl, rfl⟩, find_above n k (s :: l) (fun t ht => by
          rcases List.mem_cons.1 ht with rfl | ht
          · exact hb
          · exact befK_trans hb (hh.1 t ht))]
        rfl
theorem find_put_other (n k p n' k' : Int) (hne : ¬ (n = n' ∧ k = k')) : ∀ l : List S43, findF n' k' (putF n k p l) = findF n' k' l
  | [] => by simp only [putF, findF, if_neg hne]
  | s :: l => by
    unfold putF
    split
    · rename_i c
      rw [findF, findF]
      by_cases c2 : s.f0 = n' ∧ s.f1 = k'
      · exact absurd ⟨c.1.symm.trans c2.1, c.2.symm.trans c2.2⟩ hne
      · rw [if_neg c2, if_neg c2]
    · split
      · rw [findF, findF, find_put_other n k p n' k' hne l]
      · rw [findF, if_neg hne]
/-- the index of a list, behind k of its elements -/
def buildF (l : List S47) : Nat → List S43
 | 0 => []
 | k + 1 => putF (rd_T47 l (k : Int)).f0 (rd_T47 l (k : Int)).f2.f0 (k : Int) (buildF l k)
theorem build_sorted (l : List S47) : ∀ k, SortedK (buildF l k)
  | 0 => List.Pairwise.nil
  | k + 1 => put_sorted _ _ _ _ (build_sorted l k)
def evindex_Build.f (l : List S47) : Option (Int × List S43) :=
  if l.length ≤ 60 ∧ ∀ x ∈ l, (Lit.int .i64 x.f0).wf = true ∧ (Lit.int .i64 x.f2.f0).wf = true then some ((l.length : Int), buildF l l.length) else none
end Go.Proofs.Yteifekndhgkgcaa.H
