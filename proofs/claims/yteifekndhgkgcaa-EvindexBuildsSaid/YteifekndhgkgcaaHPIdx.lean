/- What the index of a list holds; for lists of at most a million. -/
import Derived.Test.YteifekndhgkgcaaHP0
import Derived.Test.YteifekndhgkgcaaHPCand
import Derived.Test.YteifekndhgkgcaaHPChk
import Derived.Test.YteifekndhgkgcaaHOp
import Derived.Test.YteifekndhgkgcaaHBld
namespace Go.Proofs.Yteifekndhgkgcaa.H
open Go.RowKit Go.Proofs.YteifekndhgkgcaaW.PrintWords Go.Proofs.YteifekndhgkgcaaW.PrintLast Go.Proofs.YteifekndhgkgcaaW.PrintMore
set_option linter.unusedSimpArgs false
set_option linter.unusedVariables false
def keyN (l : List S47) (k : Nat) : Int := (rd_T47 l (k : Int)).f0
def keyK (l : List S47) (k : Nat) : Int := (rd_T47 l (k : Int)).f2.f0
/-- the indices below k of the elements whose node and kind are q, ascending -/
def idxS (q : Int → Int → Prop) [∀ a b, Decidable (q a b)] (l : List S47) : Nat → List Int
 | 0 => []
 | k + 1 => if q (keyN l k) (keyK l k) then idxS q l k ++ [(k : Int)] else idxS q l k
section
variable (q : Int → Int → Prop) [∀ a b, Decidable (q a b)] (l : List S47)
theorem mem_idx : ∀ (k : Nat) (x : Int), x ∈ idxS q l k ↔ ∃ i : Nat, i < k ∧ x = (i : Int) ∧ q (keyN l i) (keyK l i)
  | 0, x => by simp [idxS]
  | k + 1, x => by
    rw [idxS]
    constructor
    · intro h
      split at h
      · rename_i c
        rcases List.mem_append.1 h with h | h
        · obtain ⟨i, h1, h2⟩ := (mem_idx k x).1 h
          exact ⟨i, by omega, h2⟩
        · exact ⟨k, by omega, List.mem_singleton.1 h, c⟩
      · obtain ⟨i, h1, h2⟩ := (mem_idx k x).1 h
        exact ⟨i, by omega, h2⟩
    · rintro ⟨i, h1, h2, h3⟩
      by_cases e : i = k
      · subst e
        rw [if_pos h3, h2]
        simp
      · have := (mem_idx k x).2 ⟨i, by omega, h2, h3⟩
        split
        · exact List.mem_append_left _ this
        · exact this
theorem idx_asc : ∀ k, (idxS q l k).Pairwise (· < ·)
  | 0 => List.Pairwise.nil
  | k + 1 => by
    rw [idxS]
    split
    · rw [List.pairwise_append]
      refine ⟨idx_asc k, List.pairwise_singleton _ _, fun x hx y hy => ?_⟩
      obtain ⟨i, h1, h2, _⟩ := (mem_idx q l k x).1 hx
      rw [List.mem_singleton.1 hy]
      omega
    · exact idx_asc k
theorem idx_len : ∀ k, (idxS q l k).length ≤ k
  | 0 => Nat.le_refl _
  | k + 1 => by
    have := idx_len k
    rw [idxS]
    split
    · rw [List.length_append, List.length_singleton]; omega
    · omega
theorem idx_pre : ∀ (n k : Nat), k ≤ n → ∃ t, idxS q l n = idxS q l k ++ t
  | 0, k, h => ⟨[], by
    have e : k = 0 := (by omega)
    subst e
    exact (List.append_nil _).symm⟩
  | n + 1, k, h => by
    by_cases e : k = n + 1
    · subst e
      exact ⟨[], (List.append_nil _).symm⟩
    · obtain ⟨t, ht⟩ := idx_pre n k (by omega)
      rw [idxS]
      split
      · exact ⟨t ++ [(n : Int)], by rw [ht, List.append_assoc]⟩
      · exact ⟨t, ht⟩
theorem flatQ_put (n κ p : Int) : ∀ L : List S43, (flatQ q (putF n κ p L)).Perm (if q n κ then p :: flatQ q L else flatQ q L)
  | [] => by
    rw [putF, flatQ]
    split <;> simp_all [flatQ]
  | s :: r => by
    rw [putF]
    split
    · rename_i c
      obtain ⟨c1, c2⟩ := c
      rw [flatQ, flatQ, ← c1, ← c2]
      simp only
      split
      · rw [List.append_assoc, List.singleton_append]
        exact List.perm_middle
      · exact List.Perm.refl _
    · split
      · have ih := flatQ_put n κ p r
        rw [flatQ, flatQ]
        split
        · split
          · rename_i c
            rw [if_pos c] at ih
            exact (ih.append_left s.f2).trans List.perm_middle
          · rename_i c
            rw [if_neg c] at ih
            exact ih.append_left s.f2
        · exact ih
      · rw [flatQ]
        simp only
        split
        · simp
        · exact List.Perm.refl _
theorem flatQ_build : ∀ k, (flatQ q (buildF l k)).Perm (idxS q l k)
  | 0 => List.Perm.refl _
  | k + 1 => by
    rw [buildF, idxS]
    refine (flatQ_put q _ _ _ _).trans ?_
    have ih := flatQ_build k
    show (if q (keyN l k) (keyK l k) then _ else _ : List Int).Perm _
    split
    · exact (ih.cons _).trans (List.perm_append_singleton _ _).symm
    · exact ih
end
def eqK (a b : Int) (x y : Int) : Prop := x = a ∧ y = b
instance (a b x y : Int) : Decidable (eqK a b x y) := by unfold eqK; infer_instance
def allK (x y : Int) : Prop := True
instance (x y : Int) : Decidable (allK x y) := by unfold allK; infer_instance
theorem find_of_mem' : ∀ (l : List S43), SortedK l → ∀ s ∈ l, findF s.f0 s.f1 l = some s.f2
  | [], _, s, h => by simp at h
  | t :: l, hs, s, h => by
    have a := List.pairwise_cons.1 hs
    rcases List.mem_cons.1 h with rfl | h
    · rw [findF, if_pos ⟨rfl, rfl⟩]
    · have := a.1 s h
      unfold befK at this
      rw [findF, if_neg (by omega)]
      exact find_of_mem' l a.2 s h
theorem find_idx (l : List S47) (a b : Int) : ∀ k, findF a b (buildF l k) = if idxS (eqK a b) l k = [] then none else some (idxS (eqK a b) l k)
  | 0 => rfl
  | k + 1 => by
    have ih := find_idx l a b k
    rw [buildF, idxS]
    by_cases e : keyN l k = a ∧ keyK l k = b
    · rw [if_pos (show eqK a b (keyN l k) (keyK l k) from e), if_neg (by simp)]
      have hs := find_put_same (keyN l k) (keyK l k) (k : Int) _ (build_sorted l k)
      rw [e.1, e.2] at hs
      unfold keyN keyK at e
      rw [e.1, e.2, hs, ih]
      split
      · rename_i h
        rw [h]
        rfl
      · rfl
    · rw [if_neg (show ¬ eqK a b (keyN l k) (keyK l k) from e)]
      have ho := find_put_other (keyN l k) (keyK l k) (k : Int) a b e (buildF l k)
      unfold keyN keyK at ho
      rw [ho]
      exact ih
theorem look_build (l : List S47) (a b : Int) (k : Nat) : (findF a b (buildF l k)).getD [] = idxS (eqK a b) l k := by
  rw [find_idx]
  split
  · rename_i h
    rw [h]
    rfl
  · rfl
theorem slot_idx (l : List S47) (k : Nat) (s : S43) (h : s ∈ buildF l k) : s.f2 = idxS (eqK s.f0 s.f1) l k ∧ s.f2 ≠ [] := by
  have h1 := find_of_mem' _ (build_sorted l k) s h
  rw [find_idx] at h1
  split at h1
  · cases h1
  · rename_i c
    have := Option.some.inj h1
    exact ⟨this.symm, this ▸ c⟩
theorem put_len (n κ p : Int) : ∀ L : List S43, (putF n κ p L).length ≤ L.length + 1
  | [] => Nat.le_refl _
  | s :: r => by
    have := put_len n κ p r
    rw [putF]
    split
    · simp
    · split
      · simp only [List.length_cons]; omega
      · simp
theorem build_len (l : List S47) : ∀ k, (buildF l k).length ≤ k
  | 0 => Nat.le_refl _
  | k + 1 => by
    have := build_len l k
    have := put_len (rd_T47 l (k : Int)).f0 (rd_T47 l (k : Int)).f2.f0 (k : Int) (buildF l k)
    rw [buildF]
    omega
theorem flat_all : ∀ L : List S43, (flatQ allK L).length = (L.map fun s => s.f2.length).sum
  | [] => rfl
  | s :: r => by
    have := flat_all r
    rw [flatQ, if_pos (show allK s.f0 s.f1 from trivial), List.length_append, List.map_cons, List.sum_cons, this]
theorem idx_all (l : List S47) : ∀ k, (idxS allK l k).length = k
  | 0 => rfl
  | k + 1 => by rw [idxS, if_pos (show allK _ _ from trivial), List.length_append, List.length_singleton, idx_all l k]
theorem build_sum (l : List S47) (k : Nat) : ((buildF l k).map fun s => s.f2.length).sum = k := by
  rw [← flat_all, (flatQ_build allK l k).length_eq, idx_all]
theorem build_nodup (l : List S47) (k : Nat) : (flatQ allK (buildF l k)).Nodup := (flatQ_build allK l k).nodup_iff.2 ((idx_asc allK l k).imp (fun {a b} h => by omega))
/-! the index is valid -/
theorem goP_ok (c : Int) : ∀ (ps : List Int) (o : Option Int), ps.Pairwise (· < ·) → (∀ p ∈ ps, 0 ≤ p ∧ p < c) → (∀ q, o = some q → ∀ p ∈ ps, q < p) → goP c o ps = 0
  | [], _, _, _, _ => rfl
  | p :: r, o, h1, h2, h3 => by
    have a := List.pairwise_cons.1 h1
    have b := h2 p List.mem_cons_self
    rw [goP, if_neg (by omega), if_neg (fun ⟨q, e1, e2⟩ => by have := h3 q e1 p List.mem_cons_self; omega)]
    exact goP_ok c r (some p) a.2 (fun x hx => h2 x (List.mem_cons_of_mem _ hx)) (fun q e x hx => by cases e; exact a.1 x hx)
theorem chk_ok (c : Int) : ∀ (L : List S43) (o : Option S43) (seen : List Int), (∀ t, o = some t → ∀ s ∈ L, befK t.f0 t.f1 s.f0 s.f1) → SortedK L → (∀ s ∈ L, wrongP c s.f2 = 0) → (seen ++ flatQ allK L).Nodup → c ≤ ((seen ++ flatQ allK L).length : Int) → chkS c o L seen = 0
  | [], o, seen, _, _, _, h4, h5 => by
    rw [flatQ, List.append_nil] at h4 h5
    rw [chkS, if_neg (fun e => e h4), if_neg (by omega)]
  | s :: r, o, seen, h1, h2, h3, h4, h5 => by
    have a := List.pairwise_cons.1 h2
    have e : seen ++ flatQ allK (s :: r) = (seen ++ s.f2) ++ flatQ allK r := by rw [flatQ, if_pos (show allK s.f0 s.f1 from trivial), List.append_assoc]
    rw [e] at h4 h5
    rw [chkS, if_neg (fun ⟨t, e1, e2⟩ => e2 (h1 t e1 s List.mem_cons_self)), if_neg (fun e => e (h3 s List.mem_cons_self))]
    exact chk_ok c r (some s) _ (fun t e x hx => by cases e; exact a.1 x hx) a.2 (fun x hx => h3 x (List.mem_cons_of_mem _ hx)) h4 h5
theorem build_check (l : List S47) (n : Nat) : checkS (n : Int) (buildF l n) = 0 := by
  unfold checkS
  rw [if_neg (by omega)]
  refine chk_ok _ _ none [] (fun t e => by cases e) (build_sorted l n) (fun s hs => ?_) ?_ ?_
  · obtain ⟨e1, e2⟩ := slot_idx l n s hs
    unfold wrongP
    rw [if_neg e2, e1]
    refine goP_ok _ _ none (idx_asc _ l n) (fun p hp => ?_) (fun q e => by cases e)
    obtain ⟨i, h1, h2, _⟩ := (mem_idx _ l n p).1 hp
    omega
  · rw [List.nil_append]
    exact build_nodup l n
  · rw [List.nil_append, flat_all, build_sum]
    exact Int.le_refl _
theorem build_wf2 (l : List S47) (n : Nat) (hn : n ≤ 1000000) : ∀ s ∈ buildF l n, ∀ p ∈ s.f2, (Lit.int .i64 p).wf = true := fun s hs p hp => by
  rw [(slot_idx l n s hs).1] at hp
  obtain ⟨i, h1, h2, _⟩ := (mem_idx _ l n p).1 hp
  rw [h2]
  exact WalkArith.wf_i64 (by omega)
theorem build_f (l : List S47) (h : l.length ≤ 60) (hok : ∀ x ∈ l, Ok47 x) : evindex_Build.f l = some ((l.length : Int), buildF l l.length) := by
  unfold evindex_Build.f
  rw [if_pos ⟨h, fun x hx => ⟨(hok x hx).1, (hok x hx).2.2.1⟩⟩]
theorem cand_build (l : List S47) (n : Nat) (nd kd : Int) (h : nd ≠ -1) : candS nd kd (buildF l n) = idxS (matchK nd kd) l n := by
  unfold candS
  rw [if_neg h]
  exact asc_unique _ _ (isort_asc _) ((idx_asc _ l n).imp (fun {a b} h => by omega)) ((isort_perm _).trans (flatQ_build _ l n))
theorem count_one {l : List Int} {x : Int} (h : l.Nodup) (hx : x ∈ l) : l.count x = 1 := by
  induction l with
  | nil => simp at hx
  | cons y l ih =>
    have a := List.nodup_cons.1 h
    rw [List.count_cons]
    by_cases e : y = x
    · subst e
      rw [List.count_eq_zero.2 a.1]
      simp
    · rw [ih a.2 ((List.mem_cons.1 hx).resolve_left (fun e2 => e e2.symm)), if_neg (by simpa using e)]
end Go.Proofs.Yteifekndhgkgcaa.H
