/- The least number of insertions and deletions between two lists: a plain text without Go; no condition. -/
import Init
namespace Go.Proofs.Ytbkncndagheijaa.Lev
section
variable {α : Type}
/-- an alignment of two lists, with its cost -/
inductive Al : List α → List α → Nat → Prop
  | nil : Al [] [] 0
  | both (x : α) {a b : List α} {n : Nat} : Al a b n → Al (x :: a) (x :: b) n
  | left (x : α) {a b : List α} {n : Nat} : Al a b n → Al (x :: a) b (n + 1)
  | right (y : α) {a b : List α} {n : Nat} : Al a b n → Al a (y :: b) (n + 1)
theorem Al.lefts (a : List α) : Al a [] a.length := by
  induction a with
  | nil => exact .nil
  | cons x a ih => exact .left x ih
theorem Al.rights (b : List α) : Al [] b b.length := by
  induction b with
  | nil => exact .nil
  | cons x a ih => exact .right x ih
theorem Al.diff {a b : List α} {n : Nat} (h : Al a b n) : a.length ≤ b.length + n ∧ b.length ≤ a.length + n := by
  induction h with
  | nil => simp
  | both x _ ih => simp only [List.length_cons]; omega
  | left x _ ih => simp only [List.length_cons]; omega
  | right x _ ih => simp only [List.length_cons]; omega
theorem Al.swap {a b : List α} {n : Nat} (h : Al a b n) : Al b a n := by
  induction h with
  | nil => exact .nil
  | both x _ ih => exact .both x ih
  | left x _ ih => exact .right x ih
  | right x _ ih => exact .left x ih
theorem Al.snocB {a b : List α} {n : Nat} (h : Al a b n) (x : α) : Al (a ++ [x]) (b ++ [x]) n := by
  induction h with
  | nil => exact .both x .nil
  | both y _ ih => exact .both y ih
  | left y _ ih => exact .left y ih
  | right y _ ih => exact .right y ih
theorem Al.snocL {a b : List α} {n : Nat} (h : Al a b n) (x : α) : Al (a ++ [x]) b (n + 1) := by
  induction h with
  | nil => exact .left x .nil
  | both y _ ih => exact .both y ih
  | left y _ ih => exact .left y ih
  | right y _ ih => exact .right y ih
theorem Al.rev {a b : List α} {n : Nat} (h : Al a b n) : Al a.reverse b.reverse n := by
  induction h with
  | nil => exact .nil
  | both x _ ih => rw [List.reverse_cons, List.reverse_cons]; exact ih.snocB x
  | left x _ ih => rw [List.reverse_cons]; exact ih.snocL x
  | right x _ ih => rw [List.reverse_cons]; exact (ih.swap.snocL x).swap
/-- what an alignment does with the first element of the left list -/
theorem Al.consL {x : α} {a b : List α} {n : Nat} (h : Al (x :: a) b n) : ∃ m, Al a b m ∧ m ≤ n + 1 := by
  generalize e : x :: a = c at h
  induction h with
  | nil => cases e
  | both y h _ => injection e with e1 e2; subst e1 e2; exact ⟨_, .right _ h, Nat.le_refl _⟩
  | left y h _ => injection e with e1 e2; subst e1 e2; exact ⟨_, h, by omega⟩
  | right y h ih => obtain ⟨m, hm, hl⟩ := ih e; exact ⟨m + 1, .right _ hm, by omega⟩
theorem Al.strip {x : α} {a b : List α} {n : Nat} (h : Al (x :: a) (x :: b) n) : ∃ m, Al a b m ∧ m ≤ n := by
  generalize e : x :: a = c at h
  generalize f : x :: b = d at h
  cases h with
  | nil => cases e
  | both y h => injection e with e1 e2; injection f with f1 f2; subst e2 f2; exact ⟨_, h, Nat.le_refl _⟩
  | left y h =>
    injection e with e1 e2; subst e2; subst f
    obtain ⟨m, hm, hl⟩ := h.swap.consL
    exact ⟨m, hm.swap, by omega⟩
  | right y h =>
    injection f with f1 f2; subst f2; subst e
    obtain ⟨m, hm, hl⟩ := h.consL
    exact ⟨m, hm, by omega⟩
theorem Al.trans {a c : List α} {n : Nat} (h : Al a c n) : ∀ {b : List α} {m : Nat}, Al c b m → ∃ k, Al a b k ∧ k ≤ n + m := by
  induction h with
  | nil => intro b m k; exact ⟨m, k, by omega⟩
  | left x _ ih => intro b m k; obtain ⟨j, hj, hl⟩ := ih k; exact ⟨j + 1, .left x hj, by omega⟩
  | @both x a c n h ih =>
    intro b m k
    generalize e : x :: c = d at k
    induction k with
    | nil => cases e
    | both y k _ => injection e with e1 e2; subst e1 e2; obtain ⟨j, hj, hl⟩ := ih k; exact ⟨j, .both _ hj, hl⟩
    | left y k _ => injection e with e1 e2; subst e1 e2; obtain ⟨j, hj, hl⟩ := ih k; exact ⟨j + 1, .left _ hj, by omega⟩
    | right y k ih2 => obtain ⟨j, hj, hl⟩ := ih2 e; exact ⟨j + 1, .right _ hj, by omega⟩
  | @right x a c n h ih =>
    intro b m k
    generalize e : x :: c = d at k
    induction k with
    | nil => cases e
    | both y k _ => injection e with e1 e2; subst e1 e2; obtain ⟨j, hj, hl⟩ := ih k; exact ⟨j + 1, .right _ hj, by omega⟩
    | left y k _ => injection e with e1 e2; subst e1 e2; obtain ⟨j, hj, hl⟩ := ih k; exact ⟨j, hj, by omega⟩
    | right y k ih2 => obtain ⟨j, hj, hl⟩ := ih2 e; exact ⟨j + 1, .right _ hj, by omega⟩
end
section
variable {α : Type} [DecidableEq α]
def lev : List α → List α → Nat
  | [], b => b.length
  | x :: a, [] => (x :: a).length
  | x :: a, y :: b => if x = y then lev a b else 1 + min (lev a (y :: b)) (lev (x :: a) b)
termination_by a b => a.length + b.length
theorem lev_nil (b : List α) : lev [] b = b.length := by rw [lev]
theorem lev_nil' (a : List α) : lev a [] = a.length := by cases a <;> rw [lev]
theorem lev_eq (x : α) (a b : List α) : lev (x :: a) (x :: b) = lev a b := by rw [lev, if_pos rfl]
theorem lev_ne {x y : α} (h : x ≠ y) (a b : List α) : lev (x :: a) (y :: b) = 1 + min (lev a (y :: b)) (lev (x :: a) b) := by rw [lev, if_neg h]
theorem Al.lev (a b : List α) : Al a b (lev a b) := by
  induction a, b using lev.induct with
  | case1 b => rw [lev_nil]; exact .rights b
  | case2 x a => rw [lev_nil']; exact .lefts _
  | case3 a x b ih => rw [lev_eq]; exact .both x ih
  | case4 x a y b h ih1 ih2 =>
    rw [lev_ne h]
    rcases Nat.le_total (Lev.lev a (y :: b)) (Lev.lev (x :: a) b) with hl | hl
    · rw [Nat.min_eq_left hl, Nat.add_comm]; exact .left x ih1
    · rw [Nat.min_eq_right hl, Nat.add_comm]; exact .right y ih2
theorem lev_le {a b : List α} : ∀ {n : Nat}, Al a b n → lev a b ≤ n := by
  induction a, b using lev.induct with
  | case1 b => intro n h; rw [lev_nil]; have := h.diff; simp at this; omega
  | case2 x a => intro n h; rw [lev_nil']; have := h.diff; simp at this; simp; omega
  | case3 a x b ih => intro n h; rw [lev_eq]; obtain ⟨m, hm, hl⟩ := h.strip; have := ih hm; omega
  | case4 x a y b hne ih1 ih2 =>
    intro n h
    rw [lev_ne hne]
    generalize e : x :: a = c at h
    generalize f : y :: b = d at h
    cases h with
    | nil => cases e
    | both z h => injection e with e1 e2; injection f with f1 f2; exact absurd (e1.trans f1.symm) hne
    | left z h => injection e with e1 e2; subst e2; subst f; have := ih1 h; omega
    | right z h => injection f with f1 f2; subst f2; subst e; have := ih2 h; omega
theorem lev_rev (a b : List α) : lev a.reverse b.reverse = lev a b := by
  apply Nat.le_antisymm
  · exact lev_le (Al.lev a b).rev
  · have h := (Al.lev a.reverse b.reverse).rev
    rw [List.reverse_reverse, List.reverse_reverse] at h
    exact lev_le h
theorem lev_swap (a b : List α) : lev a b = lev b a := Nat.le_antisymm (lev_le (Al.lev b a).swap) (lev_le (Al.lev a b).swap)
theorem lev_bound (a b : List α) : lev a b ≤ a.length + b.length := by
  induction a, b using lev.induct with
  | case1 b => rw [lev_nil]; omega
  | case2 x a => rw [lev_nil']; omega
  | case3 a x b ih => rw [lev_eq]; simp only [List.length_cons]; omega
  | case4 x a y b h ih1 ih2 => rw [lev_ne h]; simp only [List.length_cons] at *; omega
theorem lev_self (a : List α) : lev a a = 0 := by
  induction a with
  | nil => rw [lev_nil]; rfl
  | cons x a ih => rw [lev_eq, ih]
theorem lev_zero {a b : List α} (h : lev a b = 0) : a = b := by
  induction a, b using lev.induct with
  | case1 b => rw [lev_nil] at h; exact (List.eq_nil_of_length_eq_zero h).symm
  | case2 x a => rw [lev_nil'] at h; simp at h
  | case3 a x b ih => rw [lev_eq] at h; rw [ih h]
  | case4 x a y b hne ih1 ih2 => rw [lev_ne hne] at h; omega
theorem lev_triangle (a b c : List α) : lev a b ≤ lev a c + lev c b := by
  obtain ⟨k, hk, hl⟩ := (Al.lev a c).trans (Al.lev c b)
  have := lev_le hk
  omega
/-- the neighbours of a cell of the table -/
theorem lev_cons_le (x : α) (a b : List α) : lev (x :: a) b ≤ lev a b + 1 ∧ lev a b ≤ lev (x :: a) b + 1 := by
  refine ⟨lev_le (.left x (Al.lev a b)), ?_⟩
  obtain ⟨m, hm, hl⟩ := (Al.lev (x :: a) b).consL
  have := lev_le hm
  omega
end
end Go.Proofs.Ytbkncndagheijaa.Lev
