/- Lookup, Next and SameInts in plain words; for rows that fit. -/
import Derived.Test.YteifekndhgkgcaaHP0
import Derived.Test.YteifekndhgkgcaaHClone
import Derived.Test.YteifekndhgkgcaaH1
import Derived.Test.YteifekndhgkgcaaH3
import Derived.Test.YteifekndhgkgcaaH12
import Derived.Test.YteifekndhgkgcaaH13
namespace Go.Proofs.Yteifekndhgkgcaa.H
open Go.RowKit Go.Proofs.YteifekndhgkgcaaW.PrintWords Go.Proofs.YteifekndhgkgcaaW.PrintLast Go.Proofs.YteifekndhgkgcaaW.PrintMore
set_option linter.unusedSimpArgs false
set_option linter.unusedVariables false
def lookS (a b : Int) (L : List S43) : List Int := (findF a b L).getD []
def nextS (fr : Int) (l : List Int) : Int := (l.find? fun p => decide (p ≥ fr)).getD (-1)
theorem look_loop (c a b : Int) (L : List S43) (hL : L.length ≤ 4611686018427387904) (hb : ∀ s ∈ L, s.f2.length * 8 ≤ 140737488351232) : ∀ (m i : Nat) (k : Nat), L.length - i = m → i ≤ L.length → m + 1 ≤ k → evindex_Lookup.l0 k a b L (L.length : Int) (i : Int) = some (lookS a b (L.drop i)) := by
  intro m
  induction m with
  | zero =>
    intro i k h1 h2 hk
    obtain ⟨k, rfl⟩ : ∃ q, k = q + 1 := ⟨k - 1, by omega⟩
    rw [evindex_Lookup.l0, if_neg (by omega), List.drop_eq_nil_of_le (by omega)]
    rfl
  | succ m ih =>
    intro i k h1 h2 hk
    obtain ⟨k, rfl⟩ : ∃ q, k = q + 1 := ⟨k - 1, by omega⟩
    have hi : i < L.length := by omega
    have hrec := ih (i + 1) k (by omega) (by omega) (by omega)
    rw [evindex_Lookup.l0, if_pos (by omega), if_pos (by omega), if_pos (by omega), rd43 L i hi, next_i i _ hi hL, hrec, List.drop_eq_getElem_cons hi]
    unfold lookS
    rw [findF]
    by_cases h1 : L[i].f0 = a
    · rw [if_pos h1]
      by_cases h2 : L[i].f1 = b
      · rw [if_pos h2, if_pos ⟨h1, h2⟩]
        unfold slices_Clone_int_int.f
        rw [if_pos (by have := hb _ (List.getElem_mem hi); omega)]
        rfl
      · rw [if_neg h2, if_neg (fun e => h2 e.2)]
    · rw [if_neg h1, if_neg (fun e => h1 e.1)]
theorem look_ev (c a b : Int) (L : List S43) (hL : L.length ≤ 4611686018427387904) (hb : ∀ s ∈ L, s.f2.length * 8 ≤ 140737488351232) : Ev (fun k => evindex_Lookup.f k c L a b) (lookS a b L) :=
  ⟨L.length + 1, fun k hk => by
    have := look_loop c a b L hL hb L.length 0 k rfl (Nat.zero_le _) hk
    rw [List.drop_zero] at this
    exact this⟩
theorem rlook_loop (c a b : Int) (L : List S43) (hL : L.length ≤ 4611686018427387904) : ∀ (m i : Nat) (k : Nat), L.length - i = m → i ≤ L.length → m + 1 ≤ k → signalbenchref46_Lookup.l0 k a b (i : Int) c L = some (lookS a b (L.drop i)) := by
  intro m
  induction m with
  | zero =>
    intro i k h1 h2 hk
    obtain ⟨k, rfl⟩ : ∃ q, k = q + 1 := ⟨k - 1, by omega⟩
    rw [signalbenchref46_Lookup.l0, if_neg (by omega), List.drop_eq_nil_of_le (by omega)]
    rfl
  | succ m ih =>
    intro i k h1 h2 hk
    obtain ⟨k, rfl⟩ : ∃ q, k = q + 1 := ⟨k - 1, by omega⟩
    have hi : i < L.length := by omega
    have hrec := ih (i + 1) k (by omega) (by omega) (by omega)
    rw [signalbenchref46_Lookup.l0, if_pos (by omega), if_pos (by omega), rd43 L i hi, next_i i _ hi hL, hrec, List.drop_eq_getElem_cons hi]
    unfold lookS
    rw [findF]
    by_cases h1 : L[i].f0 = a
    · rw [if_pos h1]
      by_cases h2 : L[i].f1 = b
      · rw [if_pos h2, if_pos ⟨h1, h2⟩]
        rfl
      · rw [if_neg h2, if_neg (fun e => h2 e.2)]
    · rw [if_neg h1, if_neg (fun e => h1 e.1)]
theorem rlook_ev (c a b : Int) (L : List S43) (hL : L.length ≤ 4611686018427387904) : Ev (fun k => signalbenchref46_Lookup.f k c L a b) (lookS a b L) :=
  ⟨L.length + 1, fun k hk => by
    have := rlook_loop c a b L hL L.length 0 k rfl (Nat.zero_le _) hk
    rw [List.drop_zero] at this
    exact this⟩
theorem next_loop (fr : Int) (l : List Int) (hl : l.length ≤ 4611686018427387904) : ∀ (m i : Nat) (k : Nat), l.length - i = m → i ≤ l.length → m + 1 ≤ k → evindex_Next.l0 k fr l (l.length : Int) (i : Int) = some (nextS fr (l.drop i)) := by
  intro m
  induction m with
  | zero =>
    intro i k h1 h2 hk
    obtain ⟨k, rfl⟩ : ∃ q, k = q + 1 := ⟨k - 1, by omega⟩
    rw [evindex_Next.l0, if_neg (by omega), List.drop_eq_nil_of_le (by omega)]
    rfl
  | succ m ih =>
    intro i k h1 h2 hk
    obtain ⟨k, rfl⟩ : ∃ q, k = q + 1 := ⟨k - 1, by omega⟩
    have hi : i < l.length := by omega
    rw [evindex_Next.l0, if_pos (by omega), if_pos (by omega), if_pos (by omega), rdI l i hi, next_i i _ hi hl, ih (i + 1) k (by omega) (by omega) (by omega), List.drop_eq_getElem_cons hi]
    unfold nextS
    rw [List.find?_cons]
    by_cases h : l[i] ≥ fr
    · rw [if_pos h, decide_eq_true h]
      rfl
    · rw [if_neg h, decide_eq_false h]
theorem next_ev (c a b fr : Int) (L : List S43) (hL : L.length ≤ 4611686018427387904) (hb : ∀ s ∈ L, s.f2.length * 8 ≤ 140737488351232) (hl : (lookS a b L).length ≤ 4611686018427387904) : Ev (fun k => evindex_Next.f k c L a b fr) (nextS fr (lookS a b L)) :=
  Ev.bind (look_ev c a b L hL hb) ⟨(lookS a b L).length + 1, fun k hk => by
    have := next_loop fr (lookS a b L) hl _ 0 k rfl (Nat.zero_le _) hk
    rw [List.drop_zero] at this
    exact this⟩
theorem rnext_loop (fr : Int) (l : List Int) (hl : l.length ≤ 4611686018427387904) : ∀ (m i : Nat) (k : Nat), l.length - i = m → i ≤ l.length → m + 1 ≤ k → signalbenchref46_Next.l0 k fr l (i : Int) = some (nextS fr (l.drop i)) := by
  intro m
  induction m with
  | zero =>
    intro i k h1 h2 hk
    obtain ⟨k, rfl⟩ : ∃ q, k = q + 1 := ⟨k - 1, by omega⟩
    rw [signalbenchref46_Next.l0, if_neg (by omega), List.drop_eq_nil_of_le (by omega)]
    rfl
  | succ m ih =>
    intro i k h1 h2 hk
    obtain ⟨k, rfl⟩ : ∃ q, k = q + 1 := ⟨k - 1, by omega⟩
    have hi : i < l.length := by omega
    rw [signalbenchref46_Next.l0, if_pos (by omega), if_pos (by omega), rdI l i hi, next_i i _ hi hl, ih (i + 1) k (by omega) (by omega) (by omega), List.drop_eq_getElem_cons hi]
    unfold nextS
    rw [List.find?_cons]
    by_cases h : l[i] ≥ fr
    · rw [if_pos h, decide_eq_true h]
      rfl
    · rw [if_neg h, decide_eq_false h]
theorem rnext_ev (c a b fr : Int) (L : List S43) (hL : L.length ≤ 4611686018427387904) (hl : (lookS a b L).length ≤ 4611686018427387904) : Ev (fun k => signalbenchref46_Next.f k c L a b fr) (nextS fr (lookS a b L)) :=
  Ev.bind (rlook_ev c a b L hL) ⟨(lookS a b L).length + 1, fun k hk => by
    have := rnext_loop fr (lookS a b L) hl _ 0 k rfl (Nat.zero_le _) hk
    rw [List.drop_zero] at this
    exact this⟩
theorem sameI_loop (l : List Int) (hl : l.length ≤ 4611686018427387904) : ∀ (m i : Nat) (k : Nat), l.length - i = m → i ≤ l.length → m + 1 ≤ k → signalbenchref46_SameInts.l0 k l l (i : Int) = some true := by
  intro m
  induction m with
  | zero =>
    intro i k h1 h2 hk
    obtain ⟨k, rfl⟩ : ∃ q, k = q + 1 := ⟨k - 1, by omega⟩
    rw [signalbenchref46_SameInts.l0, if_neg (by omega)]
  | succ m ih =>
    intro i k h1 h2 hk
    obtain ⟨k, rfl⟩ : ∃ q, k = q + 1 := ⟨k - 1, by omega⟩
    have hi : i < l.length := by omega
    rw [signalbenchref46_SameInts.l0, if_pos (by omega), if_pos (by omega), if_pos (by omega), if_pos rfl, next_i i _ hi hl]
    exact ih (i + 1) k (by omega) (by omega) (by omega)
theorem sameI_ev (l : List Int) (hl : l.length ≤ 4611686018427387904) : Ev (fun k => signalbenchref46_SameInts.f k l l) true :=
  ⟨l.length + 1, fun k hk => by
    show signalbenchref46_SameInts.f k l l = _
    unfold signalbenchref46_SameInts.f
    rw [if_pos rfl]
    exact sameI_loop l hl l.length 0 k rfl (Nat.zero_le _) hk⟩
theorem look_le (a b : Int) : ∀ (L : List S43), (lookS a b L).length ≤ (L.map fun s => s.f2.length).sum
  | [] => Nat.zero_le _
  | s :: r => by
    have := look_le a b r
    unfold lookS at this ⊢
    rw [findF, List.map_cons, List.sum_cons]
    split
    · simp
    · omega
end Go.Proofs.Yteifekndhgkgcaa.H
