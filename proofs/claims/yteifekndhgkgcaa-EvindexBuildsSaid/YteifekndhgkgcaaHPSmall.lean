/- Which indexes are small; for rows that fit. -/
import Derived.Test.YteifekndhgkgcaaHP0
import Derived.Test.YteifekndhgkgcaaH7
import Derived.Test.YteifekndhgkgcaaHOp
namespace Go.Proofs.Yteifekndhgkgcaa.H
open Go.RowKit Go.Proofs.YteifekndhgkgcaaW.PrintWords Go.Proofs.YteifekndhgkgcaaW.PrintLast Go.Proofs.YteifekndhgkgcaaW.PrintMore
set_option linter.unusedSimpArgs false
set_option linter.unusedVariables false
def smallF : Nat → List S43 → Bool
 | _, [] => true
 | n, s :: r => if n + s.f2.length > 60 then false else smallF (n + s.f2.length) r
def smallB (L : List S43) : Bool := if L.length > 20 then false else smallF 0 L
theorem smallF_sum : ∀ (L : List S43) (n : Nat), n ≤ 60 → smallF n L = true → n + (L.map fun s => s.f2.length).sum ≤ 60
  | [], n, h, _ => by simpa using h
  | s :: r, n, h, hs => by
    unfold smallF at hs
    split at hs
    · cases hs
    · have := smallF_sum r (n + s.f2.length) (by omega) hs
      rw [List.map_cons, List.sum_cons]
      omega
theorem small_le {L : List S43} (h : smallB L = true) : L.length ≤ 20 ∧ (L.map fun s => s.f2.length).sum ≤ 60 := by
  unfold smallB at h
  split at h
  · cases h
  · have := smallF_sum L 0 (by omega) h
    exact ⟨by omega, by omega⟩
theorem mem_sum : ∀ (L : List S43) (s : S43), s ∈ L → s.f2.length ≤ (L.map fun s => s.f2.length).sum
  | [], s, h => by simp at h
  | t :: r, s, h => by
    rw [List.map_cons, List.sum_cons]
    rcases List.mem_cons.1 h with rfl | h
    · omega
    · have := mem_sum r s h
      omega
theorem small_loop (c : Int) (L : List S43) (hL : L.length ≤ 4611686018427387904) (hs : ∀ s ∈ L, s.f2.length ≤ 140737488351232) : ∀ (m i n : Nat) (k : Nat), L.length - i = m → i ≤ L.length → n ≤ 60 → m + 1 ≤ k → signalbenchlaw46_small.l0 k (n : Int) (i : Int) c L = some (smallF n (L.drop i)) := by
  intro m
  induction m with
  | zero =>
    intro i n k h1 h2 hn hk
    obtain ⟨k, rfl⟩ : ∃ q, k = q + 1 := ⟨k - 1, by omega⟩
    rw [signalbenchlaw46_small.l0, if_neg (by omega), List.drop_eq_nil_of_le (by omega)]
    rfl
  | succ m ih =>
    intro i n k h1 h2 hn hk
    obtain ⟨k, rfl⟩ : ∃ q, k = q + 1 := ⟨k - 1, by omega⟩
    have hi : i < L.length := by omega
    have hb := hs _ (List.getElem_mem hi)
    rw [signalbenchlaw46_small.l0, if_pos (by omega), if_pos (by omega), rd43 L i hi, wr_add n _ (by omega), next_i i _ hi hL, List.drop_eq_getElem_cons hi, smallF]
    by_cases h : n + L[i].f2.length > 60
    · rw [if_pos (by omega), if_pos h]
    · rw [if_neg (by omega), if_neg h]
      exact ih (i + 1) _ k (by omega) (by omega) (by omega) (by omega)
theorem small_ev (c : Int) (L : List S43) (hL : L.length ≤ 4611686018427387904) (hs : ∀ s ∈ L, s.f2.length ≤ 140737488351232) : Ev (fun k => signalbenchlaw46_small.f k c L) (smallB L) := by
  unfold smallB
  by_cases h : L.length > 20
  · rw [if_pos h]
    refine Ev.congr (f := fun _ => some false) (fun k => ?_) (Ev.now _)
    unfold signalbenchlaw46_small.f
    rw [if_pos (by omega)]
  · rw [if_neg h]
    refine ⟨L.length + 1, fun k hk => ?_⟩
    show signalbenchlaw46_small.f k c L = _
    unfold signalbenchlaw46_small.f
    rw [if_neg (by omega)]
    have := small_loop c L hL hs L.length 0 0 k rfl (Nat.zero_le _) (by omega) hk
    rw [List.drop_zero] at this
    exact this
theorem ok27_len {x : S27} (h : Ok27 x) : x.f1.length ≤ 4611686018427387904 ∧ (∀ s ∈ x.f1, s.f2.length ≤ 140737488351232) ∧ (∀ s ∈ x.f1, ∀ p ∈ s.f2, (Lit.int .i64 p).wf = true) := by
  obtain ⟨_, h1, h2, h3⟩ := h
  refine ⟨by omega, fun s hs => ?_, fun s hs => ?_⟩
  · have := (h3 s hs).2.2.2.1
    omega
  · exact (h3 s hs).2.2.2.2
end Go.Proofs.Yteifekndhgkgcaa.H
