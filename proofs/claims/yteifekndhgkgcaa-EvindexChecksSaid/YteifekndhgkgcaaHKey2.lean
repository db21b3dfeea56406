/- The form of a key of a node and a kind; no condition. -/
import Derived.Test.YteifekndhgkgcaaHKey
import Derived.ChangeKeysEq
namespace Go.Proofs.Yteifekndhgkgcaa.H
open Go.ChangeShapes Go.WideShapes Go.MapKept Go.ChangeMaps Go.Maps Go.WideElems Go.Joins
theorem cells3 : Try.prog.cellsOf 3 = 1 := by kernel_rfl
theorem key53_inv {key : Value} {kl : Lit} (h : keyOf Try.prog 53 key = some kl) : ∃ n k, key = .agg #[.int .i64 n, .int .i64 k] ∧ (Lit.int .i64 n).wf = true ∧ (Lit.int .i64 k).wf = true := by
  unfold keyOf at h
  rw [Try.underlying53] at h
  simp only at h
  split at h
  · rename_i hc
    rw [Bool.and_eq_true] at hc
    cases key with
    | agg cs =>
      have hs : cs.size = 2 := by simpa [Value.formed, Try.underlying53, cells53] using hc.2
      obtain ⟨a, b, rfl⟩ : ∃ a b, cs = #[a, b] := by
        obtain ⟨l⟩ := cs
        match l, hs with
        | [a, b], _ => exact ⟨a, b, rfl⟩
      generalize hd : Try.prog.types.size = d at h
      rw [Option.map_eq_some_iff] at h
      obtain ⟨ls, h, _⟩ := h
      have h2 : Try.prog.keyLits (d + 1) 53 [a, b] = some ls := h
      unfold Program.keyLits at h2
      simp only [Try.underlying53] at h2
      simp [cells53, cells3] at h2
      rw [Option.bind_eq_some_iff] at h2
      obtain ⟨la, ha, h2⟩ := h2
      cases hb : Try.prog.keyLits d 3 [b] with
      | none => simp [hb] at h2
      | some lb =>
        obtain ⟨n, e1, e2⟩ := keyLits_int' Try.underlying3 ha
        obtain ⟨m, e3, e4⟩ := keyLits_int' Try.underlying3 hb
        have w1 := keyLits_wf ha (.int .i64 n) (by rw [e2]; simp)
        have w2 := keyLits_wf hb (.int .i64 m) (by rw [e4]; simp)
        simp only [List.cons.injEq, and_true] at e1 e3
        subst e1
        subst e3
        exact ⟨n, m, rfl, w1, w2⟩
    | _ => simp [Value.formed, Try.underlying53] at hc
  · cases h
end Go.Proofs.Yteifekndhgkgcaa.H
