/- A list is the same as itself; no condition. -/
import Derived.Test.YtejmegaalfblmaaHQBase
import Derived.Test.YtejmegaalfblmaaH5
namespace Go.Proofs.Ytejmegaalfblmaa.H
open Go.RowKit Go.Proofs.YtejmegaalfblmaaW.PrintWords Go.Proofs.YtejmegaalfblmaaW.PrintLast Go.Proofs.YtejmegaalfblmaaW.PrintMore
set_option linter.unusedSimpArgs false
theorem same_loop (l : List S25) (hl : l.length ≤ 1000000000) : ∀ (m i : Nat) (k : Nat), l.length - i = m → i ≤ l.length → m + 1 ≤ k →
    signalbenchlaw06_same.l0 k l l (i : Int) = some true := by
  intro m
  induction m with
  | zero =>
    intro i k h1 h2 hk
    obtain ⟨k, rfl⟩ : ∃ q, k = q + 1 := ⟨k - 1, by omega⟩
    rw [signalbenchlaw06_same.l0, if_neg (by omega)]
  | succ m ih =>
    intro i k h1 h2 hk
    obtain ⟨k, rfl⟩ : ∃ q, k = q + 1 := ⟨k - 1, by omega⟩
    have hi : i < l.length := by omega
    have hw : wrap64 ((i : Int) + 1) = ((i + 1 : Nat) : Int) := by rw [wrap_id (by omega) (by omega)]; rfl
    rw [signalbenchlaw06_same.l0, if_pos (by omega), if_pos (by omega), if_pos (by omega), hw, if_neg (by simp)]
    exact ih (i + 1) k (by omega) (by omega) (by omega)
theorem same_ev (l : List S25) (hl : l.length ≤ 1000000000) : Ev (fun k => signalbenchlaw06_same.f k l l) true :=
  ⟨l.length + 1, fun k hk => by
    show signalbenchlaw06_same.f k l l = _
    unfold signalbenchlaw06_same.f
    rw [if_pos rfl]
    exact same_loop l hl l.length 0 k rfl (Nat.zero_le _) (by omega)⟩
end Go.Proofs.Ytejmegaalfblmaa.H
