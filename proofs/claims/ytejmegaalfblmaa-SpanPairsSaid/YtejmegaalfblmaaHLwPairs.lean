/- SpanPairs, in plain words; no condition. -/
import Derived.Test.YtejmegaalfblmaaHQGaps
import Derived.Test.YtejmegaalfblmaaHQRFind
import Derived.Test.YtejmegaalfblmaaHQLives
import Derived.Test.YtejmegaalfblmaaH16
namespace Go.Proofs.Ytejmegaalfblmaa.H
open Go.RowKit Go.Proofs.YtejmegaalfblmaaW.PrintWords Go.Proofs.YtejmegaalfblmaaW.PrintLast Go.Proofs.YtejmegaalfblmaaW.PrintMore
set_option linter.unusedSimpArgs false
theorem rcommon_f (k : Nat) (a b c d : Int) : signalbenchref06_Common.f (k + 2) a b c d = span_Common.f a b c d := by
  have e1 : mx a c = max a c := by unfold mx; omega
  have e2 : mn b d = min b d := by unfold mn; omega
  have j1 : ∀ x y, signalbenchref06_Common.j1 (k + 1) a b c d x y = some (if (vld a b && (vld c d && vld x y)) = true then (x, y, true) else (0, 0, false)) := by
    intro x y
    rw [signalbenchref06_Common.j1, rvalid_f, rvalid_f, rvalid_f]
    simp only [Option.bind_some]
    cases vld a b <;> cases vld c d <;> cases vld x y <;> simp
  have j0 : ∀ x, signalbenchref06_Common.j0 (k + 2) a b c d x b = signalbenchref06_Common.j1 (k + 1) a b c d x (min b d) := by
    intro x
    rw [signalbenchref06_Common.j0]
    by_cases h : d < b
    · rw [if_pos h, show min b d = d by omega]
    · rw [if_neg h, show min b d = b by omega]
  unfold signalbenchref06_Common.f span_Common.f
  rw [e1, e2]
  by_cases h : c > a
  · rw [if_pos h, j0, j1, show max a c = c by omega]
    split <;> rfl
  · rw [if_neg h, j0, j1, show max a c = a by omega]
    split <;> rfl
theorem pairs_pure (a b c d : Int) : ∃ k, signalbenchlaw06_SpanPairs.f k a b c d = some true := by
  refine ⟨2, ?_⟩
  obtain ⟨x, hx⟩ : ∃ x, span_Common.f a b c d = some x := ⟨_, common_f a b c d⟩
  unfold signalbenchlaw06_SpanPairs.f span_Meets.f signalbenchref06_Meets.f
  rw [lives_f, rcommon_f 0, hx, valid_f, rvalid_f]
  simp
end Go.Proofs.Ytejmegaalfblmaa.H
