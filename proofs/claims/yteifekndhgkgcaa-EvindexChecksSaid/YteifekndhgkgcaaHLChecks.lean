/- EvindexChecks in plain words; no condition beyond the input's form. -/
import Derived.Test.YteifekndhgkgcaaHPSmall
import Derived.Test.YteifekndhgkgcaaHPAwake
import Derived.Test.YteifekndhgkgcaaHPChk
import Derived.Test.YteifekndhgkgcaaH11
namespace Go.Proofs.Yteifekndhgkgcaa.H
open Go.RowKit Go.Proofs.YteifekndhgkgcaaW.PrintWords Go.Proofs.YteifekndhgkgcaaW.PrintLast Go.Proofs.YteifekndhgkgcaaW.PrintMore
set_option linter.unusedSimpArgs false
set_option linter.unusedVariables false
theorem law_checks (c0 : Int) (L0 : List S43) (h : Ok27 ⟨c0, L0⟩) : ∃ k, signalbenchlaw46_EvindexChecks.f k c0 L0 = some true := by
  obtain ⟨x, rfl, rfl⟩ : ∃ x : S27, x.f0 = c0 ∧ x.f1 = L0 := ⟨⟨c0, L0⟩, rfl, rfl⟩
  obtain ⟨h1, h2, h3⟩ := ok27_len h
  refine Ev.rounds (g := fun k => signalbenchlaw46_EvindexChecks.f k x.f0 x.f1) ?_
  unfold signalbenchlaw46_EvindexChecks.f
  refine Ev.bind (small_ev x.f0 x.f1 h1 h2) ?_
  cases hb : smallB x.f1 with
  | false =>
    simp only [Bool.false_eq_true, if_false]
    exact Ev.bind awake_ev (Ev.now _)
  | true =>
    obtain ⟨l1, l2⟩ := small_le hb
    simp only [if_true]
    refine Ev.bind (code_check_ev x.f0 x.f1 (by omega) h3 (by omega)) (Ev.bind (ref_check_ev x.f0 x.f1 (by omega) (by omega)) ?_)
    simp only [if_true]
    exact Ev.bind awake_ev (Ev.now _)
end Go.Proofs.Yteifekndhgkgcaa.H
