/- EvindexLooks in plain words; no condition beyond the input's form. -/
import Derived.Test.YteifekndhgkgcaaHPSmall
import Derived.Test.YteifekndhgkgcaaHPAwake
import Derived.Test.YteifekndhgkgcaaHPLook
import Derived.Test.YteifekndhgkgcaaHPCand
import Derived.Test.YteifekndhgkgcaaH16
namespace Go.Proofs.Yteifekndhgkgcaa.H
open Go.RowKit Go.Proofs.YteifekndhgkgcaaW.PrintWords Go.Proofs.YteifekndhgkgcaaW.PrintLast Go.Proofs.YteifekndhgkgcaaW.PrintMore
set_option linter.unusedSimpArgs false
set_option linter.unusedVariables false
theorem law_looks (c0 : Int) (L0 : List S43) (b0 b1 b2 b3 b4 fr : Int) (h : Ok27 ⟨c0, L0⟩) : ∃ k, signalbenchlaw46_EvindexLooks.f k c0 L0 b0 b1 b2 b3 b4 fr = some true := by
  obtain ⟨h1, h2, h3⟩ := ok27_len h
  simp only at h1 h2 h3
  refine Ev.rounds (g := fun k => signalbenchlaw46_EvindexLooks.f k c0 L0 b0 b1 b2 b3 b4 fr) ?_
  unfold signalbenchlaw46_EvindexLooks.f
  refine Ev.bind (small_ev c0 L0 h1 h2) ?_
  cases hb : smallB L0 with
  | false =>
    simp only [Bool.false_eq_true, if_false]
    exact Ev.bind awake_ev (Ev.now _)
  | true =>
    obtain ⟨l1, l2⟩ := small_le hb
    have l3 : ∀ s ∈ L0, s.f2.length * 8 ≤ 140737488351232 := fun s hs => by
      have := mem_sum L0 s hs
      omega
    have l4 := look_le b0 b1 L0
    have l5 := candS_len b0 b1 L0
    simp only [if_true]
    refine Ev.bind (look_ev c0 b0 b1 L0 h1 l3) (Ev.bind (rlook_ev c0 b0 b1 L0 h1) (Ev.bind (sameI_ev _ (by omega)) ?_))
    simp only [if_true]
    refine Ev.bind (next_ev c0 b0 b1 fr L0 h1 l3 (by omega)) (Ev.bind (rnext_ev c0 b0 b1 fr L0 h1 (by omega)) ?_)
    simp only [if_true]
    refine Ev.bind (cand_ev c0 L0 (by omega) (by omega) b0 b1 b2 b3 b4) (Ev.bind (rcand_ev c0 L0 (by omega) (by omega) b0 b1 b2 b3 b4) (Ev.bind (sameI_ev _ (by omega)) ?_))
    simp only [if_true]
    exact Ev.bind awake_ev (Ev.now _)
end Go.Proofs.Yteifekndhgkgcaa.H
