/- AlignOffsets answers true for any two lists; no condition. -/
import Derived.Test.YtbkncndagheijaaHPf
import Derived.Test.YtbkncndagheijaaH11
namespace Go.Proofs.Ytbkncndagheijaa.H
open Go.RowKit Go.Proofs.YtbkncndagheijaaW.PrintWords Go.Proofs.YtbkncndagheijaaW.PrintLast Go.Proofs.Ytbkncndagheijaa.Lev
theorem awake_bind3 : Ev (fun k => (signalbenchlaw54_awake.f k).bind fun t => (some t)) true := Ev.bind awake_ev (Ev.now true)
theorem offset_same (a b : List Int) : ∃ r, align_Offset.f a b = some r ∧ signalbenchref54_Offset.f a b = some r := by
  unfold align_Offset.f signalbenchref54_Offset.f align_near.f
  by_cases h1 : (a.length : Int) = 0
  · exact ⟨(0, false), by rw [if_pos h1], by rw [if_pos h1]⟩
  by_cases h2 : (b.length : Int) = 0
  · exact ⟨(0, false), by rw [if_neg h1, if_pos h2], by rw [if_neg h1, if_pos h2]⟩
  by_cases h3 : rd a 0 < -1152921504606846976
  · exact ⟨(0, false), by rw [if_neg h1, if_neg h2, if_pos (by omega), if_neg (by omega)]; rfl, by rw [if_neg h1, if_neg h2, if_pos (by omega), if_pos h3]⟩
  by_cases h4 : rd a 0 > 1152921504606846976
  · exact ⟨(0, false), by rw [if_neg h1, if_neg h2, if_pos (by omega), if_pos (by omega), decide_eq_false (by omega)]; rfl, by rw [if_neg h1, if_neg h2, if_pos (by omega), if_neg h3, if_pos h4]⟩
  by_cases h5 : rd b 0 < -1152921504606846976
  · exact ⟨(0, false), by rw [if_neg h1, if_neg h2, if_pos (by omega), if_pos (by omega), decide_eq_true (by omega), Option.bind_some, if_pos rfl, if_pos (by omega), if_neg (by omega)]; rfl, by rw [if_neg h1, if_neg h2, if_pos (by omega), if_neg h3, if_neg h4, if_pos (by omega), if_pos h5]⟩
  by_cases h6 : rd b 0 > 1152921504606846976
  · exact ⟨(0, false), by rw [if_neg h1, if_neg h2, if_pos (by omega), if_pos (by omega), decide_eq_true (by omega), Option.bind_some, if_pos rfl, if_pos (by omega), if_pos (by omega), decide_eq_false (by omega)]; rfl, by rw [if_neg h1, if_neg h2, if_pos (by omega), if_neg h3, if_neg h4, if_pos (by omega), if_neg h5, if_pos h6]⟩
  · exact ⟨(wrap64 (rd b 0 - rd a 0), true), by rw [if_neg h1, if_neg h2, if_pos (by omega), if_pos (by omega), decide_eq_true (by omega), Option.bind_some, if_pos rfl, if_pos (by omega), if_pos (by omega), decide_eq_true (by omega)]; rfl, by rw [if_neg h1, if_neg h2, if_pos (by omega), if_neg h3, if_neg h4, if_pos (by omega), if_neg h5, if_neg h6]⟩
theorem pure3 (a b : List Int) : Ev (fun k => signalbenchlaw54_AlignOffsets.f k a b) true := by
  have guard : Ev (fun k => signalbenchlaw54_AlignOffsets.j0 k a b true) true := by
    refine Ev.step (fun k => ?_) awake_bind3
    simp only [signalbenchlaw54_AlignOffsets.j0]
    rw [if_pos trivial]
  obtain ⟨r, h1, h2⟩ := offset_same a b
  have rest : Ev (fun k => signalbenchlaw54_AlignOffsets.j0 k a b false) true := by
    refine Ev.step (fun k => ?_) awake_bind3
    simp only [signalbenchlaw54_AlignOffsets.j0]
    rw [if_neg (by simp), h1, h2]
    simp only [Option.bind_some, beq_self_eq_true, if_true]
  unfold signalbenchlaw54_AlignOffsets.f
  by_cases c : (a.length : Int) > 20
  · simp only [if_pos c]
    exact guard
  · simp only [if_neg c]
    by_cases d : (b.length : Int) > 20
    · rw [decide_eq_true d]; exact guard
    · rw [decide_eq_false d]; exact rest
theorem law3 {q0 : Prop} {q1 : Prop} (a : List Int) (b : List Int) (_ : q0) (_ : q1) : ∃ k, signalbenchlaw54_AlignOffsets.f k a b = some true := (pure3 a b).rounds
end Go.Proofs.Ytbkncndagheijaa.H
