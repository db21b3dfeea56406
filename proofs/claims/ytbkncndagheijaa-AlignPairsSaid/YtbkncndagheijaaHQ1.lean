/- AlignPairs answers true for any two lists; no condition. -/
import Derived.Test.YtbkncndagheijaaHPf
import Derived.Test.YtbkncndagheijaaH9
namespace Go.Proofs.Ytbkncndagheijaa.H
open Go.RowKit Go.Proofs.YtbkncndagheijaaW.PrintWords Go.Proofs.YtbkncndagheijaaW.PrintLast Go.Proofs.Ytbkncndagheijaa.Lev
theorem awake_bind1 : Ev (fun k => (signalbenchlaw54_awake.f k).bind fun t => (some t)) true := Ev.bind awake_ev (Ev.now true)
theorem j0_guard1 (a b : List ByteArray) : Ev (fun k => signalbenchlaw54_AlignPairs.j0 k a b true) true := by
  refine Ev.step (fun k => ?_) awake_bind1
  simp only [signalbenchlaw54_AlignPairs.j0]
  rw [if_pos trivial]
theorem pure1 (a b : List ByteArray) : Ev (fun k => signalbenchlaw54_AlignPairs.f k a b) true := by
  obtain ⟨ra, ea, la⟩ := small_ev a
  obtain ⟨rb, eb, lb⟩ := small_ev b
  unfold signalbenchlaw54_AlignPairs.f
  refine Ev.bind ea ?_
  cases ra with
  | false => exact j0_guard1 a b
  | true =>
    show Ev (fun k => (signalbenchlaw54_small.f k b).bind fun t249 => (signalbenchlaw54_AlignPairs.j0 k a b (!t249))) true
    refine Ev.bind eb ?_
    cases rb with
    | false => exact j0_guard1 a b
    | true =>
      have ha := la rfl
      have hb := lb rfl
      obtain ⟨P, hP, h1, h2⟩ := pairs_ev (a := a) (b := b) (by omega) (by omega)
      have hPl := hP.len
      refine Ev.step (f := fun k => (align_Distance.f a b).bind fun bt251 => ((signalbenchref54_Distance.f k a b).bind fun bt253 => ((align_Pairs.f k a b).bind fun bt255 => ((signalbenchref54_Pairs.f k a b).bind fun bt259 => (if bt251.1 = bt253.1 then (if bt251.2 = bt253.2 then ((signalbenchlaw54_same.f k bt255.1 bt259.1).bind fun t263 => (if t263 = true then (if bt255.2 = bt259.2 then ((signalbenchlaw54_awake.f k).bind fun t264 => (some t264)) else (some false)) else (some false))) else (some false)) else (some false)))))) (fun k => ?_) ?_
      · simp only [signalbenchlaw54_AlignPairs.j0]
        rw [if_neg (by simp)]
      · rw [dist_eq (by omega) (by omega)]
        simp only [Option.bind_some]
        refine Ev.bind (refdist_ev (by omega) (by omega)) ?_
        refine Ev.bind h1 ?_
        refine Ev.bind h2 ?_
        simp only [if_true]
        refine Ev.bind (same_ev (by omega)) ?_
        simp only [if_true]
        exact awake_bind1
theorem law1 {q0 : Prop} {q1 : Prop} (a : List ByteArray) (b : List ByteArray) (_ : q0) (_ : q1) : ∃ k, signalbenchlaw54_AlignPairs.f k a b = some true := (pure1 a b).rounds
end Go.Proofs.Ytbkncndagheijaa.H
