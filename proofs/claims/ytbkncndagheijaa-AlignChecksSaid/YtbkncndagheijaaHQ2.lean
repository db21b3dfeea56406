/- AlignChecks answers true for any two lists and any pairs; no condition. -/
import Derived.Test.YtbkncndagheijaaHPf
import Derived.Test.YtbkncndagheijaaH11
namespace Go.Proofs.Ytbkncndagheijaa.H
open Go.RowKit Go.Proofs.YtbkncndagheijaaW.PrintWords Go.Proofs.YtbkncndagheijaaW.PrintLast Go.Proofs.Ytbkncndagheijaa.Lev
theorem awake_bind2 : Ev (fun k => (signalbenchlaw54_awake.f k).bind fun t => (some t)) true := Ev.bind awake_ev (Ev.now true)
theorem j0_guard2 (a b : List ByteArray) (l : List S43) : Ev (fun k => signalbenchlaw54_AlignChecks.j0 k a b l true) true := by
  refine Ev.step (fun k => ?_) awake_bind2
  simp only [signalbenchlaw54_AlignChecks.j0]
  rw [if_pos trivial]
theorem pure2 (a b : List ByteArray) (l : List S43) : Ev (fun k => signalbenchlaw54_AlignChecks.f k a b l) true := by
  obtain ⟨ra, ea, la⟩ := small_ev a
  obtain ⟨rb, eb, lb⟩ := small_ev b
  unfold signalbenchlaw54_AlignChecks.f
  refine Ev.bind ea ?_
  cases ra with
  | false => exact j0_guard2 a b l
  | true =>
    show Ev (fun k => (signalbenchlaw54_small.f k b).bind fun t270 => (if t270 = true then (signalbenchlaw54_AlignChecks.j0 k a b l (decide ((l.length : Int) > 30))) else (signalbenchlaw54_AlignChecks.j0 k a b l true))) true
    refine Ev.bind eb ?_
    cases rb with
    | false => exact j0_guard2 a b l
    | true =>
      have ha := la rfl
      have hb := lb rfl
      show Ev (fun k => signalbenchlaw54_AlignChecks.j0 k a b l (decide ((l.length : Int) > 30))) true
      by_cases c : l.length ≤ 30
      · rw [decide_eq_false (by omega)]
        refine Ev.step (f := fun k => (align_Check.f k a b l).bind fun t272 => ((signalbenchref54_Check.f k a b l).bind fun t273 => (if (t272 == t273) = true then ((signalbenchlaw54_awake.f k).bind fun t274 => (some t274)) else (some false)))) (fun k => ?_) ?_
        · simp only [signalbenchlaw54_AlignChecks.j0]
          rw [if_neg (by simp)]
        · refine Ev.bind (check_ev (by omega) (by omega) (by omega)) ?_
          refine Ev.bind (refcheck_ev (by omega) (by omega) (by omega)) ?_
          simp only [beq_self_eq_true, if_true]
          exact awake_bind2
      · rw [decide_eq_true (by omega)]
        exact j0_guard2 a b l
theorem law2 {q0 : Prop} {q1 : Prop} {q2 : Prop} (a : List ByteArray) (b : List ByteArray) (c : List S43) (_ : q0) (_ : q1) (_ : q2) : ∃ k, signalbenchlaw54_AlignChecks.f k a b c = some true := (pure2 a b c).rounds
end Go.Proofs.Ytbkncndagheijaa.H
