/- The law on conditions returns true; plain law over the printed functions, no condition. -/
import Derived.Test.YtgdjiphljadlcaaHRa
import Derived.Test.YtgdjiphljadlcaaH38
namespace Go.Proofs.Ytgdjiphljadlcaa.H
open Go.RowKit Go.Proofs.YtgdjiphljadlcaaW.PrintWords Go.Proofs.YtgdjiphljadlcaaW.PrintLast Go.Proofs.YtgdjiphljadlcaaW.PrintMore
set_option linter.unusedSimpArgs false
theorem awake_true : signalbenchlaw44_awake.f = some true := rfl
theorem conds_pure (n kd fl op v on oa : Int) (ek fr tt va au : Int) (da : ByteArray) (fa : Int) :
    ∃ k, signalbenchlaw44_TrigautoConds.f k n kd fl op v on oa ek fr tt va au da fa = some true := by
  refine Ev.rounds ?_
  unfold signalbenchlaw44_TrigautoConds.f
  refine (holds_ev n kd fl op v on oa ek fr tt va au da fa).bind ?_
  refine (rholds_ev n kd fl op v on oa ek fr tt va au da fa).bind ?_
  simp only [beq_self_eq_true, if_true, awake_true, Option.bind_some]
  exact Ev.now _
end Go.Proofs.Ytgdjiphljadlcaa.H
