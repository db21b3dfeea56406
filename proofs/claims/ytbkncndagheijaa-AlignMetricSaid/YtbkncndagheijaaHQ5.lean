/- AlignMetric answers true for any three lists; no condition. -/
import Derived.Test.YtbkncndagheijaaHPf
import Derived.Test.YtbkncndagheijaaH13
namespace Go.Proofs.Ytbkncndagheijaa.H
open Go.RowKit Go.Proofs.YtbkncndagheijaaW.PrintWords Go.Proofs.YtbkncndagheijaaW.PrintLast Go.Proofs.Ytbkncndagheijaa.Lev
theorem awake_bind5 : Ev (fun k => (signalbenchlaw54_awake.f k).bind fun t => (some t)) true := Ev.bind awake_ev (Ev.now true)
theorem j0_guard5 (a b c : List ByteArray) : Ev (fun k => signalbenchlaw54_AlignMetric.j0 k a b c true) true := by
  refine Ev.step (fun k => ?_) awake_bind5
  simp only [signalbenchlaw54_AlignMetric.j0]
  rw [if_pos trivial]
theorem pure5 (a b c : List ByteArray) : Ev (fun k => signalbenchlaw54_AlignMetric.f k a b c) true := by
  obtain ⟨ra, ea, la⟩ := small_ev a
  obtain ⟨rb, eb, lb⟩ := small_ev b
  obtain ⟨rc, ec, lc⟩ := small_ev c
  unfold signalbenchlaw54_AlignMetric.f
  refine Ev.bind ea ?_
  cases ra with
  | false => exact j0_guard5 a b c
  | true =>
    show Ev (fun k => (signalbenchlaw54_small.f k b).bind fun t307 => (if t307 = true then ((signalbenchlaw54_small.f k c).bind fun t308 => (signalbenchlaw54_AlignMetric.j0 k a b c (!t308))) else (signalbenchlaw54_AlignMetric.j0 k a b c true))) true
    refine Ev.bind eb ?_
    cases rb with
    | false => exact j0_guard5 a b c
    | true =>
      show Ev (fun k => (signalbenchlaw54_small.f k c).bind fun t308 => (signalbenchlaw54_AlignMetric.j0 k a b c (!t308))) true
      refine Ev.bind ec ?_
      cases rc with
      | false => exact j0_guard5 a b c
      | true =>
        have ha := la rfl
        have hb := lb rfl
        have hc := lc rfl
        have sw : ds b a = ds a b := lev_swap _ _
        have tr : ds a b ≤ ds a c + ds c b := lev_triangle _ _ _
        have b1 : ds a b ≤ a.length + b.length := by have := lev_bound (Ls a) (Ls b); rw [Ls_length, Ls_length] at this; exact this
        have b2 : ds a c ≤ a.length + c.length := by have := lev_bound (Ls a) (Ls c); rw [Ls_length, Ls_length] at this; exact this
        have b3 : ds c b ≤ c.length + b.length := by have := lev_bound (Ls c) (Ls b); rw [Ls_length, Ls_length] at this; exact this
        have z : (((ds a b : Int) == 0) == decide (Ls a = Ls b)) = true := by
          by_cases e : Ls a = Ls b
          · have h0 : ds a b = 0 := by unfold ds; rw [e]; exact lev_self _
            rw [h0, decide_eq_true e]; rfl
          · have h0 : ds a b ≠ 0 := fun h => e (lev_zero h)
            rw [decide_eq_false e, beq_eq_false_iff_ne.2 (show (ds a b : Int) ≠ 0 by omega)]; rfl
        have W1 : wrap64 ((a.length : Int) + (b.length : Int)) = (a.length : Int) + (b.length : Int) := wr_in (by omega)
        have W2 : wrap64 ((ds a c : Int) + (ds c b : Int)) = (ds a c : Int) + (ds c b : Int) := wr_in (by omega)
        have j1 : Ev (fun k => signalbenchlaw54_AlignMetric.j1 k a b (ds a b : Int) (ds a b : Int) (ds a c : Int) (ds c b : Int) false) true := by
          refine Ev.step (f := fun k => (signalbenchlaw54_equal.f k a b).bind fun t318 => (if (((ds a b : Int) == 0) == t318) = true then ((signalbenchlaw54_awake.f k).bind fun t319 => (some t319)) else (some false))) (fun k => ?_) ?_
          · simp only [signalbenchlaw54_AlignMetric.j1, W1, W2]
            rw [if_neg (by simp), if_pos trivial, if_pos (show (ds a b : Int) ≥ 0 by omega), if_pos (show (ds a b : Int) ≤ (a.length : Int) + (b.length : Int) by omega), if_pos (show (ds a b : Int) ≤ (ds a c : Int) + (ds c b : Int) by omega)]
          · refine Ev.bind (equal_ev (by omega)) ?_
            simp only [if_pos z]
            exact awake_bind5
        refine Ev.step (fun k => ?_) j1
        show signalbenchlaw54_AlignMetric.j0 (k + 1) a b c false = _
        simp only [signalbenchlaw54_AlignMetric.j0]
        rw [if_neg (by simp), dist_eq (by omega) (by omega), dist_eq (by omega) (by omega), dist_eq (by omega) (by omega), dist_eq (by omega) (by omega)]
        simp only [Option.bind_some, if_true, sw, bne_self_eq_false]
theorem law5 {q0 : Prop} {q1 : Prop} {q2 : Prop} (a : List ByteArray) (b : List ByteArray) (c : List ByteArray) (_ : q0) (_ : q1) (_ : q2) : ∃ k, signalbenchlaw54_AlignMetric.f k a b c = some true := (pure5 a b c).rounds
end Go.Proofs.Ytbkncndagheijaa.H
