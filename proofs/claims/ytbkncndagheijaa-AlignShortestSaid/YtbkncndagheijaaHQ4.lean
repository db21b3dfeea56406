/- AlignShortest answers true for any two lists and any pairs; no condition. -/
import Derived.Test.YtbkncndagheijaaHPf
import Derived.Test.YtbkncndagheijaaH12
namespace Go.Proofs.Ytbkncndagheijaa.H
open Go.RowKit Go.Proofs.YtbkncndagheijaaW.PrintWords Go.Proofs.YtbkncndagheijaaW.PrintLast Go.Proofs.Ytbkncndagheijaa.Lev
theorem awake_bind4 : Ev (fun k => (signalbenchlaw54_awake.f k).bind fun t => (some t)) true := Ev.bind awake_ev (Ev.now true)
theorem j0_guard4 (a b : List ByteArray) (l : List S43) : Ev (fun k => signalbenchlaw54_AlignShortest.j0 k a b l true) true := by
  refine Ev.step (fun k => ?_) awake_bind4
  simp only [signalbenchlaw54_AlignShortest.j0]
  rw [if_pos trivial]
theorem pure4 (a b : List ByteArray) (l : List S43) : Ev (fun k => signalbenchlaw54_AlignShortest.f k a b l) true := by
  obtain ⟨ra, ea, la⟩ := small_ev a
  obtain ⟨rb, eb, lb⟩ := small_ev b
  unfold signalbenchlaw54_AlignShortest.f
  refine Ev.bind ea ?_
  cases ra with
  | false => exact j0_guard4 a b l
  | true =>
    show Ev (fun k => (signalbenchlaw54_small.f k b).bind fun t290 => (if t290 = true then (signalbenchlaw54_AlignShortest.j0 k a b l (decide ((l.length : Int) > 30))) else (signalbenchlaw54_AlignShortest.j0 k a b l true))) true
    refine Ev.bind eb ?_
    cases rb with
    | false => exact j0_guard4 a b l
    | true =>
      have ha := la rfl
      have hb := lb rfl
      show Ev (fun k => signalbenchlaw54_AlignShortest.j0 k a b l (decide ((l.length : Int) > 30))) true
      by_cases c : l.length ≤ 30
      · rw [decide_eq_false (by omega)]
        obtain ⟨P, hP, h1, h2⟩ := pairs_ev (a := a) (b := b) (by omega) (by omega)
        have hPl := hP.len
        have hch : chk a b 0 0 P = true := (chk_iff a b P 0 0).2 ⟨_, hP⟩
        have hc1 := check_ev (a := a) (b := b) (l := P) (by omega) (by omega) (by omega)
        rw [hch] at hc1
        have hc2 := cost_ev (l := P) (by omega)
        rw [hP.cst] at hc2
        refine Ev.step (f := fun k => (align_Distance.f a b).bind fun bt292 => ((align_Pairs.f k a b).bind fun bt294 => (if bt292.2 = 0 then (if bt294.2 = 0 then ((align_Check.f k a b bt294.1).bind fun t298 => (if t298 = true then ((signalbenchlaw54_cost.f k bt294.1).bind fun t299 => (signalbenchlaw54_AlignShortest.j1 k a b l bt292.1 (t299 != bt292.1))) else (signalbenchlaw54_AlignShortest.j1 k a b l bt292.1 true))) else (signalbenchlaw54_AlignShortest.j1 k a b l bt292.1 true)) else (signalbenchlaw54_AlignShortest.j1 k a b l bt292.1 true)))) (fun k => ?_) ?_
        · simp only [signalbenchlaw54_AlignShortest.j0]
          rw [if_neg (by simp)]
        · rw [dist_eq (by omega) (by omega)]
          simp only [Option.bind_some]
          refine Ev.bind h1 ?_
          simp only [if_true]
          refine Ev.bind hc1 ?_
          simp only [if_true]
          refine Ev.bind hc2 ?_
          rw [bne_self_eq_false]
          refine Ev.step (f := fun k => (align_Check.f k a b l).bind fun t300 => (if t300 = true then ((signalbenchlaw54_cost.f k l).bind fun t301 => (if t301 ≥ (ds a b : Int) then ((signalbenchlaw54_awake.f k).bind fun t302 => (some t302)) else (some false))) else ((signalbenchlaw54_awake.f k).bind fun t303 => (some t303)))) (fun k => ?_) ?_
          · simp only [signalbenchlaw54_AlignShortest.j1]
            rw [if_neg (by simp)]
          · refine Ev.bind (check_ev (a := a) (b := b) (l := l) (by omega) (by omega) (by omega)) ?_
            by_cases hk : chk a b 0 0 l = true
            · obtain ⟨n, hn⟩ := (chk_iff a b l 0 0).1 hk
              have hle := hn.least
              rw [sd_zero] at hle
              simp only [hk, if_true]
              have hc3 := cost_ev (l := l) (by omega)
              rw [hn.cst] at hc3
              refine Ev.bind hc3 ?_
              have hge : ((n : Int) ≥ (ds a b : Int)) := by omega
              simp only [if_pos hge]
              exact awake_bind4
            · simp only [if_neg hk]
              exact awake_bind4
      · rw [decide_eq_true (by omega)]
        exact j0_guard4 a b l
theorem law4 {q0 : Prop} {q1 : Prop} {q2 : Prop} (a : List ByteArray) (b : List ByteArray) (c : List S43) (_ : q0) (_ : q1) (_ : q2) : ∃ k, signalbenchlaw54_AlignShortest.f k a b c = some true := (pure4 a b c).rounds
end Go.Proofs.Ytbkncndagheijaa.H
