/- SpanPartition, in plain words; no condition. -/
import Derived.Test.YtejmegaalfblmaaHQGaps
import Derived.Test.YtejmegaalfblmaaHQFind
import Derived.Test.YtejmegaalfblmaaHQCount
import Derived.Test.YtejmegaalfblmaaHQLives
import Derived.Test.YtejmegaalfblmaaH20
namespace Go.Proofs.Ytejmegaalfblmaa.H
open Go.RowKit Go.Proofs.YtejmegaalfblmaaW.PrintWords Go.Proofs.YtejmegaalfblmaaW.PrintLast Go.Proofs.YtejmegaalfblmaaW.PrintMore
set_option linter.unusedSimpArgs false
theorem part_pure (l : List S25) (a0 a1 t : Int) : ∃ k, signalbenchlaw06_SpanPartition.f k l a0 a1 t = some true := by
  refine Ev.rounds (g := fun k => signalbenchlaw06_SpanPartition.f k l a0 a1 t) ?_
  unfold signalbenchlaw06_SpanPartition.f
  rw [lives_f, valid_f]
  simp only [Option.bind_some, if_true]
  have yes : Ev (fun k => signalbenchlaw06_SpanPartition.j0 k l t true a0 a1) true := Ev.le 1 (fun k => by rw [signalbenchlaw06_SpanPartition.j0, if_pos rfl])
  by_cases c : (l.length : Int) > 200
  · simp only [if_pos c]
    exact yes
  simp only [if_neg c]
  by_cases hv : vld a0 a1 = true
  case neg =>
    simp only [if_neg hv]
    exact yes
  simp only [if_pos hv]
  by_cases c1 : t < a0
  · simp only [if_pos c1]
    exact yes
  simp only [if_neg c1]
  by_cases c2 : t ≥ a1
  · simp only [decide_eq_true c2]
    exact yes
  simp only [decide_eq_false c2]
  have g3 := gaps_len l a0 a1
  have u3 : (unionS l).length ≤ l.length := join_len l
  obtain ⟨g1, _, g2⟩ := gaps_law l a0 a1
  have hc := count_ev (unionS l) (by omega) t
  have hg := count_ev (gapsS l a0 a1) (by omega) t
  obtain ⟨n1, n2⟩ := cntS_norm t _ (union_norm l)
  obtain ⟨m1, m2⟩ := cntS_norm t _ g1
  rw [union_cov] at n1 n2
  rw [g2] at m1 m2
  have hnn := findS_nonneg (t := t) l
  refine Ev.step (f := fun k => (span_Join.f l).bind fun t238 => ((span_Gaps.f k l a0 a1).bind fun t241 => ((span_Find.f k l t).bind fun t244 => (if t244 ≥ 0 then ((signalbenchlaw06_count.f k t238 t).bind fun t245 => (if t245 = 1 then ((signalbenchlaw06_count.f k t241 t).bind fun t246 => (some (t246 == (1 - 1)))) else (some false))) else ((signalbenchlaw06_count.f k t238 t).bind fun t247 => (if t247 = 0 then ((signalbenchlaw06_count.f k t241 t).bind fun t248 => (some (t248 == (1 - 0)))) else (some false)))))))
    (fun k => by rw [signalbenchlaw06_SpanPartition.j0, if_neg (by simp)]) ?_
  rw [join_f l (by omega)]
  simp only [Option.bind_some]
  refine (gaps_ev l (by omega) a0 a1).bind ?_
  refine (find_ev l (by omega) t).bind ?_
  by_cases h : Cov l t
  · simp only [if_pos (show findS t 0 l ≥ 0 from hnn.2 h)]
    refine hc.bind ?_
    simp only [if_pos (n1 h)]
    refine hg.bind ?_
    rw [m2 (fun x => x.2.2.2 h)]
    exact Ev.now true
  · simp only [if_neg (show ¬ findS t 0 l ≥ 0 from fun x => h (hnn.1 x))]
    refine hc.bind ?_
    simp only [if_pos (n2 h)]
    refine hg.bind ?_
    rw [m1 ⟨hv, by omega, by omega, h⟩]
    exact Ev.now true
end Go.Proofs.Ytejmegaalfblmaa.H
