/- A part of the plain laws of the search (layer 47); no condition. -/
import Derived.Test.YtgdjiphljadlcaaKQc
import Derived.Test.YtgdjiphljadlcaaKQd
import Derived.Test.YtgdjiphljadlcaaKQf
import Derived.Test.YtgdjiphljadlcaaKQg
import Derived.Test.YtgdjiphljadlcaaKQh
import Derived.Test.YtgdjiphljadlcaaKQi
import Derived.Test.YtgdjiphljadlcaaKNext
import Derived.Test.YtgdjiphljadlcaaK0
import Derived.Test.YtgdjiphljadlcaaK14
import Derived.Test.YtgdjiphljadlcaaK15
import Derived.Test.YtgdjiphljadlcaaK34
namespace Go.Proofs.Ytgdjiphljadlcaa.K
open Go.RowKit Go.Proofs.YtgdjiphljadlcaaW.PrintWords Go.Proofs.YtgdjiphljadlcaaW.PrintLast Go.Proofs.YtgdjiphljadlcaaW.PrintMore
set_option linter.unusedSimpArgs false
theorem complete_l0 (pl tr : List Int) (hp : pl.length ≤ 32) (he : tr.length = pl.length) (h : ∀ i, i < pl.length → rd pl i ≤ rd tr i) : ∀ d i, i + d = pl.length → Ev (fun k => signalbenchlaw47_SearchComplete.l0 k pl tr (i : Int)) true := by
  intro d
  induction d with
  | zero =>
    intro i hi
    refine Ev.step (f := fun _ => (signalbenchlaw47_awake.f).bind fun t => (some t)) (fun k => ?_) awake_ev
    simp only [signalbenchlaw47_SearchComplete.l0]
    rw [if_neg (by omega)]
  | succ d ih =>
    intro i hi
    refine Ev.step (fun k => ?_) (ih (i + 1) (by omega))
    have := h i (by omega)
    simp only [signalbenchlaw47_SearchComplete.l0, wr_nat (show i ≤ 1000000 by omega)]
    rw [if_pos (by omega), if_pos (by omega), if_pos (by omega), if_neg (by omega)]
theorem complete_pure (A : List S50) (l : List S46) (pl : List Int) : ∃ k, signalbenchlaw47_SearchComplete.f k A l pl = some true := by
  refine Ev.rounds (g := fun k => signalbenchlaw47_SearchComplete.f k A l pl) ?_
  have no : Ev (fun k => signalbenchlaw47_SearchComplete.j0 k l pl true A) true := by
    refine Ev.step (f := fun _ => (signalbenchlaw47_awake.f).bind fun t => (some t)) (fun k => ?_) awake_ev
    simp only [signalbenchlaw47_SearchComplete.j0, if_true]
  unfold signalbenchlaw47_SearchComplete.f
  refine (asc_ev l).bind ?_
  by_cases ca : ascL l = true
  · simp only [if_pos ca]
    have hl : l.length ≤ 1000000 := by
      unfold ascL at ca
      rw [Bool.and_eq_true, decide_eq_true_eq] at ca
      omega
    refine (matches_ev A l pl hl).bind ?_
    by_cases cm : matB A l pl = true
    · simp only [if_pos cm]
      have h' := cm
      rw [matB, Bool.and_eq_true, Bool.and_eq_true, decide_eq_true_eq, decide_eq_true_eq] at h'
      obtain ⟨⟨hc, hpl⟩, _⟩ := h'
      have h := chk_len hc
      have e0 : ((pl.length : Int) == 0) = false := by rw [beq_eq_false_iff_ne]; omega
      rw [e0]
      obtain ⟨b1, b2⟩ := mat_gN A l pl cm (A.length - 1) (by omega)
      obtain ⟨q, hq⟩ : ∃ q : Nat, rd pl ((A.length - 1 : Nat) : Int) = (q : Int) := ⟨(rd pl ((A.length - 1 : Nat) : Int)).toNat, by omega⟩
      rw [hq, Int.toNat_natCast] at b2
      rw [hq] at b1
      have htr : trB A l (q : Int) = (trace_ A l q, true) := by
        rw [trB, if_pos ⟨hc, by omega, by omega, by rw [Int.toNat_natCast]; exact b2⟩, Int.toNat_natCast]
      refine Ev.step (f := fun k => (search_Trace.f k A l (q : Int)).bind fun bt => if bt.2 = true then (if (bt.1.length : Int) = (pl.length : Int) then (search_Next.f k A l (q : Int)).bind fun t => signalbenchlaw47_SearchComplete.j1 k pl bt.1 (t != (q : Int)) else signalbenchlaw47_SearchComplete.j1 k pl bt.1 true) else signalbenchlaw47_SearchComplete.j1 k pl bt.1 true) (fun k => ?_) ?_
      · simp only [signalbenchlaw47_SearchComplete.j0, Bool.false_eq_true, if_false, hpl, wr_pred (show 0 < A.length by omega) (show A.length ≤ 1000000 by omega), if_pos (show (0 : Int) ≤ ((A.length - 1 : Nat) : Int) by omega), if_pos (show ((A.length - 1 : Nat) : Int) < (A.length : Int) by omega), hq]
      · refine (trace_ev A l hl (q : Int)).bind ?_
        rw [htr]
        simp only [if_true, trace_len, hpl]
        refine (next_ev A l hl (q : Int)).bind ?_
        rw [next_self A l hc q (by omega) b2]
        have e1 : ((q : Int) != (q : Int)) = false := by simp
        rw [e1]
        refine Ev.step (f := fun k => signalbenchlaw47_SearchComplete.l0 k pl (trace_ A l q) ((0 : Nat) : Int)) (fun k => ?_) (complete_l0 pl (trace_ A l q) (by omega) (by rw [trace_len, hpl]) (fun i hi => ?_) pl.length 0 (by omega))
        · simp only [signalbenchlaw47_SearchComplete.j1, Bool.false_eq_true, if_false]
          rfl
        · rw [trace_get A l q i (by omega)]
          have := back_last A l pl ca cm q (by omega) b2 hq (A.length - 1 - i) (by omega)
          rwa [show A.length - 1 - (A.length - 1 - i) = i by omega] at this
    · simp only [if_neg cm]
      exact no
  · simp only [if_neg ca]
    exact no
end Go.Proofs.Ytgdjiphljadlcaa.K
