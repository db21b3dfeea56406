/- The law on validity returns true; plain law over the printed functions, no condition. -/
import Derived.Test.YtgdjiphljadlcaaHQg
import Derived.Test.YtgdjiphljadlcaaH39
namespace Go.Proofs.Ytgdjiphljadlcaa.H
open Go.RowKit Go.Proofs.YtgdjiphljadlcaaW.PrintWords Go.Proofs.YtgdjiphljadlcaaW.PrintLast Go.Proofs.YtgdjiphljadlcaaW.PrintMore
set_option linter.unusedSimpArgs false
theorem valid_pure (s : ByteArray) (xs : List S64) (D : List S139) (ns : List S100) : ∃ k, signalbenchlaw44_TrigautoValid.f k s xs D ns = some true := by
  refine Ev.rounds ?_
  unfold signalbenchlaw44_TrigautoValid.f
  refine (compile_ev s xs D ns).bind ?_
  unfold compT
  by_cases c : tcErr s xs ns = 0
  · simp only [if_pos c, if_true]
    refine (check_ev _).bind ?_
    rw [chk_comp c]
    simp only [if_true]
    have hf := fine_of c
    obtain ⟨h1, _, h3, h4⟩ := wrErr_len (tcErr_zero c).1
    have hp := fun x hx => (hf x hx).t
    have hl := flat_len (ns := ns) hp
    have hne := flat_ne (ns := ns) h1 hp
    have hlen : 1 ≤ (fixH (flat ns xs)).length ∧ (fixH (flat ns xs)).length ≤ 32 := by
      rw [fixH_len]
      have : (flat ns xs).length ≠ 0 := fun e => hne (List.eq_nil_of_length_eq_zero e)
      omega
    simp only [if_neg (show ¬ ((fixH (flat ns xs)).length : Int) < 1 by omega), decide_eq_false (show ¬ ((fixH (flat ns xs)).length : Int) > 32 by omega)]
    refine Ev.step (f := fun k => signalbenchlaw44_TrigautoValid.l0 k 0 D ns (fixH (flat ns xs))) (fun k => ?_) ?_
    · simp [signalbenchlaw44_TrigautoValid.j0]
    · have := ev_drop (fixH (flat ns xs)) (fun k i => signalbenchlaw44_TrigautoValid.l0 k i D ns (fixH (flat ns xs))) (fun _ _ => true) ?_ ?_ (fixH (flat ns xs)).length 0 (by omega)
      · simpa using this
      · have h0 : rd_T50 (fixH (flat ns xs)) ((0 : Nat) : Int) = fixS ((flat ns xs)[0]'(by rw [fixH_len] at hlen; omega)) := by
          rw [rd50 _ 0 (by omega), fixH_get (by omega) (by rw [fixH_len] at hlen; omega), if_pos rfl]
        have h0' : rd_T50 (fixH (flat ns xs)) 0 = fixS ((flat ns xs)[0]'(by rw [fixH_len] at hlen; omega)) := h0
        refine Ev.le 1 fun k => ?_
        simp only [signalbenchlaw44_TrigautoValid.l0, h0', fixS, awake_is, Option.bind_some]
        rw [if_neg (by omega), if_pos (by omega)]
        simp
      · intro i hi ih
        have e2 : wrap64 ((i : Int) + 1) = ((i + 1 : Nat) : Int) := by rw [wr_in (by omega)]; omega
        have hi' : i < (flat ns xs).length := by rw [fixH_len] at hi; exact hi
        obtain ⟨x, hx, e⟩ := flat_mem (List.getElem_mem hi')
        have hnode : (fixH (flat ns xs))[i].f0.f0 = findN x.f0.f0 ns 0 := by
          rw [fixH_get hi hi', e]
          by_cases c0 : i = 0
          · rw [if_pos c0]; rfl
          · rw [if_neg c0]; rfl
        have hb := findN_bd x.f0.f0 ns 0 (hf x hx).n0
        have hb0 := (hf x hx).n0
        refine Ev.step (fun k => ?_) ih
        simp only [signalbenchlaw44_TrigautoValid.l0, rd50 _ i hi, e2, hnode]
        rw [if_pos (by omega), if_pos (by omega), if_neg (by omega), if_neg (by omega)]
  · simp only [if_neg c]
    refine (tcheck_ev s xs D ns).bind ?_
    simp only [if_true, awake_is, Option.bind_some]
    exact Ev.now _
end Go.Proofs.Ytgdjiphljadlcaa.H
