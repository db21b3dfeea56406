/- EvindexNext in plain words; no condition beyond the input's form. -/
import Derived.Test.YteifekndhgkgcaaHPIdx
import Derived.Test.YteifekndhgkgcaaHPSmall
import Derived.Test.YteifekndhgkgcaaHPAwake
import Derived.Test.YteifekndhgkgcaaHPLook
import Derived.Test.YteifekndhgkgcaaHNxt
namespace Go.Proofs.Yteifekndhgkgcaa.H
open Go.RowKit Go.Proofs.YteifekndhgkgcaaW.PrintWords Go.Proofs.YteifekndhgkgcaaW.PrintLast Go.Proofs.YteifekndhgkgcaaW.PrintMore
set_option linter.unusedSimpArgs false
set_option linter.unusedVariables false
def tlS (a b : Int) (l : List S47) (i : Nat) : List Int := (idxS (eqK a b) l l.length).drop (idxS (eqK a b) l i).length
theorem tl_step (a b : Int) (l : List S47) (i : Nat) (hi : i < l.length) : tlS a b l i = if eqK a b (keyN l i) (keyK l i) then (i : Int) :: tlS a b l (i + 1) else tlS a b l (i + 1) := by
  by_cases q : eqK a b (keyN l i) (keyK l i)
  · rw [if_pos q]
    have e1 : idxS (eqK a b) l (i + 1) = idxS (eqK a b) l i ++ [(i : Int)] := by rw [idxS, if_pos q]
    obtain ⟨t, ht⟩ := idx_pre (eqK a b) l l.length (i + 1) (by omega)
    unfold tlS
    rw [ht, e1]
    simp
  · rw [if_neg q]
    have e1 : idxS (eqK a b) l (i + 1) = idxS (eqK a b) l i := by rw [idxS, if_neg q]
    unfold tlS
    rw [e1]
theorem nextS_cons (fr p : Int) (l : List Int) : nextS fr (p :: l) = if p ≥ fr then p else nextS fr l := by
  unfold nextS
  rw [List.find?_cons]
  by_cases h : p ≥ fr
  · rw [if_pos h, decide_eq_true h]
    rfl
  · rw [if_neg h, decide_eq_false h]
theorem ln_l0 (l : List S47) (hl : l.length ≤ 60) (hok : ∀ x ∈ l, Ok47 x) (a b fr : Int) : ∀ (i : Nat), i ≤ l.length → Ev (fun k => signalbenchlaw46_EvindexNext.l0 k l (nextS fr (tlS a b l i)) ((i : Int) - 1) a b fr) true
  | 0, _ => by
    have hbl := build_len l l.length
    have hbs := build_sum l l.length
    have hb : ∀ s ∈ buildF l l.length, s.f2.length * 8 ≤ 140737488351232 := fun s hs => by have := mem_sum _ s hs; omega
    have hle := look_le a b (buildF l l.length)
    have ht : tlS a b l 0 = lookS a b (buildF l l.length) := by
      unfold lookS
      rw [look_build]
      rfl
    rw [ht]
    refine Ev.step (f := fun k => (evindex_Build.f l).bind fun bt139 => ((evindex_Next.f k bt139.1 bt139.2 a b fr).bind fun t143 => (if t143 = nextS fr (lookS a b (buildF l l.length)) then ((signalbenchlaw46_awake.f k).bind fun t144 => (some t144)) else (some false)))) (fun k => ?_) ?_
    · rw [signalbenchlaw46_EvindexNext.l0, if_neg (by omega)]
    · simp only [build_f l hl hok, Option.bind_some]
      refine Ev.bind (next_ev (l.length : Int) a b fr (buildF l l.length) (by omega) hb (by omega)) ?_
      simp only [if_true]
      exact Ev.bind awake_ev (Ev.now _)
  | i + 1, h => by
    have hi : i < l.length := by omega
    have ih := ln_l0 l hl hok a b fr i (by omega)
    have kn : keyN l i = l[i].f0 := by unfold keyN; rw [rd47 l i hi]
    have kk : keyK l i = l[i].f2.f0 := by unfold keyK; rw [rd47 l i hi]
    have e0 : (((i + 1 : Nat) : Int) - 1) = (i : Int) := by omega
    have hw : wrap64 ((i : Int) - 1) = (i : Int) - 1 := wrap_id (by omega) (by omega)
    rw [e0]
    rw [tl_step a b l i hi, kn, kk] at ih
    refine Ev.step (fun k => ?_) ih
    rw [signalbenchlaw46_EvindexNext.l0, if_pos (by omega), hw, if_pos (show (0 : Int) ≤ (i : Int) by omega), if_pos (show (i : Int) < (l.length : Int) by omega), rd47 l i hi]
    by_cases c0 : (i : Int) ≥ fr
    · rw [if_pos c0]
      by_cases c1 : l[i].f0 = a
      · rw [if_pos c1]
        by_cases c2 : l[i].f2.f0 = b
        · rw [if_pos c2, if_pos (show eqK a b l[i].f0 l[i].f2.f0 from ⟨c1, c2⟩), nextS_cons, if_pos c0]
        · rw [if_neg c2, if_neg (fun e : eqK a b l[i].f0 l[i].f2.f0 => c2 e.2)]
      · rw [if_neg c1, if_neg (fun e : eqK a b l[i].f0 l[i].f2.f0 => c1 e.1)]
    · rw [if_neg c0]
      by_cases c1 : eqK a b l[i].f0 l[i].f2.f0
      · rw [if_pos c1, nextS_cons, if_neg c0]
      · rw [if_neg c1]
theorem law_next (l : List S47) (a b fr : Int) (hok : ∀ x ∈ l, Ok47 x) : ∃ k, signalbenchlaw46_EvindexNext.f k l a b fr = some true := by
  refine Ev.rounds (g := fun k => signalbenchlaw46_EvindexNext.f k l a b fr) ?_
  unfold signalbenchlaw46_EvindexNext.f
  by_cases h : (l.length : Int) > 60
  · simp only [if_pos h]
    exact Ev.bind awake_ev (Ev.now _)
  · simp only [if_neg h]
    have hw : wrap64 ((l.length : Int) - 1) = (l.length : Int) - 1 := wrap_id (by omega) (by omega)
    rw [hw]
    have := ln_l0 l (by omega) hok a b fr l.length (Nat.le_refl _)
    have e : tlS a b l l.length = [] := by
      unfold tlS
      rw [List.drop_eq_nil_of_le (Nat.le_refl _)]
    rw [e] at this
    exact this
end Go.Proofs.Yteifekndhgkgcaa.H
