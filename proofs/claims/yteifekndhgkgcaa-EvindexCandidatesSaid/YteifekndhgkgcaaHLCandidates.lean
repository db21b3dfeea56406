/- EvindexCandidates in plain words; no condition beyond the input's form. -/
import Derived.Test.YteifekndhgkgcaaHPIdx
import Derived.Test.YteifekndhgkgcaaHPAwake
import Derived.Test.YteifekndhgkgcaaH19
namespace Go.Proofs.Yteifekndhgkgcaa.H
open Go.RowKit Go.Proofs.YteifekndhgkgcaaW.PrintWords Go.Proofs.YteifekndhgkgcaaW.PrintLast Go.Proofs.YteifekndhgkgcaaW.PrintMore
set_option linter.unusedSimpArgs false
set_option linter.unusedVariables false
def candQ (nd kd a b : Int) : Prop := nd ≠ -1 ∧ matchK nd kd a b
instance (nd kd a b : Int) : Decidable (candQ nd kd a b) := by unfold candQ; infer_instance
theorem cand_all (l : List S47) (n : Nat) (nd kd : Int) : candS nd kd (buildF l n) = idxS (candQ nd kd) l n := by
  by_cases h : nd = -1
  · have e : ∀ k, idxS (candQ nd kd) l k = [] := fun k => by
      induction k with
      | zero => rfl
      | succ k ih => rw [idxS, if_neg (fun e => e.1 h), ih]
    rw [e]
    unfold candS
    rw [if_pos h]
  · rw [cand_build l n nd kd h]
    have e : ∀ k, idxS (matchK nd kd) l k = idxS (candQ nd kd) l k := fun k => by
      induction k with
      | zero => rfl
      | succ k ih =>
        rw [idxS, idxS, ih]
        by_cases c : matchK nd kd (keyN l k) (keyK l k)
        · rw [if_pos c, if_pos (show candQ nd kd (keyN l k) (keyK l k) from ⟨h, c⟩)]
        · rw [if_neg c, if_neg (fun e : candQ nd kd (keyN l k) (keyK l k) => c e.2)]
    exact e n
theorem lc_l0 (l : List S47) (hl : l.length ≤ 60) (nd kd q2 q3 q4 : Int) : ∀ (m i : Nat), l.length - i = m → i ≤ l.length →
    Ev (fun k => signalbenchlaw46_EvindexCandidates.l0 k l (idxS (candQ nd kd) l l.length) ((idxS (candQ nd kd) l i).length : Int) (i : Int) nd kd q2 q3 q4) true := by
  intro m
  induction m with
  | zero =>
    intro i h1 h2
    obtain rfl : i = l.length := by omega
    refine Ev.step (f := fun k => (signalbenchlaw46_awake.f k).bind fun t282 => some t282) (fun k => ?_) (Ev.bind awake_ev (Ev.now _))
    rw [signalbenchlaw46_EvindexCandidates.l0, if_neg (by omega), if_pos rfl]
  | succ m ih =>
    intro i h1 h2
    have hi : i < l.length := by omega
    have hrec := ih (i + 1) (by omega) (by omega)
    have kn : keyN l i = l[i].f0 := by unfold keyN; rw [rd47 l i hi]
    have kk : keyK l i = l[i].f2.f0 := by unfold keyK; rw [rd47 l i hi]
    have hlen := idx_len (candQ nd kd) l i
    have hj : ∀ bb : Bool, (bb = true ↔ candQ nd kd l[i].f0 l[i].f2.f0) → Ev (fun k => signalbenchlaw46_EvindexCandidates.j1 k l (idxS (candQ nd kd) l l.length) ((idxS (candQ nd kd) l i).length : Int) (i : Int) bb nd kd q2 q3 q4) true := by
      intro bb hbb
      by_cases q : candQ nd kd l[i].f0 l[i].f2.f0
      · have e1 : idxS (candQ nd kd) l (i + 1) = idxS (candQ nd kd) l i ++ [(i : Int)] := by rw [idxS, if_pos (by rw [kn, kk]; exact q)]
        obtain ⟨t, ht⟩ := idx_pre (candQ nd kd) l l.length (i + 1) (by omega)
        have hlt : (idxS (candQ nd kd) l i).length < (idxS (candQ nd kd) l l.length).length := by
          rw [ht, e1]
          simp
        have hget : rd (idxS (candQ nd kd) l l.length) ((idxS (candQ nd kd) l i).length : Int) = (i : Int) := by
          rw [rdI _ _ hlt]
          have : (idxS (candQ nd kd) l l.length)[(idxS (candQ nd kd) l i).length]? = some (i : Int) := by
            rw [ht, e1, List.append_assoc, List.getElem?_append_right (Nat.le_refl _), Nat.sub_self]
            rfl
          rw [List.getElem?_eq_getElem hlt] at this
          exact Option.some.inj this
        rw [e1, List.length_append, List.length_singleton] at hrec
        refine Ev.step (f := fun k => signalbenchlaw46_EvindexCandidates.l0 k l (idxS (candQ nd kd) l l.length) (((idxS (candQ nd kd) l i).length + 1 : Nat) : Int) ((i + 1 : Nat) : Int) nd kd q2 q3 q4) (fun k => ?_) hrec
        rw [signalbenchlaw46_EvindexCandidates.j1, if_pos (hbb.2 q), if_neg (by omega), if_pos (by omega), if_pos (by omega), hget, if_pos rfl, next_i i _ hi (by omega), next_i (idxS (candQ nd kd) l i).length 100 (by omega) (by omega)]
      · have e1 : idxS (candQ nd kd) l (i + 1) = idxS (candQ nd kd) l i := by rw [idxS, if_neg (by rw [kn, kk]; exact q)]
        rw [e1] at hrec
        refine Ev.step (f := fun k => signalbenchlaw46_EvindexCandidates.l0 k l (idxS (candQ nd kd) l l.length) ((idxS (candQ nd kd) l i).length : Int) ((i + 1 : Nat) : Int) nd kd q2 q3 q4) (fun k => ?_) hrec
        rw [signalbenchlaw46_EvindexCandidates.j1, if_neg (fun e => q (hbb.1 e)), next_i i _ hi (by omega)]
    by_cases c0 : nd = -1
    · refine Ev.step (f := fun k => signalbenchlaw46_EvindexCandidates.j1 k l (idxS (candQ nd kd) l l.length) ((idxS (candQ nd kd) l i).length : Int) (i : Int) false nd kd q2 q3 q4) (fun k => ?_) (hj false ⟨fun e => (by cases e), fun e => absurd c0 e.1⟩)
      rw [signalbenchlaw46_EvindexCandidates.l0, if_pos (by omega), if_pos c0]
    · by_cases c1 : l[i].f0 = nd
      · by_cases c2 : kd = 0
        · refine Ev.step (f := fun k => signalbenchlaw46_EvindexCandidates.j1 k l (idxS (candQ nd kd) l l.length) ((idxS (candQ nd kd) l i).length : Int) (i : Int) true nd kd q2 q3 q4) (fun k => ?_) (hj true ⟨fun _ => ⟨c0, c1, .inl c2⟩, fun _ => rfl⟩)
          rw [signalbenchlaw46_EvindexCandidates.l0, if_pos (by omega), if_neg c0, if_pos (by omega), rd47 l i hi, if_pos c1, if_pos c2]
        · refine Ev.step (f := fun k => signalbenchlaw46_EvindexCandidates.j1 k l (idxS (candQ nd kd) l l.length) ((idxS (candQ nd kd) l i).length : Int) (i : Int) (l[i].f2.f0 == kd) nd kd q2 q3 q4) (fun k => ?_) (hj _ ?_)
          · rw [signalbenchlaw46_EvindexCandidates.l0, if_pos (by omega), if_neg c0, if_pos (by omega), rd47 l i hi, if_pos c1, if_neg c2]
          · rw [beq_iff_eq]
            exact ⟨fun e => ⟨c0, c1, .inr e⟩, fun e => e.2.2.resolve_left c2⟩
      · refine Ev.step (f := fun k => signalbenchlaw46_EvindexCandidates.j1 k l (idxS (candQ nd kd) l l.length) ((idxS (candQ nd kd) l i).length : Int) (i : Int) false nd kd q2 q3 q4) (fun k => ?_) (hj false ⟨fun e => (by cases e), fun e => absurd e.2.1 c1⟩)
        rw [signalbenchlaw46_EvindexCandidates.l0, if_pos (by omega), if_neg c0, if_pos (by omega), rd47 l i hi, if_neg c1]
theorem law_candidates (l : List S47) (b0 b1 b2 b3 b4 : Int) (hok : ∀ x ∈ l, Ok47 x) : ∃ k, signalbenchlaw46_EvindexCandidates.f k l b0 b1 b2 b3 b4 = some true := by
  refine Ev.rounds (g := fun k => signalbenchlaw46_EvindexCandidates.f k l b0 b1 b2 b3 b4) ?_
  unfold signalbenchlaw46_EvindexCandidates.f
  by_cases h : (l.length : Int) > 60
  · simp only [if_pos h]
    exact Ev.bind awake_ev (Ev.now _)
  · simp only [if_neg h, build_f l (by omega) hok, Option.bind_some]
    have hbl := build_len l l.length
    have hbs := build_sum l l.length
    refine Ev.bind (cand_ev (l.length : Int) (buildF l l.length) (by omega) (by omega) b0 b1 b2 b3 b4) ?_
    rw [cand_all]
    exact lc_l0 l (by omega) b0 b1 b2 b3 b4 l.length 0 rfl (Nat.zero_le _)
end Go.Proofs.Yteifekndhgkgcaa.H
