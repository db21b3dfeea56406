/- EvindexBuilds in plain words; no condition beyond the input's form. -/
import Derived.Test.YteifekndhgkgcaaHPIdx
import Derived.Test.YteifekndhgkgcaaHPSmall
import Derived.Test.YteifekndhgkgcaaHPAwake
import Derived.Test.YteifekndhgkgcaaHPLook
import Derived.Test.YteifekndhgkgcaaHPChk
import Derived.Test.YteifekndhgkgcaaH4
import Derived.Test.YteifekndhgkgcaaHEB
namespace Go.Proofs.Yteifekndhgkgcaa.H
open Go.RowKit Go.Proofs.YteifekndhgkgcaaW.PrintWords Go.Proofs.YteifekndhgkgcaaW.PrintLast Go.Proofs.YteifekndhgkgcaaW.PrintMore
set_option linter.unusedSimpArgs false
set_option linter.unusedVariables false
theorem put_ev (a b p : Int) (l : List S43) (hl : l.length ≤ 1000) (hs : (l.map fun s => s.f2.length).sum ≤ 1000000) : ∀ (m i : Nat) (dn : Bool) (out : List S43), l.length - i = m → i ≤ l.length → out.length ≤ i + 1 → (dn = false → out.length ≤ i) →
    Ev (fun k => signalbenchref46_put.l0 k l a b p out dn (i : Int)) (out ++ (if dn = true then l.drop i else putF a b p (l.drop i))) := by
  intro m
  induction m with
  | zero =>
    intro i dn out h1 h2 h3 h4
    rw [List.drop_eq_nil_of_le (by omega)]
    refine Ev.le 1 (fun k => ?_)
    rw [signalbenchref46_put.l0, if_neg (by omega)]
    cases dn with
    | true => rw [if_pos rfl, if_pos rfl, List.append_nil]
    | false =>
      rw [if_neg (by simp), if_pos (by omega), if_neg (by simp)]
      rfl
  | succ m ih =>
    intro i dn out h1 h2 h3 h4
    have hi : i < l.length := by omega
    have hb := mem_sum l _ (List.getElem_mem hi)
    have hnx := next_i i _ hi (by omega)
    have hrec := fun d o ho ho2 => ih (i + 1) d o (by omega) (by omega) ho ho2
    have eta : (⟨l[i].f0, l[i].f1, l[i].f2⟩ : S43) = l[i] := rfl
    -- the element goes out as it is
    have plain : ∀ d, (d = false → out.length ≤ i) → Ev (fun k => signalbenchref46_put.l0 k l a b p (out ++ [l[i]]) d ((i + 1 : Nat) : Int)) ((out ++ [l[i]]) ++ (if d = true then l.drop (i + 1) else putF a b p (l.drop (i + 1)))) := fun d hd => hrec d _ (by rw [List.length_append, List.length_singleton]; omega) (fun e => by have := hd e; rw [List.length_append, List.length_singleton]; omega)
    cases dn with
    | true =>
      rw [if_pos rfl, List.drop_eq_getElem_cons hi]
      have := plain true (fun e => by cases e)
      rw [if_pos rfl, List.append_assoc, List.singleton_append] at this
      refine Ev.step (f := fun k => signalbenchref46_put.j1 k l a b p out true (i : Int) false l[i].f0 l[i].f1 l[i].f2) (fun k => ?_) (Ev.step (fun k => ?_) this)
      · rw [signalbenchref46_put.l0, if_pos (by omega), if_pos (by omega), if_pos rfl, rd43 l i hi]
      · rw [signalbenchref46_put.j1, if_neg (by simp), if_pos rfl, if_pos (by omega), hnx, eta]
    | false =>
      rw [if_neg (by simp), List.drop_eq_getElem_cons hi, putF]
      have hj : ∀ bb : Bool, (bb = true ↔ (l[i].f0 = a ∧ l[i].f1 = b)) → Ev (fun k => signalbenchref46_put.j1 k l a b p out false (i : Int) bb l[i].f0 l[i].f1 l[i].f2)
          (out ++ (if l[i].f0 = a ∧ l[i].f1 = b then ⟨l[i].f0, l[i].f1, l[i].f2 ++ [p]⟩ :: l.drop (i + 1) else if befK l[i].f0 l[i].f1 a b then l[i] :: putF a b p (l.drop (i + 1)) else ⟨a, b, [p]⟩ :: l[i] :: l.drop (i + 1))) := by
        intro bb hbb
        by_cases q : l[i].f0 = a ∧ l[i].f1 = b
        · rw [if_pos q]
          have := hrec true (out ++ [(⟨l[i].f0, l[i].f1, l[i].f2 ++ [p]⟩ : S43)]) (by rw [List.length_append, List.length_singleton]; omega) (fun e => by cases e)
          rw [if_pos rfl, List.append_assoc, List.singleton_append] at this
          refine Ev.step (fun k => ?_) this
          rw [signalbenchref46_put.j1, if_pos (hbb.2 q)]
          simp only [Option.bind_some, List.nil_append, List.length_nil, Nat.zero_add]
          rw [if_pos (by omega), if_pos (by omega), if_pos (by omega), hnx]
        · rw [if_neg q]
          by_cases q2 : befK l[i].f0 l[i].f1 a b
          · rw [if_pos q2]
            have := plain false h4
            rw [if_neg (by simp), List.append_assoc, List.singleton_append] at this
            refine Ev.step (fun k => ?_) this
            rw [signalbenchref46_put.j1, if_neg (fun e => q (hbb.1 e)), if_neg (by simp), before_ev, decide_eq_true q2]
            simp only [Option.bind_some, if_true]
            rw [if_pos (by omega), hnx]
          · rw [if_neg q2]
            have := hrec true ((out ++ [(⟨a, b, [p]⟩ : S43)]) ++ [l[i]]) (by have := h4 rfl; rw [List.length_append, List.length_append, List.length_singleton, List.length_singleton]; omega) (fun e => by cases e)
            have e3 : ((out ++ [(⟨a, b, [p]⟩ : S43)]) ++ [l[i]]) ++ l.drop (i + 1) = out ++ (⟨a, b, [p]⟩ :: l[i] :: l.drop (i + 1)) := by rw [List.append_assoc, List.append_assoc]; rfl
            rw [if_pos rfl, e3] at this
            refine Ev.step (fun k => ?_) this
            rw [signalbenchref46_put.j1, if_neg (fun e => q (hbb.1 e)), if_neg (by simp), before_ev, decide_eq_false q2]
            simp only [Option.bind_some, Bool.false_eq_true, if_false]
            rw [if_pos (by omega), if_pos (by rw [List.length_append, List.length_singleton]; omega), hnx]
      by_cases c1 : l[i].f0 = a
      · refine Ev.step (f := fun k => signalbenchref46_put.j1 k l a b p out false (i : Int) (l[i].f1 == b) l[i].f0 l[i].f1 l[i].f2) (fun k => ?_) (hj _ ?_)
        · rw [signalbenchref46_put.l0, if_pos (by omega), if_pos (by omega), if_neg (by simp), rd43 l i hi, if_pos c1]
        · rw [beq_iff_eq]
          exact ⟨fun e => ⟨c1, e⟩, fun e => e.2⟩
      · refine Ev.step (f := fun k => signalbenchref46_put.j1 k l a b p out false (i : Int) false l[i].f0 l[i].f1 l[i].f2) (fun k => ?_) (hj false ⟨fun e => (by cases e), fun e => absurd e.1 c1⟩)
        rw [signalbenchref46_put.l0, if_pos (by omega), if_pos (by omega), if_neg (by simp), rd43 l i hi, if_neg c1]
theorem putf_ev (a b p : Int) (l : List S43) (hl : l.length ≤ 1000) (hs : (l.map fun s => s.f2.length).sum ≤ 1000000) : Ev (fun k => signalbenchref46_put.f k l a b p) (putF a b p l) := by
  have := put_ev a b p l hl hs l.length 0 false [] rfl (Nat.zero_le _) (Nat.zero_le _) (fun _ => Nat.le_refl _)
  rw [if_neg (by simp), List.drop_zero, List.nil_append] at this
  exact this
theorem rb_loop (l : List S47) (hl : l.length ≤ 60) : ∀ (m i : Nat), l.length - i = m → i ≤ l.length → Ev (fun k => signalbenchref46_Build.l0 k l (i : Int) (l.length : Int) (buildF l i)) ((l.length : Int), buildF l l.length) := by
  intro m
  induction m with
  | zero =>
    intro i h1 h2
    obtain rfl : i = l.length := by omega
    refine Ev.le 1 (fun k => ?_)
    rw [signalbenchref46_Build.l0, if_neg (by omega)]
  | succ m ih =>
    intro i h1 h2
    have hi : i < l.length := by omega
    have hbl := build_len l i
    have hbs := build_sum l i
    have hrec := ih (i + 1) (by omega) (by omega)
    refine Ev.step (f := fun k => (signalbenchref46_put.f k (buildF l i) (rd_T47 l (i : Int)).f0 (rd_T47 l (i : Int)).f2.f0 (i : Int)).bind fun t => signalbenchref46_Build.l0 k l ((i + 1 : Nat) : Int) (l.length : Int) t) (fun k => ?_) (Ev.bind (putf_ev _ _ _ (buildF l i) (by omega) (by omega)) ?_)
    · rw [signalbenchref46_Build.l0, if_pos (by omega), if_pos (by omega), next_i i _ hi (by omega)]
    · rw [buildF] at hrec
      exact hrec
theorem rb_ev (l : List S47) (hl : l.length ≤ 60) : Ev (fun k => signalbenchref46_Build.f k l) ((l.length : Int), buildF l l.length) := rb_loop l hl l.length 0 rfl (Nat.zero_le _)
theorem sameX_loop (c : Int) (L : List S43) (hL : L.length ≤ 1000000) (hs : (L.map fun s => s.f2.length).sum ≤ 1000000) : ∀ (m i : Nat), L.length - i = m → i ≤ L.length → Ev (fun k => signalbenchref46_Same.l0 k (i : Int) c L c L) true := by
  intro m
  induction m with
  | zero =>
    intro i h1 h2
    refine Ev.le 1 (fun k => ?_)
    rw [signalbenchref46_Same.l0, if_neg (by omega)]
  | succ m ih =>
    intro i h1 h2
    have hi : i < L.length := by omega
    have hb := mem_sum L _ (List.getElem_mem hi)
    refine Ev.step (f := fun k => (signalbenchref46_SameInts.f k L[i].f2 L[i].f2).bind fun t145 => (if t145 = true then (signalbenchref46_Same.l0 k ((i + 1 : Nat) : Int) c L c L) else (some false))) (fun k => ?_) (Ev.bind (sameI_ev L[i].f2 (by omega)) ?_)
    · rw [signalbenchref46_Same.l0, if_pos (by omega), if_pos (by omega), if_pos (by omega), if_pos rfl, if_pos rfl, next_i i _ hi (by omega), rd43 L i hi]
    · simp only [if_true]
      exact ih (i + 1) (by omega) (by omega)
theorem sameX_ev (c : Int) (L : List S43) (hL : L.length ≤ 1000000) (hs : (L.map fun s => s.f2.length).sum ≤ 1000000) : Ev (fun k => signalbenchref46_Same.f k c L c L) true := by
  have h1 : Ev (fun k => signalbenchref46_Same.j0 k ((L.length : Int) != (L.length : Int)) c L c L) true := by
    refine Ev.step (f := fun k => signalbenchref46_Same.l0 k ((0 : Nat) : Int) c L c L) (fun k => ?_) (sameX_loop c L hL hs L.length 0 rfl (Nat.zero_le _))
    rw [signalbenchref46_Same.j0, if_neg (by simp)]
    rfl
  refine Ev.congr (fun k => ?_) h1
  unfold signalbenchref46_Same.f
  rw [if_pos rfl]
theorem law_builds (l : List S47) (hok : ∀ x ∈ l, Ok47 x) : ∃ k, signalbenchlaw46_EvindexBuilds.f k l = some true := by
  refine Ev.rounds (g := fun k => signalbenchlaw46_EvindexBuilds.f k l) ?_
  unfold signalbenchlaw46_EvindexBuilds.f
  by_cases h : (l.length : Int) > 60
  · simp only [if_pos h]
    exact Ev.bind awake_ev (Ev.now _)
  · simp only [if_neg h, build_f l (by omega) hok, Option.bind_some]
    have hbl := build_len l l.length
    have hbs := build_sum l l.length
    refine Ev.bind (rb_ev l (by omega)) (Ev.bind (sameX_ev _ _ (by omega) (by omega)) ?_)
    simp only [if_true]
    exact Ev.bind awake_ev (Ev.now _)
end Go.Proofs.Yteifekndhgkgcaa.H
