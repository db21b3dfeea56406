/- evindex.Check and the specification's Check: both come to one plain function; for at most a million places in all. -/
import Derived.Test.YteifekndhgkgcaaHP0
import Derived.Test.YteifekndhgkgcaaHChk
import Derived.Test.YteifekndhgkgcaaH7
import Derived.Test.YteifekndhgkgcaaH8
import Derived.Test.YteifekndhgkgcaaH9
import Derived.Test.YteifekndhgkgcaaH10
namespace Go.Proofs.Yteifekndhgkgcaa.H
open Go.RowKit Go.Proofs.YteifekndhgkgcaaW.PrintWords Go.Proofs.YteifekndhgkgcaaW.PrintLast Go.Proofs.YteifekndhgkgcaaW.PrintMore
set_option linter.unusedSimpArgs false
set_option linter.unusedVariables false
open Go.Maps (setOf setOf_snoc size_put has_setOf tidy_setOf)
theorem keys_lit (xs : List Int) : ∀ x ∈ xs.map (fun x => Lit.int .i64 x), WideAt.IsKeyLit x := fun x hx => by
  obtain ⟨y, _, rfl⟩ := List.mem_map.1 hx
  exact trivial
theorem setD_snoc (xs : List Int) (p : Int) : Go.Maps.size (setD (xs ++ [p])) = if p ∈ xs then Go.Maps.size (setD xs) else Go.Maps.size (setD xs) + 1 := by
  unfold setD
  rw [List.map_append, List.map_singleton, setOf_snoc, size_put (tidy_setOf _ _ (keys_lit xs)), has_setOf _ _ _ (keys_lit xs)]
  by_cases c : p ∈ xs
  · rw [if_pos c, if_pos]
    rw [List.any_eq_true]
    exact ⟨.int .i64 p, List.mem_map.2 ⟨p, c, rfl⟩, WideAt.sameKey_self trivial⟩
  · rw [if_neg c, if_neg]
    intro h
    obtain ⟨x, hx, hs⟩ := List.any_eq_true.1 h
    obtain ⟨y, hy, rfl⟩ := List.mem_map.1 hx
    have := WideAt.sameKey_eq hs
    simp at this
    subst this
    exact c hy
theorem size_setD : ∀ (n : Nat) (xs : List Int), xs.length = n → Go.Maps.size (setD xs) ≤ n ∧ (Go.Maps.size (setD xs) = n ↔ xs.Nodup)
  | 0, xs, h => by
    obtain rfl := List.eq_nil_of_length_eq_zero h
    exact ⟨Nat.le_refl _, by simp [setD, setOf, Go.Maps.size]⟩
  | n + 1, xs, h => by
    rcases List.eq_nil_or_concat xs with rfl | ⟨a, p, rfl⟩
    · simp at h
    · rw [List.concat_eq_append] at h ⊢
      obtain ⟨h1, h2⟩ := size_setD n a (by simpa using h)
      rw [setD_snoc, List.nodup_append]
      by_cases c : p ∈ a
      · rw [if_pos c]
        refine ⟨by omega, ⟨fun e => by omega, fun e => ?_⟩⟩
        exact absurd rfl (e.2.2 p c p (by simp))
      · rw [if_neg c]
        refine ⟨by omega, ⟨fun e => ?_, fun e => ?_⟩⟩
        · refine ⟨h2.1 (by omega), by simp, fun x hx y hy => ?_⟩
          rw [List.mem_singleton.1 hy]
          exact fun e => c (e ▸ hx)
        · have := h2.2 e.1
          omega
theorem dup_lt (xs : List Int) : ((Go.Maps.size (setD xs) : Nat) : Int) < (xs.length : Int) ↔ ¬ xs.Nodup := by
  obtain ⟨h1, h2⟩ := size_setD xs.length xs rfl
  rw [← h2]
  omega
/-- what is wrong with a slot's places behind one of them -/
def goP (c : Int) : Option Int → List Int → Int
 | _, [] => 0
 | o, p :: r => if p < 0 ∨ p ≥ c then 2 else if (∃ q, o = some q ∧ p ≤ q) then 7 else goP c (some p) r
def wrongP (c : Int) (ps : List Int) : Int := if ps = [] then 1 else goP c none ps
def chkS (c : Int) : Option S43 → List S43 → List Int → Int
 | _, [], seen => if ¬ seen.Nodup then 9 else if (seen.length : Int) < c then 12 else 0
 | o, s :: r, seen => if (∃ t, o = some t ∧ ¬ befK t.f0 t.f1 s.f0 s.f1) then 7 else if wrongP c s.f2 ≠ 0 then wrongP c s.f2 else chkS c (some s) r (seen ++ s.f2)
def checkS (c : Int) (l : List S43) : Int := if c < 0 then 2 else chkS c none l []
def prevI {α : Type} (l : List α) : Nat → Option α
 | 0 => none
 | i + 1 => l[i]?
theorem goP_asc (c : Int) : ∀ (ps : List Int) (o : Option Int), goP c o ps = 0 → ps.Pairwise (· < ·) ∧ (∀ q, o = some q → ∀ p ∈ ps, q < p)
  | [], o, _ => ⟨List.Pairwise.nil, fun q _ p hp => by simp at hp⟩
  | p :: r, o, h => by
    unfold goP at h
    split at h
    · omega
    · split at h
      · omega
      · rename_i c1 c2
        obtain ⟨h1, h2⟩ := goP_asc c r (some p) h
        refine ⟨List.pairwise_cons.2 ⟨fun x hx => h2 p rfl x hx, h1⟩, fun q hq x hx => ?_⟩
        have hqp : q < p := by
          by_cases e : p ≤ q
          · exact absurd ⟨q, hq, e⟩ c2
          · omega
        rcases List.mem_cons.1 hx with rfl | hx
        · exact hqp
        · have := h2 p rfl x hx
          omega
theorem order_ge (a b c d : Int) : (ordI (a, b) (c, d) ≥ 0) ↔ ¬ befK a b c d := by
  unfold ordI Lib.compareInt befK
  simp only
  split <;> split <;> (try split) <;> (try split) <;> omega
theorem before_ev (a b : Int) (l : List Int) (c d : Int) : signalbenchref46_before.f a b l c d = some (decide (befK a b c d)) := by
  unfold signalbenchref46_before.f
  by_cases h1 : a < c
  · rw [if_pos h1, decide_eq_true (by unfold befK; omega)]
  · rw [if_neg h1]
    by_cases h2 : a = c
    · rw [if_pos h2]
      congr 1
      exact decide_eq_decide.2 (by unfold befK; omega)
    · rw [if_neg h2, decide_eq_false (by unfold befK; omega)]
theorem prev_pos {α : Type} (l : List α) (i : Nat) (h : 0 < i) (hi : i - 1 < l.length) : prevI l i = some l[i - 1] := by
  obtain ⟨j, rfl⟩ : ∃ j, i = j + 1 := ⟨i - 1, by omega⟩
  exact List.getElem?_eq_getElem hi
/-! the specification -/
theorem wrong_loop (l : List Int) (c : Int) (hl : l.length ≤ 4611686018427387904) : ∀ (m i : Nat) (k : Nat), l.length - i = m → i ≤ l.length → 2 * m + 2 ≤ k → signalbenchref46_wrongPlaces.l0 k l c (i : Int) = some (goP c (prevI l i) (l.drop i)) := by
  intro m
  induction m with
  | zero =>
    intro i k h1 h2 hk
    obtain ⟨k, rfl⟩ : ∃ q, k = q + 1 := ⟨k - 1, by omega⟩
    rw [signalbenchref46_wrongPlaces.l0, if_neg (by omega), List.drop_eq_nil_of_le (by omega)]
    rfl
  | succ m ih =>
    intro i k h1 h2 hk
    obtain ⟨k, rfl⟩ : ∃ q, k = q + 2 := ⟨k - 2, by omega⟩
    have hi : i < l.length := by omega
    have hrec := ih (i + 1) k (by omega) (by omega) (by omega)
    have hj : ∀ b : Bool, (b = true ↔ (l[i] < 0 ∨ l[i] ≥ c)) → signalbenchref46_wrongPlaces.j1 (k + 1) l c (i : Int) b = some (goP c (prevI l i) (l.drop i)) := by
      intro b hb
      rw [signalbenchref46_wrongPlaces.j1, List.drop_eq_getElem_cons hi, goP]
      by_cases h : l[i] < 0 ∨ l[i] ≥ c
      · rw [if_pos (hb.2 h), if_pos h]
      · rw [if_neg (fun e => h (hb.1 e)), if_neg h]
        by_cases h0 : 0 < i
        · have hp := pred_i i h0 (by omega)
          rw [if_pos (by omega), if_pos (by omega), if_pos (by omega), hp, if_pos (by omega), if_pos (by omega), rdI l i hi, rdI l (i - 1) (by omega), next_i i _ hi hl, hrec, prev_pos l i h0 (by omega)]
          have e : prevI l (i + 1) = some l[i] := List.getElem?_eq_getElem hi
          rw [e]
          by_cases hq : l[i] ≤ l[i - 1]
          · rw [if_pos hq, if_pos ⟨_, rfl, hq⟩]
          · rw [if_neg hq, if_neg (fun ⟨q, e1, e2⟩ => hq (by rw [← Option.some.inj e1] at e2; exact e2))]
        · obtain rfl : i = 0 := by omega
          rw [if_neg (by omega), next_i 0 _ hi hl, hrec, if_neg (fun ⟨q, e1, _⟩ => by cases e1)]
          have e : prevI l (0 + 1) = some l[0] := List.getElem?_eq_getElem hi
          rw [e]
    rw [signalbenchref46_wrongPlaces.l0, if_pos (by omega), if_pos (by omega), rdI l i hi]
    by_cases h0 : l[i] < 0
    · rw [if_pos h0]
      exact hj true ⟨fun _ => .inl h0, fun _ => rfl⟩
    · rw [if_neg h0]
      exact hj _ ⟨fun e => .inr (of_decide_eq_true e), fun e => decide_eq_true (by omega)⟩
theorem wrong_ev (l : List Int) (c : Int) (hl : l.length ≤ 4611686018427387904) : Ev (fun k => signalbenchref46_wrongPlaces.f k l c) (wrongP c l) :=
  ⟨2 * l.length + 2, fun k hk => by
    show signalbenchref46_wrongPlaces.f k l c = _
    unfold signalbenchref46_wrongPlaces.f wrongP
    by_cases h : l = []
    · rw [if_pos (by rw [h]; rfl), if_pos h]
    · have : 0 < l.length := List.length_pos_iff.2 h
      rw [if_neg (by omega), if_neg h]
      exact wrong_loop l c hl l.length 0 k rfl (Nat.zero_le _) hk⟩
theorem has_loop (l : List Int) (p : Int) (hl : l.length ≤ 4611686018427387904) : ∀ (m i : Nat) (k : Nat), l.length - i = m → i ≤ l.length → m + 1 ≤ k → signalbenchref46_has.l0 k l p (i : Int) = some (decide (p ∈ l.drop i)) := by
  intro m
  induction m with
  | zero =>
    intro i k h1 h2 hk
    obtain ⟨k, rfl⟩ : ∃ q, k = q + 1 := ⟨k - 1, by omega⟩
    rw [signalbenchref46_has.l0, if_neg (by omega), List.drop_eq_nil_of_le (by omega)]
    rfl
  | succ m ih =>
    intro i k h1 h2 hk
    obtain ⟨k, rfl⟩ : ∃ q, k = q + 1 := ⟨k - 1, by omega⟩
    have hi : i < l.length := by omega
    rw [signalbenchref46_has.l0, if_pos (by omega), if_pos (by omega), rdI l i hi, next_i i _ hi hl, ih (i + 1) k (by omega) (by omega) (by omega), List.drop_eq_getElem_cons hi]
    by_cases h : l[i] = p
    · rw [if_pos h, decide_eq_true (List.mem_cons.2 (.inl h.symm))]
    · rw [if_neg h]
      congr 1
      exact decide_eq_decide.2 ⟨fun e => List.mem_cons_of_mem _ e, fun e => (List.mem_cons.1 e).resolve_left (fun e2 => h e2.symm)⟩
theorem has_ev (l : List Int) (p : Int) (hl : l.length ≤ 4611686018427387904) : Ev (fun k => signalbenchref46_has.f k l p) (decide (p ∈ l)) :=
  ⟨l.length + 1, fun k hk => by
    have := has_loop l p hl l.length 0 k rfl (Nat.zero_le _) hk
    rw [List.drop_zero] at this
    exact this⟩
/-- some place behind i stands in seen -/
def dupB (seen ps : List Int) : Bool := ps.any fun p => decide (p ∈ seen)
theorem ref_l1 (c : Int) (L : List S43) (sl : Nat) (a b : Int) (ps seen : List Int) (hps : ps.length ≤ 1000000) (hseen : seen.length ≤ 1000000) (r : Int) : ∀ (m j : Nat) (tw : Bool), ps.length - j = m → j ≤ ps.length →
    Ev (fun k => signalbenchref46_Check.l0 k (seen ++ ps) (tw || dupB seen (ps.drop j)) (wrap64 ((sl : Int) + 1)) c L) r → Ev (fun k => signalbenchref46_Check.l1 k seen tw (sl : Int) (j : Int) c L a b ps) r := by
  intro m
  induction m with
  | zero =>
    intro j tw h1 h2 h
    rw [List.drop_eq_nil_of_le (by omega), show dupB seen [] = false from rfl, Bool.or_false] at h
    refine Ev.step (f := fun k => signalbenchref46_Check.l0 k (seen ++ ps) tw (wrap64 ((sl : Int) + 1)) c L) (fun k => ?_) h
    rw [signalbenchref46_Check.l1, if_neg (by omega), if_pos (by omega)]
  | succ m ih =>
    intro j tw h1 h2 h
    have hj : j < ps.length := by omega
    rw [List.drop_eq_getElem_cons hj] at h
    cases tw with
    | true =>
      refine Ev.step (f := fun k => signalbenchref46_Check.l1 k seen true (sl : Int) ((j + 1 : Nat) : Int) c L a b ps) (fun k => ?_) (ih (j + 1) true (by omega) (by omega) (by simp only [Bool.true_or] at h ⊢; exact h))
      rw [signalbenchref46_Check.l1, if_pos (by omega), if_pos rfl, next_i j _ hj (by omega)]
    | false =>
      refine Ev.step (f := fun k => (signalbenchref46_has.f k seen ps[j]).bind fun t => signalbenchref46_Check.l1 k seen t (sl : Int) ((j + 1 : Nat) : Int) c L a b ps) (fun k => ?_) (Ev.bind (has_ev seen ps[j] (by omega)) (ih (j + 1) _ (by omega) (by omega) ?_))
      · rw [signalbenchref46_Check.l1, if_pos (by omega), if_neg (by simp), if_pos (by omega), next_i j _ hj (by omega), rdI ps j hj]
      · have e : (false || dupB seen (ps[j] :: ps.drop (j + 1))) = (decide (ps[j] ∈ seen) || dupB seen (ps.drop (j + 1))) := by simp only [dupB, List.any_cons, Bool.false_or]
        rw [e] at h
        exact h
theorem tot_le (L : List S43) (i : Nat) (hi : i < L.length) (seen : List Int) (h : seen.length + ((L.drop i).map fun s => s.f2.length).sum ≤ 1000000) : L[i].f2.length ≤ 1000000 ∧ seen.length ≤ 1000000 ∧ (seen ++ L[i].f2).length + ((L.drop (i + 1)).map fun s => s.f2.length).sum ≤ 1000000 := by
  rw [List.drop_eq_getElem_cons hi, List.map_cons, List.sum_cons] at h
  rw [List.length_append]
  omega
theorem nodup_app (seen ps : List Int) (h : ps.Nodup) : (decide (¬ seen.Nodup) || dupB seen ps) = decide (¬ (seen ++ ps).Nodup) := by
  rw [Bool.eq_iff_iff]
  simp only [Bool.or_eq_true, decide_eq_true_eq, dupB, List.any_eq_true]
  rw [List.nodup_append]
  constructor
  · rintro (h1 | ⟨p, hp, hs⟩) ⟨q1, _, q3⟩
    · exact h1 q1
    · exact q3 p hs p hp rfl
  · intro h1
    by_cases q : seen.Nodup
    · refine .inr ?_
      refine Classical.byContradiction fun hno => h1 ⟨q, h, fun x hx y hy e => hno ⟨y, hy, e ▸ hx⟩⟩
    · exact .inl q
theorem ref_l0 (c : Int) (L : List S43) (hL : L.length ≤ 1000000) : ∀ (m i : Nat) (seen : List Int), L.length - i = m → i ≤ L.length → seen.length + ((L.drop i).map fun s => s.f2.length).sum ≤ 1000000 →
    Ev (fun k => signalbenchref46_Check.l0 k seen (decide (¬ seen.Nodup)) (i : Int) c L) (chkS c (prevI L i) (L.drop i) seen) := by
  intro m
  induction m with
  | zero =>
    intro i seen h1 h2 hs
    rw [List.drop_eq_nil_of_le (by omega)]
    refine Ev.le 1 (fun k => ?_)
    rw [signalbenchref46_Check.l0, if_neg (by omega), chkS]
    have h9 : ∀ x y : Int, seen.Nodup → (if ¬ seen.Nodup then x else y) = y := fun _ _ q => if_neg (fun e => e q)
    by_cases q : seen.Nodup
    · rw [h9 _ _ q, if_neg (by simpa using q)]
      split <;> rfl
    · rw [if_pos (by simpa using q), if_pos q]
  | succ m ih =>
    intro i seen h1 h2 hs
    have hi : i < L.length := by omega
    obtain ⟨t1, t2, t3⟩ := tot_le L i hi seen hs
    have hj : ∀ b : Bool, (b = true ↔ ∃ t, prevI L i = some t ∧ ¬ befK t.f0 t.f1 L[i].f0 L[i].f1) → Ev (fun k => signalbenchref46_Check.j1 k seen (decide (¬ seen.Nodup)) (i : Int) b c L L[i].f0 L[i].f1 L[i].f2) (chkS c (prevI L i) (L.drop i) seen) := by
      intro b hb
      rw [List.drop_eq_getElem_cons hi, chkS]
      by_cases q : ∃ t, prevI L i = some t ∧ ¬ befK t.f0 t.f1 L[i].f0 L[i].f1
      · rw [if_pos q]
        refine Ev.le 1 (fun k => ?_)
        rw [signalbenchref46_Check.j1, if_pos (hb.2 q)]
      · rw [if_neg q]
        refine Ev.step (f := fun k => (signalbenchref46_wrongPlaces.f k L[i].f2 c).bind fun t180 => (if t180 = 0 then (signalbenchref46_Check.l1 k seen (decide (¬ seen.Nodup)) (i : Int) 0 c L L[i].f0 L[i].f1 L[i].f2) else (some t180))) (fun k => ?_) (Ev.bind (wrong_ev L[i].f2 c (by omega)) ?_)
        · rw [signalbenchref46_Check.j1, if_neg (fun e => q (hb.1 e))]
        · by_cases q2 : wrongP c L[i].f2 = 0
          · rw [if_neg (fun e => e q2)]
            simp only [if_pos q2]
            have hasc : L[i].f2.Nodup := by
              unfold wrongP at q2
              split at q2
              · omega
              · have := (goP_asc c L[i].f2 none q2).1
                exact this.imp (fun {a b} h => by omega)
            refine ref_l1 c L i L[i].f0 L[i].f1 L[i].f2 seen t1 t2 _ L[i].f2.length 0 _ rfl (Nat.zero_le _) ?_
            rw [List.drop_zero, nodup_app _ _ hasc, next_i i _ hi (by omega)]
            have e : prevI L (i + 1) = some L[i] := List.getElem?_eq_getElem hi
            rw [← e]
            exact ih (i + 1) (seen ++ L[i].f2) (by omega) (by omega) t3
          · rw [if_pos q2]
            simp only [if_neg q2]
            exact Ev.now _
    by_cases h0 : 0 < i
    · have hp := pred_i i h0 (by omega)
      refine Ev.step (f := fun k => signalbenchref46_Check.j1 k seen (decide (¬ seen.Nodup)) (i : Int) (!decide (befK L[i - 1].f0 L[i - 1].f1 L[i].f0 L[i].f1)) c L L[i].f0 L[i].f1 L[i].f2) (fun k => ?_) (hj _ ?_)
      · rw [signalbenchref46_Check.l0, if_pos (by omega), if_pos (by omega), if_pos (by omega), hp, if_pos (by omega), if_pos (by omega), rd43 L i hi, rd43 L (i - 1) (by omega), before_ev]
        rfl
      · rw [prev_pos L i h0 (by omega)]
        simp
    · obtain rfl : i = 0 := by omega
      refine Ev.step (f := fun k => signalbenchref46_Check.j1 k seen (decide (¬ seen.Nodup)) ((0 : Nat) : Int) false c L L[0].f0 L[0].f1 L[0].f2) (fun k => ?_) (hj _ ?_)
      · rw [signalbenchref46_Check.l0, if_pos (by omega), if_pos (by omega), if_neg (by omega), rd43 L 0 hi]
      · constructor
        · intro e; cases e
        · rintro ⟨t, e, _⟩; cases e
theorem ref_check_ev (c : Int) (L : List S43) (hL : L.length ≤ 1000000) (hs : (L.map fun s => s.f2.length).sum ≤ 1000000) : Ev (fun k => signalbenchref46_Check.f k c L) (checkS c L) := by
  unfold checkS
  by_cases h : c < 0
  · rw [if_pos h]
    refine Ev.congr (f := fun _ => some 2) (fun k => ?_) (Ev.now _)
    unfold signalbenchref46_Check.f
    rw [if_pos h]
  · rw [if_neg h]
    refine Ev.congr (f := fun k => signalbenchref46_Check.l0 k [] (decide (¬ ([] : List Int).Nodup)) ((0 : Nat) : Int) c L) (fun k => ?_) (ref_l0 c L hL L.length 0 [] rfl (Nat.zero_le _) (by simpa using hs))
    unfold signalbenchref46_Check.f
    rw [if_neg h]
    rfl
/-! the code -/
theorem code_l1 (c : Int) (L : List S43) (si : Nat) (hsi : si < L.length) (hL : L.length ≤ 1000000) (a b : Int) (ps seen : List Int) (hwf : ∀ p ∈ ps, (Lit.int .i64 p).wf = true) (hb : seen.length + ps.length ≤ 1000000) (r : Int) : ∀ (m j : Nat), ps.length - j = m → j ≤ ps.length →
    (goP c (prevI ps j) (ps.drop j) ≠ 0 → r = goP c (prevI ps j) (ps.drop j)) →
    (goP c (prevI ps j) (ps.drop j) = 0 → Ev (fun k => evindex_Check.l0 k (seen ++ ps) ((seen ++ ps).length : Int) L (L.length : Int) ((si + 1 : Nat) : Int) c L) r) →
    Ev (fun k => evindex_Check.l1 k (seen ++ ps.take j) ((seen ++ ps.take j).length : Int) L (L.length : Int) (si : Int) ps (ps.length : Int) (j : Int) c L a b ps) r := by
  intro m
  induction m with
  | zero =>
    intro j h1 h2 hbad hok
    have e : ps.take j = ps := List.take_of_length_le (by omega)
    rw [e]
    refine Ev.step (f := fun k => evindex_Check.l0 k (seen ++ ps) ((seen ++ ps).length : Int) L (L.length : Int) ((si + 1 : Nat) : Int) c L) (fun k => ?_) (hok (by rw [List.drop_eq_nil_of_le (by omega)]; rfl))
    rw [evindex_Check.l1, if_neg (by omega), next_i si _ hsi (by omega)]
  | succ m ih =>
    intro j h1 h2 hbad hok
    have hj : j < ps.length := by omega
    rw [List.drop_eq_getElem_cons hj, goP] at hbad hok
    have et : ps.take (j + 1) = ps.take j ++ [ps[j]] := List.take_succ_eq_append_getElem hj
    have hlen : (seen ++ ps.take j).length = seen.length + j := by rw [List.length_append, List.length_take]; omega
    have hins : insF (seen ++ ps.take j) ps[j] = some (seen ++ ps.take (j + 1)) := by
      unfold insF
      rw [if_pos ⟨by omega, hwf _ (List.getElem_mem hj)⟩, et, List.append_assoc]
    have hw : wrap64 (((seen ++ ps.take j).length : Int) + 1) = ((seen ++ ps.take (j + 1)).length : Int) := by
      rw [hlen, wrap_id (by omega) (by omega), et, List.length_append, List.length_append, List.length_take, List.length_singleton]
      omega
    have hj3 : ∀ bb : Bool, (bb = true ↔ (ps[j] < 0 ∨ ps[j] ≥ c)) → Ev (fun k => evindex_Check.j3 k (seen ++ ps.take j) ((seen ++ ps.take j).length : Int) (j : Int) ps[j] L (L.length : Int) (si : Int) ps (ps.length : Int) (j : Int) bb c L a b ps) r := by
      intro bb hbb
      by_cases q : ps[j] < 0 ∨ ps[j] ≥ c
      · rw [if_pos q] at hbad
        rw [hbad (by omega)]
        refine Ev.le 1 (fun k => ?_)
        rw [evindex_Check.j3, if_pos (hbb.2 q)]
      · rw [if_neg q] at hbad hok
        have e2 : prevI ps (j + 1) = some ps[j] := List.getElem?_eq_getElem hj
        by_cases h0 : 0 < j
        · have hp := pred_i j h0 (by omega)
          rw [prev_pos ps j h0 (by omega)] at hbad hok
          by_cases q2 : ps[j] ≤ ps[j - 1]
          · rw [if_pos ⟨_, rfl, q2⟩] at hbad
            rw [hbad (by omega)]
            refine Ev.le 1 (fun k => ?_)
            rw [evindex_Check.j3, if_neg (fun e => q (hbb.1 e)), if_pos (by omega), hp, if_pos (by omega), if_pos (by omega), rdI ps (j - 1) (by omega), if_pos q2]
          · have hq2 : ¬ ∃ q, some ps[j - 1] = some q ∧ ps[j] ≤ q := fun ⟨q, e1, e2⟩ => q2 (by rw [← Option.some.inj e1] at e2; exact e2)
            rw [if_neg hq2, ← e2] at hbad hok
            refine Ev.step (f := fun k => evindex_Check.l1 k (seen ++ ps.take (j + 1)) ((seen ++ ps.take (j + 1)).length : Int) L (L.length : Int) (si : Int) ps (ps.length : Int) ((j + 1 : Nat) : Int) c L a b ps) (fun k => ?_) (ih (j + 1) (by omega) (by omega) hbad hok)
            rw [evindex_Check.j3, if_neg (fun e => q (hbb.1 e)), if_pos (by omega), hp, if_pos (by omega), if_pos (by omega), rdI ps (j - 1) (by omega), if_neg q2, hins, next_i j _ hj (by omega), hw]
            rfl
        · obtain rfl : j = 0 := by omega
          rw [if_neg (fun ⟨q, e1, _⟩ => by cases e1), ← e2] at hbad hok
          refine Ev.step (f := fun k => evindex_Check.l1 k (seen ++ ps.take (0 + 1)) ((seen ++ ps.take (0 + 1)).length : Int) L (L.length : Int) (si : Int) ps (ps.length : Int) ((0 + 1 : Nat) : Int) c L a b ps) (fun k => ?_) (ih (0 + 1) (by omega) (by omega) hbad hok)
          rw [evindex_Check.j3, if_neg (fun e => q (hbb.1 e)), if_neg (by omega), hins, next_i 0 _ hj (by omega), hw]
          rfl
    by_cases h0 : ps[j] < 0
    · refine Ev.step (f := fun k => evindex_Check.j3 k (seen ++ ps.take j) ((seen ++ ps.take j).length : Int) (j : Int) ps[j] L (L.length : Int) (si : Int) ps (ps.length : Int) (j : Int) true c L a b ps) (fun k => ?_) (hj3 true ⟨fun _ => .inl h0, fun _ => rfl⟩)
      rw [evindex_Check.l1, if_pos (by omega), if_pos (by omega), if_pos (by omega), rdI ps j hj, if_pos h0]
    · refine Ev.step (f := fun k => evindex_Check.j3 k (seen ++ ps.take j) ((seen ++ ps.take j).length : Int) (j : Int) ps[j] L (L.length : Int) (si : Int) ps (ps.length : Int) (j : Int) (decide (ps[j] ≥ c)) c L a b ps) (fun k => ?_) (hj3 _ ⟨fun e => .inr (of_decide_eq_true e), fun e => decide_eq_true (by omega)⟩)
      rw [evindex_Check.l1, if_pos (by omega), if_pos (by omega), if_pos (by omega), rdI ps j hj, if_neg h0]
theorem code_l0 (c : Int) (L : List S43) (hL : L.length ≤ 1000000) (hwf : ∀ s ∈ L, ∀ p ∈ s.f2, (Lit.int .i64 p).wf = true) : ∀ (m i : Nat) (seen : List Int), L.length - i = m → i ≤ L.length → seen.length + ((L.drop i).map fun s => s.f2.length).sum ≤ 1000000 →
    Ev (fun k => evindex_Check.l0 k seen (seen.length : Int) L (L.length : Int) (i : Int) c L) (chkS c (prevI L i) (L.drop i) seen) := by
  intro m
  induction m with
  | zero =>
    intro i seen h1 h2 hs
    rw [List.drop_eq_nil_of_le (by omega)]
    refine Ev.le 1 (fun k => ?_)
    rw [evindex_Check.l0, if_neg (by omega), chkS]
    have h9 : ∀ x y : Int, seen.Nodup → (if ¬ seen.Nodup then x else y) = y := fun _ _ q => if_neg (fun e => e q)
    by_cases q : seen.Nodup
    · rw [h9 _ _ q, if_neg (fun e => (dup_lt seen).1 e q)]
      split <;> rfl
    · rw [if_pos ((dup_lt seen).2 q), if_pos q]
  | succ m ih =>
    intro i seen h1 h2 hs
    have hi : i < L.length := by omega
    obtain ⟨t1, t2, t3⟩ := tot_le L i hi seen hs
    have e : prevI L (i + 1) = some L[i] := List.getElem?_eq_getElem hi
    have hj : ∀ b : Bool, (b = true ↔ ∃ t, prevI L i = some t ∧ ¬ befK t.f0 t.f1 L[i].f0 L[i].f1) → Ev (fun k => evindex_Check.j1 k seen (seen.length : Int) L (L.length : Int) (i : Int) b c L L[i].f0 L[i].f1 L[i].f2) (chkS c (prevI L i) (L.drop i) seen) := by
      intro b hb
      rw [List.drop_eq_getElem_cons hi, chkS]
      by_cases q : ∃ t, prevI L i = some t ∧ ¬ befK t.f0 t.f1 L[i].f0 L[i].f1
      · rw [if_pos q]
        refine Ev.le 1 (fun k => ?_)
        rw [evindex_Check.j1, if_pos (hb.2 q)]
      · rw [if_neg q]
        by_cases q3 : L[i].f2 = []
        · have ew : wrongP c L[i].f2 = 1 := by unfold wrongP; rw [if_pos q3]
          rw [ew, if_pos (by omega)]
          refine Ev.le 1 (fun k => ?_)
          rw [evindex_Check.j1, if_neg (fun e => q (hb.1 e)), if_pos (by rw [q3]; rfl)]
        · have ew : wrongP c L[i].f2 = goP c none L[i].f2 := by unfold wrongP; rw [if_neg q3]
          rw [ew]
          have hpos : 0 < L[i].f2.length := List.length_pos_iff.2 q3
          have hl1 := code_l1 c L i hi hL L[i].f0 L[i].f1 L[i].f2 seen (hwf _ (List.getElem_mem hi)) (by rw [List.length_append] at t3; omega) (if goP c none L[i].f2 ≠ 0 then goP c none L[i].f2 else chkS c (some L[i]) (L.drop (i + 1)) (seen ++ L[i].f2)) L[i].f2.length 0 rfl (Nat.zero_le _)
            (fun hne => by rw [List.drop_zero] at hne ⊢; rw [show prevI L[i].f2 0 = none from rfl] at hne ⊢; rw [if_pos hne]) (fun h0 => by
              rw [List.drop_zero, show prevI L[i].f2 0 = none from rfl] at h0
              rw [if_neg (fun e => e h0), ← e]
              exact ih (i + 1) (seen ++ L[i].f2) (by omega) (by omega) t3)
          rw [List.take_zero, List.append_nil] at hl1
          refine Ev.step (f := fun k => evindex_Check.l1 k seen (seen.length : Int) L (L.length : Int) (i : Int) L[i].f2 (L[i].f2.length : Int) ((0 : Nat) : Int) c L L[i].f0 L[i].f1 L[i].f2) (fun k => ?_) hl1
          rw [evindex_Check.j1, if_neg (fun e => q (hb.1 e)), if_neg (by omega)]
          rfl
    by_cases h0 : 0 < i
    · have hp := pred_i i h0 (by omega)
      refine Ev.step (f := fun k => evindex_Check.j1 k seen (seen.length : Int) L (L.length : Int) (i : Int) (decide (ordI (L[i - 1].f0, L[i - 1].f1) (L[i].f0, L[i].f1) ≥ 0)) c L L[i].f0 L[i].f1 L[i].f2) (fun k => ?_) (hj _ ?_)
      · rw [evindex_Check.l0, if_pos (by omega), if_pos (by omega), if_pos (by omega), if_pos (by omega), hp, if_pos (by omega), if_pos (by omega), rd43 L i hi, rd43 L (i - 1) (by omega)]
        rfl
      · rw [prev_pos L i h0 (by omega), decide_eq_true_eq, order_ge]
        simp
    · obtain rfl : i = 0 := by omega
      refine Ev.step (f := fun k => evindex_Check.j1 k seen (seen.length : Int) L (L.length : Int) ((0 : Nat) : Int) false c L L[0].f0 L[0].f1 L[0].f2) (fun k => ?_) (hj _ ?_)
      · rw [evindex_Check.l0, if_pos (by omega), if_pos (by omega), if_pos (by omega), if_neg (by omega), rd43 L 0 hi]
      · constructor
        · intro e; cases e
        · rintro ⟨t, e, _⟩; cases e
theorem code_check_ev (c : Int) (L : List S43) (hL : L.length ≤ 1000000) (hwf : ∀ s ∈ L, ∀ p ∈ s.f2, (Lit.int .i64 p).wf = true) (hs : (L.map fun s => s.f2.length).sum ≤ 1000000) : Ev (fun k => evindex_Check.f k c L) (checkS c L) := by
  unfold checkS
  by_cases h : c < 0
  · rw [if_pos h]
    refine Ev.congr (f := fun _ => some 2) (fun k => ?_) (Ev.now _)
    unfold evindex_Check.f
    rw [if_pos h]
  · rw [if_neg h]
    refine Ev.congr (f := fun k => evindex_Check.l0 k [] (([] : List Int).length : Int) L (L.length : Int) ((0 : Nat) : Int) c L) (fun k => ?_) (code_l0 c L hL hwf L.length 0 [] rfl (Nat.zero_le _) (by simpa using hs))
    unfold evindex_Check.f
    rw [if_neg h]
    rfl
end Go.Proofs.Yteifekndhgkgcaa.H
