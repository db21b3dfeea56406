/- The entries of the map of rows, as the range hands them over and as the sort orders them: they are the specification's slots; no condition beyond the numbers' kind. -/
import Derived.Test.YteifekndhgkgcaaHSortF
import Derived.Test.YteifekndhgkgcaaHRows
import Derived.Test.YteifekndhgkgcaaHGD
import Derived.Maps.Range
namespace Go.Proofs.Yteifekndhgkgcaa.H
open Go.RowKit Go.Proofs.YteifekndhgkgcaaW.PrintWords Go.Proofs.YteifekndhgkgcaaW.PrintLast Go.Proofs.YteifekndhgkgcaaW.PrintMore
open Go.ChangeShapes (lits)
open Go.Maps
set_option linter.unusedSimpArgs false
set_option linter.unusedVariables false
def wfI (a : Int) : Prop := (Lit.int .i64 a).wf = true
structure EInv (D2 : DataW Value) (left : Lit → Bool) (ents : List Ent) : Prop where
  mem : ∀ e ∈ ents, wfI e.a ∧ wfI e.c ∧ D2.atKey (keyL e.a e.c) .nil = .held e.v ∧ left (keyL e.a e.c) = false
  apart : ents.Pairwise fun x y => x.a ≠ y.a ∨ x.c ≠ y.c
  all : ∀ a c v, wfI a → wfI c → D2.atKey (keyL a c) .nil = .held v → left (keyL a c) = false → ∃ e ∈ ents, e.a = a ∧ e.c = c ∧ e.v = v
theorem EInv.start (D2 : DataW Value) : EInv D2 (has D2) [] := ⟨fun e h => by simp at h, List.Pairwise.nil, fun a c v _ _ h hh => by
  rw [atKey_of_not_has hh] at h
  cases h⟩
theorem EInv.step {D2 : DataW Value} {left : Lit → Bool} {ents : List Ent} (w : World) (h : EInv D2 left ents) (e0 : Ent) (h1 : wfI e0.a) (h2 : wfI e0.c) (hl : left (keyL e0.a e0.c) = true) (hat : D2.atKey (keyL e0.a e0.c) .nil = .held e0.v) :
    EInv D2 (fun z => left z && !z.sameKey (keyL e0.a e0.c)) (ents ++ [e0]) := by
  have hk := keyL_lit w _ _ h1 h2
  refine ⟨fun e he => ?_, ?_, fun a c v ha hc hv hll => ?_⟩
  · rcases List.mem_append.1 he with he | he
    · obtain ⟨a1, a2, a3, a4⟩ := h.mem e he
      exact ⟨a1, a2, a3, by rw [a4]; rfl⟩
    · rw [List.mem_singleton.1 he]
      exact ⟨h1, h2, hat, by rw [WideAt.sameKey_self hk, Bool.not_true, Bool.and_false]⟩
  · rw [List.pairwise_append]
    refine ⟨h.apart, List.pairwise_singleton _ _, fun x hx y hy => ?_⟩
    rw [List.mem_singleton.1 hy]
    obtain ⟨_, _, _, a4⟩ := h.mem x hx
    by_cases e : x.a = e0.a ∧ x.c = e0.c
    · rw [e.1, e.2, hl] at a4
      cases a4
    · omega
  · cases hq : left (keyL a c) with
    | false =>
      obtain ⟨e, he, r⟩ := h.all a c v ha hc hv hq
      exact ⟨e, List.mem_append_left _ he, r⟩
    | true =>
      rw [hq] at hll
      have hs : (keyL a c).sameKey (keyL e0.a e0.c) = true := by simpa using hll
      obtain ⟨rfl, rfl⟩ := keyL_inj w _ _ _ _ ha hc h1 h2 (WideAt.sameKey_eq hs)
      rw [hat] at hv
      exact ⟨e0, by simp, rfl, rfl, by simpa using hv⟩
theorem sorted_ext {α : Type} {lt : α → α → Prop} (irr : ∀ x, ¬ lt x x) (tr : ∀ x y z, lt x y → lt y z → lt x z) : ∀ l l' : List α, l.Pairwise lt → l'.Pairwise lt → (∀ x, x ∈ l ↔ x ∈ l') → l = l'
  | [], [], _, _, _ => rfl
  | [], y :: l', _, _, h => absurd ((h y).2 List.mem_cons_self) (by simp)
  | x :: l, [], _, _, h => absurd ((h x).1 List.mem_cons_self) (by simp)
  | x :: l, y :: l', h1, h2, h => by
    have a1 := List.pairwise_cons.1 h1
    have a2 := List.pairwise_cons.1 h2
    have e : x = y := by
      rcases List.mem_cons.1 ((h x).1 List.mem_cons_self) with e | m
      · exact e
      · rcases List.mem_cons.1 ((h y).2 List.mem_cons_self) with e | m'
        · exact e.symm
        · exact absurd (tr _ _ _ (a1.1 y m') (a2.1 x m)) (irr x)
    subst e
    rw [sorted_ext irr tr l l' a1.2 a2.2 (fun z => ⟨fun hz => ?_, fun hz => ?_⟩)]
    · rcases List.mem_cons.1 ((h z).1 (List.mem_cons_of_mem _ hz)) with e | m
      · subst e; exact absurd (a1.1 z hz) (irr z)
      · exact m
    · rcases List.mem_cons.1 ((h z).2 (List.mem_cons_of_mem _ hz)) with e | m
      · subst e; exact absurd (a2.1 z hz) (irr z)
      · exact m
theorem find_mem (n k : Int) : ∀ (l : List S43) {zs : List Int}, findF n k l = some zs → ∃ s ∈ l, s.f0 = n ∧ s.f1 = k ∧ s.f2 = zs
  | [], zs, h => by simp [findF] at h
  | s :: l, zs, h => by
    rw [findF] at h
    by_cases c : s.f0 = n ∧ s.f1 = k
    · rw [if_pos c] at h
      exact ⟨s, List.mem_cons_self, c.1, c.2, Option.some.inj h⟩
    · rw [if_neg c] at h
      obtain ⟨t, ht, r⟩ := find_mem n k l h
      exact ⟨t, List.mem_cons_of_mem _ ht, r⟩
theorem find_of_mem : ∀ (l : List S43), SortedK l → ∀ s ∈ l, findF s.f0 s.f1 l = some s.f2
  | [], _, s, h => by simp at h
  | t :: l, hs, s, h => by
    have a := List.pairwise_cons.1 hs
    rcases List.mem_cons.1 h with rfl | h
    · rw [findF, if_pos ⟨rfl, rfl⟩]
    · have := a.1 s h
      unfold befK at this
      rw [findF, if_neg (by omega)]
      exact find_of_mem l a.2 s h
theorem build_wf (l : List S47) (hwf : ∀ i : Nat, i < l.length → wfI (rd_T47 l (i : Int)).f0 ∧ wfI (rd_T47 l (i : Int)).f2.f0) : ∀ k, k ≤ l.length → ∀ s ∈ buildF l k, wfI s.f0 ∧ wfI s.f1
  | 0, _, s, h => by simp [buildF] at h
  | k + 1, hk, s, h => by
    rcases put_mem _ _ _ _ _ h with ⟨e1, e2⟩ | h
    · rw [e1, e2]
      exact hwf k (by omega)
    · exact build_wf l hwf k (by omega) s h
theorem lits_inj : ∀ {xs ys : List Int}, lits (H := Unit) .i64 xs = lits .i64 ys → xs = ys
  | [], [], _ => rfl
  | [], y :: ys, h => by simp [lits] at h
  | x :: xs, [], h => by simp [lits] at h
  | x :: xs, y :: ys, h => by
    simp only [lits, List.map_cons, List.cons.injEq] at h
    have h1 : x = y := by simpa using h.1
    rw [h1, lits_inj (xs := xs) (ys := ys) h.2]
theorem ents_slots {W : World} {base n : Nat} {l : List S47} (hwf : ∀ i : Nat, i < l.length → wfI (rd_T47 l (i : Int)).f0 ∧ wfI (rd_T47 l (i : Int)).f2.f0) {D2 : DataW Value} {left : Lit → Bool} {ents d : List Ent}
    (h1 : ∀ a c v, (Lit.int .i64 a).wf = true → (Lit.int .i64 c).wf = true → D2.atKey (keyL a c) .nil = .held v → ∃ zs, W.ownsInts base 3 .i64 v zs ∧ zs.length ≤ n ∧ ∀ zd, (GD l l.length).atKey (keyL a c) zd = rowDatum .i64 v zs)
    (h2 : ∀ a c, (Lit.int .i64 a).wf = true → (Lit.int .i64 c).wf = true → (∀ v, D2.atKey (keyL a c) .nil ≠ .held v) → ∀ zd, (GD l l.length).atKey (keyL a c) zd = zd)
    (hI : EInv D2 left ents) (hleft : ∀ kl, left kl = false) (hp : d.Perm ents) (hs : d.Pairwise fun x y => befK x.a x.c y.a y.c) :
    d.length = (buildF l l.length).length ∧ ∀ (j : Nat) e s, d[j]? = some e → (buildF l l.length)[j]? = some s → e.a = s.f0 ∧ e.c = s.f1 ∧ W.ownsInts base 3 .i64 e.v s.f2 := by
  have hG := (GD_find W l l.length (Nat.le_refl _) hwf).2
  have hB := build_sorted l l.length
  have key : d.map (fun e => (e.a, e.c)) = (buildF l l.length).map (fun s => (s.f0, s.f1)) := by
    refine sorted_ext (lt := fun x y : Int × Int => befK x.1 x.2 y.1 y.2) (fun x => by unfold befK; omega) (fun x y z a b => befK_trans a b) _ _ (List.pairwise_map.2 hs) (List.pairwise_map.2 hB) (fun x => ⟨fun hx => ?_, fun hx => ?_⟩)
    · obtain ⟨e, he, rfl⟩ := List.mem_map.1 hx
      obtain ⟨a1, a2, a3, _⟩ := hI.mem e (hp.mem_iff.1 he)
      obtain ⟨zs, _, _, hz⟩ := h1 _ _ _ a1 a2 a3
      cases hf : findF e.a e.c (buildF l l.length) with
      | none =>
        have e1 := hG e.a e.c a1 a2 .nil
        have e2 := hG e.a e.c a1 a2 (.ptr .nil)
        rw [hz] at e1 e2
        rw [hf] at e1 e2
        simp only at e1 e2
        rw [e1] at e2
        cases e2
      | some zs' =>
        obtain ⟨s, hs', e1, e2, _⟩ := find_mem _ _ _ hf
        exact List.mem_map.2 ⟨s, hs', by rw [e1, e2]⟩
    · obtain ⟨s, hs', rfl⟩ := List.mem_map.1 hx
      obtain ⟨a1, a2⟩ := build_wf l hwf l.length (Nat.le_refl _) s hs'
      have hf := find_of_mem _ hB s hs'
      by_cases hv : ∃ v, D2.atKey (keyL s.f0 s.f1) .nil = .held v
      · obtain ⟨v, hv⟩ := hv
        obtain ⟨e, he, e1, e2, _⟩ := hI.all _ _ v a1 a2 hv (hleft _)
        exact List.mem_map.2 ⟨e, hp.mem_iff.2 he, by rw [e1, e2]⟩
      · have e1 := hG s.f0 s.f1 a1 a2 .nil
        rw [h2 _ _ a1 a2 (fun v h => hv ⟨v, h⟩), hf] at e1
        cases e1
  refine ⟨by simpa using congrArg List.length key, fun j e s hj hj' => ?_⟩
  have ek := congrArg (fun q => q[j]?) key
  simp only [List.getElem?_map, hj, hj', Option.map_some] at ek
  have ek2 : e.a = s.f0 ∧ e.c = s.f1 := by simpa using ek
  refine ⟨ek2.1, ek2.2, ?_⟩
  obtain ⟨a1, a2, a3, _⟩ := hI.mem e (hp.mem_iff.1 (List.mem_of_getElem? hj))
  obtain ⟨zs, ho, _, hz⟩ := h1 _ _ _ a1 a2 a3
  have e1 := hG e.a e.c a1 a2 .nil
  rw [hz, ek2.1, ek2.2, find_of_mem _ hB s (List.mem_of_getElem? hj')] at e1
  rcases ho.datum (H := Unit) with ⟨q1, _⟩ | q1
  · rw [q1] at e1
    cases e1
  · rw [q1] at e1
    have e2 : lits (H := Unit) .i64 zs = lits .i64 s.f2 := by
      injection e1
    rw [← lits_inj e2]
    exact ho
open Classical in
theorem slots_S {W : World} {base base' : Nat} {V : Value} {d : List Ent} {xs : List S43} (hbb : base ≤ base') (hown : W.ownsRow base 43 3 V d.length (d.flatMap encE)) (hl : d.length = xs.length)
    (hx : ∀ (j : Nat) e s, d[j]? = some e → xs[j]? = some s → e.a = s.f0 ∧ e.c = s.f1 ∧ W.ownsInts base' 3 .i64 e.v s.f2)
    (hap : ∀ (i j : Nat) e e', i ≠ j → d[i]? = some e → d[j]? = some e' → e.v.ownBlock = none ∨ e.v.ownBlock ≠ e'.v.ownBlock) : Kd.S k43 43 W base (fun _ => True) V xs := by
  refine ⟨fun k => if h : ∃ (j : Nat) (e : Ent), d[j]? = some e ∧ e.v.ownBlock = some k then h.choose else 0, fun _ _ => trivial, d.flatMap encE, by rw [List.length_zipIdx, ← hl]; exact hown, ?_, fun j p hj => ?_⟩
  · rw [len_flat, List.length_zipIdx, hl]
    rfl
  · have hjl : j < xs.length := by have := (List.getElem?_eq_some_iff.1 hj).1; simpa using this
    have hjd : j < d.length := by omega
    have hp : p = (xs[j], j) := by
      rw [List.getElem?_zipIdx, List.getElem?_eq_getElem hjl] at hj
      simpa using hj.symm
    subst hp
    have hdj := List.getElem?_eq_getElem hjd
    obtain ⟨e1, e2, e3⟩ := hx j _ _ hdj (List.getElem?_eq_getElem hjl)
    have hcells : ((d.flatMap encE).drop (j * 3)).take 3 = [.int .i64 xs[j].f0, .int .i64 xs[j].f1, d[j].v] := by
      apply List.ext_getElem?
      intro i
      rcases Nat.lt_or_ge i 3 with hi | hi
      · rw [List.getElem?_take, if_pos hi, List.getElem?_drop, get_flat _ _ (by omega), show (j * 3 + i) / 3 = j by omega, show (j * 3 + i) % 3 = i by omega, hdj]
        match i, hi with
        | 0, _ => rw [← e1]; rfl
        | 1, _ => rw [← e2]; rfl
        | 2, _ => rfl
      · rw [List.getElem?_take, if_neg (by omega)]
        match i, hi with
        | i + 3, _ => rfl
    show k43.M W base _ xs[j] (((d.flatMap encE).drop (j * 3)).take 3)
    rw [hcells]
    refine k43_mkM _ _ _ _ (Kd.R_of_own (own_weaken e3.1 hbb) (fun k hk => ⟨⟨trivial, ?_⟩, ?_⟩))
    · intro e
      rcases own_type_ne e3.1 hown (by decide) with h | h
      · rw [h] at hk
        cases hk
      · exact h (hk.trans e)
    · have hex : ∃ (j : Nat) (e : Ent), d[j]? = some e ∧ e.v.ownBlock = some k := ⟨j, _, hdj, hk⟩
      show (if h : ∃ (j : Nat) (e : Ent), d[j]? = some e ∧ e.v.ownBlock = some k then h.choose else 0) = j
      rw [dif_pos hex]
      obtain ⟨e', g1, g2⟩ := hex.choose_spec
      by_cases he : hex.choose = j
      · exact he
      · rcases hap _ _ _ _ he g1 hdj with h | h
        · rw [h] at g2
          cases g2
        · exact absurd (g2.trans hk.symm) h
end Go.Proofs.Yteifekndhgkgcaa.H
