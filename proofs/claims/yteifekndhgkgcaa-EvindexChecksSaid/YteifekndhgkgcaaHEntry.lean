/- A map of rows of numbers that the call has made, at 'm[k] = append(m[k], v)' in the form of an entry and a store into it; no condition beyond the kit's own. -/
import Derived.WideKeyEntry
import Derived.Maps.OwnRows
import Derived.DeepKeys4
import Derived.Maps.Range
namespace Go.Proofs.Yteifekndhgkgcaa.H
open Go.ChangeShapes Go.WideShapes Go.MapKept Go.ChangeMaps Go.Maps Go.WideElems
open Go.WideMaps (KeyLaw)
theorem upd_det {H : Type} {P : Program} {w w' : World} {t k e : TypeId} {R : Value → Option (DataW H × List MemPlace)} {b : Nat} {es es' : Array MapEntry} {clock clock' : Nat} (K : KeyLaw P k) (ht : P.underlying t = some (.map k e)) (hb : w.heap[b]? = some (.map es clock)) (hb' : w'.heap[b]? = some (.map es clock)) (F : Fit P k R es clock)
    {key val : Value} {kl : Lit} (hkey : keyOf P k key = some kl) (hr : (Instr.mapUpdate t (.map (some b)) key val).run P w = .ok () (setBlock w b (.map es' clock'))) :
    (Instr.mapUpdate t (.map (some b)) key val).run P w' = .ok () (setBlock w' b (.map es' clock')) := by
  have fin : ∀ (es2 : Array MapEntry) (c2 : Nat), (Instr.mapUpdate t (.map (some b)) key val).run P w = .ok () (setBlock w b (.map es2 c2)) → (Instr.mapUpdate t (.map (some b)) key val).run P w' = .ok () (setBlock w' b (.map es2 c2)) → (Instr.mapUpdate t (.map (some b)) key val).run P w' = .ok () (setBlock w' b (.map es' clock')) := fun es2 c2 h1 h2 => by
    rw [h1] at hr
    have hh : setBlock w b (.map es2 c2) = setBlock w b (.map es' clock') := by simpa using hr
    have h3 := heap_setBlock_same hb (.map es2 c2)
    rw [hh, heap_setBlock_same hb] at h3
    obtain ⟨rfl, rfl⟩ : es' = es2 ∧ clock' = c2 := by simpa using h3
    exact h2
  rcases K.find w hkey es.toList F.keys with ⟨h1, h2⟩ | ⟨j, e0, h1, h2, h3⟩
  · rcases K.find w' hkey es.toList F.keys with ⟨g1, g2⟩ | ⟨j', e1, g1, g2, g3⟩
    · refine fin (es.push ⟨key, val, clock⟩) (clock + 1) ?_ ?_
      · simp [Instr.mapUpdate, run_underlying ht, MapKept.run_getObj_map hb, K.check w false hkey, h1, MapKept.run_setObj_map _ hb, Result.andThen, setBlock]
      · simp [Instr.mapUpdate, run_underlying ht, MapKept.run_getObj_map hb', K.check w' false hkey, g1, MapKept.run_setObj_map _ hb', Result.andThen, setBlock]
    · exact absurd g3 (h2 e1 (List.mem_of_getElem? g2))
  · rcases K.find w' hkey es.toList F.keys with ⟨g1, g2⟩ | ⟨j', e1, g1, g2, g3⟩
    · exact absurd h3 (g2 e0 (List.mem_of_getElem? h2))
    · have hj : es[j]? = some e0 := by simpa using h2
      have hj' : es[j']? = some e1 := by simpa using g2
      have hjj : j = j' := by
        obtain ⟨_, _, s3'⟩ := F.stamped
        have s3 := List.pairwise_map.1 s3'
        rcases Nat.lt_trichotomy j j' with h | h | h
        · obtain ⟨l1, q1⟩ := List.getElem?_eq_some_iff.1 h2
          obtain ⟨l2, q2⟩ := List.getElem?_eq_some_iff.1 g2
          have := List.pairwise_iff_getElem.1 s3 j j' l1 l2 h
          rw [q1, q2] at this
          exact absurd (h3.trans g3.symm) this
        · exact h
        · obtain ⟨l1, q1⟩ := List.getElem?_eq_some_iff.1 h2
          obtain ⟨l2, q2⟩ := List.getElem?_eq_some_iff.1 g2
          have := List.pairwise_iff_getElem.1 s3 j' j l2 l1 h
          rw [q1, q2] at this
          exact absurd (g3.trans h3.symm) this
      subst hjj
      refine fin (es.modify j (fun e' => { e' with key := key, val := val })) clock ?_ ?_
      · simp [Instr.mapUpdate, run_underlying ht, MapKept.run_getObj_map hb, K.check w false hkey, h1, hj, h3, K.stays w hkey, MapKept.run_setObj_map _ hb, Result.andThen, setBlock]
      · simp [Instr.mapUpdate, run_underlying ht, MapKept.run_getObj_map hb', K.check w' false hkey, g1, hj', g3, K.stays w' hkey, MapKept.run_setObj_map _ hb', Result.andThen, setBlock]
/-- THE ENTRY AND THE WAY BACK. -/
theorem groups_entry {H : Type} {P : Program} {w : World} {t E k e : TypeId} {q : IntKind} {base b n : Nat} {D : DataW H} {key : Value} {kl : Lit} (h : w.ownsGroups P k base e q b n D) (KL : KeyLaw P k) (ht : P.underlying t = some (.map k E)) (hz : ∀ u : World, (zeroValue E).run P u = .ok (.slice none 0 0) u) (hn : n < maxLen) (hkey : keyOf P k key = some kl) :
    ∃ v zs st w1, (Instr.mapEntry t (.map (some b)) key).run P w = .ok (.tuple #[v, goInt st]) w1 ∧ D.atKey kl .nil = rowDatum q v zs ∧ w1.ownsInts base e q v zs ∧ zs.length ≤ n ∧ w.grownBy w1 (some b) ∧ w1.heap.size = w.heap.size ∧
      ∀ (w2 : World) (v' : Value) (zs' : List Int), w1.grownBy w2 v.ownBlock → w2.ownsInts base e q v' zs' → zs'.length ≤ n + 1 → (v'.ownBlock = v.ownBlock ∨ ∃ g, v'.ownBlock = some g ∧ w1.heap.size ≤ g) →
        ∃ w3, (Instr.entryStore t (.map (some b)) (goInt st) v').run P w2 = .ok () w3 ∧ w3.ownsGroups P k base e q b (n + 1) (D.put kl (rowDatum q v' zs')) ∧ w2.grownBy w3 (some b) := by
  obtain ⟨v, zs, hrun, hat, hoi, hzl, hback⟩ := h.at (Keyed.of_law KL) ht (hz w) hn hkey
  obtain ⟨es, clock, hb, F, hs, hD, hbb, hlen, hap⟩ := h
  obtain ⟨v0, st, es1, clock1, hrun1, hv0, hstore⟩ := entry_then_store KL ht hz hb F hkey
  have hvv : v0 = v := by
    rcases Maps.fit_look false (Keyed.of_law KL) ht (hz w) hb F hkey with ⟨g1, g2, _⟩ | ⟨e0, y, g1, g2, g3, _⟩
    · rw [hrun] at g1
      have g1' : v = .slice none 0 0 := by simpa using g1
      rcases hv0 with ⟨e0, m0, m1, _⟩ | ⟨_, m1⟩
      · exact absurd m1 (g2 e0 m0)
      · rw [m1, g1']
    · rw [hrun] at g3
      have g3' : v = e0.val := by simpa using g3
      rcases hv0 with ⟨e1, m0, m1, m2⟩ | ⟨m1, _⟩
      · have : e1 = e0 := by
          obtain ⟨_, _, s3'⟩ := F.stamped
          have s3 := List.pairwise_map.1 s3'
          exact entry_eq_of_key s3 m0 g1 (m1.trans g2.symm)
        rw [m2, this, g3']
      · exact absurd g2 (m1 e0 g1)
  subst hvv
  have hblt : b < w.heap.size := (Array.getElem?_eq_some_iff.1 hb).1
  have hsz : ∀ (u : World) (o : Obj), (setBlock u b o).heap.size = u.heap.size := fun u o => by simp [setBlock]
  have hgrow : ∀ (u : World) (o : Obj), (∃ es0 c0, u.heap[b]? = some (.map es0 c0)) → u.grownBy (setBlock u b o) (some b) := fun u o ⟨es0, c0, hu⟩ => ⟨rfl, rfl, rfl, by rw [hsz]; exact Nat.le_refl _, fun i hi hne => heap_setBlock_other hu o (fun e1 => hne (by rw [e1]))⟩
  have hvb : some b ≠ v0.ownBlock := fun e1 => by
    have := (hoi.1.lt b e1.symm).1
    omega
  have hg1 := hgrow w (.map es1 clock1) ⟨es, clock, hb⟩
  refine ⟨v0, zs, st, setBlock w b (.map es1 clock1), hrun1, hat, hoi.kept hg1 ?_, hzl, hg1, hsz _ _, ?_⟩
  · cases hvo : v0.ownBlock with
    | none => exact Or.inl rfl
    | some g => exact Or.inr (fun e1 => hvb (by rw [hvo, e1]))
  · intro w2 v' zs' hg2 hown' hl' hloc
    have hb2 : w2.heap[b]? = some (.map es1 clock1) := (hg2.block b (by rw [hsz]; exact hblt) hvb).trans (heap_setBlock_same hb _)
    obtain ⟨es', clock', hrun2, hupd⟩ := hstore w2 v' hb2
    -- the world as if the entry had not been laid
    have hp : (setBlock w2 b (.map es clock)).heap[b]? = some (.map es clock) := heap_setBlock_same hb2 _
    have hgp : w.grownBy (setBlock w2 b (.map es clock)) v0.ownBlock := ⟨hg2.os, hg2.tape, hg2.output, by rw [hsz]; have := hg2.size; rw [hsz] at this; exact this, fun i hi hne => by
      by_cases e1 : i = b
      · rw [e1, hp, hb]
      · rw [heap_setBlock_other hb2 _ e1, hg2.block i (by rw [hsz]; exact hi) hne, heap_setBlock_other hb _ e1]⟩
    have hvb' : some b ≠ v'.ownBlock := fun e1 => by
      have := (hown'.1.lt b e1.symm).1
      omega
    obtain ⟨w3, r1, r2, r3⟩ := hback (setBlock w2 b (.map es clock)) v' zs' hgp (hown'.kept (hgrow w2 _ ⟨es1, clock1, hb2⟩) (by
      cases hvo : v'.ownBlock with
      | none => exact Or.inl rfl
      | some g => exact Or.inr (fun e1 => hvb' (by rw [hvo, e1])))) hl' (by rw [hsz] at hloc; exact hloc)
    have hu := upd_det KL ht hb hp F hkey hupd
    rw [r1] at hu
    have hw3 : w3 = setBlock (setBlock w2 b (.map es clock)) b (.map es' clock') := by simpa using hu
    have hss : setBlock (setBlock w2 b (.map es clock)) b (.map es' clock') = setBlock w2 b (.map es' clock') := by simp [setBlock]
    rw [hss] at hw3
    subst hw3
    exact ⟨_, hrun2, r2, hgrow w2 _ ⟨es1, clock1, hb2⟩⟩
/-- what a store at the entry leads back to -/
def EntryBack {H : Type} (P : Program) (t k : TypeId) (base : Nat) (e : TypeId) (q : IntKind) (b n : Nat) (D : DataW H) (kl : Lit) (v : Value) (st : Int) (w1 : World) : Prop :=
  ∀ (w2 : World) (v' : Value) (zs' : List Int), w1.grownBy w2 v.ownBlock → w2.ownsInts base e q v' zs' → zs'.length ≤ n + 1 → (v'.ownBlock = v.ownBlock ∨ ∃ g, v'.ownBlock = some g ∧ w1.heap.size ≤ g) →
    ∃ w3, (Instr.entryStore t (.map (some b)) (goInt st) v').run P w2 = .ok () w3 ∧ w3.ownsGroups P k base e q b (n + 1) (D.put kl (rowDatum q v' zs')) ∧ w2.grownBy w3 (some b)
theorem wpList_mapEntry_groups {H : Type} {P : Program} (w : World) {ops : Array Oper} {rest : List Oper} {o : Oper} {a : Act} {Q : Exit → Act → World → Prop}
    (hg : o.guard = none) (m x : Operand) (t : TypeId) (hop : o.op = Op.mapEntry t m x)
    (k E e : TypeId) (q : IntKind) (KL : KeyLaw P k) (ht : P.underlying t = some (.map k E)) (hz : ∀ u : World, (zeroValue E).run P u = .ok (.slice none 0 0) u) (base b n : Nat) (D : DataW H)
    (hm : a.eval m = .map (some b)) (hown : w.ownsGroups P k base e q b n D) (hn : n < maxLen) (key : Value) (kl : Lit) (hx : a.eval x = key) (hkey : keyOf P k key = some kl)
    (hK : ∀ v zs st w1, D.atKey kl .nil = rowDatum q v zs → w1.ownsInts base e q v zs → zs.length ≤ n → w.grownBy w1 (some b) → w1.heap.size = w.heap.size → EntryBack P t k base e q b n D kl v st w1 → wpList P ops Q rest (a.put o.dst (.tuple #[v, goInt st])) w1) :
    wpList P ops Q (o :: rest) a w := by
  refine wpList_plain hg fun K' hK' => ?_
  obtain ⟨v, zs, st, w1, hrun, hat, hoi, hzl, hgr, hs, hback⟩ := groups_entry hown KL ht hz hn hkey
  unfold Oper.wp
  simp [execOp, hop, hm, hx, hrun, Result.andThen]
  exact hK' _ _ (hK v zs st w1 hat hoi hzl hgr hs hback)
theorem wpList_entryStore_back {H : Type} {P : Program} (w : World) {ops : Array Oper} {rest : List Oper} {o : Oper} {a : Act} {Q : Exit → Act → World → Prop}
    (hg : o.guard = none) (m s v : Operand) (t : TypeId) (hop : o.op = Op.entryStore t m s v)
    {w1 : World} {k : TypeId} {base : Nat} {e : TypeId} {q : IntKind} {b n : Nat} {D : DataW H} {kl : Lit} {u v' : Value} {zs' : List Int} {st : Int}
    (hback : EntryBack P t k base e q b n D kl u st w1) (hm : a.eval m = .map (some b)) (hs : a.eval s = goInt st) (hv : a.eval v = v')
    (hgr : w1.grownBy w u.ownBlock) (hown' : w.ownsInts base e q v' zs') (hl' : zs'.length ≤ n + 1) (hloc : v'.ownBlock = u.ownBlock ∨ ∃ g, v'.ownBlock = some g ∧ w1.heap.size ≤ g)
    (hK : ∀ w3, w3.ownsGroups P k base e q b (n + 1) (D.put kl (rowDatum q v' zs')) → w.grownBy w3 (some b) → wpList P ops Q rest (a.put o.dst undef) w3) :
    wpList P ops Q (o :: rest) a w := by
  refine wpList_plain hg fun K' hK' => ?_
  obtain ⟨w3, hrun, r1, r2⟩ := hback w v' zs' hgr hown' hl' hloc
  unfold Oper.wp
  simp [execOp, hop, hm, hs, hv, hrun, Result.andThen]
  exact hK' _ _ (hK w3 r1 r2)
end Go.Proofs.Yteifekndhgkgcaa.H
