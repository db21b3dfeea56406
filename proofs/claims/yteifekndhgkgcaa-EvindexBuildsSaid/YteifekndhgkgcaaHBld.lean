/- Several texts in one: HPutF, HEntry, HKey, HKey2, HGD, HRows, HOrder, HSortF, HEnts, HBuild. No condition beyond theirs. -/
import Derived.Test.YteifekndhgkgcaaH0
import Derived.WideKeyEntry
import Derived.Maps.OwnRows
import Derived.DeepKeys4
import Derived.Maps.Range
import Derived.MapViews
import Derived.Lib.SmallJoins
import Derived.OpenShut
import Derived.ChangeSame
import Derived.ChangeKeysEq
import Derived.Maps.Views
import Derived.Test.YteifekndhgkgcaaHShelf
import Derived.Shelf.Small.Wraps
import Derived.Deep.RegionWith
import Derived.Shelf.SlSortCmp.NoneTotal
import Derived.Maps.GroupsBeside
import Derived.Maps.RangeWalk
/- The slots of an index, in plain words: putting one place more; no condition. -/
namespace Go.Proofs.Yteifekndhgkgcaa.H
open Go.RowKit Go.Proofs.YteifekndhgkgcaaW.PrintWords Go.Proofs.YteifekndhgkgcaaW.PrintLast Go.Proofs.YteifekndhgkgcaaW.PrintMore
def befK (a c n k : Int) : Prop := a < n ∨ a = n ∧ c < k
instance (a c n k : Int) : Decidable (befK a c n k) := by unfold befK; infer_instance
def putF (n k p : Int) : List S43 → List S43
 | [] => [⟨n, k, [p]⟩]
 | s :: l => if s.f0 = n ∧ s.f1 = k then ⟨s.f0, s.f1, s.f2 ++ [p]⟩ :: l else if befK s.f0 s.f1 n k then s :: putF n k p l else ⟨n, k, [p]⟩ :: s :: l
def findF (n k : Int) : List S43 → Option (List Int)
 | [] => none
 | s :: l => if s.f0 = n ∧ s.f1 = k then some s.f2 else findF n k l
def SortedK (l : List S43) : Prop := l.Pairwise fun s t => befK s.f0 s.f1 t.f0 t.f1
theorem find_above (n k : Int) : ∀ l : List S43, (∀ s ∈ l, befK n k s.f0 s.f1) → findF n k l = none
  | [], _ => rfl
  | s :: l, h => by
    have h1 := h s List.mem_cons_self
    unfold befK at h1
    rw [findF, if_neg (by omega)]
    exact find_above n k l (fun t ht => h t (List.mem_cons_of_mem _ ht))
theorem befK_trans {a b c d e f : Int} (h : befK a b c d) (g : befK c d e f) : befK a b e f := by unfold befK at *; omega
theorem put_mem (n k p : Int) : ∀ (l : List S43) (t : S43), t ∈ putF n k p l → (t.f0 = n ∧ t.f1 = k) ∨ t ∈ l
  | [], t, h => by
    simp only [putF, List.mem_singleton] at h
    subst h
    exact .inl ⟨rfl, rfl⟩
  | s :: l, t, h => by
    unfold putF at h
    split at h
    · rename_i c
      rcases List.mem_cons.1 h with rfl | h
      · exact .inl c
      · exact .inr (List.mem_cons_of_mem _ h)
    · split at h
      · rcases List.mem_cons.1 h with rfl | h
        · exact .inr List.mem_cons_self
        · rcases put_mem n k p l t h with h | h
          · exact .inl h
          · exact .inr (List.mem_cons_of_mem _ h)
      · rcases List.mem_cons.1 h with rfl | h
        · exact .inl ⟨rfl, rfl⟩
        · exact .inr h
theorem put_sorted (n k p : Int) : ∀ l : List S43, SortedK l → SortedK (putF n k p l)
  | [], _ => by simp [putF, SortedK]
  | s :: l, h => by
    have hh := List.pairwise_cons.1 h
    unfold putF
    split
    · exact List.pairwise_cons.2 ⟨hh.1, hh.2⟩
    · rename_i c1
      split
      · rename_i c2
        refine List.pairwise_cons.2 ⟨fun t ht => ?_, put_sorted n k p l hh.2⟩
        rcases put_mem n k p l t ht with ⟨e1, e2⟩ | ht
        · rw [e1, e2]; exact c2
        · exact hh.1 t ht
      · rename_i c2
        have hb : befK n k s.f0 s.f1 := by unfold befK at *; omega
        refine List.pairwise_cons.2 ⟨fun t ht => ?_, h⟩
        rcases List.mem_cons.1 ht with rfl | ht
        · exact hb
        · exact befK_trans hb (hh.1 t ht)
theorem find_put_same (n k p : Int) : ∀ l : List S43, SortedK l → findF n k (putF n k p l) = some ((findF n k l).getD [] ++ [p])
  | [], _ => by simp [putF, findF]
  | s :: l, h => by
    have hh := List.pairwise_cons.1 h
    unfold putF
    split
    · rename_i c
      rw [findF, if_pos c, findF, if_pos c]
      rfl
    · rename_i c1
      split
      · rw [findF, if_neg c1, findF, if_neg c1]
        exact find_put_same n k p l hh.2
      · rename_i c2
        have hb : befK n k s.f0 s.f1 := by unfold befK at *; omega
        rw [findF, if_pos ⟨rfl, rfl⟩, find_above n k (s :: l) (fun t ht => by
          rcases List.mem_cons.1 ht with rfl | ht
          · exact hb
          · exact befK_trans hb (hh.1 t ht))]
        rfl
theorem find_put_other (n k p n' k' : Int) (hne : ¬ (n = n' ∧ k = k')) : ∀ l : List S43, findF n' k' (putF n k p l) = findF n' k' l
  | [] => by simp only [putF, findF, if_neg hne]
  | s :: l => by
    unfold putF
    split
    · rename_i c
      rw [findF, findF]
      by_cases c2 : s.f0 = n' ∧ s.f1 = k'
      · exact absurd ⟨c.1.symm.trans c2.1, c.2.symm.trans c2.2⟩ hne
      · rw [if_neg c2, if_neg c2]
    · split
      · rw [findF, findF, find_put_other n k p n' k' hne l]
      · rw [findF, if_neg hne]
/-- the index of a list, behind k of its elements -/
def buildF (l : List S47) : Nat → List S43
 | 0 => []
 | k + 1 => putF (rd_T47 l (k : Int)).f0 (rd_T47 l (k : Int)).f2.f0 (k : Int) (buildF l k)
theorem build_sorted (l : List S47) : ∀ k, SortedK (buildF l k)
  | 0 => List.Pairwise.nil
  | k + 1 => put_sorted _ _ _ _ (build_sorted l k)
def evindex_Build.f (l : List S47) : Option (Int × List S43) :=
  if l.length ≤ 60 ∧ ∀ x ∈ l, (Lit.int .i64 x.f0).wf = true ∧ (Lit.int .i64 x.f2.f0).wf = true then some ((l.length : Int), buildF l l.length) else none
end Go.Proofs.Yteifekndhgkgcaa.H
/- A map of rows of numbers that the call has made, at 'm[k] = append(m[k], v)' in the form of an entry and a store into it; no condition beyond the kit's own. -/
namespace Go.Proofs.Yteifekndhgkgcaa.H
open Go.ChangeShapes Go.WideShapes Go.MapKept Go.ChangeMaps Go.Maps Go.WideElems
open Go.WideMaps (KeyLaw)
theorem upd_det {H : Type} {P : Program} {w w' : World} {t k e : TypeId} {R : Value → Option (DataW H × List MemPlace)} {b : Nat} {es es' : Array MapEntry} {clock clock' : Nat} (K : KeyLaw P k) (ht : P.underlying t = some (.map k e)) (hb : w.heap[b]? = some (.map es clock)) (hb' : w'.heap[b]? = some (.map es clock)) (F : Fit P k R es clock)
    {key val : Value} {kl : Lit} (hkey : keyOf P k key = some kl) (hr : (Instr.mapUpdate t (.map (some b)) key val).run P w = .ok () (setBlock w b (.map es' clock'))) :
    (Instr.mapUpdate t (.map (some b)) key val).run P w' = .ok () (setBlock w' b (.map es' clock')) := by
  have fin : ∀ (es2 : Array MapEntry) (c2 : Nat), (Instr.mapUpdate t (.map (some b)) key val).run P w = .ok () (setBlock w b (.map es2 c2)) → (Instr.mapUpdate t (.map (some b)) key val).run P w' = .ok () (setBlock w' b (.map es2 c2)) → (Instr.mapUpdate t (.map (some b)) key val).run P w' = .ok () (setBlock w' b (.map es' clock')) := fun es2 c2 h1 h2 => by
    rw [h1] at hr
    have hh : setBlock w b (.map es2 c2) = setBlock w b (.map es' clock') := by simpa using hr
    have h3 := heap_setBlock_same hb (.map es2 c2)
    rw [hh, heap_setBlock_same hb] at h3
    obtain ⟨rfl, rfl⟩ : es' = es2 ∧ clock' = c2 := by simpa using h3
    exact h2
  rcases K.find w hkey es.toList F.keys with ⟨h1, h2⟩ | ⟨j, e0, h1, h2, h3⟩
  · rcases K.find w' hkey es.toList F.keys with ⟨g1, g2⟩ | ⟨j', e1, g1, g2, g3⟩
    · refine fin (es.push ⟨key, val, clock⟩) (clock + 1) ?_ ?_
      · simp [Instr.mapUpdate, run_underlying ht, MapKept.run_getObj_map hb, K.check w false hkey, h1, MapKept.run_setObj_map _ hb, Result.andThen, setBlock]
      · simp [Instr.mapUpdate, run_underlying ht, MapKept.run_getObj_map hb', K.check w' false hkey, g1, MapKept.run_setObj_map _ hb', Result.andThen, setBlock]
    · exact absurd g3 (h2 e1 (List.mem_of_getElem? g2))
  · rcases K.find w' hkey es.toList F.keys with ⟨g1, g2⟩ | ⟨j', e1, g1, g2, g3⟩
    · exact absurd h3 (g2 e0 (List.mem_of_getElem? h2))
    · have hj : es[j]? = some e0 := by simpa using h2
      have hj' : es[j']? = some e1 := by simpa using g2
      have hjj : j = j' := by
        obtain ⟨_, _, s3'⟩ := F.stamped
        have s3 := List.pairwise_map.1 s3'
        rcases Nat.lt_trichotomy j j' with h | h | h
        · obtain ⟨l1, q1⟩ := List.getElem?_eq_some_iff.1 h2
          obtain ⟨l2, q2⟩ := List.getElem?_eq_some_iff.1 g2
          have := List.pairwise_iff_getElem.1 s3 j j' l1 l2 h
          rw [q1, q2] at this
          exact absurd (h3.trans g3.symm) this
        · exact h
        · obtain ⟨l1, q1⟩ := List.getElem?_eq_some_iff.1 h2
          obtain ⟨l2, q2⟩ := List.getElem?_eq_some_iff.1 g2
          have := List.pairwise_iff_getElem.1 s3 j' j l2 l1 h
          rw [q1, q2] at this
          exact absurd (g3.trans h3.symm) this
      subst hjj
      refine fin (es.modify j (fun e' => { e' with key := key, val := val })) clock ?_ ?_
      · simp [Instr.mapUpdate, run_underlying ht, MapKept.run_getObj_map hb, K.check w false hkey, h1, hj, h3, K.stays w hkey, MapKept.run_setObj_map _ hb, Result.andThen, setBlock]
      · simp [Instr.mapUpdate, run_underlying ht, MapKept.run_getObj_map hb', K.check w' false hkey, g1, hj', g3, K.stays w' hkey, MapKept.run_setObj_map _ hb', Result.andThen, setBlock]
/-- THE ENTRY AND THE WAY BACK. -/
theorem groups_entry {H : Type} {P : Program} {w : World} {t E k e : TypeId} {q : IntKind} {base b n : Nat} {D : DataW H} {key : Value} {kl : Lit} (h : w.ownsGroups P k base e q b n D) (KL : KeyLaw P k) (ht : P.underlying t = some (.map k E)) (hz : ∀ u : World, (zeroValue E).run P u = .ok (.slice none 0 0) u) (hn : n < maxLen) (hkey : keyOf P k key = some kl) :
    ∃ v zs st w1, (Instr.mapEntry t (.map (some b)) key).run P w = .ok (.tuple #[v, goInt st]) w1 ∧ D.atKey kl .nil = rowDatum q v zs ∧ w1.ownsInts base e q v zs ∧ zs.length ≤ n ∧ w.grownBy w1 (some b) ∧ w1.heap.size = w.heap.size ∧
      ∀ (w2 : World) (v' : Value) (zs' : List Int), w1.grownBy w2 v.ownBlock → w2.ownsInts base e q v' zs' → zs'.length ≤ n + 1 → (v'.ownBlock = v.ownBlock ∨ ∃ g, v'.ownBlock = some g ∧ w1.heap.size ≤ g) →
        ∃ w3, (Instr.entryStore t (.map (some b)) (goInt st) v').run P w2 = .ok () w3 ∧ w3.ownsGroups P k base e q b (n + 1) (D.put kl (rowDatum q v' zs')) ∧ w2.grownBy w3 (some b) := by
  obtain ⟨v, zs, hrun, hat, hoi, hzl, hback⟩ := h.at (Keyed.of_law KL) ht (hz w) hn hkey
  obtain ⟨es, clock, hb, F, hs, hD, hbb, hlen, hap⟩ := h
  obtain ⟨v0, st, es1, clock1, hrun1, hv0, hstore⟩ := entry_then_store KL ht hz hb F hkey
  have hvv : v0 = v := by
    rcases Maps.fit_look false (Keyed.of_law KL) ht (hz w) hb F hkey with ⟨g1, g2, _⟩ | ⟨e0, y, g1, g2, g3, _⟩
    · rw [hrun] at g1
      have g1' : v = .slice none 0 0 := by simpa using g1
      rcases hv0 with ⟨e0, m0, m1, _⟩ | ⟨_, m1⟩
      · exact absurd m1 (g2 e0 m0)
      · rw [m1, g1']
    · rw [hrun] at g3
      have g3' : v = e0.val := by simpa using g3
      rcases hv0 with ⟨e1, m0, m1, m2⟩ | ⟨m1, _⟩
      · have : e1 = e0 := by
          obtain ⟨_, _, s3'⟩ := F.stamped
          have s3 := List.pairwise_map.1 s3'
          exact entry_eq_of_key s3 m0 g1 (m1.trans g2.symm)
        rw [m2, this, g3']
      · exact absurd g2 (m1 e0 g1)
  subst hvv
  have hblt : b < w.heap.size := (Array.getElem?_eq_some_iff.1 hb).1
  have hsz : ∀ (u : World) (o : Obj), (setBlock u b o).heap.size = u.heap.size := fun u o => by simp [setBlock]
  have hgrow : ∀ (u : World) (o : Obj), (∃ es0 c0, u.heap[b]? = some (.map es0 c0)) → u.grownBy (setBlock u b o) (some b) := fun u o ⟨es0, c0, hu⟩ => ⟨rfl, rfl, rfl, by rw [hsz]; exact Nat.le_refl _, fun i hi hne => heap_setBlock_other hu o (fun e1 => hne (by rw [e1]))⟩
  have hvb : some b ≠ v0.ownBlock := fun e1 => by
    have := (hoi.1.lt b e1.symm).1
    omega
  have hg1 := hgrow w (.map es1 clock1) ⟨es, clock, hb⟩
  refine ⟨v0, zs, st, setBlock w b (.map es1 clock1), hrun1, hat, hoi.kept hg1 ?_, hzl, hg1, hsz _ _, ?_⟩
  · cases hvo : v0.ownBlock with
    | none => exact Or.inl rfl
    | some g => exact Or.inr (fun e1 => hvb (by rw [hvo, e1]))
  · intro w2 v' zs' hg2 hown' hl' hloc
    have hb2 : w2.heap[b]? = some (.map es1 clock1) := (hg2.block b (by rw [hsz]; exact hblt) hvb).trans (heap_setBlock_same hb _)
    obtain ⟨es', clock', hrun2, hupd⟩ := hstore w2 v' hb2
    -- the world as if the entry had not been laid
    have hp : (setBlock w2 b (.map es clock)).heap[b]? = some (.map es clock) := heap_setBlock_same hb2 _
    have hgp : w.grownBy (setBlock w2 b (.map es clock)) v0.ownBlock := ⟨hg2.os, hg2.tape, hg2.output, by rw [hsz]; have := hg2.size; rw [hsz] at this; exact this, fun i hi hne => by
      by_cases e1 : i = b
      · rw [e1, hp, hb]
      · rw [heap_setBlock_other hb2 _ e1, hg2.block i (by rw [hsz]; exact hi) hne, heap_setBlock_other hb _ e1]⟩
    have hvb' : some b ≠ v'.ownBlock := fun e1 => by
      have := (hown'.1.lt b e1.symm).1
      omega
    obtain ⟨w3, r1, r2, r3⟩ := hback (setBlock w2 b (.map es clock)) v' zs' hgp (hown'.kept (hgrow w2 _ ⟨es1, clock1, hb2⟩) (by
      cases hvo : v'.ownBlock with
      | none => exact Or.inl rfl
      | some g => exact Or.inr (fun e1 => hvb' (by rw [hvo, e1])))) hl' (by rw [hsz] at hloc; exact hloc)
    have hu := upd_det KL ht hb hp F hkey hupd
    rw [r1] at hu
    have hw3 : w3 = setBlock (setBlock w2 b (.map es clock)) b (.map es' clock') := by simpa using hu
    have hss : setBlock (setBlock w2 b (.map es clock)) b (.map es' clock') = setBlock w2 b (.map es' clock') := by simp [setBlock]
    rw [hss] at hw3
    subst hw3
    exact ⟨_, hrun2, r2, hgrow w2 _ ⟨es1, clock1, hb2⟩⟩
/-- what a store at the entry leads back to -/
def EntryBack {H : Type} (P : Program) (t k : TypeId) (base : Nat) (e : TypeId) (q : IntKind) (b n : Nat) (D : DataW H) (kl : Lit) (v : Value) (st : Int) (w1 : World) : Prop :=
  ∀ (w2 : World) (v' : Value) (zs' : List Int), w1.grownBy w2 v.ownBlock → w2.ownsInts base e q v' zs' → zs'.length ≤ n + 1 → (v'.ownBlock = v.ownBlock ∨ ∃ g, v'.ownBlock = some g ∧ w1.heap.size ≤ g) →
    ∃ w3, (Instr.entryStore t (.map (some b)) (goInt st) v').run P w2 = .ok () w3 ∧ w3.ownsGroups P k base e q b (n + 1) (D.put kl (rowDatum q v' zs')) ∧ w2.grownBy w3 (some b)
theorem wpList_mapEntry_groups {H : Type} {P : Program} (w : World) {ops : Array Oper} {rest : List Oper} {o : Oper} {a : Act} {Q : Exit → Act → World → Prop}
    (hg : o.guard = none) (m x : Operand) (t : TypeId) (hop : o.op = Op.mapEntry t m x)
    (k E e : TypeId) (q : IntKind) (KL : KeyLaw P k) (ht : P.underlying t = some (.map k E)) (hz : ∀ u : World, (zeroValue E).run P u = .ok (.slice none 0 0) u) (base b n : Nat) (D : DataW H)
    (hm : a.eval m = .map (some b)) (hown : w.ownsGroups P k base e q b n D) (hn : n < maxLen) (key : Value) (kl : Lit) (hx : a.eval x = key) (hkey : keyOf P k key = some kl)
    (hK : ∀ v zs st w1, D.atKey kl .nil = rowDatum q v zs → w1.ownsInts base e q v zs → zs.length ≤ n → w.grownBy w1 (some b) → w1.heap.size = w.heap.size → EntryBack P t k base e q b n D kl v st w1 → wpList P ops Q rest (a.put o.dst (.tuple #[v, goInt st])) w1) :
    wpList P ops Q (o :: rest) a w := by
  refine wpList_plain hg fun K' hK' => ?_
  obtain ⟨v, zs, st, w1, hrun, hat, hoi, hzl, hgr, hs, hback⟩ := groups_entry hown KL ht hz hn hkey
  unfold Oper.wp
  simp [execOp, hop, hm, hx, hrun, Result.andThen]
  exact hK' _ _ (hK v zs st w1 hat hoi hzl hgr hs hback)
theorem wpList_entryStore_back {H : Type} {P : Program} (w : World) {ops : Array Oper} {rest : List Oper} {o : Oper} {a : Act} {Q : Exit → Act → World → Prop}
    (hg : o.guard = none) (m s v : Operand) (t : TypeId) (hop : o.op = Op.entryStore t m s v)
    {w1 : World} {k : TypeId} {base : Nat} {e : TypeId} {q : IntKind} {b n : Nat} {D : DataW H} {kl : Lit} {u v' : Value} {zs' : List Int} {st : Int}
    (hback : EntryBack P t k base e q b n D kl u st w1) (hm : a.eval m = .map (some b)) (hs : a.eval s = goInt st) (hv : a.eval v = v')
    (hgr : w1.grownBy w u.ownBlock) (hown' : w.ownsInts base e q v' zs') (hl' : zs'.length ≤ n + 1) (hloc : v'.ownBlock = u.ownBlock ∨ ∃ g, v'.ownBlock = some g ∧ w1.heap.size ≤ g)
    (hK : ∀ w3, w3.ownsGroups P k base e q b (n + 1) (D.put kl (rowDatum q v' zs')) → w.grownBy w3 (some b) → wpList P ops Q rest (a.put o.dst undef) w3) :
    wpList P ops Q (o :: rest) a w := by
  refine wpList_plain hg fun K' hK' => ?_
  obtain ⟨w3, hrun, r1, r2⟩ := hback w v' zs' hgr hown' hl' hloc
  unfold Oper.wp
  simp [execOp, hop, hm, hs, hv, hrun, Result.andThen]
  exact hK' _ _ (hK w3 r1 r2)
end Go.Proofs.Yteifekndhgkgcaa.H
/- The key of a node and a kind; no condition beyond the numbers' kind. -/
namespace Go.Proofs.Yteifekndhgkgcaa.H
open Go.ChangeShapes Go.WideShapes Go.MapKept Go.ChangeMaps Go.Maps Go.WideElems Go.Joins
open Go.WideMaps (KeyLaw)
theorem laidOut : laidOutB Try.prog = true := by kernel_rfl
theorem row53 : (53 : TypeId) < Try.prog.types.size := of_decide_eq_true (by kernel_rfl)
theorem wide53 : (match Try.prog.underlying 53 with | some (.array _ _) | some (.struct _) => true | _ => false) = true := by rw [Try.underlying53]
theorem deep53 : Try.prog.keyTypeAt (Try.prog.types.size + 1) 53 = true := by kernel_rfl
theorem law53 : KeyLaw Try.prog 53 := deep_law_laid laidOut (m := 2) (by omega) row53 (by kernel_rfl) wide53
theorem cells53 : Try.prog.cellsOf 53 = 2 := by kernel_rfl
theorem formed53 {c0 c1 : Value} : (Value.agg #[c0, c1]).formed Try.prog 53 = true := by simp [Value.formed, Try.underlying53, cells53]
theorem zero36 (w : World) : (zeroValue 36).run Try.prog w = .ok (.slice none 0 0) w := by kernel_rfl
/-- what the key of a node and a kind reads as -/
def keyL (n k : Int) : Lit := (DataW.agg [.lit (.int .i64 n), .lit (.int .i64 k)] : DataW Unit).asKey
theorem key53 (w : World) (n k : Int) (hn : (Lit.int .i64 n).wf = true) (hk : (Lit.int .i64 k).wf = true) : keyOf Try.prog 53 (.agg #[.int .i64 n, .int .i64 k]) = some (keyL n k) := by
  have h1 : DataW.Trod (H := Unit) (fun _ => ()) Try.prog w 0 (fun _ => true) true 53 (.agg #[.int .i64 n, .int .i64 k]) (.agg [.lit (.int .i64 n), .lit (.int .i64 k)]) ([] ++ []) :=
    shut_agg2 (y0 := (.lit (.int .i64 n), [])) (y1 := (.lit (.int .i64 k), [])) Try.underlying53 (by kernel_rfl) cells53 ⟨1, trod_int_mk 0 Try.underlying3 hn⟩ ⟨1, trod_int_mk 0 Try.underlying3 hk⟩
  exact (keyOf_asKey deep53 wide53 formed53 h1).1
theorem keyL_inj (w : World) (n k n' k' : Int) (hn : (Lit.int .i64 n).wf = true) (hk : (Lit.int .i64 k).wf = true) (hn' : (Lit.int .i64 n').wf = true) (hk' : (Lit.int .i64 k').wf = true) (h : keyL n k = keyL n' k') : n = n' ∧ k = k' := by
  have h1 := key53 w n k hn hk
  have h2 := key53 w n' k' hn' hk'
  rw [← h] at h2
  have := law53.inj h1 h2
  simpa using this
end Go.Proofs.Yteifekndhgkgcaa.H
/- The form of a key of a node and a kind; no condition. -/
namespace Go.Proofs.Yteifekndhgkgcaa.H
open Go.ChangeShapes Go.WideShapes Go.MapKept Go.ChangeMaps Go.Maps Go.WideElems Go.Joins
theorem cells3 : Try.prog.cellsOf 3 = 1 := by kernel_rfl
theorem key53_inv {key : Value} {kl : Lit} (h : keyOf Try.prog 53 key = some kl) : ∃ n k, key = .agg #[.int .i64 n, .int .i64 k] ∧ (Lit.int .i64 n).wf = true ∧ (Lit.int .i64 k).wf = true := by
  unfold keyOf at h
  rw [Try.underlying53] at h
  simp only at h
  split at h
  · rename_i hc
    rw [Bool.and_eq_true] at hc
    cases key with
    | agg cs =>
      have hs : cs.size = 2 := by simpa [Value.formed, Try.underlying53, cells53] using hc.2
      obtain ⟨a, b, rfl⟩ : ∃ a b, cs = #[a, b] := by
        obtain ⟨l⟩ := cs
        match l, hs with
        | [a, b], _ => exact ⟨a, b, rfl⟩
      generalize hd : Try.prog.types.size = d at h
      rw [Option.map_eq_some_iff] at h
      obtain ⟨ls, h, _⟩ := h
      have h2 : Try.prog.keyLits (d + 1) 53 [a, b] = some ls := h
      unfold Program.keyLits at h2
      simp only [Try.underlying53] at h2
      simp [cells53, cells3] at h2
      rw [Option.bind_eq_some_iff] at h2
      obtain ⟨la, ha, h2⟩ := h2
      cases hb : Try.prog.keyLits d 3 [b] with
      | none => simp [hb] at h2
      | some lb =>
        obtain ⟨n, e1, e2⟩ := keyLits_int' Try.underlying3 ha
        obtain ⟨m, e3, e4⟩ := keyLits_int' Try.underlying3 hb
        have w1 := keyLits_wf ha (.int .i64 n) (by rw [e2]; simp)
        have w2 := keyLits_wf hb (.int .i64 m) (by rw [e4]; simp)
        simp only [List.cons.injEq, and_true] at e1 e3
        subst e1
        subst e3
        exact ⟨n, m, rfl, w1, w2⟩
    | _ => simp [Value.formed, Try.underlying53] at hc
  · cases h
end Go.Proofs.Yteifekndhgkgcaa.H
/- The map of rows that evindex.Build fills, and the slots of the specification; no condition beyond the numbers' kind. -/
namespace Go.Proofs.Yteifekndhgkgcaa.H
open Go.RowKit Go.Proofs.YteifekndhgkgcaaW.PrintWords Go.Proofs.YteifekndhgkgcaaW.PrintLast Go.Proofs.YteifekndhgkgcaaW.PrintMore
open Go.ChangeShapes (lits)
open Go.Maps
def itemsD {H : Type} : DataW H → List (DataW H)
 | .slice es _ => es
 | _ => []
/-- the map behind k rounds -/
def GD (l : List S47) : Nat → DataW Unit
 | 0 => .map []
 | k + 1 => (GD l k).put (keyL (rd_T47 l (k : Int)).f0 (rd_T47 l (k : Int)).f2.f0) (.slice (itemsD ((GD l k).atKey (keyL (rd_T47 l (k : Int)).f0 (rd_T47 l (k : Int)).f2.f0) .nil) ++ [.lit (.int .i64 (k : Int))]) [])
theorem GD_step {w : World} {base : Nat} {e : TypeId} {v : Value} {zs : List Int} (l : List S47) (k : Nat) (ho : w.ownsInts base e .i64 v zs)
    (hat : (GD l k).atKey (keyL (rd_T47 l (k : Int)).f0 (rd_T47 l (k : Int)).f2.f0) .nil = rowDatum .i64 v zs) : GD l (k + 1) = (GD l k).put (keyL (rd_T47 l (k : Int)).f0 (rd_T47 l (k : Int)).f2.f0) (.slice (lits .i64 (zs ++ [(k : Int)])) []) := by
  rw [GD]
  simp only [hat]
  rcases ho.datum (H := Unit) with ⟨h1, rfl⟩ | h1 <;> rw [h1] <;> simp [itemsD, lits]
theorem keyL_lit (w : World) (a c : Int) (ha : (Lit.int .i64 a).wf = true) (hc : (Lit.int .i64 c).wf = true) : WideAt.IsKeyLit (keyL a c) := (Keyed.of_law law53).key (key53 w a c ha hc)
theorem items_lits (zs : List Int) : itemsD (DataW.slice (lits (H := Unit) .i64 zs) []) = lits .i64 zs := rfl
theorem GD_find (w : World) (l : List S47) : ∀ k, k ≤ l.length → (∀ i : Nat, i < l.length → (Lit.int .i64 (rd_T47 l (i : Int)).f0).wf = true ∧ (Lit.int .i64 (rd_T47 l (i : Int)).f2.f0).wf = true) →
    IsMap (GD l k) ∧ ∀ a c, (Lit.int .i64 a).wf = true → (Lit.int .i64 c).wf = true → ∀ zd, (GD l k).atKey (keyL a c) zd = match findF a c (buildF l k) with | none => zd | some zs => .slice (lits .i64 zs) []
  | 0, _, _ => ⟨⟨[], rfl⟩, fun a c _ _ zd => rfl⟩
  | k + 1, hk, hwf => by
    obtain ⟨im, ih⟩ := GD_find w l k (by omega) hwf
    obtain ⟨w1, w2⟩ := hwf k (by omega)
    have hl := keyL_lit w _ _ w1 w2
    have hi := ih _ _ w1 w2
    rw [GD]
    refine ⟨im.put _ _, fun a c ha hc zd => ?_⟩
    rw [buildF]
    by_cases e : (rd_T47 l (k : Int)).f0 = a ∧ (rd_T47 l (k : Int)).f2.f0 = c
    · obtain ⟨e1, e2⟩ := e
      rw [← e1, ← e2, atKey_put_same im hl, find_put_same _ _ _ _ (build_sorted l k), hi .nil]
      cases findF (rd_T47 l (k : Int)).f0 (rd_T47 l (k : Int)).f2.f0 (buildF l k) with
      | none => simp [itemsD, lits]
      | some zs => simp [itemsD, lits]
    · have hne : keyL a c ≠ keyL (rd_T47 l (k : Int)).f0 (rd_T47 l (k : Int)).f2.f0 := fun h => by
        have := keyL_inj w _ _ _ _ ha hc w1 w2 h
        exact e ⟨this.1.symm, this.2.symm⟩
      rw [atKey_put_other hne, find_put_other _ _ _ _ _ e]
      exact ih a c ha hc zd
end Go.Proofs.Yteifekndhgkgcaa.H
/- What a map of rows holds, told by the values themselves; no condition. -/
namespace Go.Proofs.Yteifekndhgkgcaa.H
open Go.ChangeShapes Go.WideShapes Go.MapKept Go.ChangeMaps Go.Maps Go.WideElems Go.Joins
/-- an element read as itself -/
def RV (v : Value) : Option (DataW Value × List MemPlace) := some (.held v, [])
theorem groups_rows {w : World} {base b n : Nat} {D : DataW Unit} (h : w.ownsGroups Try.prog 53 base 3 .i64 b n D) :
    ∃ D2 : DataW Value, w.ownsMap Try.prog 53 RV b n D2 ∧
      (∀ a c v, (Lit.int .i64 a).wf = true → (Lit.int .i64 c).wf = true → D2.atKey (keyL a c) .nil = .held v → ∃ zs, w.ownsInts base 3 .i64 v zs ∧ zs.length ≤ n ∧ ∀ zd, D.atKey (keyL a c) zd = rowDatum .i64 v zs) ∧
      (∀ a c, (Lit.int .i64 a).wf = true → (Lit.int .i64 c).wf = true → (∀ v, D2.atKey (keyL a c) .nil ≠ .held v) → ∀ zd, D.atKey (keyL a c) zd = zd) ∧
      (∀ a c a' c' v v', (Lit.int .i64 a).wf = true → (Lit.int .i64 c).wf = true → (Lit.int .i64 a').wf = true → (Lit.int .i64 c').wf = true → (a ≠ a' ∨ c ≠ c') → D2.atKey (keyL a c) .nil = .held v → D2.atKey (keyL a' c') .nil = .held v' → v.ownBlock = none ∨ v.ownBlock ≠ v'.ownBlock) := by
  obtain ⟨es, clock, hb, F, hs, hD, hbb, hlen, hap⟩ := h
  have K := Keyed.of_law law53
  have F2 : Fit Try.prog 53 RV es clock := ⟨F.size, F.stamped, fun x hx => by
    obtain ⟨y, hy⟩ := F.reads x hx
    exact ⟨(y.1, .held x.val), by simp [WideElems.rd, WideElems.rd_key hy, RV]⟩⟩
  obtain ⟨_, _, s3'⟩ := F.stamped
  have s3 := List.pairwise_map.1 s3'
  have at2 : ∀ a c v, (Lit.int .i64 a).wf = true → (Lit.int .i64 c).wf = true → (DataW.map ((es.toList.map (rg Try.prog 53 RV)).foldr DataW.insert [])).atKey (keyL a c) .nil = .held v → ∃ e0, e0 ∈ es.toList ∧ e0.key = .agg #[.int .i64 a, .int .i64 c] ∧ e0.val = v := fun a c v ha hc hat => by
    rcases Maps.fit_look false K Try.underlying51 (zero36 w) hb F2 (key53 w a c ha hc) with ⟨_, _, g3⟩ | ⟨e0, y, g1, g2, _, g4, g5, _⟩
    · rw [g3] at hat
      cases hat
    · rw [g5] at hat
      have hy : y = (.held e0.val, []) := by simpa [RV] using g4.symm
      rw [hy] at hat
      exact ⟨e0, g1, g2, by simpa using hat⟩
  refine ⟨_, ⟨es, clock, hb, F2, hs, rfl⟩, fun a c v ha hc hat => ?_, fun a c ha hc hno zd => ?_, fun a c a' c' v v' ha hc ha' hc' hne h1 h2 => ?_⟩
  · obtain ⟨e0, m0, m1, rfl⟩ := at2 a c v ha hc hat
    rcases Maps.fit_look false K Try.underlying51 (zero36 w) hb F (key53 w a c ha hc) with ⟨_, g2, _⟩ | ⟨e1, y, g1, g2, _, g4, g5, _⟩
    · exact absurd m1 (g2 e0 m0)
    · have he : e1 = e0 := entry_eq_of_key s3 g1 m0 (g2.trans m1.symm)
      subst he
      obtain ⟨zs, ho, rfl⟩ := rowElem_inv g4
      exact ⟨zs, ho, hlen e1 m0 zs ho, fun zd => by rw [hD, g5]⟩
  · rcases Maps.fit_look false K Try.underlying51 (zero36 w) hb F (key53 w a c ha hc) with ⟨_, _, g3⟩ | ⟨e1, y, g1, g2, _, _, _, _⟩
    · rw [hD]
      exact g3 zd
    · rcases Maps.fit_look false K Try.underlying51 (zero36 w) hb F2 (key53 w a c ha hc) with ⟨_, q2, _⟩ | ⟨e2, y2, q1, q2, _, q4, q5, _⟩
      · exact absurd g2 (q2 e1 g1)
      · have hy : y2 = (.held e2.val, []) := by simpa [RV] using q4.symm
        exact absurd (by rw [q5, hy]) (hno e2.val)
  · obtain ⟨e0, m0, m1, rfl⟩ := at2 a c v ha hc h1
    obtain ⟨e1, n0, n1, rfl⟩ := at2 a' c' v' ha' hc' h2
    refine hap e0 m0 e1 n0 (fun e => ?_)
    rw [m1, n1] at e
    simp at e
    rcases hne with h | h
    · exact h e.1
    · exact h e.2
end Go.Proofs.Yteifekndhgkgcaa.H
/- evindex.order and cmp.Or of two numbers, in whatever world; no condition. -/
namespace Go.Proofs.Yteifekndhgkgcaa.H
open Go.RowKit Go.Proofs.YteifekndhgkgcaaW.PrintWords Go.Proofs.YteifekndhgkgcaaW.PrintLast Go.Proofs.YteifekndhgkgcaaW.PrintMore
open Go.Shelf
set_option linter.unusedSimpArgs false
set_option linter.unusedVariables false
theorem compare36 (x y : Int) (w : World) : Calls Try.prog 36 #[.int .i64 x, .int .i64 y] w fun e w' => e = .returned (.int .i64 (Lib.compareInt x y)) ∧ w' = w := Any.cmp_Compare_int Try.lays122 x y w
set_option maxRecDepth 100000 in
theorem or2 (g : Nat) (a b : Int) (W : World) (h0 : W.cell? ⟨g, 0, none⟩ = some (.int .i64 a)) (h1 : W.cell? ⟨g, 1, none⟩ = some (.int .i64 b)) :
    Calls Try.prog 35 #[.slice (some ⟨g, 0, none⟩) 2 2] W fun e w' => e = .returned (.int .i64 (if a = 0 then b else a)) ∧ w' = W := by
  by_cases ha : a = 0
  · rw [if_pos ha]
    subst ha
    by_cases hb : b = 0
    · subst hb
      go_enter Try.func35, Try.ntmps35
      go_wp2
      refine wp_loop_rounds 3 ?_
      rw [rounds_succ]
      go_wp2
      rw [rounds_succ]
      go_wp2
      rw [rounds_succ]
      go_wp2
      go_ret
      exact ⟨rfl, rfl⟩
    · have hb0 : (b != 0) = true := by simp [hb]
      have hb1 : (b == 0) = false := by simp [hb]
      go_enter Try.func35, Try.ntmps35
      go_wp2
      refine wp_loop_rounds 3 ?_
      rw [rounds_succ]
      go_wp2
      rw [rounds_succ]
      go_wp2
      go_ret
      exact ⟨rfl, rfl⟩
  · rw [if_neg ha]
    have hb0 : (a != 0) = true := by simp [ha]
    have hb1 : (a == 0) = false := by simp [ha]
    go_enter Try.func35, Try.ntmps35
    go_wp2
    refine wp_loop_rounds 3 ?_
    rw [rounds_succ]
    go_wp2
    go_ret
    exact ⟨rfl, rfl⟩
def evindex_order.T1 : Bool × List (List Nat × List Nat) := (true, [([], []), ([0], [0]), ([], []), ([2], [2]), ([1, 3], [1, 3]), ([], []), ([5], [5]), ([], []), ([7], [7]), ([6, 8, 4], [6, 8]), ([4, 9], [4, 9]), ([10, 9], [10]), ([11, 11, 0, 1, 2, 3, 4, 5, 6, 7, 8, 9, 10, 11], [11])])
def evindex_order.B1 : List Nat := [0, 1, 0, 4, 15, 0, 32, 0, 128, 511, 1023, 2047, 4095]
theorem evindex_order.tab1 : rtab .any (opsOf Try.f25 1) = evindex_order.T1 := by kernel_rfl
theorem evindex_order.bits1 : waitsOk evindex_order.T1.2 evindex_order.B1 = true := by kernel_rfl
/-- what order answers -/
def ordI (x y : Int × Int) : Int := if Lib.compareInt x.1 y.1 = 0 then Lib.compareInt x.2 y.2 else Lib.compareInt x.1 y.1
set_option maxRecDepth 100000 in
set_option maxHeartbeats 2000000 in
theorem order25 (x y : Int × Int) (p q : Value) (W : World) : Calls Try.prog 25 #[.agg #[.int .i64 x.1, .int .i64 x.2, p], .agg #[.int .i64 y.1, .int .i64 y.2, q]] W fun e w' => e = .returned (.int .i64 (ordI x y)) ∧ ∃ n os', w' = Go.Sort.grow (W.drewN n) os' := by
  have hu43 := Try.underlying43
  go_enter Try.func25, Try.ntmps25
  go_wp2
  have c0 : ((W.alloc (Obj.cells #[Value.int .i64 x.1, Value.int .i64 x.2, p] 43)).alloc (Obj.cells #[Value.int .i64 y.1, Value.int .i64 y.2, q] 43)).cell? ⟨W.heap.size, 0, none⟩ = some (.int .i64 x.1) := by go_simp
  have c1 : ((W.alloc (Obj.cells #[Value.int .i64 x.1, Value.int .i64 x.2, p] 43)).alloc (Obj.cells #[Value.int .i64 y.1, Value.int .i64 y.2, q] 43)).cell? ⟨W.heap.size, 1, none⟩ = some (.int .i64 x.2) := by go_simp
  have c2 : ((W.alloc (Obj.cells #[Value.int .i64 x.1, Value.int .i64 x.2, p] 43)).alloc (Obj.cells #[Value.int .i64 y.1, Value.int .i64 y.2, q] 43)).cell? ⟨W.heap.size + 1, 0, none⟩ = some (.int .i64 y.1) := by go_simp
  have c3 : ((W.alloc (Obj.cells #[Value.int .i64 x.1, Value.int .i64 x.2, p] 43)).alloc (Obj.cells #[Value.int .i64 y.1, Value.int .i64 y.2, q] 43)).cell? ⟨W.heap.size + 1, 1, none⟩ = some (.int .i64 y.2) := by go_simp
  have hg : (W.alloc (Obj.cells #[Value.int .i64 x.1, Value.int .i64 x.2, p] 43)).alloc (Obj.cells #[Value.int .i64 y.1, Value.int .i64 y.2, q] 43) = Go.Sort.grow W #[Obj.cells #[Value.int .i64 x.1, Value.int .i64 x.2, p] 43, Obj.cells #[Value.int .i64 y.1, Value.int .i64 y.2, q] 43] := by
    rw [Go.Sort.alloc_eq_grow, Go.Sort.alloc_eq_grow, Go.Sort.grow_grow]; rfl
  generalize (W.alloc (Obj.cells #[Value.int .i64 x.1, Value.int .i64 x.2, p] 43)).alloc (Obj.cells #[Value.int .i64 y.1, Value.int .i64 y.2, q] 43) = W2 at c0 c1 c2 c3 hg ⊢
  replace c0 : W2.drew.cell? ⟨W.heap.size, 0, none⟩ = some (.int .i64 x.1) := c0
  replace c1 : W2.drew.cell? ⟨W.heap.size, 1, none⟩ = some (.int .i64 x.2) := c1
  replace c2 : W2.drew.cell? ⟨W.heap.size + 1, 0, none⟩ = some (.int .i64 y.1) := c2
  replace c3 : W2.drew.cell? ⟨W.heap.size + 1, 1, none⟩ = some (.int .i64 y.2) := c3
  have hg2 : W2.drew = Go.Sort.grow (W.drewN 1) #[Obj.cells #[Value.int .i64 x.1, Value.int .i64 x.2, p] 43, Obj.cells #[Value.int .i64 y.1, Value.int .i64 y.2, q] 43] := by rw [hg]; rfl
  have hsz : W2.drew.heap.size = W.heap.size + 2 := by rw [hg2]; simp [Go.Sort.grow]
  refine start_ (n := 13) (S := fun w' => w'.cell? ⟨W.heap.size, 0, none⟩ = some (.int .i64 x.1) ∧ w'.cell? ⟨W.heap.size, 1, none⟩ = some (.int .i64 x.2) ∧ w'.cell? ⟨W.heap.size + 1, 0, none⟩ = some (.int .i64 y.1) ∧ w'.cell? ⟨W.heap.size + 1, 1, none⟩ = some (.int .i64 y.2)) (ds := []) (bsq 0 13) (by kernel_rfl) rfl rfl ⟨c0, c1, c2, c3⟩ (fun hHeld => ?_); refine with_tabW evindex_order.tab1 evindex_order.bits1 (fun HT_ HW_ => ?_)
  generalize W2.drew = w8 at c0 c1 c2 c3 hg2 hsz hHeld ⊢
  refine pu 0 5 (bsq 1 12) ?_
  refine pu 2 7 (bls [1, 1, 1, 10]) ?_
  refine pu 5 10 (bls [1, 1, 1, 2, 1, 7]) ?_
  refine pu 7 12 (bls [1, 1, 1, 2, 1, 1, 1, 5]) ?_
  refine tk 1 6 (bls [3, 2, 1, 1, 1, 5]) hHeld ?_ (he := by rintro w' ⟨s0, s1, s2, s3⟩; go_simp; with_reducible rfl)
  refine tk 3 8 (bls [4, 1, 1, 1, 1, 5]) hHeld ?_ (he := by rintro w' ⟨s0, s1, s2, s3⟩; go_simp; with_reducible rfl)
  refine tk 6 11 (bls [4, 1, 3, 5]) hHeld ?_ (he := by rintro w' ⟨s0, s1, s2, s3⟩; go_simp; with_reducible rfl)
  refine tk 8 13 (bls [4, 1, 4, 4]) hHeld ?_ (he := by rintro w' ⟨s0, s1, s2, s3⟩; go_simp; with_reducible rfl)
  refine one_ (i := 4) (N := some 9) (bsq 9 4) rfl rfl (one_of HT_.out (by kernel_rfl)) (by decide) (fun K hK => ?_)
  refine goes_ Try.func36 (by kernel_rfl) rfl #[.int .i64 x.1, .int .i64 y.1] (by rfl) rfl rfl (by (try simp only [List.map_toArray, List.map_cons, List.map_nil]); first | done | rfl) ?_
  refine (compare36 x.1 y.1 _).mono ?_
  rintro e w_ ⟨rfl, hw_⟩
  obtain rfl := hw_.symm
  clear hw_
  refine ⟨_, rfl, ?_⟩
  refine hK.out _ _ ⟨c0, c1, c2, c3⟩ (fun hHeld => ?_)
  clear hK K
  refine norm_ (a' := ?_) ?_ ?_
  rotate_left
  ·
   show Act.put _ (some 9) _ = _
   simp only [Act.put, List.setIfInBounds_toArray, List.set_cons_zero, List.set_cons_succ, i64_w, i32_w]
   rfl
  refine one_ (i := 9) (N := some 14) (bsq 10 3) rfl rfl (one_of HT_.out (by kernel_rfl)) (by decide) (fun K hK => ?_)
  refine goes_ Try.func36 (by kernel_rfl) rfl #[.int .i64 x.2, .int .i64 y.2] (by rfl) rfl rfl (by (try simp only [List.map_toArray, List.map_cons, List.map_nil]); first | done | rfl) ?_
  refine (compare36 x.2 y.2 _).mono ?_
  rintro e w_ ⟨rfl, hw_⟩
  obtain rfl := hw_.symm
  clear hw_
  refine ⟨_, rfl, ?_⟩
  refine hK.out _ _ ⟨c0, c1, c2, c3⟩ (fun hHeld => ?_)
  clear hK K
  refine norm_ (a' := ?_) ?_ ?_
  rotate_left
  ·
   show Act.put _ (some 14) _ = _
   simp only [Act.put, List.setIfInBounds_toArray, List.set_cons_zero, List.set_cons_succ, i64_w, i32_w]
   rfl
  generalize hu : Lib.compareInt x.1 y.1 = u
  generalize hv : Lib.compareInt x.2 y.2 = v
  have e0 : ∀ o : Obj, ∀ k, k < w8.heap.size → ∀ off, (w8.alloc o).cell? ⟨k, off, none⟩ = w8.cell? ⟨k, off, none⟩ := fun o k hk off => World.cell?_alloc_lt _ _ _ hk
  have r0 : (w8.alloc (.cells #[.int .i64 u, .int .i64 v] 3)).cell? ⟨w8.heap.size, 0, none⟩ = some (.int .i64 u) := by go_simp
  have r1 : (w8.alloc (.cells #[.int .i64 u, .int .i64 v] 3)).cell? ⟨w8.heap.size, 1, none⟩ = some (.int .i64 v) := by go_simp
  refine one_ (i := 10) (N := some 15) (bsq 11 2) rfl rfl (one_of HT_.out (by kernel_rfl)) (by decide) (fun K hK => ?_)
  refine value_ (v := .slice (some ⟨w8.heap.size, 0, none⟩) 2 2) (w1 := w8.alloc (.cells #[.int .i64 u, .int .i64 v] 3)) rfl rfl (by go_simp) ?_
  refine hK.out _ _ ⟨(e0 _ _ (by omega) _).trans c0, (e0 _ _ (by omega) _).trans c1, (e0 _ _ (by omega) _).trans c2, (e0 _ _ (by omega) _).trans c3⟩ (fun hHeld => ?_)
  clear hK K
  refine norm_ (a' := ?_) ?_ ?_
  rotate_left
  ·
   show Act.put _ (some 15) _ = _
   simp only [Act.put, List.setIfInBounds_toArray, List.set_cons_zero, List.set_cons_succ, i64_w, i32_w]
   rfl
  refine one_ (i := 11) (N := some 16) (bsq 12 1) rfl rfl (one_of HT_.out (by kernel_rfl)) (by decide) (fun K hK => ?_)
  refine goes_ Try.func35 (by kernel_rfl) rfl #[.slice (some ⟨w8.heap.size, 0, none⟩) 2 2] (by rfl) rfl rfl (by (try simp only [List.map_toArray, List.map_cons, List.map_nil]); first | done | rfl) ?_
  have horr := or2 w8.heap.size u v _ r0 r1
  have hans : ordI x y = if u = 0 then v else u := by unfold ordI; rw [hu, hv]
  rw [← hans] at horr
  refine horr.mono ?_
  clear horr hans
  generalize hrr : ordI x y = rr
  rintro e w_ ⟨rfl, hw_⟩
  obtain rfl := hw_.symm
  clear hw_
  refine ⟨_, rfl, ?_⟩
  refine hK.out _ _ ⟨(e0 _ _ (by omega) _).trans c0, (e0 _ _ (by omega) _).trans c1, (e0 _ _ (by omega) _).trans c2, (e0 _ _ (by omega) _).trans c3⟩ (fun hHeld => ?_)
  clear hK K
  refine norm_ (a' := ?_) ?_ ?_
  rotate_left
  ·
   show Act.put _ (some 16) _ = _
   simp only [Act.put, List.setIfInBounds_toArray, List.set_cons_zero, List.set_cons_succ, i64_w, i32_w]
   rfl
  refine pu 12 4 (bsq 13 0) ?_
  refine done_ (done_of HT_.out (by kernel_rfl)) ?_
  try go_wp2
  go_ret
  refine ⟨by rw [hrr]; rfl, 1, #[Obj.cells #[Value.int .i64 x.1, Value.int .i64 x.2, p] 43, Obj.cells #[Value.int .i64 y.1, Value.int .i64 y.2, q] 43, .cells #[.int .i64 u, .int .i64 v] 3], ?_⟩
  rw [hg2, Go.Sort.alloc_eq_grow, Go.Sort.grow_grow]
  rfl
end Go.Proofs.Yteifekndhgkgcaa.H
/- slices.SortFunc with evindex.order over slots: the row becomes ascending; for rows of slots of different node or kind. -/
namespace Go.Proofs.Yteifekndhgkgcaa.H
open Go.RowKit Go.Proofs.YteifekndhgkgcaaW.PrintWords Go.Proofs.YteifekndhgkgcaaW.PrintLast Go.Proofs.YteifekndhgkgcaaW.PrintMore
open Go.Shelf Go.Lib Go.Sort
set_option linter.unusedSimpArgs false
set_option linter.unusedVariables false
structure Ent where
 a : Int
 c : Int
 A : Option Addr
 n : Nat
 cap : Nat
instance : Inhabited Ent := ⟨⟨0, 0, none, 0, 0⟩⟩
def Ent.v (x : Ent) : Value := .slice x.A x.n x.cap
def encE (x : Ent) : List Value := [.int .i64 x.a, .int .i64 x.c, x.v]
def cfE (x y : Ent) : Int := ordI (x.a, x.c) (y.a, y.c)
theorem lt_cfE (x y : Ent) : ltOf cfE x y = true ↔ befK x.a x.c y.a y.c := by
  unfold ltOf cfE ordI Lib.compareInt befK
  simp only [decide_eq_true_eq]
  split <;> split <;> (try split) <;> (try split) <;> omega
theorem ltn_cfE (x y : Ent) : ltOf cfE x y = false ↔ ¬ befK x.a x.c y.a y.c := by
  rw [← lt_cfE]
  cases ltOf cfE x y <;> simp
theorem swo_cfE : Sort.SWO (ltOf cfE) where
  irrefl := fun x => by rw [ltn_cfE]; unfold befK; omega
  trans := fun x y z h1 h2 => by rw [lt_cfE] at *; unfold befK at *; omega
  ntrans := fun x y z h1 h2 => by rw [ltn_cfE] at *; unfold befK at *; omega
theorem len_flat : ∀ l : List Ent, (l.flatMap encE).length = l.length * 3
  | [] => rfl
  | x :: l => by rw [List.flatMap_cons, List.length_append, len_flat l, List.length_cons]; simp [encE]; omega
theorem get_flat : ∀ (l : List Ent) (t : Nat), t < l.length * 3 → (l.flatMap encE)[t]? = some ((encE (l[t / 3]?.getD default))[t % 3]!)
  | [], t, h => by simp at h
  | x :: l, t, h => by
    rw [List.flatMap_cons]
    have h3 : (encE x).length = 3 := rfl
    rcases Nat.lt_or_ge t 3 with h1 | h1
    · rw [List.getElem?_append_left (by omega), show t / 3 = 0 by omega, show t % 3 = t by omega]
      match t, h1 with
      | 0, _ => rfl
      | 1, _ => rfl
      | 2, _ => rfl
    · have := get_flat l (t - 3) (by simp at h; omega)
      rw [List.getElem?_append_right (by omega), h3, this, show (t - 3) % 3 = t % 3 by omega, show t / 3 = (t - 3) / 3 + 1 by omega, List.getElem?_cons_succ]
theorem take_flat (cur : Array Value) (d : Array Ent) (h : d.size * 3 ≤ cur.size) : (Sort.putCells id 0 (Sort.flatK encE 3 d) cur).toList.take (d.size * 3) = d.toList.flatMap encE := by
  apply List.ext_getElem?
  intro t
  rcases Nat.lt_or_ge t (d.size * 3) with ht | ht
  · rw [List.getElem?_take, if_pos ht, get_flat _ _ (by simpa using ht)]
    simp only [Sort.putCells, Array.getElem?_toList, Array.getElem?_mapIdx, Array.getElem?_eq_getElem (show t < cur.size by omega), Option.map_some]
    rw [if_pos ⟨Nat.zero_le _, by rw [Sort.size_flatK]; omega⟩, Nat.sub_zero, Sort.get_flatK _ _ _ _ ht]
    have : d[t / 3]! = (d.toList[t / 3]?).getD default := by
      rw [Array.getElem?_toList, Array.getElem?_eq_getElem (by omega), getElem!_pos d _ (by omega)]
      rfl
    rw [Array.getElem?_toList] at this
    rw [this]
    rfl
  · rw [List.getElem?_eq_none (by rw [List.length_take]; omega), List.getElem?_eq_none (by rw [len_flat]; simpa using ht)]
theorem holds_row {w : World} {g : Nat} {cur : Array Value} {ents : List Ent} (hc : w.heap[g]? = some (.cells cur 43 (0, 0))) (h4 : cur.toList.take (ents.length * 3) = ents.flatMap encE) : Sort.HoldsK encE 3 w g 0 ents.toArray := by
  intro j hj
  rw [Sort.size_flatK] at hj
  have hj' : j < ents.length * 3 := by simpa using hj
  rw [Sort.get_flatK _ _ _ _ hj]
  refine ⟨?_, blk_frozen hc _⟩
  rw [blk_cell hc, Nat.zero_add]
  have := get_flat ents j hj'
  rw [← h4, List.getElem?_take, if_pos hj', Array.getElem?_toList] at this
  rw [this]
  have hq : j / 3 < ents.length := by omega
  simp [hq]
theorem pw_of {d : Array Ent} (h : Sort.SortedIn (ltOf cfE) 0 d.size d) (hd : d.toList.Pairwise fun x y => x.a ≠ y.a ∨ x.c ≠ y.c) : d.toList.Pairwise fun x y => befK x.a x.c y.a y.c := by
  rw [List.pairwise_iff_getElem] at hd ⊢
  intro i j hi hj hij
  have hi' : i < d.size := by simpa using hi
  have hj' : j < d.size := by simpa using hj
  have h1 := h i j (Nat.zero_le _) hij hj'
  rw [getElem!_pos d i hi', getElem!_pos d j hj', ltn_cfE] at h1
  have h2 := hd i j hi hj hij
  simp only [Array.getElem_toList] at h2 ⊢
  unfold befK at *
  omega
set_option maxHeartbeats 1000000 in
theorem sortF_any (base : Nat) (W : World) (V : Value) (ents : List Ent) (hown : W.ownsRow base 43 3 V ents.length (ents.flatMap encE)) (hsz : ents.length < 4611686018427387904) (hd : ents.Pairwise fun x y => x.a ≠ y.a ∨ x.c ≠ y.c) :
    Calls Try.prog 24 #[V, .func (.func 25) #[] #[]] W fun e w' =>
      e = .returned (.tuple #[]) ∧ ∃ d : List Ent, d.Perm ents ∧ d.Pairwise (fun x y => befK x.a x.c y.a y.c) ∧ w'.ownsRow base 43 3 V d.length (d.flatMap encE) ∧ W.grownBy w' V.ownBlock := by
  obtain ⟨hlen, hown⟩ := hown
  rcases hown with ⟨rfl, h0⟩ | ⟨g, cap, cur, rfl, hg, hc, h1, h2, h3, h4⟩
  · have he : ents = [] := List.eq_nil_of_length_eq_zero h0
    subst he
    have := AnyF.slices_SortFunc_none Try.laysSF none 0 (.func (.func 25) #[] #[]) W
    refine this.mono fun e w' ⟨he, hw⟩ => ⟨he, [], List.Perm.refl _, List.Pairwise.nil, ?_, ?_⟩
    · exact ⟨rfl, .inl ⟨rfl, rfl⟩⟩
    · rw [hw]
      exact World.grownBy.refl _ _
  · have hs : ents.toArray.size = ents.length := by simp
    have hlt : g < W.heap.size := blk_lt hc
    have hcmp : CmpLays Try.prog 25 #[] encE 3 cfE g 0 ents.toArray.size W := by
      intro m os dk hdk x y
      exact (order25 (x.a, x.c) (y.a, y.c) x.v y.v _).mono fun e w' ⟨he, q, os', hw⟩ => ⟨he, q, os', hw⟩
    have := AnyQ.slices_SortFunc Try.laysSF 3 (fun _ => by kernel_rfl) (fun _ => by kernel_rfl) encE (fun _ => rfl) (fun x v hv => by simp [encE, Ent.v] at hv; rcases hv with rfl | rfl | rfl <;> rfl) cfE swo_cfE 25 #[] g 0 cap ents.toArray W
      (enters_of Try.func25 (by kernel_rfl) rfl) hcmp (holds_row hc h4) hlt (by omega)
    rw [hs] at this
    refine this.mono fun e w' ⟨he, d', n, os, hp, hso, hw⟩ => ?_
    have hds : d'.size = ents.length := by rw [hp.1, hs]
    have hq := hp.2.2
    have e1 : d'.extract 0 ents.length = d' := by rw [← hds]; exact Array.extract_size
    have e2 : ents.toArray.extract 0 ents.length = ents.toArray := by rw [← hs]; exact Array.extract_size
    rw [e1, e2] at hq
    have hdl : d'.toList.length = d'.size := by simp
    have hd2 : d'.toList.Pairwise fun x y => x.a ≠ y.a ∨ x.c ≠ y.c := (hq.pairwise_iff (fun {_ _} h => by omega)).2 hd
    obtain ⟨cur', hcur⟩ : ∃ c, c = Sort.putCells id 0 (Sort.flatK encE 3 d') cur := ⟨_, rfl⟩
    have hnew : w'.heap[g]? = some (.cells cur' 43 (0, 0)) := by
      rw [hw]
      unfold sortWorldK
      rw [Sort.heap_grow_old _ _ (by unfold Sort.putRowK; rw [Sort.size_putRow]; exact hlt)]
      unfold Sort.putRowK Sort.putRow Sort.mapBlock Sort.ahead
      simp only [Array.getElem?_modify, if_true, hc, Option.map_some, hcur]
      rfl
    have hcs : cur'.size = cur.size := by rw [hcur]; simp [Sort.putCells]
    refine ⟨he, d'.toList, hq, pw_of (by rw [hds]; exact hso) hd2, ⟨by rw [len_flat], .inr ⟨g, cap, cur', by rw [hdl, hds], hg, hnew, by omega, h2, by omega, ?_⟩⟩, ?_⟩
    · rw [hdl, hcur]
      exact take_flat _ _ (by omega)
    · rw [hw]
      refine ⟨rfl, rfl, rfl, ?_, fun k hk hne => ?_⟩
      · unfold sortWorldK Sort.grow Sort.putRowK
        simp only [Array.size_append, Sort.size_putRow]
        show W.heap.size ≤ W.heap.size + os.size
        omega
      · unfold sortWorldK
        rw [Sort.heap_grow_old _ _ (by unfold Sort.putRowK; rw [Sort.size_putRow]; exact hk)]
        unfold Sort.putRowK Sort.putRow Sort.mapBlock Sort.ahead
        simp only [Array.getElem?_modify]
        rw [if_neg (fun e => hne (by rw [e]; rfl))]
end Go.Proofs.Yteifekndhgkgcaa.H
/- The entries of the map of rows, as the range hands them over and as the sort orders them: they are the specification's slots; no condition beyond the numbers' kind. -/
namespace Go.Proofs.Yteifekndhgkgcaa.H
open Go.RowKit Go.Proofs.YteifekndhgkgcaaW.PrintWords Go.Proofs.YteifekndhgkgcaaW.PrintLast Go.Proofs.YteifekndhgkgcaaW.PrintMore
open Go.ChangeShapes (lits)
open Go.Maps
set_option linter.unusedSimpArgs false
set_option linter.unusedVariables false
def wfI (a : Int) : Prop := (Lit.int .i64 a).wf = true
structure EInv (D2 : DataW Value) (left : Lit → Bool) (ents : List Ent) : Prop where
  mem : ∀ e ∈ ents, wfI e.a ∧ wfI e.c ∧ D2.atKey (keyL e.a e.c) .nil = .held e.v ∧ left (keyL e.a e.c) = false
  apart : ents.Pairwise fun x y => x.a ≠ y.a ∨ x.c ≠ y.c
  all : ∀ a c v, wfI a → wfI c → D2.atKey (keyL a c) .nil = .held v → left (keyL a c) = false → ∃ e ∈ ents, e.a = a ∧ e.c = c ∧ e.v = v
theorem EInv.start (D2 : DataW Value) : EInv D2 (has D2) [] := ⟨fun e h => by simp at h, List.Pairwise.nil, fun a c v _ _ h hh => by
  rw [atKey_of_not_has hh] at h
  cases h⟩
theorem EInv.step {D2 : DataW Value} {left : Lit → Bool} {ents : List Ent} (w : World) (h : EInv D2 left ents) (e0 : Ent) (h1 : wfI e0.a) (h2 : wfI e0.c) (hl : left (keyL e0.a e0.c) = true) (hat : D2.atKey (keyL e0.a e0.c) .nil = .held e0.v) :
    EInv D2 (fun z => left z && !z.sameKey (keyL e0.a e0.c)) (ents ++ [e0]) := by
  have hk := keyL_lit w _ _ h1 h2
  refine ⟨fun e he => ?_, ?_, fun a c v ha hc hv hll => ?_⟩
  · rcases List.mem_append.1 he with he | he
    · obtain ⟨a1, a2, a3, a4⟩ := h.mem e he
      exact ⟨a1, a2, a3, by rw [a4]; rfl⟩
    · rw [List.mem_singleton.1 he]
      exact ⟨h1, h2, hat, by rw [WideAt.sameKey_self hk, Bool.not_true, Bool.and_false]⟩
  · rw [List.pairwise_append]
    refine ⟨h.apart, List.pairwise_singleton _ _, fun x hx y hy => ?_⟩
    rw [List.mem_singleton.1 hy]
    obtain ⟨_, _, _, a4⟩ := h.mem x hx
    by_cases e : x.a = e0.a ∧ x.c = e0.c
    · rw [e.1, e.2, hl] at a4
      cases a4
    · omega
  · cases hq : left (keyL a c) with
    | false =>
      obtain ⟨e, he, r⟩ := h.all a c v ha hc hv hq
      exact ⟨e, List.mem_append_left _ he, r⟩
    | true =>
      rw [hq] at hll
      have hs : (keyL a c).sameKey (keyL e0.a e0.c) = true := by simpa using hll
      obtain ⟨rfl, rfl⟩ := keyL_inj w _ _ _ _ ha hc h1 h2 (WideAt.sameKey_eq hs)
      rw [hat] at hv
      exact ⟨e0, by simp, rfl, rfl, by simpa using hv⟩
theorem sorted_ext {α : Type} {lt : α → α → Prop} (irr : ∀ x, ¬ lt x x) (tr : ∀ x y z, lt x y → lt y z → lt x z) : ∀ l l' : List α, l.Pairwise lt → l'.Pairwise lt → (∀ x, x ∈ l ↔ x ∈ l') → l = l'
  | [], [], _, _, _ => rfl
  | [], y :: l', _, _, h => absurd ((h y).2 List.mem_cons_self) (by simp)
  | x :: l, [], _, _, h => absurd ((h x).1 List.mem_cons_self) (by simp)
  | x :: l, y :: l', h1, h2, h => by
    have a1 := List.pairwise_cons.1 h1
    have a2 := List.pairwise_cons.1 h2
    have e : x = y := by
      rcases List.mem_cons.1 ((h x).1 List.mem_cons_self) with e | m
      · exact e
      · rcases List.mem_cons.1 ((h y).2 List.mem_cons_self) with e | m'
        · exact e.symm
        · exact absurd (tr _ _ _ (a1.1 y m') (a2.1 x m)) (irr x)
    subst e
    rw [sorted_ext irr tr l l' a1.2 a2.2 (fun z => ⟨fun hz => ?_, fun hz => ?_⟩)]
    · rcases List.mem_cons.1 ((h z).1 (List.mem_cons_of_mem _ hz)) with e | m
      · subst e; exact absurd (a1.1 z hz) (irr z)
      · exact m
    · rcases List.mem_cons.1 ((h z).2 (List.mem_cons_of_mem _ hz)) with e | m
      · subst e; exact absurd (a2.1 z hz) (irr z)
      · exact m
theorem find_mem (n k : Int) : ∀ (l : List S43) {zs : List Int}, findF n k l = some zs → ∃ s ∈ l, s.f0 = n ∧ s.f1 = k ∧ s.f2 = zs
  | [], zs, h => by simp [findF] at h
  | s :: l, zs, h => by
    rw [findF] at h
    by_cases c : s.f0 = n ∧ s.f1 = k
    · rw [if_pos c] at h
      exact ⟨s, List.mem_cons_self, c.1, c.2, Option.some.inj h⟩
    · rw [if_neg c] at h
      obtain ⟨t, ht, r⟩ := find_mem n k l h
      exact ⟨t, List.mem_cons_of_mem _ ht, r⟩
theorem find_of_mem : ∀ (l : List S43), SortedK l → ∀ s ∈ l, findF s.f0 s.f1 l = some s.f2
  | [], _, s, h => by simp at h
  | t :: l, hs, s, h => by
    have a := List.pairwise_cons.1 hs
    rcases List.mem_cons.1 h with rfl | h
    · rw [findF, if_pos ⟨rfl, rfl⟩]
    · have := a.1 s h
      unfold befK at this
      rw [findF, if_neg (by omega)]
      exact find_of_mem l a.2 s h
theorem build_wf (l : List S47) (hwf : ∀ i : Nat, i < l.length → wfI (rd_T47 l (i : Int)).f0 ∧ wfI (rd_T47 l (i : Int)).f2.f0) : ∀ k, k ≤ l.length → ∀ s ∈ buildF l k, wfI s.f0 ∧ wfI s.f1
  | 0, _, s, h => by simp [buildF] at h
  | k + 1, hk, s, h => by
    rcases put_mem _ _ _ _ _ h with ⟨e1, e2⟩ | h
    · rw [e1, e2]
      exact hwf k (by omega)
    · exact build_wf l hwf k (by omega) s h
theorem lits_inj : ∀ {xs ys : List Int}, lits (H := Unit) .i64 xs = lits .i64 ys → xs = ys
  | [], [], _ => rfl
  | [], y :: ys, h => by simp [lits] at h
  | x :: xs, [], h => by simp [lits] at h
  | x :: xs, y :: ys, h => by
    simp only [lits, List.map_cons, List.cons.injEq] at h
    have h1 : x = y := by simpa using h.1
    rw [h1, lits_inj (xs := xs) (ys := ys) h.2]
theorem ents_slots {W : World} {base n : Nat} {l : List S47} (hwf : ∀ i : Nat, i < l.length → wfI (rd_T47 l (i : Int)).f0 ∧ wfI (rd_T47 l (i : Int)).f2.f0) {D2 : DataW Value} {left : Lit → Bool} {ents d : List Ent}
    (h1 : ∀ a c v, (Lit.int .i64 a).wf = true → (Lit.int .i64 c).wf = true → D2.atKey (keyL a c) .nil = .held v → ∃ zs, W.ownsInts base 3 .i64 v zs ∧ zs.length ≤ n ∧ ∀ zd, (GD l l.length).atKey (keyL a c) zd = rowDatum .i64 v zs)
    (h2 : ∀ a c, (Lit.int .i64 a).wf = true → (Lit.int .i64 c).wf = true → (∀ v, D2.atKey (keyL a c) .nil ≠ .held v) → ∀ zd, (GD l l.length).atKey (keyL a c) zd = zd)
    (hI : EInv D2 left ents) (hleft : ∀ kl, left kl = false) (hp : d.Perm ents) (hs : d.Pairwise fun x y => befK x.a x.c y.a y.c) :
    d.length = (buildF l l.length).length ∧ ∀ (j : Nat) e s, d[j]? = some e → (buildF l l.length)[j]? = some s → e.a = s.f0 ∧ e.c = s.f1 ∧ W.ownsInts base 3 .i64 e.v s.f2 := by
  have hG := (GD_find W l l.length (Nat.le_refl _) hwf).2
  have hB := build_sorted l l.length
  have key : d.map (fun e => (e.a, e.c)) = (buildF l l.length).map (fun s => (s.f0, s.f1)) := by
    refine sorted_ext (lt := fun x y : Int × Int => befK x.1 x.2 y.1 y.2) (fun x => by unfold befK; omega) (fun x y z a b => befK_trans a b) _ _ (List.pairwise_map.2 hs) (List.pairwise_map.2 hB) (fun x => ⟨fun hx => ?_, fun hx => ?_⟩)
    · obtain ⟨e, he, rfl⟩ := List.mem_map.1 hx
      obtain ⟨a1, a2, a3, _⟩ := hI.mem e (hp.mem_iff.1 he)
      obtain ⟨zs, _, _, hz⟩ := h1 _ _ _ a1 a2 a3
      cases hf : findF e.a e.c (buildF l l.length) with
      | none =>
        have e1 := hG e.a e.c a1 a2 .nil
        have e2 := hG e.a e.c a1 a2 (.ptr .nil)
        rw [hz] at e1 e2
        rw [hf] at e1 e2
        simp only at e1 e2
        rw [e1] at e2
        cases e2
      | some zs' =>
        obtain ⟨s, hs', e1, e2, _⟩ := find_mem _ _ _ hf
        exact List.mem_map.2 ⟨s, hs', by rw [e1, e2]⟩
    · obtain ⟨s, hs', rfl⟩ := List.mem_map.1 hx
      obtain ⟨a1, a2⟩ := build_wf l hwf l.length (Nat.le_refl _) s hs'
      have hf := find_of_mem _ hB s hs'
      by_cases hv : ∃ v, D2.atKey (keyL s.f0 s.f1) .nil = .held v
      · obtain ⟨v, hv⟩ := hv
        obtain ⟨e, he, e1, e2, _⟩ := hI.all _ _ v a1 a2 hv (hleft _)
        exact List.mem_map.2 ⟨e, hp.mem_iff.2 he, by rw [e1, e2]⟩
      · have e1 := hG s.f0 s.f1 a1 a2 .nil
        rw [h2 _ _ a1 a2 (fun v h => hv ⟨v, h⟩), hf] at e1
        cases e1
  refine ⟨by simpa using congrArg List.length key, fun j e s hj hj' => ?_⟩
  have ek := congrArg (fun q => q[j]?) key
  simp only [List.getElem?_map, hj, hj', Option.map_some] at ek
  have ek2 : e.a = s.f0 ∧ e.c = s.f1 := by simpa using ek
  refine ⟨ek2.1, ek2.2, ?_⟩
  obtain ⟨a1, a2, a3, _⟩ := hI.mem e (hp.mem_iff.1 (List.mem_of_getElem? hj))
  obtain ⟨zs, ho, _, hz⟩ := h1 _ _ _ a1 a2 a3
  have e1 := hG e.a e.c a1 a2 .nil
  rw [hz, ek2.1, ek2.2, find_of_mem _ hB s (List.mem_of_getElem? hj')] at e1
  rcases ho.datum (H := Unit) with ⟨q1, _⟩ | q1
  · rw [q1] at e1
    cases e1
  · rw [q1] at e1
    have e2 : lits (H := Unit) .i64 zs = lits .i64 s.f2 := by
      injection e1
    rw [← lits_inj e2]
    exact ho
open Classical in
theorem slots_S {W : World} {base base' : Nat} {V : Value} {d : List Ent} {xs : List S43} (hbb : base ≤ base') (hown : W.ownsRow base 43 3 V d.length (d.flatMap encE)) (hl : d.length = xs.length)
    (hx : ∀ (j : Nat) e s, d[j]? = some e → xs[j]? = some s → e.a = s.f0 ∧ e.c = s.f1 ∧ W.ownsInts base' 3 .i64 e.v s.f2)
    (hap : ∀ (i j : Nat) e e', i ≠ j → d[i]? = some e → d[j]? = some e' → e.v.ownBlock = none ∨ e.v.ownBlock ≠ e'.v.ownBlock) : Kd.S k43 43 W base (fun _ => True) V xs := by
  refine ⟨fun k => if h : ∃ (j : Nat) (e : Ent), d[j]? = some e ∧ e.v.ownBlock = some k then h.choose else 0, fun _ _ => trivial, d.flatMap encE, by rw [List.length_zipIdx, ← hl]; exact hown, ?_, fun j p hj => ?_⟩
  · rw [len_flat, List.length_zipIdx, hl]
    rfl
  · have hjl : j < xs.length := by have := (List.getElem?_eq_some_iff.1 hj).1; simpa using this
    have hjd : j < d.length := by omega
    have hp : p = (xs[j], j) := by
      rw [List.getElem?_zipIdx, List.getElem?_eq_getElem hjl] at hj
      simpa using hj.symm
    subst hp
    have hdj := List.getElem?_eq_getElem hjd
    obtain ⟨e1, e2, e3⟩ := hx j _ _ hdj (List.getElem?_eq_getElem hjl)
    have hcells : ((d.flatMap encE).drop (j * 3)).take 3 = [.int .i64 xs[j].f0, .int .i64 xs[j].f1, d[j].v] := by
      apply List.ext_getElem?
      intro i
      rcases Nat.lt_or_ge i 3 with hi | hi
      · rw [List.getElem?_take, if_pos hi, List.getElem?_drop, get_flat _ _ (by omega), show (j * 3 + i) / 3 = j by omega, show (j * 3 + i) % 3 = i by omega, hdj]
        match i, hi with
        | 0, _ => rw [← e1]; rfl
        | 1, _ => rw [← e2]; rfl
        | 2, _ => rfl
      · rw [List.getElem?_take, if_neg (by omega)]
        match i, hi with
        | i + 3, _ => rfl
    show k43.M W base _ xs[j] (((d.flatMap encE).drop (j * 3)).take 3)
    rw [hcells]
    refine k43_mkM _ _ _ _ (Kd.R_of_own (own_weaken e3.1 hbb) (fun k hk => ⟨⟨trivial, ?_⟩, ?_⟩))
    · intro e
      rcases own_type_ne e3.1 hown (by decide) with h | h
      · rw [h] at hk
        cases hk
      · exact h (hk.trans e)
    · have hex : ∃ (j : Nat) (e : Ent), d[j]? = some e ∧ e.v.ownBlock = some k := ⟨j, _, hdj, hk⟩
      show (if h : ∃ (j : Nat) (e : Ent), d[j]? = some e ∧ e.v.ownBlock = some k then h.choose else 0) = j
      rw [dif_pos hex]
      obtain ⟨e', g1, g2⟩ := hex.choose_spec
      by_cases he : hex.choose = j
      · exact he
      · rcases hap _ _ _ _ he g1 hdj with h | h
        · rw [h] at g2
          cases g2
        · exact absurd (g2.trans hk.symm) h
end Go.Proofs.Yteifekndhgkgcaa.H
/- evindex.Build: the first loop (under way). -/
namespace Go.Proofs.Yteifekndhgkgcaa.H
open Go.RowKit Go.Proofs.YteifekndhgkgcaaW.PrintWords Go.Proofs.YteifekndhgkgcaaW.PrintLast Go.Proofs.YteifekndhgkgcaaW.PrintMore
open Go.ChangeShapes (lits)
set_option linter.unusedSimpArgs false
set_option linter.unusedVariables false
theorem gob1 {w w1 : World} (h : Below w.heap.size w w1) : w.grownBy w1 none := ⟨h.os, h.tape, h.output, h.size, fun k hk _ => h.block k hk⟩
theorem groups_grown {H : Type} {P : Program} {w w' : World} {k : TypeId} {base : Nat} {e : TypeId} {q : IntKind} {b n : Nat} {D : DataW H} (h : w.ownsGroups P k base e q b n D) (hg : w.grownBy w' none) : w'.ownsGroups P k base e q b n D :=
  h.kept hg (by simp) (fun es clock _ x _ => by cases hx : x.val.ownBlock <;> simp)
theorem gate_entryStore {P : Program} {ops : Array Oper} {o : Oper} {rest : List Oper} {a : Act} {Q : Exit → Act → World → Prop} {W : World} {t : TypeId} {m s v : Operand} (_ho : o.op = .entryStore t m s v) (h : wpList P ops Q (o :: rest) a W) : wpList P ops Q (o :: rest) a W := h
/-- one step of the range over the map of rows, its facts in one -/
structure StepR (w5 w w' : World) (b r n : Nat) (D : DataW Value) (left : Lit → Bool) (cnt cnt' : Nat) (xn xk : Int) (c : Value) : Prop where
  wn : (Lit.int .i64 xn).wf = true
  wk : (Lit.int .i64 xk).wf = true
  hl : left (keyL xn xk) = true
  hat : D.atKey (keyL xn xk) .nil = .held c
  hrg : w'.ranges Try.prog 53 RV b r n D (fun z => left z && !z.sameKey (keyL xn xk)) cnt'
  hlt : cnt' < cnt
  hg : w.grownBy w' (some r)
  hs : w'.heap.size = w.heap.size
  hen : (Instr.entry (.pointer (some ⟨r, 0, none⟩))).run Try.prog w' = .ok (.tuple #[.agg #[.int .i64 xn, .int .i64 xk], c]) w'
theorem next_rows (w5 w : World) {ops : Array Oper} {rest : List Oper} {o : Oper} {a : Act} {Q : Exit → Act → World → Prop} (hg : o.guard = none) (it : Operand) (hop : o.op = Op.next it false) (b r n : Nat) (D : DataW Value) (left : Lit → Bool) (cnt : Nat)
    (hit : a.eval it = .pointer (some ⟨r, 0, none⟩)) (h : w.ranges Try.prog 53 RV b r n D left cnt)
    (hDone : Aside0 (∀ kl, left kl = false) → wpList Try.prog ops Q rest (a.put o.dst (.tuple #[.bool false])) w)
    (hMore : ∀ (xn xk : Int) (c : Value) (w' : World) (cnt' : Nat), StepR w5 w w' b r n D left cnt cnt' xn xk c → wpList Try.prog ops Q rest (a.put o.dst (.tuple #[.bool true, .agg #[.int .i64 xn, .int .i64 xk], c])) w') :
    wpList Try.prog ops Q (o :: rest) a w := by
  refine wpList_next_ranges (α := Int × Int) (β := Value) w hg it hop 53 (Go.Maps.Keyed.of_law law53) RV (fun x => .agg #[.int .i64 x.1, .int .i64 x.2]) (fun v => v) (fun key kl h => by obtain ⟨n, k, e, _⟩ := key53_inv h; exact ⟨(n, k), e⟩) (fun v y _ => ⟨v, rfl⟩) b r n D left cnt hit h (fun _ hl => hDone ⟨hl⟩) ?_
  intro x c kl y w1 cnt1 hkey hlk hv hat hrg1 hlt hg1 hs1 hen
  obtain ⟨n0, k0, ex, wn, wk⟩ := key53_inv hkey
  obtain ⟨xn, xk⟩ := x
  have ex2 : xn = n0 ∧ xk = k0 := by simpa using ex
  obtain ⟨rfl, rfl⟩ := ex2
  have hkl : kl = keyL xn xk := Option.some.inj (hkey.symm.trans (key53 w5 xn xk wn wk))
  subst hkl
  have hy : y = (.held c, []) := by simpa [RV] using hv.symm
  have hat0 := hat .nil
  rw [hy] at hat0
  exact hMore xn xk c w1 cnt1 ⟨wn, wk, hlk, hat0, hrg1, hlt, hg1, hs1, hen⟩
theorem info43 : (Try.prog.info? 43).map (fun i => (i.zero, i.size, i.bytes)) = some (some (.agg #[(.int .i64 0), (.int .i64 0), (.slice none 0 0)]), 3, 40) := by kernel_rfl
theorem gb_set (w : World) (b i : Nat) (v : Value) : w.grownBy (w.setCell ⟨b, i, none⟩ v) (some b) := ⟨rfl, rfl, rfl, by simp, fun k _ hne => Below.heap_setCell w _ v k (fun e => hne (by rw [e]))⟩
def wfS (x : S47) : Prop := (Lit.int .i64 x.f0).wf = true ∧ (Lit.int .i64 x.f2.f0).wf = true
set_option maxRecDepth 100000 in
set_option maxHeartbeats 4000000 in
theorem build_walk (A0 : Option Addr) (c0 : Nat) (l0 : List S47) (w : World) (hr0 : Kd.C k47 w A0 l0.length l0) (hc0 : l0.length ≤ c0) (hl : l0.length ≤ 60) (hwf : ∀ i : Nat, i < l0.length → wfS (rd_T47 l0 (i : Int))) :
    Calls Try.prog 11 #[.slice A0 l0.length c0] w fun e w' => ∃ v1_ : Value, e = .returned (.agg #[.int .i64 (l0.length : Int), v1_]) ∧ Kd.S k43 43 w' w.heap.size (fun _ => True) v1_ (buildF l0 l0.length) ∧ Below w.heap.size w w' := by
  have hmm := @run_makeMap Try.prog
  have hu47 := Try.underlying47
  have hu45 := Try.underlying45
  have hu53 := Try.underlying53
  have hu27 := Try.underlying27
  have HR0 := Aside0.mk hr0
  clear hr0
  obtain ⟨i0, hi, hz0, hz1, hz2⟩ := info_parts info3
  obtain ⟨i1, hj, hy0, hy1, hy2⟩ := info_parts info43
  go_enter Try.func11, Try.ntmps11
  go_wp2
  go_loopg [13] l0.length (fun kq v13 w' => ∃ k : Nat, v13 = .int .i64 (k : Int) ∧ Aside0 (k ≤ l0.length ∧ kq + k = l0.length) ∧ Aside0 (w'.ownsGroups Try.prog 53 (w.heap.size + 2) 3 .i64 (w.heap.size + 1) k (GD l0 k)) ∧ Aside0 (Below w.heap.size w w') ∧ Aside0 (w.heap.size + 2 ≤ w'.heap.size) ∧ Aside0 (w'.heap[w.heap.size]? = some (.cells #[.int .i64 0, .slice none 0 0] 27 (0, 0))))
  case atStart =>
    refine ⟨0, rfl, ⟨Nat.zero_le _, rfl⟩, ⟨?_⟩, ⟨?_⟩, ⟨?_⟩, ⟨?_⟩⟩
    · have := World.ownsGroups_made (H := Unit) (w.alloc (.cells #[.int .i64 0, .slice none 0 0] 27)) Try.prog 53 3 .i64
      have hs : (w.alloc (.cells #[.int .i64 0, .slice none 0 0] 27)).heap.size = w.heap.size + 1 := by simp
      rw [hs] at this
      exact this
    · exact below_alloc (below_alloc (Below.refl _ _) _) _
    · simp
    · exact blk_alloc (blk_new w _) _
  case round =>
    obtain ⟨k, rfl, HK, HG, HB, HS, HC⟩ := hrel
    by_cases c : (k : Int) < (l0.length : Int)
    · have cb : decide ((k : Int) < (l0.length : Int)) = true := decide_eq_true c
      have p1 : (0 : Int) ≤ (k : Int) := by omega
      obtain ⟨ad, e1, hx0, hx1, hx2, hx3, hx4, hx5, hx6, hx7, hx8⟩ := at_T47 HR0.out (k : Int) p1 c
      cases e1
      replace hx0 := pw_cell_below HB.out hx0
      replace hx1 := pw_cell_below HB.out hx1
      replace hx2 := pw_cell_below HB.out hx2
      replace hx3 := pw_cell_below HB.out hx3
      replace hx4 := pw_cell_below HB.out hx4
      replace hx5 := pw_cell_below HB.out hx5
      replace hx6 := pw_cell_below HB.out hx6
      replace hx7 := pw_cell_below HB.out hx7
      replace hx8 := pw_cell_below HB.out hx8
      have q1 : (k : Int) < (l0.length : Int) := c
      have p1' := eq_true p1
      have q1' := eq_true q1
      simp only [Int.toNat_natCast] at hx0 hx1 hx2 hx3 hx4 hx5 hx6 hx7 hx8
      have hw := hwf k (by omega)
      have hG := HG.out
      have hstep := fun (w : World) (base : Nat) (e : TypeId) (v : Value) (zs : List Int) => GD_step (w := w) (base := base) (e := e) (v := v) (zs := zs) l0 k
      have hkey := key53 wr _ _ hw.1 hw.2
      generalize hrd : rd_T47 l0 (k : Int) = o at hx0 hx1 hx2 hx3 hx4 hx5 hx6 hx7 hx8 hw hstep hkey
      have hB := HB.out
      have hS := HS.out
      have hk := HK.out
      have key1 : ∀ (o1 o2 o3 : Obj), (((wr.alloc o1).alloc o2).alloc o3).ownsGroups Try.prog 53 (w.heap.size + 2) 3 .i64 (w.heap.size + 1) k (GD l0 k) := fun o1 o2 o3 =>
        groups_grown (groups_grown (groups_grown hG (World.grownBy_alloc _ _ _)) (World.grownBy_alloc _ _ _)) (World.grownBy_alloc _ _ _)
      go_wp2_with (first
        | ((with_reducible refine gate_dst (N := 29) rfl ?_); refine wpList_mapEntry_groups _ rfl (.tmp 24) (.tmp 25) 51 rfl 53 36 3 .i64 law53 Try.underlying51 zero36 (w.heap.size + 2) (w.heap.size + 1) k (GD l0 k) rfl (key1 _ _ _) (by unfold maxLen; omega) _ (keyL o.f0 o.f2.f0) rfl hkey ?_; intro v zs st w1 hat hoi hzl hgr1 hsz1 hback; have hcell : w1.cell? ⟨wr.heap.size + 1 + 1, 0, none⟩ = some (.int .i64 (k : Int)) := (by rw [World.cell?_of_block (hgr1.block _ (by simp) (by simp; omega))]; go_simp); have hb1 : w.heap.size + 2 ≤ w1.heap.size := (by rw [hsz1]; simp; omega))
        | ((with_reducible refine gate_builtin (b := .append) (xs := #[.tmp 26, .tmp 28]) rfl ?_); refine wpList_append_own_at _ rfl (.tmp 26) (.tmp 28) 36 rfl (w.heap.size + 2) 3 i0 (.int .i64 0) 1 8 Try.underlying36 hi hz0 hz1 hz2 rfl (by decide) _ _ _ rfl hoi.1 ⟨wr.heap.size + 1 + 1, 0, none⟩ 1 1 [.int .i64 (k : Int)] rfl rfl (fun j u hj => by cases j with | zero => (simp at hj; subst hj; exact hcell) | succ j => (simp at hj)) (ints_oneCell .i64 [(k : Int)]) (by unfold maxLen; omega) (by omega) hb1 ?_; intro v' w2 hown' hgrow hnil hloc)
        | ((with_reducible refine gate_entryStore (t := 51) rfl ?_); refine wpList_entryStore_back _ rfl (.tmp 24) (.tmp 31) (.tmp 30) 51 rfl hback rfl rfl rfl hgrow (hoi.appended hown' (WalkArith.wf_i64 (by omega))) (by simp; omega) (hloc.imp id (fun h => ⟨_, h, by first | exact Nat.le_refl _ | simp⟩)) ?_; intro w3 hown3 hgrow3))
      go_roundg (gk - 1)
      case measure => omega
      case rel =>
        have hwk : (Lit.int .i64 (k : Int)).wf = true := WalkArith.wf_i64 (by omega)
        have happ := hoi.appended hown' hwk
        have hgrow' : w1.grownBy w2 v.ownBlock := hgrow
        have hvlt : ∀ j, v.ownBlock = some j → w.heap.size + 2 ≤ j := fun j hj => (hoi.1.lt j hj).1
        have hwr : w.heap.size + 2 ≤ wr.heap.size := hS
        refine ⟨k + 1, by first | (rw [Int.natCast_add]; rfl) | (simp; done), ⟨by omega, by omega⟩, ⟨?_⟩, ⟨?_⟩, ⟨?_⟩, ⟨?_⟩⟩
        · rw [hstep w1 _ _ v zs hoi hat, ← happ.datum_pos (by simp)]
          exact hown3
        · exact ((((below_alloc (below_alloc (below_alloc hB _) _) _).grown hgr1 (by simp; omega) (fun j hj => by cases hj; omega)).grown hgrow' (by omega) (fun j hj => by have := hvlt j hj; omega)).grown hgrow3 (by have := hgrow'.size; omega) (fun j hj => by cases hj; omega))
        · have := hgrow'.size
          have := hgrow3.size
          omega
        · have e3 := hgrow3.block w.heap.size (by have := hgrow'.size; omega) (by simp)
          have e2 := hgrow'.block w.heap.size (by omega) (fun e => by have := hvlt _ e.symm; omega)
          have e1 := hgr1.block w.heap.size (by simp; omega) (by simp)
          rw [e3, e2, e1]
          exact blk_alloc (blk_alloc (blk_alloc HC.out _) _) _
    · have hkl : k = l0.length := by have := HK.out; omega
      subst hkl
      rename World => w5
      have cb : decide (((l0.length : Nat) : Int) < (l0.length : Int)) = false := decide_eq_false c
      have hB := HB.out
      have hS := HS.out
      have hC := HC.out
      have hG := HG.out
      clear HB HS HC HG HK
      obtain ⟨D2, hm, r1, r2, r4⟩ := groups_rows hG
      have es0 : (w5.alloc (Obj.cells #[Value.int .i64 (l0.length : Int), Value.slice none 0 0] 27)).heap.size = w5.heap.size + 1 := by simp
      have hm0 := hm.kept (World.grownBy_alloc w5 (Obj.cells #[Value.int .i64 (l0.length : Int), Value.slice none 0 0] 27) none) (by simp)
      go_wp2_with (first
        | (at_range; refine wpList_range_own _ rfl _ 51 rfl 53 36 (Go.Maps.Keyed.of_law law53) Try.underlying51 RV (w.heap.size + 1) l0.length D2 rfl hm0 ?_; intro w0 hrg0 hg0 hs0))
      try go_frame
      rw [es0] at hrg0 hs0
      have hbx0 : w0.heap[w5.heap.size]? = some (.cells #[.int .i64 (l0.length : Int), .slice none 0 0] 27 (0, 0)) := blk_grown (blk_new w5 _) hg0 (by simp)
      have hbe0 : Below w5.heap.size w5 w0 := (below_alloc (Below.refl _ w5) _).grown hg0 (by simp) (fun j hj => by cases hj)
      have hsz0 : Maps.size D2 ≤ l0.length := by
        obtain ⟨es, clock, since, seen, cc, _, _, h1, hD, _⟩ := hrg0
        rw [hD]
        simp [Maps.size, length_sorted]
        exact h1
      go_loopw [] (fun W => ∃ (left : Lit → Bool) (cnt : Nat) (ents : List Ent) (V : Value), Aside0 (W.ranges Try.prog 53 RV (w.heap.size + 1) (w5.heap.size + 1) l0.length D2 left cnt) ∧ Aside0 (EInv D2 left ents) ∧ Aside0 (ents.length + cnt ≤ l0.length) ∧
          Aside0 (W.ownsRow (w5.heap.size + 2) 43 3 V ents.length (ents.flatMap encE)) ∧ Aside0 (W.heap[w5.heap.size]? = some (.cells #[.int .i64 (l0.length : Int), V] 27 (0, 0))) ∧ Aside0 (Below w5.heap.size w5 W) ∧ Aside0 (w5.heap.size + 2 ≤ W.heap.size))
        (fun W => W.rangeLeft (w.heap.size + 1) (w5.heap.size + 1))
      case atStart =>
        exact ⟨_, _, [], .slice none 0 0, ⟨hrg0⟩, ⟨EInv.start D2⟩, ⟨by simpa using hsz0⟩, ⟨own_nil _ _ _ _⟩, ⟨hbx0⟩, ⟨hbe0⟩, ⟨by omega⟩⟩
      case round =>
        clear hbx0 hbe0 hsz0 hrg0 hg0 hs0
        obtain ⟨left, cnt, ents, V, HRG, HI, HL, HO, HBX, HBE, HSZ⟩ := hrel
        obtain ⟨AV, cV, rfl⟩ := own_slice HO.out
        go_wp2_with (first
          | (at_next; refine next_rows w5 _ rfl _ rfl (w.heap.size + 1) (w5.heap.size + 1) l0.length D2 left cnt rfl HRG.out ?_ ?_))
        · intro hl0
          have hlen : ents.length ≤ 60 := by have := HL.out; omega
          have hVb : ∀ j, (Value.slice AV ents.length cV).ownBlock = some j → w5.heap.size + 2 ≤ j := fun j hj => own_base HO.out j hj
          have BX1 := HBX.out
          obtain ⟨hcz0, hcz1⟩ := bc2 BX1
          obtain ⟨hfz0, hfz1⟩ := bf2 BX1
          have HBE1 := HBE.out
          have HSZ1 := HSZ.out
          go_wp2_with (first | (go_at_call 24; refine (sortF_any _ _ (.slice AV ents.length cV) ents HO.out (by omega) HI.out.apart).mono ?_; rintro e w7 ⟨rfl, d, hperm, hpw, hown7, hgr7⟩; have BX7 := blk_grown BX1 hgr7 (fun e => by have := hVb _ e.symm; omega); obtain ⟨hdz0, hdz1⟩ := bc2 BX7; have hC7 : w7.heap[w.heap.size]? = some (.cells #[.int .i64 0, .slice none 0 0] 27 (0, 0)) := (by rw [hgr7.block _ (by omega) (fun e => by have := hVb _ e.symm; omega), HBE1.block _ (by omega)]; exact hC); obtain ⟨hrz0, hrz1⟩ := bc2 hC7; obtain ⟨hrf0, hrf1⟩ := bf2 hC7))
          have hr7 : Kd.S k43 43 w7 w.heap.size (fun _ => True) (.slice AV ents.length cV) (buildF l0 l0.length) := by
            obtain ⟨h1, h2⟩ := ents_slots hwf r1 r2 HI.out hl0.out hperm hpw
            have hown8 : ∀ v zs, w5.ownsInts (w.heap.size + 2) 3 .i64 v zs → w7.ownsInts (w.heap.size + 2) 3 .i64 v zs := fun v zs ho => by
              have ho1 := ho.kept (gob1 HBE1) (by cases v.ownBlock <;> simp)
              exact ho1.kept hgr7 (own_type_ne ho1.1 HO.out (by decide))
            refine slots_S (base' := w.heap.size + 2) (by omega) (own_weaken hown7 (by omega)) h1 (fun j e s hj hs => ?_) (fun i j e e' hij hi hj => ?_)
            · obtain ⟨a1, a2, a3⟩ := h2 j e s hj hs
              exact ⟨a1, a2, hown8 _ _ a3⟩
            · have m1 := HI.out.mem e (hperm.mem_iff.1 (List.mem_of_getElem? hi))
              have m2 := HI.out.mem e' (hperm.mem_iff.1 (List.mem_of_getElem? hj))
              refine r4 _ _ _ _ _ _ m1.1 m1.2.1 m2.1 m2.2.1 ?_ m1.2.2.1 m2.2.2.1
              have hne : befK e.a e.c e'.a e'.c ∨ befK e'.a e'.c e.a e.c := by
                have hpi := List.pairwise_iff_getElem.1 hpw
                obtain ⟨hil, hie⟩ := List.getElem?_eq_some_iff.1 hi
                obtain ⟨hjl, hje⟩ := List.getElem?_eq_some_iff.1 hj
                rcases Nat.lt_or_gt_of_ne hij with h | h
                · have := hpi i j hil hjl h
                  rw [hie, hje] at this
                  exact .inl this
                · have := hpi j i hjl hil h
                  rw [hie, hje] at this
                  exact .inr this
              unfold befK at hne
              omega
          have hB7 : Below w.heap.size w w7 := ((hB.trans ⟨HBE1.os, HBE1.tape, HBE1.output, HBE1.size, fun k hk => HBE1.block k (by omega)⟩)).grown hgr7 (by omega) (fun j hj => by have := hVb _ hj; omega)
          refine bodyPost_ret (results_cell_row rfl _ _ w.heap.size 27 #[.int .i64 (l0.length : Int), .slice AV ents.length cV] (0, 0) _ rfl (pt2 hC7) Try.underlying27 rfl (by kernel_rfl)) rfl ?_
          refine ⟨_, rfl, ?_, below_set (below_set hB7 (Nat.le_refl _)) (Nat.le_refl _)⟩
          exact Kd.S_set (Kd.S_set hr7 hC7 (by decide) 0 _) (blk_set hC7 0 _) (by decide) 1 _
        · intro xn xk c w1 cnt1 hst
          obtain ⟨wn, wk, hlk, hat0, hrg1, hlt, hg1, hs1, hen⟩ := hst
          obtain ⟨zs, ho, _⟩ := r1 xn xk c wn wk hat0
          obtain ⟨Ac, cc, rfl⟩ := own_slice ho.1
          have HI1 : EInv D2 (fun z => left z && !z.sameKey (keyL xn xk)) (ents ++ [⟨xn, xk, Ac, zs.length, cc⟩]) := HI.out.step w5 ⟨xn, xk, Ac, zs.length, cc⟩ wn wk hlk hat0
          have hVb : ∀ j, (Value.slice AV ents.length cV).ownBlock = some j → w5.heap.size + 2 ≤ j := fun j hj => own_base HO.out j hj
          have hO1 : w1.ownsRow (w5.heap.size + 2) 43 3 (.slice AV ents.length cV) ents.length (ents.flatMap encE) := own_other HO.out hg1 (by
            cases hV : (Value.slice AV ents.length cV).ownBlock with
            | none => exact .inl rfl
            | some g => exact .inr (fun e => by have := hVb g hV; cases e; omega))
          have BX1 := blk_grown HBX.out hg1 (by simp)
          obtain ⟨hcz0, hcz1⟩ := bc2 BX1
          obtain ⟨hfz0, hfz1⟩ := bf2 BX1
          have HSZ1 := HSZ.out
          have HL1 := HL.out
          have HBE1 := HBE.out
          have hcy1 : (w1.alloc (Obj.cells #[Value.int .i64 xn, Value.int .i64 xk] 53)).cell? ⟨w5.heap.size, 1, none⟩ = some (.slice AV ents.length cV) := blk_cell (blk_alloc BX1 _) 1
          have hn3 : ((w1.alloc (Obj.cells #[Value.int .i64 xn, Value.int .i64 xk] 53)).alloc (Obj.cells #[Value.int .i64 xn, Value.int .i64 xk, Value.slice Ac zs.length cc] 43)).heap[wr.heap.size + 1]? = some (Obj.cells #[Value.int .i64 xn, Value.int .i64 xk, Value.slice Ac zs.length cc] 43) := by
            have := blk_new (w1.alloc (Obj.cells #[Value.int .i64 xn, Value.int .i64 xk] 53)) (Obj.cells #[Value.int .i64 xn, Value.int .i64 xk, Value.slice Ac zs.length cc] 43)
            rwa [show (w1.alloc (Obj.cells #[Value.int .i64 xn, Value.int .i64 xk] 53)).heap.size = wr.heap.size + 1 by simp [hs1]] at this
          have hnews : ∀ (j : Nat) u, (encE ⟨xn, xk, Ac, zs.length, cc⟩)[j]? = some u → ((w1.alloc (Obj.cells #[Value.int .i64 xn, Value.int .i64 xk] 53)).alloc (Obj.cells #[Value.int .i64 xn, Value.int .i64 xk, Value.slice Ac zs.length cc] 43)).cell? ((⟨wr.heap.size + 1, 0, none⟩ : Addr).add j) = some u := by
            intro j u hu
            rw [add_plain, blk_cell hn3, ← Array.getElem?_toList]
            exact hu
          have hone : ∀ u ∈ encE ⟨xn, xk, Ac, zs.length, cc⟩, u.oneCell' = true := by
            intro u hu
            simp [encE, Ent.v] at hu
            rcases hu with rfl | rfl | rfl <;> rfl
          have hbs : w5.heap.size + 2 ≤ ((w1.alloc (Obj.cells #[Value.int .i64 xn, Value.int .i64 xk] 53)).alloc (Obj.cells #[Value.int .i64 xn, Value.int .i64 xk, Value.slice Ac zs.length cc] 43)).heap.size := by simp; omega
          have hO3 := (hO1.alloc (Obj.cells #[Value.int .i64 xn, Value.int .i64 xk] 53)).alloc (Obj.cells #[Value.int .i64 xn, Value.int .i64 xk, Value.slice Ac zs.length cc] 43)
          have hml : ents.length + 1 ≤ maxLen := by unfold maxLen; omega
          have BX3 := blk_alloc (blk_alloc BX1 (Obj.cells #[Value.int .i64 xn, Value.int .i64 xk] 53)) (Obj.cells #[Value.int .i64 xn, Value.int .i64 xk, Value.slice Ac zs.length cc] 43)
          go_wp2_with (first
            | ((with_reducible refine gate_builtin (b := .append) (xs := #[.tmp 44, .tmp 51]) rfl ?_); go_loud (refine wpList_append_own_at _ rfl (.tmp 44) (.tmp 51) 25 rfl (w5.heap.size + 2) 43 i1 (.agg #[.int .i64 0, .int .i64 0, .slice none 0 0]) 3 40 Try.underlying25 hj hy0 hy1 hy2 rfl (by decide) _ _ _ rfl hO3 _ 1 1 (encE ⟨xn, xk, Ac, zs.length, cc⟩) rfl rfl hnews hone hml (by omega) hbs ?_); intro v' w2 hown' hgrow hnil hloc; obtain ⟨A2, c2, rfl⟩ := own_slice hown'; have BX2 := blk_grown BX3 hgrow (fun e => by have := hVb _ e.symm; omega); obtain ⟨hdz0, hdz1⟩ := bc2 BX2; obtain ⟨hdf0, hdf1⟩ := bf2 BX2))
          have hgl := hgrow.size
          have hw2 : w5.heap.size + 2 ≤ w2.heap.size := by omega
          have hx1 : w.heap.size + 1 < w5.heap.size := by omega
          have q1 := (hrg1.kept (World.grownBy_alloc w1 (Obj.cells #[Value.int .i64 xn, Value.int .i64 xk] 53) none) (by simp) (by simp)).kept (World.grownBy_alloc _ (Obj.cells #[Value.int .i64 xn, Value.int .i64 xk, Value.slice Ac zs.length cc] 43) none) (by simp) (by simp)
          have q2 := q1.kept hgrow (fun e => by have := hVb _ e.symm; omega) (fun e => by have := hVb _ e.symm; omega)
          have q3 := q2.kept (gb_set w2 w5.heap.size 1 (.slice A2 (ents.length + 1) c2)) (fun e => by have := Option.some.inj e; omega) (fun e => by have := Option.some.inj e; omega)
          go_roundw
          case rel =>
            refine ⟨_, cnt1, ents ++ [⟨xn, xk, Ac, zs.length, cc⟩], .slice A2 (ents.length + 1) c2, ⟨q3⟩, ⟨HI1⟩, ⟨by rw [List.length_append, List.length_singleton]; omega⟩, ⟨?_⟩, ⟨blk_put BX2 1 _ rfl⟩, ⟨?_⟩, ⟨?_⟩⟩
            · rw [List.length_append, List.length_singleton, List.flatMap_append, List.flatMap_singleton]
              exact own_setCell hown' (fun e => by have := own_base hown' _ e.symm; simp at this; omega) _
            · exact (((below_alloc (below_alloc (HBE1.grown hg1 (by omega) (fun j hj => by cases hj; omega)) _) _).grown hgrow (by omega) (fun j hj => by have := hVb _ hj; omega))).setCell (Nat.le_refl _) _
            · have : (w2.setCell ⟨w5.heap.size, 1, none⟩ (.slice A2 (ents.length + 1) c2)).heap.size = w2.heap.size := by simp
              omega
          case measure => rw [q3.left_eq, HRG.out.left_eq]; exact hlt
theorem evindex_Build.calls (A0 : Option Addr) (c0 : Nat) (l0 : List S47) (r1 : Int) (r2 : List S43) (w : World) (hr0 : Kd.C k47 w A0 l0.length l0) (hc0 : l0.length ≤ c0) (h : evindex_Build.f l0 = some (r1, r2)) :
    Calls Try.prog 11 #[.slice A0 l0.length c0] w fun e w' => ∃ v1_ : Value, e = .returned (.agg #[.int .i64 r1, v1_]) ∧ Kd.S k43 43 w' w.heap.size (fun _ => True) v1_ r2 ∧ Below w.heap.size w w' := by
  unfold evindex_Build.f at h
  by_cases c : l0.length ≤ 60 ∧ ∀ x ∈ l0, (Lit.int .i64 x.f0).wf = true ∧ (Lit.int .i64 x.f2.f0).wf = true
  · rw [if_pos c] at h
    obtain ⟨rfl, rfl⟩ : (l0.length : Int) = r1 ∧ buildF l0 l0.length = r2 := by simpa using h
    refine build_walk A0 c0 l0 w hr0 hc0 c.1 (fun i hi => ?_)
    have : rd_T47 l0 (i : Int) = l0[i] := by
      unfold rd_T47
      rw [Int.toNat_natCast, List.getD_eq_getElem?_getD, List.getElem?_eq_getElem hi]
      rfl
    rw [this]
    exact c.2 _ (List.getElem_mem hi)
  · rw [if_neg c] at h
    cases h
end Go.Proofs.Yteifekndhgkgcaa.H
