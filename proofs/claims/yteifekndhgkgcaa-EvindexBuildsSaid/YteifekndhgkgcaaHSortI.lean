/- slices.Sort of numbers in a row of the call's own: the row becomes ascending; for rows of fewer than 2^62 numbers. -/
import Derived.Test.YteifekndhgkgcaaH0
import Derived.Test.YteifekndhgkgcaaHShelf
import Derived.Lib.SortBridge
import Derived.Sort.LotA
namespace Go.Proofs.Yteifekndhgkgcaa.H
open Go.RowKit Go.Proofs.YteifekndhgkgcaaW.PrintWords Go.Proofs.YteifekndhgkgcaaW.PrintLast Go.Proofs.YteifekndhgkgcaaW.PrintMore
open Go.Shelf Go.Lib
def insI (x : Int) : List Int → List Int
 | [] => [x]
 | y :: l => if x ≤ y then x :: y :: l else y :: insI x l
def isort : List Int → List Int
 | [] => []
 | x :: l => insI x (isort l)
theorem insI_perm (x : Int) : ∀ l, (insI x l).Perm (x :: l)
  | [] => List.Perm.refl _
  | y :: l => by
    unfold insI
    split
    · exact List.Perm.refl _
    · exact ((insI_perm x l).cons y).trans (List.Perm.swap x y l)
theorem isort_perm : ∀ l, (isort l).Perm l
  | [] => List.Perm.refl _
  | x :: l => (insI_perm x _).trans ((isort_perm l).cons x)
theorem insI_asc (x : Int) : ∀ l : List Int, l.Pairwise (· ≤ ·) → (insI x l).Pairwise (· ≤ ·)
  | [], _ => List.pairwise_singleton _ _
  | y :: l, h => by
    have h' := List.pairwise_cons.1 h
    unfold insI
    split
    · rename_i c
      refine List.pairwise_cons.2 ⟨fun u hu => ?_, h⟩
      rcases List.mem_cons.1 hu with rfl | hu
      · exact c
      · have := h'.1 u hu
        omega
    · rename_i c
      refine List.pairwise_cons.2 ⟨fun u hu => ?_, insI_asc x l h'.2⟩
      rcases List.mem_cons.1 ((insI_perm x l).mem_iff.1 hu) with rfl | hu
      · omega
      · exact h'.1 u hu
theorem isort_asc : ∀ l : List Int, (isort l).Pairwise (· ≤ ·)
  | [] => List.Pairwise.nil
  | x :: l => insI_asc x _ (isort_asc l)
theorem asc_unique : ∀ (a b : List Int), a.Pairwise (· ≤ ·) → b.Pairwise (· ≤ ·) → a.Perm b → a = b
  | [], b, _, _, h => (List.nil_perm.1 h).symm
  | x :: a, [], _, _, h => by simpa using h.length_eq
  | x :: a, y :: b, ha, hb, h => by
    have ha' := List.pairwise_cons.1 ha
    have hb' := List.pairwise_cons.1 hb
    have h1 : x ≤ y := by
      rcases List.mem_cons.1 (h.mem_iff.2 List.mem_cons_self) with e | e
      · omega
      · exact ha'.1 y e
    have h2 : y ≤ x := by
      rcases List.mem_cons.1 (h.mem_iff.1 List.mem_cons_self) with e | e
      · omega
      · exact hb'.1 x e
    have e : x = y := by omega
    subst e
    rw [asc_unique a b ha'.2 hb'.2 (List.perm_cons x |>.1 h)]
theorem mergeSort_isort (l : List Int) : (l.mergeSort fun x y => decide (x ≤ y)) = isort l := by
  refine asc_unique _ _ ?_ (isort_asc l) ((List.mergeSort_perm l _).trans (isort_perm l).symm)
  have := List.pairwise_mergeSort (le := fun x y : Int => decide (x ≤ y)) (fun a b c h1 h2 => by simp at *; omega) (fun a b => by simp; omega) l
  exact this.imp (fun h => by simpa using h)
theorem isort_len (l : List Int) : (isort l).length = l.length := (isort_perm l).length_eq
theorem I_cells {w : World} {base : Nat} {ok : Nat → Prop} {v : Value} {xs : List Int} (h : (Kd.int .i64).R 3 w base ok v xs) (hp : 0 < xs.length) :
    ∃ g cap cur, v = .slice (some ⟨g, 0, none⟩) xs.length cap ∧ base ≤ g ∧ w.heap[g]? = some (.cells cur 3 (0, 0)) ∧ xs.length ≤ cap ∧ cap ≤ maxLen ∧ cur.size = cap * 1 ∧ (∀ k, v.ownBlock = some k → ok k) ∧
      ∀ (j : Nat) (x : Int), xs[j]? = some x → cur[j]? = some (Value.int .i64 x) := by
  obtain ⟨h0, inner, ho, hr⟩ := h
  obtain ⟨hl, hh⟩ := ho
  rcases hh with ⟨_, e⟩ | ⟨g, cap, cur, e, hb, hc, h1, h2, h3, h4⟩
  · omega
  · refine ⟨g, cap, cur, e, hb, hc, h1, h2, h3, h0, fun j x hj => ?_⟩
    have hm : (inner.drop (j * 1)).take 1 = [Value.int .i64 x] := hr.2 j x hj
    have hjl := (List.getElem?_eq_some_iff.1 hj).1
    have h4' : cur.toList.take (xs.length * 1) = inner := h4
    have e0 : ((inner.drop (j * 1)).take 1)[0]? = some (Value.int .i64 x) := by rw [hm]; rfl
    rw [← h4'] at e0
    simp only [List.getElem?_take, List.getElem?_drop, Array.getElem?_toList] at e0
    rw [if_pos (by omega), if_pos (by omega), Nat.mul_one, Nat.add_zero] at e0
    exact e0
theorem holds_of_I {w : World} {g : Nat} {cur : Array Value} {xs : List Int} (hc : w.heap[g]? = some (.cells cur 3 (0, 0))) (hx : ∀ (j : Nat) (x : Int), xs[j]? = some x → cur[j]? = some (Value.int .i64 x)) :
    Sort.Holds (Value.int .i64) w g 0 xs.toArray := by
  intro j hj
  refine ⟨?_, blk_frozen hc _⟩
  have hj' : j < xs.length := by simpa using hj
  rw [blk_cell hc, Nat.zero_add, hx j xs[j] (List.getElem?_eq_getElem hj')]
  simp [hj']
theorem I_sorted {w : World} {base : Nat} {ok : Nat → Prop} {v : Value} {xs : List Int} {g cap : Nat} (h : (Kd.int .i64).R 3 w base ok v xs) (hp : 0 < xs.length) (hv : v = .slice (some ⟨g, 0, none⟩) xs.length cap) (d : List Int) (hd : d.length = xs.length) (q : Nat) (os : Array Obj) :
    (Kd.int .i64).R 3 (Sort.grow (Sort.putRow (Value.int .i64) (Sort.ahead w q) g 0 d.toArray) os) base ok v d := by
  obtain ⟨g', cap', cur, e, hb, hc, h1, h2, h3, h0, hx⟩ := I_cells h hp
  rw [hv] at e
  have e1 : g = g' ∧ cap = cap' := by
    injection e with e1 e2 e3
    injection e1 with e1
    injection e1 with e1
    exact ⟨e1, e3⟩
  obtain ⟨rfl, rfl⟩ := e1
  clear e
  have hlt : g < w.heap.size := blk_lt hc
  obtain ⟨cur', hcur⟩ : ∃ c, c = Sort.putCells (Value.int .i64) 0 d.toArray cur := ⟨_, rfl⟩
  have hnew : (Sort.grow (Sort.putRow (Value.int .i64) (Sort.ahead w q) g 0 d.toArray) os).heap[g]? = some (.cells cur' 3 (0, 0)) := by
    rw [Sort.heap_grow_old _ _ (by rw [Sort.size_putRow]; exact hlt)]
    unfold Sort.putRow Sort.mapBlock Sort.ahead
    simp only [Array.getElem?_modify, if_true, hc, Option.map_some, hcur]
    rfl
  have hs : cur'.size = cur.size := by rw [hcur]; simp [Sort.putCells]
  have hcell : ∀ (j : Nat) (x : Int), d[j]? = some x → cur'[j]? = some (Value.int .i64 x) := by
    intro j x hj
    have hjl := (List.getElem?_eq_some_iff.1 hj)
    obtain ⟨hjl, hjx⟩ := hjl
    have htc : j < cur.size := by omega
    rw [hcur]
    simp only [Sort.putCells, Array.getElem?_mapIdx, Array.getElem?_eq_getElem htc, Option.map_some]
    rw [if_pos ⟨Nat.zero_le _, by simpa using hjl⟩, Nat.sub_zero]
    simp [hjl, hjx]
  refine ⟨h0, cur'.toList.take (d.length * 1), ⟨?_, .inr ⟨g, cap, cur', by rw [hv, hd], hb, hnew, by rw [hd]; exact h1, h2, by rw [hs]; exact h3, rfl⟩⟩, ⟨?_, fun j x hj => ?_⟩⟩
  · show (cur'.toList.take (d.length * 1)).length = d.length * 1
    have hcl : cur'.toList.length = cur'.size := Array.length_toList
    rw [List.length_take, hcl]
    omega
  · show (cur'.toList.take (d.length * 1)).length = d.length * 1
    have hcl : cur'.toList.length = cur'.size := Array.length_toList
    rw [List.length_take, hcl]
    omega
  · have hjl := (List.getElem?_eq_some_iff.1 hj).1
    have a := hcell j x hj
    show ((cur'.toList.take (d.length * 1)).drop (j * 1)).take 1 = [Value.int .i64 x]
    apply List.ext_getElem?
    intro i
    rcases i with _ | i
    · simp only [List.getElem?_take, List.getElem?_drop, Array.getElem?_toList]
      rw [if_pos (by omega), if_pos (by omega), Nat.mul_one]
      exact a
    · simp only [List.getElem?_take]
      rw [if_neg (by omega)]
      rfl
theorem below_sortedI {w0 w : World} {base : Nat} (hB : Below base w0 w) {g : Nat} (hg : base ≤ g) (hbase : base ≤ w.heap.size) (d : Array Int) (q : Nat) (os : Array Obj) : Below base w0 (Sort.grow (Sort.putRow (Value.int .i64) (Sort.ahead w q) g 0 d) os) := by
  refine ⟨hB.os, hB.tape, hB.output, ?_, fun k hk => ?_⟩
  · refine Nat.le_trans hB.size ?_
    unfold Sort.grow
    simp only [Array.size_append, Sort.size_putRow]
    show w.heap.size ≤ w.heap.size + os.size
    omega
  · rw [Sort.heap_grow_old _ _ (by rw [Sort.size_putRow]; show k < w.heap.size; omega)]
    rw [← hB.block k hk]
    unfold Sort.putRow Sort.mapBlock Sort.ahead
    simp only [Array.getElem?_modify]
    rw [if_neg (by omega)]
theorem sort_ints (base : Nat) (ok : Nat → Prop) (w0 W : World) (v : Value) (xs : List Int) (hR : (Kd.int .i64).R 3 W base ok v xs) (hB : Below base w0 W) (hbase : base ≤ W.heap.size) (hsz : xs.length < 4611686018427387904) :
    Calls Try.prog 31 #[v] W fun e w' => e = .returned (.tuple #[]) ∧ (Kd.int .i64).R 3 w' base ok v (isort xs) ∧ Below base w0 w' := by
  by_cases h0 : 0 < xs.length
  · obtain ⟨g, cap, cur, hv, hg, hc, h1, h3, h4, _, hx⟩ := I_cells hR h0
    have := Any.slices_Sort_int Try.lays189 g 0 cap xs W (holds_of_I hc hx) (blk_lt hc) hsz
    rw [← hv] at this
    refine this.mono fun e w' ⟨he, n, os, hw⟩ => ?_
    rw [mergeSort_isort] at hw
    rw [hw]
    exact ⟨he, I_sorted hR h0 hv (isort xs) (isort_len xs) n os, below_sortedI hB hg hbase _ n os⟩
  · have hl : xs = [] := List.eq_nil_of_length_eq_zero (by omega)
    subst hl
    obtain ⟨A, c, hv⟩ := Kd.R_slice hR
    have := Any.slices_Sort_int_none Try.lays189 A c W
    rw [hv]
    refine this.mono fun e w' ⟨he, hw⟩ => ?_
    subst hw
    rw [← hv]
    exact ⟨he, hR, hB⟩
end Go.Proofs.Yteifekndhgkgcaa.H
