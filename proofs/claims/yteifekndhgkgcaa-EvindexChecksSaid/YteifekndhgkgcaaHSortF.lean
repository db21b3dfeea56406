/- slices.SortFunc with evindex.order over slots: the row becomes ascending; for rows of slots of different node or kind. -/
import Derived.Test.YteifekndhgkgcaaHOrder
import Derived.Test.YteifekndhgkgcaaHPutF
import Derived.Shelf.SlSortCmp.NoneTotal
namespace Go.Proofs.Yteifekndhgkgcaa.H
open Go.RowKit Go.Proofs.YteifekndhgkgcaaW.PrintWords Go.Proofs.YteifekndhgkgcaaW.PrintLast Go.Proofs.YteifekndhgkgcaaW.PrintMore
open Go.Shelf Go.Lib Go.Sort
set_option linter.unusedSimpArgs false
set_option linter.unusedVariables false
structure Ent where
 a : Int
 c : Int
 A : Option Addr
 n : Nat
 cap : Nat
instance : Inhabited Ent := ⟨⟨0, 0, none, 0, 0⟩⟩
def Ent.v (x : Ent) : Value := .slice x.A x.n x.cap
def encE (x : Ent) : List Value := [.int .i64 x.a, .int .i64 x.c, x.v]
def cfE (x y : Ent) : Int := ordI (x.a, x.c) (y.a, y.c)
theorem lt_cfE (x y : Ent) : ltOf cfE x y = true ↔ befK x.a x.c y.a y.c := by
  unfold ltOf cfE ordI Lib.compareInt befK
  simp only [decide_eq_true_eq]
  split <;> split <;> (try split) <;> (try split) <;> omega
theorem ltn_cfE (x y : Ent) : ltOf cfE x y = false ↔ ¬ befK x.a x.c y.a y.c := by
  rw [← lt_cfE]
  cases ltOf cfE x y <;> simp
theorem swo_cfE : Sort.SWO (ltOf cfE) where
  irrefl := fun x => by rw [ltn_cfE]; unfold befK; omega
  trans := fun x y z h1 h2 => by rw [lt_cfE] at *; unfold befK at *; omega
  ntrans := fun x y z h1 h2 => by rw [ltn_cfE] at *; unfold befK at *; omega
theorem len_flat : ∀ l : List Ent, (l.flatMap encE).length = l.length * 3
  | [] => rfl
  | x :: l => by rw [List.flatMap_cons, List.length_append, len_flat l, List.length_cons]; simp [encE]; omega
theorem get_flat : ∀ (l : List Ent) (t : Nat), t < l.length * 3 → (l.flatMap encE)[t]? = some ((encE (l[t / 3]?.getD default))[t % 3]!)
  | [], t, h => by simp at h
  | x :: l, t, h => by
    rw [List.flatMap_cons]
    have h3 : (encE x).length = 3 := rfl
    rcases Nat.lt_or_ge t 3 with h1 | h1
    · rw [List.getElem?_append_left (by omega), show t / 3 = 0 by omega, show t % 3 = t by omega]
      match t, h1 with
      | 0, _ => rfl
      | 1, _ => rfl
      | 2, _ => rfl
    · have := get_flat l (t - 3) (by simp at h; omega)
      rw [List.getElem?_append_right (by omega), h3, this, show (t - 3) % 3 = t % 3 by omega, show t / 3 = (t - 3) / 3 + 1 by omega, List.getElem?_cons_succ]
theorem take_flat (cur : Array Value) (d : Array Ent) (h : d.size * 3 ≤ cur.size) : (Sort.putCells id 0 (Sort.flatK encE 3 d) cur).toList.take (d.size * 3) = d.toList.flatMap encE := by
  apply List.ext_getElem?
  intro t
  rcases Nat.lt_or_ge t (d.size * 3) with ht | ht
  · rw [List.getElem?_take, if_pos ht, get_flat _ _ (by simpa using ht)]
    simp only [Sort.putCells, Array.getElem?_toList, Array.getElem?_mapIdx, Array.getElem?_eq_getElem (show t < cur.size by omega), Option.map_some]
    rw [if_pos ⟨Nat.zero_le _, by rw [Sort.size_flatK]; omega⟩, Nat.sub_zero, Sort.get_flatK _ _ _ _ ht]
    have : d[t / 3]! = (d.toList[t / 3]?).getD default := by
      rw [Array.getElem?_toList, Array.getElem?_eq_getElem (by omega), getElem!_pos d _ (by omega)]
      rfl
    rw [Array.getElem?_toList] at this
    rw [this]
    rfl
  · rw [List.getElem?_eq_none (by rw [List.length_take]; omega), List.getElem?_eq_none (by rw [len_flat]; simpa using ht)]
theorem holds_row {w : World} {g : Nat} {cur : Array Value} {ents : List Ent} (hc : w.heap[g]? = some (.cells cur 43 (0, 0))) (h4 : cur.toList.take (ents.length * 3) = ents.flatMap encE) : Sort.HoldsK encE 3 w g 0 ents.toArray := by
  intro j hj
  rw [Sort.size_flatK] at hj
  have hj' : j < ents.length * 3 := by simpa using hj
  rw [Sort.get_flatK _ _ _ _ hj]
  refine ⟨?_, blk_frozen hc _⟩
  rw [blk_cell hc, Nat.zero_add]
  have := get_flat ents j hj'
  rw [← h4, List.getElem?_take, if_pos hj', Array.getElem?_toList] at this
  rw [this]
  have hq : j / 3 < ents.length := by omega
  simp [hq]
theorem pw_of {d : Array Ent} (h : Sort.SortedIn (ltOf cfE) 0 d.size d) (hd : d.toList.Pairwise fun x y => x.a ≠ y.a ∨ x.c ≠ y.c) : d.toList.Pairwise fun x y => befK x.a x.c y.a y.c := by
  rw [List.pairwise_iff_getElem] at hd ⊢
  intro i j hi hj hij
  have hi' : i < d.size := by simpa using hi
  have hj' : j < d.size := by simpa using hj
  have h1 := h i j (Nat.zero_le _) hij hj'
  rw [getElem!_pos d i hi', getElem!_pos d j hj', ltn_cfE] at h1
  have h2 := hd i j hi hj hij
  simp only [Array.getElem_toList] at h2 ⊢
  unfold befK at *
  omega
set_option maxHeartbeats 1000000 in
theorem sortF_any (base : Nat) (W : World) (V : Value) (ents : List Ent) (hown : W.ownsRow base 43 3 V ents.length (ents.flatMap encE)) (hsz : ents.length < 4611686018427387904) (hd : ents.Pairwise fun x y => x.a ≠ y.a ∨ x.c ≠ y.c) :
    Calls Try.prog 24 #[V, .func (.func 25) #[] #[]] W fun e w' =>
      e = .returned (.tuple #[]) ∧ ∃ d : List Ent, d.Perm ents ∧ d.Pairwise (fun x y => befK x.a x.c y.a y.c) ∧ w'.ownsRow base 43 3 V d.length (d.flatMap encE) ∧ W.grownBy w' V.ownBlock := by
  obtain ⟨hlen, hown⟩ := hown
  rcases hown with ⟨rfl, h0⟩ | ⟨g, cap, cur, rfl, hg, hc, h1, h2, h3, h4⟩
  · have he : ents = [] := List.eq_nil_of_length_eq_zero h0
    subst he
    have := AnyF.slices_SortFunc_none Try.laysSF none 0 (.func (.func 25) #[] #[]) W
    refine this.mono fun e w' ⟨he, hw⟩ => ⟨he, [], List.Perm.refl _, List.Pairwise.nil, ?_, ?_⟩
    · exact ⟨rfl, .inl ⟨rfl, rfl⟩⟩
    · rw [hw]
      exact World.grownBy.refl _ _
  · have hs : ents.toArray.size = ents.length := by simp
    have hlt : g < W.heap.size := blk_lt hc
    have hcmp : CmpLays Try.prog 25 #[] encE 3 cfE g 0 ents.toArray.size W := by
      intro m os dk hdk x y
      exact (order25 (x.a, x.c) (y.a, y.c) x.v y.v _).mono fun e w' ⟨he, q, os', hw⟩ => ⟨he, q, os', hw⟩
    have := AnyQ.slices_SortFunc Try.laysSF 3 (fun _ => by kernel_rfl) (fun _ => by kernel_rfl) encE (fun _ => rfl) (fun x v hv => by simp [encE, Ent.v] at hv; rcases hv with rfl | rfl | rfl <;> rfl) cfE swo_cfE 25 #[] g 0 cap ents.toArray W
      (enters_of Try.func25 (by kernel_rfl) rfl) hcmp (holds_row hc h4) hlt (by omega)
    rw [hs] at this
    refine this.mono fun e w' ⟨he, d', n, os, hp, hso, hw⟩ => ?_
    have hds : d'.size = ents.length := by rw [hp.1, hs]
    have hq := hp.2.2
    have e1 : d'.extract 0 ents.length = d' := by rw [← hds]; exact Array.extract_size
    have e2 : ents.toArray.extract 0 ents.length = ents.toArray := by rw [← hs]; exact Array.extract_size
    rw [e1, e2] at hq
    have hdl : d'.toList.length = d'.size := by simp
    have hd2 : d'.toList.Pairwise fun x y => x.a ≠ y.a ∨ x.c ≠ y.c := (hq.pairwise_iff (fun {_ _} h => by omega)).2 hd
    obtain ⟨cur', hcur⟩ : ∃ c, c = Sort.putCells id 0 (Sort.flatK encE 3 d') cur := ⟨_, rfl⟩
    have hnew : w'.heap[g]? = some (.cells cur' 43 (0, 0)) := by
      rw [hw]
      unfold sortWorldK
      rw [Sort.heap_grow_old _ _ (by unfold Sort.putRowK; rw [Sort.size_putRow]; exact hlt)]
      unfold Sort.putRowK Sort.putRow Sort.mapBlock Sort.ahead
      simp only [Array.getElem?_modify, if_true, hc, Option.map_some, hcur]
      rfl
    have hcs : cur'.size = cur.size := by rw [hcur]; simp [Sort.putCells]
    refine ⟨he, d'.toList, hq, pw_of (by rw [hds]; exact hso) hd2, ⟨by rw [len_flat], .inr ⟨g, cap, cur', by rw [hdl, hds], hg, hnew, by omega, h2, by omega, ?_⟩⟩, ?_⟩
    · rw [hdl, hcur]
      exact take_flat _ _ (by omega)
    · rw [hw]
      refine ⟨rfl, rfl, rfl, ?_, fun k hk hne => ?_⟩
      · unfold sortWorldK Sort.grow Sort.putRowK
        simp only [Array.size_append, Sort.size_putRow]
        show W.heap.size ≤ W.heap.size + os.size
        omega
      · unfold sortWorldK
        rw [Sort.heap_grow_old _ _ (by unfold Sort.putRowK; rw [Sort.size_putRow]; exact hk)]
        unfold Sort.putRowK Sort.putRow Sort.mapBlock Sort.ahead
        simp only [Array.getElem?_modify]
        rw [if_neg (fun e => hne (by rw [e]; rfl))]
end Go.Proofs.Yteifekndhgkgcaa.H
