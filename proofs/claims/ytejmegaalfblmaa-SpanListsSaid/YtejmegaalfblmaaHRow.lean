/- A row of spans that a sort rewrites: what it holds before and behind; no condition. -/
import Derived.Test.YtejmegaalfblmaaH0
import Derived.Shelf.GgSortFunc.RowK
namespace Go.Proofs.Ytejmegaalfblmaa.H
open Go.RowKit Go.Proofs.YtejmegaalfblmaaW.PrintWords Go.Proofs.YtejmegaalfblmaaW.PrintLast Go.Proofs.YtejmegaalfblmaaW.PrintMore
instance : Inhabited S25 := ⟨z25⟩
def encS (x : S25) : List Value := [.int .i64 x.f0, .int .i64 x.f1]
theorem R_cells {w : World} {base : Nat} {ok : Nat → Prop} {v : Value} {xs : List S25} (h : k25.R 25 w base ok v xs) (hp : 0 < xs.length) :
    ∃ g cap cur, v = .slice (some ⟨g, 0, none⟩) xs.length cap ∧ base ≤ g ∧ w.heap[g]? = some (.cells cur 25 (0, 0)) ∧ xs.length ≤ cap ∧ cap ≤ maxLen ∧ cur.size = cap * 2 ∧ (∀ k, v.ownBlock = some k → ok k) ∧
      ∀ j x, xs[j]? = some x → cur[j * 2]? = some (.int .i64 x.f0) ∧ cur[j * 2 + 1]? = some (.int .i64 x.f1) := by
  obtain ⟨h0, inner, ho, hr⟩ := h
  obtain ⟨hl, hh⟩ := ho
  rcases hh with ⟨_, e⟩ | ⟨g, cap, cur, e, hb, hc, h1, h2, h3, h4⟩
  · omega
  · refine ⟨g, cap, cur, e, hb, hc, h1, h2, h3, h0, fun j x hj => ?_⟩
    have hm := k25_openM (hr.2 j x hj)
    have hjl := (List.getElem?_eq_some_iff.1 hj).1
    have h4' : cur.toList.take (xs.length * 2) = inner := h4
    have e0 : ((inner.drop (j * 2)).take 2)[0]? = some (.int .i64 x.f0) := by
      have := congrArg (·[0]?) hm
      exact this
    have e1 : ((inner.drop (j * 2)).take 2)[1]? = some (.int .i64 x.f1) := by
      have := congrArg (·[1]?) hm
      exact this
    rw [← h4'] at e0 e1
    simp only [List.getElem?_take, List.getElem?_drop, Array.getElem?_toList] at e0 e1
    rw [if_pos (by omega), if_pos (by omega)] at e0 e1
    exact ⟨e0, e1⟩
theorem holds_of_R {w : World} {g : Nat} {cur : Array Value} {xs : List S25} (hc : w.heap[g]? = some (.cells cur 25 (0, 0)))
    (hx : ∀ j x, xs[j]? = some x → cur[j * 2]? = some (.int .i64 x.f0) ∧ cur[j * 2 + 1]? = some (.int .i64 x.f1)) : Sort.HoldsK encS 2 w g 0 xs.toArray := by
  intro j hj
  rw [Sort.size_flatK] at hj
  rw [Sort.get_flatK _ _ _ _ hj]
  refine ⟨?_, blk_frozen hc _⟩
  rw [blk_cell hc]
  have hq : j / 2 < xs.length := by simp at hj; omega
  have hg : xs[j / 2]? = some xs[j / 2] := List.getElem?_eq_getElem hq
  have hb : xs.toArray[j / 2]! = xs[j / 2] := by simp [hq]
  obtain ⟨a, b⟩ := hx _ _ hg
  rw [hb]
  rcases Nat.mod_two_eq_zero_or_one j with h | h
  · rw [show 0 + j = j / 2 * 2 by omega, a, h]
    rfl
  · rw [show 0 + j = j / 2 * 2 + 1 by omega, b, h]
    rfl
/-- behind the sort: the row holds what was put -/
theorem R_sorted {w : World} {base : Nat} {ok : Nat → Prop} {v : Value} {xs : List S25} {g cap : Nat} (h : k25.R 25 w base ok v xs) (hp : 0 < xs.length) (hv : v = .slice (some ⟨g, 0, none⟩) xs.length cap) (d : Array S25) (hd : d.size = xs.length) (q : Nat) (os : Array Obj) :
    k25.R 25 (Sort.grow (Sort.putRowK encS 2 (Sort.ahead w q) g 0 d) os) base ok v d.toList := by
  obtain ⟨g', cap', cur, e, hb, hc, h1, h2, h3, h0, hx⟩ := R_cells h hp
  rw [hv] at e
  have e1 : g = g' ∧ cap = cap' := by
    injection e with e1 e2 e3
    injection e1 with e1
    injection e1 with e1
    exact ⟨e1, e3⟩
  obtain ⟨rfl, rfl⟩ := e1
  clear e
  have hlt : g < w.heap.size := blk_lt hc
  obtain ⟨cur', hcur⟩ : ∃ c, c = Sort.putCells id 0 (Sort.flatK encS 2 d) cur := ⟨_, rfl⟩
  have hnew : (Sort.grow (Sort.putRowK encS 2 (Sort.ahead w q) g 0 d) os).heap[g]? = some (.cells cur' 25 (0, 0)) := by
    rw [Sort.heap_grow_old _ _ (by unfold Sort.putRowK; rw [Sort.size_putRow]; exact hlt)]
    unfold Sort.putRowK Sort.putRow Sort.mapBlock Sort.ahead
    simp only [Array.getElem?_modify, if_true, hc, Option.map_some, hcur]
    rfl
  have hs : cur'.size = cur.size := by rw [hcur]; simp [Sort.putCells]
  have hcell : ∀ j x, d.toList[j]? = some x → cur'[j * 2]? = some (.int .i64 x.f0) ∧ cur'[j * 2 + 1]? = some (.int .i64 x.f1) := by
    intro j x hj
    have hjl : j < d.size := by have := (List.getElem?_eq_some_iff.1 hj).1; simpa using this
    have hx' : d[j]! = x := by
      have := hj
      rw [Array.getElem?_toList, Array.getElem?_eq_getElem hjl] at this
      rw [getElem!_pos d j hjl]
      exact Option.some.inj this
    have key : ∀ t, t < d.size * 2 → cur'[t]? = some ((encS d[t / 2]!)[t % 2]!) := by
      intro t ht
      have htc : t < cur.size := by omega
      rw [hcur]
      simp only [Sort.putCells, Array.getElem?_mapIdx, Array.getElem?_eq_getElem htc, Option.map_some]
      rw [if_pos ⟨Nat.zero_le _, by rw [Sort.size_flatK]; omega⟩, Nat.sub_zero, Sort.get_flatK _ _ _ _ ht]
      rfl
    refine ⟨?_, ?_⟩
    · rw [key _ (by omega), show j * 2 / 2 = j by omega, show j * 2 % 2 = 0 by omega, hx']
      rfl
    · rw [key _ (by omega), show (j * 2 + 1) / 2 = j by omega, show (j * 2 + 1) % 2 = 1 by omega, hx']
      rfl
  have hdl : d.toList.length = d.size := by simp
  refine ⟨h0, cur'.toList.take (d.size * 2), ⟨?_, .inr ⟨g, cap, cur', by rw [hv, hdl, hd], hb, hnew, by rw [hdl, hd]; exact h1, h2, by rw [hs]; exact h3, by rw [hdl]; rfl⟩⟩, ⟨?_, fun j x hj => ?_⟩⟩
  · show (cur'.toList.take (d.size * 2)).length = d.toList.length * 2
    rw [List.length_take, Array.length_toList, hdl]
    omega
  · show (cur'.toList.take (d.size * 2)).length = d.toList.length * 2
    rw [List.length_take, Array.length_toList, hdl]
    omega
  · have hjl : j < d.size := by have := (List.getElem?_eq_some_iff.1 hj).1; simpa using this
    obtain ⟨a, b⟩ := hcell j x hj
    have e : ((cur'.toList.take (d.size * 2)).drop (j * 2)).take 2 = [.int .i64 x.f0, .int .i64 x.f1] := by
      apply List.ext_getElem?
      intro i
      rcases i with _ | _ | i
      · simp only [List.getElem?_take, List.getElem?_drop, Array.getElem?_toList]
        rw [if_pos (by omega), if_pos (by omega)]
        exact a
      · simp only [List.getElem?_take, List.getElem?_drop, Array.getElem?_toList]
        rw [if_pos (by omega), if_pos (by omega)]
        exact b
      · simp only [List.getElem?_take]
        rw [if_neg (by omega)]
        rfl
    show k25.M _ _ _ x (((cur'.toList.take (d.size * 2)).drop (j * 2)).take 2)
    rw [e]
    exact k25_mkM _ _ _ x
theorem below_sorted {w0 w : World} {base : Nat} (hB : Below base w0 w) {g : Nat} (hg : base ≤ g) (hbase : base ≤ w.heap.size) (d : Array S25) (q : Nat) (os : Array Obj) : Below base w0 (Sort.grow (Sort.putRowK encS 2 (Sort.ahead w q) g 0 d) os) := by
  refine ⟨hB.os, hB.tape, hB.output, ?_, fun k hk => ?_⟩
  · refine Nat.le_trans hB.size ?_
    unfold Sort.grow Sort.putRowK
    simp only [Array.size_append, Sort.size_putRow]
    show w.heap.size ≤ w.heap.size + os.size
    omega
  · rw [Sort.heap_grow_old _ _ (by unfold Sort.putRowK; rw [Sort.size_putRow]; show k < w.heap.size; omega)]
    rw [← hB.block k hk]
    unfold Sort.putRowK Sort.putRow Sort.mapBlock Sort.ahead
    simp only [Array.getElem?_modify]
    rw [if_neg (by omega)]
end Go.Proofs.Ytejmegaalfblmaa.H
