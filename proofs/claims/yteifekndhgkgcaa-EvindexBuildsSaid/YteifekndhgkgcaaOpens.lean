/- What can be read as data, read as the printed functions' own lists and structures; no condition. -/
import Derived.Test.YteifekndhgkgcaaWMore
import Derived.ChangeArms
import Derived.SizedLaws
import Derived.WalkKit
import Derived.ProofKit
import Derived.OpenShut
import Derived.ShutString
import Derived.ChangeOld
import Derived.Below
import Derived.KernelRfl
namespace Go.Proofs.Yteifekndhgkgcaa.Opn
open Go.RowKit Go.Proofs.YteifekndhgkgcaaW.PrintWords
def Small {H : Type} (P : Program) (t : TypeId) (d : DataW H) : Prop := ∀ n ∈ d.weights P t, n ≤ reachBytes
structure Opens {α : Type} (P : Program) (t : TypeId) (d : Kd α) (ok : α → Prop) : Prop where
  op : ∀ {H : Type} (enc : TypeId × Value → H) (w : World) (base : Nat) (spare : Nat → Bool) (held : Bool) (fuel : Nat) (cs : List Value) (x : DataW H × List MemPlace),
    DataW.trod enc P w base spare held fuel t cs = some x → Small P t x.1 → ∃ a, d.K w a cs ∧ ok a
section
variable {P : Program} {t : TypeId}
theorem opens_int {k : IntKind} (ht : P.underlying t = some (.int k)) : Opens P t (Kd.int k) (fun n => (Lit.int k n).wf = true) :=
  ⟨fun enc w base spare held fuel cs x h _ => by
    obtain ⟨n, rfl, _, hw⟩ := DataW.trod_int ht h
    exact ⟨n, rfl, hw⟩⟩
theorem opens_bool (ht : P.underlying t = some .bool) : Opens P t Kd.bool (fun _ => True) :=
  ⟨fun enc w base spare held fuel cs x h _ => by
    obtain ⟨n, rfl, _⟩ := DataW.trod_bool ht h
    exact ⟨n, rfl, trivial⟩⟩
theorem opens_string (ht : P.underlying t = some .string) : Opens P t Kd.string (fun s => s.size ≤ 140737488351232) :=
  ⟨fun enc w base spare held fuel cs x h hs => by
    obtain ⟨s, rfl, rfl, _⟩ := DataW.trod_string ht h
    refine ⟨s, rfl, ?_⟩
    have := hs s.data.toList.length (by simp [DataW.weights])
    rw [Array.length_toList] at this
    exact this⟩
theorem small_all {H : Type} {e : TypeId} {l : List (DataW H)} {d : DataW H} (hd : d ∈ l) {n : Nat} (hn : n ∈ d.weights P e) : n ∈ DataW.weightsAll P e l := by
  induction l with
  | nil => cases hd
  | cons y l ih =>
    simp only [DataW.weightsAll, List.mem_append]
    rcases List.mem_cons.1 hd with rfl | hd
    · exact Or.inl hn
    · exact Or.inr (ih hd)
theorem cells_get {w : World} {base n : Nat} {a : Addr} {c : List Value} (h : w.cells? base a n = some c) : c.length = n ∧ ∀ i u, c[i]? = some u → w.cell? (a.add i) = some u := by
  unfold World.cells? at h
  split at h
  · refine ⟨by simpa using mapM_some_length h, fun i u hu => ?_⟩
    have hi : i < n := by
      have h1 := (List.getElem?_eq_some_iff.1 hu).1
      have h2 := mapM_some_length h
      rw [List.length_range] at h2
      omega
    have := mapM_some_get h i i (List.getElem?_range hi)
    rw [this, hu]
  · cases h
theorem choose_list {α : Type} {p : Nat → α → Prop} : ∀ (n : Nat), (∀ i, i < n → ∃ x, p i x) → ∃ xs : List α, xs.length = n ∧ ∀ i x, xs[i]? = some x → p i x := by
  intro n
  induction n with
  | zero => intro _; exact ⟨[], rfl, fun i x h => by simp at h⟩
  | succ n ih =>
    intro h
    obtain ⟨xs, hl, hx⟩ := ih (fun i hi => h i (by omega))
    obtain ⟨x, hp⟩ := h n (by omega)
    refine ⟨xs ++ [x], by simp [hl], fun i y hy => ?_⟩
    rcases Nat.lt_or_ge i n with hi | hi
    · rw [List.getElem?_append_left (by omega)] at hy
      exact hx i y hy
    · have hi' : i = n := by
        have := (List.getElem?_eq_some_iff.1 hy).1
        rw [List.length_append, List.length_singleton] at this
        omega
      subst hi'
      rw [List.getElem?_append_right (by omega), hl, Nat.sub_self] at hy
      simp at hy
      subst hy
      exact hp
theorem opens_slice {α : Type} {d : Kd α} {ok : α → Prop} {e : TypeId} (ht : P.underlying t = some (.slice e)) (hc : P.cellsOf e = d.sz) (h : Opens P e d ok) :
    Opens P t (Kd.slice e d) (fun xs => xs.length ≤ 9223372036854775807 ∧ xs.length * P.bytesOf e ≤ 140737488351232 ∧ ∀ x ∈ xs, ok x) := by
  refine ⟨fun enc w base spare held fuel cs x hx hs => ?_⟩
  rcases DataW.trod_slice ht hx with ⟨rfl, rfl⟩ | ⟨a, len, cap, elems, rest, n, _, rfl, rfl, hb, hl, hm, hlen, hel, hsp, hns⟩
  · exact ⟨[], ⟨none, 0, rfl, Nat.le_refl _, rfl, by simp, fun hp => absurd hp (by simp)⟩, by simp, by simp, fun _ hx => by cases hx⟩
  · have key : ∀ i, i < len → ∃ y : α, (∃ c, c.length = d.sz ∧ d.K w y c ∧ ∀ j u, c[j]? = some u → w.cell? (a.add (i * d.sz + j)) = some u) ∧ ok y := by
      intro i hi
      have h1 := hel i hi
      rw [hc] at h1
      have h2 : elems[i]? = some (elems[i]'(by omega)) := List.getElem?_eq_getElem (by omega)
      rw [h2] at h1
      obtain ⟨c, hc1, hc2⟩ := Option.bind_eq_some_iff.1 h1
      obtain ⟨hcl, hcc⟩ := cells_get hc1
      obtain ⟨y, hK, hok⟩ := h.op enc w base spare held n c _ hc2 (fun m hm => hs m (by
        simp only [DataW.weights, ht, List.mem_cons, List.mem_append]
        exact Or.inr (Or.inl (small_all (List.mem_map_of_mem (List.getElem_mem _)) hm))))
      refine ⟨y, ⟨c, hcl, hK, fun j u hu => ?_⟩, hok⟩
      have := hcc j u hu
      have hadd : (a.add (i * d.sz)).add j = a.add (i * d.sz + j) := by
        unfold Addr.add
        split <;> split <;> simp_all <;> omega
      rw [hadd] at this
      exact this
    obtain ⟨xs, hxl, hxs⟩ := choose_list len key
    subst hxl
    have hw := hs ((elems.length + rest.length) * P.bytesOf e) (by simp [DataW.weights, ht])
    have hbytes : xs.length * P.bytesOf e ≤ 140737488351232 := Nat.le_trans (Nat.mul_le_mul_right _ (by omega)) hw
    unfold maxLen at hm
    refine ⟨xs, ⟨some a, cap, rfl, hl, rfl, by omega, fun _ => ⟨a, rfl, fun j p hj => (hxs j p hj).1⟩⟩, by omega, hbytes, fun x hx => ?_⟩
    obtain ⟨i, hi⟩ := List.mem_iff_getElem?.1 hx
    exact (hxs i x hi).2
theorem opens_iso {α β : Type} {d : Kd α} {ok : α → Prop} (h : Opens P t d ok) {f : β → α} (g : α → β) (hg : ∀ a, f (g a) = a) : Opens P t (Kd.iso d f) (fun b => ok (f b)) :=
  ⟨fun enc w base spare held fuel cs x hx hs => by
    obtain ⟨a, hK, hok⟩ := h.op enc w base spare held fuel cs x hx hs
    refine ⟨g a, ?_, ?_⟩
    · show d.K w (f (g a)) cs
      rw [hg]; exact hK
    · show ok (f (g a))
      rw [hg]; exact hok⟩
theorem opens_mono {α : Type} {d : Kd α} {ok ok' : α → Prop} (h : Opens P t d ok) (hm : ∀ a, ok a → ok' a) : Opens P t d ok' :=
  ⟨fun enc w base spare held fuel cs x hx hs => by
    obtain ⟨a, hK, hok⟩ := h.op enc w base spare held fuel cs x hx hs
    exact ⟨a, hK, hm a hok⟩⟩
/-- the fields of a structure, from a cell on -/
structure OpensF {α : Type} (P : Program) (fs : List Field) (off : Nat) (d : Kd α) (ok : α → Prop) : Prop where
  op : ∀ {H : Type} (enc : TypeId × Value → H) (w : World) (base : Nat) (spare : Nat → Bool) (held : Bool) (n : Nat) (cs : List Value) (xs : List (DataW H × List MemPlace)), cs.length = off + d.sz → xs.length = fs.length →
    (∀ (i : Nat) (f : Field), fs[i]? = some f → DataW.trod enc P w base spare held n f.type ((cs.drop f.offset).take (P.cellsOf f.type)) = xs[i]?) →
    (∀ m ∈ DataW.weightsEach P (fs.map (·.type)) (xs.map (·.1)), m ≤ reachBytes) → ∃ a, d.K w a (cs.drop off) ∧ ok a
theorem opensF_one {α : Type} {d : Kd α} {ok : α → Prop} {f : Field} {off : Nat} (ho : f.offset = off) (hc : P.cellsOf f.type = d.sz) (h : Opens P f.type d ok) : OpensF P [f] off d ok := by
  refine ⟨fun enc w base spare held n cs xs hl hx hf hs => ?_⟩
  obtain ⟨y, rfl⟩ : ∃ y, xs = [y] := by
    cases xs with
    | nil => simp at hx
    | cons y ys => cases ys with
      | nil => exact ⟨y, rfl⟩
      | cons z zs => simp at hx
  have h0 := hf 0 f rfl
  rw [ho, hc, List.take_of_length_le (by rw [List.length_drop]; omega)] at h0
  exact h.op enc w base spare held n _ y h0 (fun m hm => hs m (by simpa [DataW.weightsEach] using hm))
theorem opensF_cons {α β : Type} {d : Kd α} {ok : α → Prop} {d2 : Kd β} {ok2 : β → Prop} {f : Field} {fs : List Field} {off : Nat} (ho : f.offset = off) (hc : P.cellsOf f.type = d.sz) (h : Opens P f.type d ok)
    (h2 : OpensF P fs (off + d.sz) d2 ok2) : OpensF P (f :: fs) off (Kd.pair d d2) (fun p => ok p.1 ∧ ok2 p.2) := by
  refine ⟨fun enc w base spare held n cs xs hl hx hf hs => ?_⟩
  cases xs with
  | nil => simp at hx
  | cons y ys =>
    have h0 := hf 0 f rfl
    rw [ho, hc] at h0
    obtain ⟨a, hK, hok⟩ := h.op enc w base spare held n _ y h0 (fun m hm => hs m (by
      simp only [List.map_cons, DataW.weightsEach, List.mem_append]
      exact Or.inl hm))
    have hl' : cs.length = off + (d.sz + d2.sz) := hl
    obtain ⟨b, hK2, hok2⟩ := h2.op enc w base spare held n cs ys (by omega) (by simpa using hx) (fun i g hg => hf (i + 1) g hg) (fun m hm => hs m (by
      simp only [List.map_cons, DataW.weightsEach, List.mem_append]
      exact Or.inr hm))
    refine ⟨(a, b), ⟨(cs.drop off).take d.sz, cs.drop (off + d.sz), ?_, hK, hK2⟩, hok, hok2⟩
    rw [← List.drop_drop, List.take_append_drop]
theorem opens_struct {α : Type} {d : Kd α} {ok : α → Prop} {fs : Array Field} (ht : P.underlying t = some (.struct fs)) (hc : P.cellsOf t = d.sz) (h : OpensF P fs.toList 0 d ok) : Opens P t d ok := by
  refine ⟨fun enc w base spare held fuel cs x hx hs => ?_⟩
  obtain ⟨xs, n, _, rfl, hl, hxl, hf⟩ := DataW.trod_struct ht hx
  obtain ⟨a, hK, hok⟩ := h.op enc w base spare held n cs xs (by omega) (by simpa using hxl) (fun i f hi => hf i f (by rw [← Array.getElem?_toList]; exact hi)) (fun m hm => hs m (by
    simp only [DataW.weights, ht]
    exact hm))
  rw [List.drop_zero] at hK
  exact ⟨a, hK, hok⟩
end
section
variable {H : Type} {P : Program} {enc : TypeId × Value → H} {W : World} {ts : List TypeId} {ds : List (DataW H)}
theorem small_of (h : (DataW.weightsEach P ts ds).all (· ≤ reachBytes) = true) {j : Nat} {t : TypeId} {d : DataW H} (ht : ts[j]? = some t) (hd : ds[j]? = some d) : Small P t d := by
  intro n hn
  have := List.all_eq_true.1 h _ (DataW.weights_mem_each ht hd n hn)
  simpa using this
theorem open_kind {α : Type} {d : Kd α} {ok : α → Prop} {t : TypeId} (o : Opens P t d ok) {base : Nat} {spare : Nat → Bool} {held : Bool} {v : Value} {x : DataW H} {ps : List MemPlace} (h : DataW.Trod enc P W base spare held t v x ps) (hs : Small P t x) :
    ∃ a, d.K W a v.cells.toList ∧ ok a := by
  obtain ⟨fuel, hf⟩ := h
  exact o.op enc W base spare held fuel _ _ hf hs
theorem open_row {α : Type} {d : Kd α} {ok : List α → Prop} {t e : TypeId} (ht : P.underlying t = some (.slice e)) (o : Opens P t (Kd.slice e d) ok) {v : Value} {r : Reach} {b0 : Nat} (hv : Value.okWide P W r b0 t v) {base : Nat} {spare : Nat → Bool} {held : Bool} {x : DataW H} {ps : List MemPlace} (h : DataW.Trod enc P W base spare held t v x ps) (hs : Small P t x) :
    ∃ (A : Option Addr) (c : Nat) (xs : List α), v = .slice A xs.length c ∧ d.C W A xs.length xs ∧ xs.length ≤ c ∧ ok xs := by
  obtain ⟨a, len, cap, rfl⟩ := WideShapes.okWide_slice ht hv
  obtain ⟨xs, ⟨A, c, he, hl, hC⟩, hok⟩ := open_kind o h hs
  have he' : [Value.slice a len cap] = [.slice A xs.length c] := he
  injection he' with he'
  injection he' with e1 e2 e3
  subst e1 e2 e3
  exact ⟨_, _, xs, rfl, hC, hl, hok⟩
theorem open_struct {α : Type} {d : Kd α} {ok : α → Prop} {t : TypeId} {fs : Array Field} (ht : P.underlying t = some (.struct fs)) (o : Opens P t d ok) {v : Value} {r : Reach} {b0 : Nat} (hv : Value.okWide P W r b0 t v) {base : Nat} {spare : Nat → Bool} {held : Bool} {x : DataW H} {ps : List MemPlace} (h : DataW.Trod enc P W base spare held t v x ps) (hs : Small P t x) :
    ∃ (cs : List Value) (a : α), v = .agg cs.toArray ∧ d.K W a cs ∧ ok a := by
  obtain ⟨cs, rfl, _⟩ := WideShapes.okWide_struct ht hv
  obtain ⟨a, hK, hok⟩ := open_kind o h hs
  exact ⟨cs.toList, a, rfl, hK, hok⟩
end
end Go.Proofs.Yteifekndhgkgcaa.Opn
