/- A range over an iterator that writes one block of its own between two rounds, where no round says stop; a law for a walk, no condition. -/
import Derived.RangeFuncWrites
import Derived.RangeFuncLeaves
import Derived.RangeFuncBox
import Derived.RangeFuncCalls
namespace Go.Proofs.Ytioedeglgljblaa
open Go.RowKit
/-- a step that lays a block, or writes a cell of Be, or turns a block beyond base that is no cells -/
structure Steady (base Be : Nat) (J : World → Prop) : Prop where
  grow : ∀ A B, J A → A.grownBy B none → J B
  set : ∀ A off v, J A → J (A.setCell ⟨Be, off, none⟩ v)
  put : ∀ A l o o', J A → base ≤ l → A.heap[l]? = some o → o.isCells = false → J (A.putObj l o')
theorem setCell_blk {A : World} {Be k off : Nat} {v : Value} (h : k ≠ Be) : (A.setCell ⟨Be, off, none⟩ v).heap[k]? = A.heap[k]? := Below.heap_setCell A ⟨Be, off, none⟩ v k h
theorem range_state {F : Fence} {n : Nat} {P : Program} {α : Type} {g : Operand} {ps : Array Tmp} {assign body : Code} {Q : Exit → Act → World → Prop} {a : Act} {w : World}
    (hro : F.round = none) (h1 : 1 ≤ n) {gf : Nat} {lb : Array Value} (hg : a.eval g = .func (.func gf) #[] lb) (hFg : F.fn gf) (eg : ∀ args w, (callFunc gf args).run P w = .ok (.enter gf args) w)
    {encs : α → Array Value} {Kp : World → World → Prop} {N : Nat} {ys : List α} {Be : Nat} (hBe : Be < w.heap.size)
    (hseq : ∀ (l : Nat) (J : List α → World → Prop) (W : World), Below w.heap.size w W → (∀ s A B, J s A → A.grownBy B none → J s B) → (∀ s A off v, J s A → J s (A.setCell ⟨Be, off, none⟩ v)) →
      (∀ pre x W1, J pre W1 → pre.length < N → YieldAt F (n - 1 - 1) P l (encs x) W1 fun e W' => e = .returned (.bool true) ∧ J (pre ++ [x]) W' ∧ Kp W1 W') → J [] W →
      CallsIn F (n - 1) P gf (#[.func (.yield l) #[] #[]] ++ lb) W fun e W' => (∃ v, e = .returned v) ∧ J ys W')
    (hKt : ∀ {A B C : World}, Kp A B → Kp B C → Kp A C) (hKb : ∀ (W : World) (l : Nat) (o o' : Obj), w.heap.size ≤ l → W.heap[l]? = some o → o.isCells = false → Kp W (W.putObj l o')) (hps : ∀ x, (encs x).size = ps.size)
    (I : List α → World → Prop) (M : List α → α → Act → World → Prop) (hI : ∀ s, Steady w.heap.size Be (I s))
    (hM : ∀ s x a₁ A l o o', M s x a₁ A → w.heap.size ≤ l → A.heap[l]? = some o → o.isCells = false → M s x a₁ (A.putObj l o')) (h0 : I [] w)
    (hassign : ∀ (l : Nat) (pre : List α) (x : α) (W : World) (K : Act → World → Prop), I pre W → pre.length < N → (∀ a₁ W₁, KeepsFrom w.heap.size W W₁ → Kp W W₁ → M pre x a₁ W₁ → K a₁ W₁) →
      assign.wpIn (F.inRound l) (n - 1 - 1) P (Exit.then K (fun _ _ _ => False)) { tmps := (ps.zip (encs x)).foldl (fun t (p, v) => t.setIfInBounds p v) a.tmps, defers := [] } W)
    (hbody : ∀ (l : Nat) (pre : List α) (x : α) (a₁ : Act) (W : World), M pre x a₁ W → body.wpIn (F.inRound l) (n - 1 - 1) P (fun e _ W' => e = .normal ∧ KeepsFrom w.heap.size W W' ∧ Kp W W' ∧ I (pre ++ [x]) W') a₁ W)
    (hdone : ∀ (D : Nat) (W : World), w.heap.size ≤ D → I ys W → W.heap[D]? = some (.deferred (some [])) → Q .normal { a with defers := { target := .collected D, args := #[] } :: a.defers } W) :
    (Code.rangeFunc g ps assign body).wpIn F n P Q a w := by
  refine wpIn_rangeFunc ?_
  intro fn hfn
  rw [hro]
  obtain ⟨rec, hrec⟩ : ∃ rec : LoopState → Option Code → Loop, rec = fun st pe => { state := st, pending := pe, fn, tmps := a.tmps, params := ps, assign, body, defers := w.heap.size } := ⟨_, rfl⟩
  obtain ⟨L, hL⟩ : ∃ L, L = w.heap.size + 1 := ⟨_, rfl⟩
  obtain ⟨W1, hW1⟩ : ∃ W1, W1 = (w.alloc (.deferred (some []))).alloc (.loop (rec .ready none)) := ⟨_, rfl⟩
  have rL : W1.heap[L]? = some (.loop (rec .ready none)) := by
    rw [hW1, hL]
    have := World.alloc_heap_new (w.alloc (.deferred (some []))) (.loop (rec .ready none))
    rwa [World.size_alloc] at this
  have rD : W1.heap[w.heap.size]? = some (.deferred (some [])) := by
    rw [hW1]
    exact (Below.heap_alloc _ _ _ (by simp)).trans (World.alloc_heap_new w _)
  have hB1 : Below w.heap.size w W1 := by
    rw [hW1]
    exact ((Below.refl _ w).alloc (Nat.le_refl _) _).alloc (by simp) _
  have hI1 : I [] W1 := by
    rw [hW1]
    exact (hI []).grow _ _ ((hI []).grow _ _ h0 (World.grownBy_alloc _ _ none)) (World.grownBy_alloc _ _ none)
  refine ⟨L, [{ target := .collected w.heap.size, args := #[] }], W1, { target := .fn (.func gf) lb, args := #[.func (.yield L) #[] #[]] }, W1, gf, #[.func (.yield L) #[] #[]] ++ lb, W1, ?_, ?_, ?_, ?_, fun _ => h1, ?_⟩
  · rw [hW1, hrec, hL]
    exact run_enterLoop_outer _ _ _ _ _
  · simp only [resolve, hg]
    simp [go_sem]
  · intro f' hf'
    simp [Target.leads] at hf'
    subst hf'
    exact hFg
  · simp [invoke, go_sem, eg]
  -- the iterator, told of the caller's invariant with the two blocks of the loop beside it
  have hwL : w.heap.size ≤ L := by omega
  have hLB : L ≠ Be := by omega
  have hDB : w.heap.size ≠ Be := by omega
  refine (hseq L (fun pre W => I pre W ∧ W.heap[L]? = some (.loop (rec .ready none)) ∧ W.heap[w.heap.size]? = some (.deferred (some []))) W1 hB1
    (fun s A B h hg => ⟨(hI s).grow _ _ h.1 hg, (hg.block _ (Array.getElem?_eq_some_iff.1 h.2.1).1 (by simp)).trans h.2.1, (hg.block _ (Array.getElem?_eq_some_iff.1 h.2.2).1 (by simp)).trans h.2.2⟩)
    (fun s A off v h => ⟨(hI s).set _ _ _ h.1, (setCell_blk hLB).trans h.2.1, (setCell_blk hDB).trans h.2.2⟩) ?_ ⟨hI1, rL, rD⟩).mono ?_
  · rintro pre x W ⟨hi, hl, hd⟩ hlen
    have hy := run_yield (P := P) (args := encs x) hl (by rw [hrec]; exact hps x)
    rw [hrec] at hy
    refine ⟨fn, _, assign, body, hy, roundIn_of_wpIn hfn (hassign _ pre x W _ hi hlen (fun a₁ W₁ hk₁ hp₁ hm₁ => ?_))⟩
    have hl₁ := hk₁.same _ _ hwL hl rfl
    have hd₁ := hk₁.same _ _ (Nat.le_refl _) hd rfl
    refine ⟨_, run_beginRound hl₁ (by rw [hrec]), ?_⟩
    have hlt : L < W₁.heap.size := (Array.getElem?_eq_some_iff.1 hl₁).1
    have hl₂ : (W₁.putObj L (.loop { rec .ready none with state := .busy })).heap[L]? = some (.loop { rec .ready none with state := .busy }) := World.putObj_heap_same hlt
    have hd₂ : (W₁.putObj L (.loop { rec .ready none with state := .busy })).heap[w.heap.size]? = some (.deferred (some [])) := (World.putObj_heap_other (by omega)).trans hd₁
    refine wpIn_mono (hbody _ pre x a₁ _ (hM _ _ _ _ _ _ _ hm₁ hwL hl₁ rfl)) ?_
    rintro e a3 W3 ⟨rfl, hk3, hp3, hi3⟩
    have hl3 := hk3.same _ _ hwL hl₂ rfl
    have hd3 := hk3.same _ _ (Nat.le_refl _) hd₂ rfl
    have hr3 := run_endRound (P := P) none hl3
    refine ⟨_, _, hr3, rfl, ⟨(hI _).put _ _ _ _ hi3 hwL hl3 rfl, ?_, ?_⟩, ?_⟩
    · rw [World.putObj_heap_same (Array.getElem?_eq_some_iff.1 hl3).1, hrec]
      rfl
    · exact (World.putObj_heap_other (by omega)).trans hd3
    · exact hKt hp₁ (hKt (hKb _ _ _ _ hwL hl₁ rfl) (hKt hp3 (hKb _ _ _ _ hwL hl3 rfl)))
  · rintro e W2 ⟨⟨v, rfl⟩, hi, hl, hd⟩
    have he := run_endLoop (P := P) hl (by rw [hrec]; simp)
    refine ⟨none, _, by rw [he, hrec], hdone _ _ (Nat.le_refl _) ((hI _).put _ _ _ _ hi hwL hl rfl) ((World.putObj_heap_other (by omega)).trans hd)⟩
end Go.Proofs.Ytioedeglgljblaa
