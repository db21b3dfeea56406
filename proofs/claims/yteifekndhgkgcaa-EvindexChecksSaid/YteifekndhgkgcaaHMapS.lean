/- A map of numbers to bools that the call has made and that it stores true into; no condition beyond the numbers' kind. -/
import Derived.Test.YteifekndhgkgcaaH0
import Derived.Maps.OwnSet
import Derived.Maps.Keyed
import Derived.Maps.Views
namespace Go.Proofs.Yteifekndhgkgcaa.H
open Go.RowKit Go.Proofs.YteifekndhgkgcaaW.PrintWords Go.Proofs.YteifekndhgkgcaaW.PrintLast Go.Proofs.YteifekndhgkgcaaW.PrintMore
attribute [local go_sem] max2_int min2_int max_two min_two max_three min_three max_four min_four
set_option linter.unusedVariables false
set_option linter.unusedSimpArgs false
open Go.Maps (setOf setOf_snoc)
theorem law3m : Go.Maps.Keyed Try.prog 3 := Go.Maps.int_keyed Try.underlying3
def setD (xs : List Int) : DataW Unit := setOf (.lit (.bool true)) (xs.map fun x => Lit.int .i64 x)
def insF (xs : List Int) (p : Int) : Option (List Int) := if xs.length < 4611686018427387904 ∧ (Lit.int .i64 p).wf = true then some (xs ++ [p]) else none
def MS (W : World) (base : Nat) (v : Value) (xs : List Int) : Prop := ∃ b, v = .map (some b) ∧ base ≤ b ∧ W.ownsMap Try.prog 3 (plainElem (H := Unit) Try.prog 4) b xs.length (setD xs)
section
variable {W W1 : World} {base : Nat} {v : Value} {xs : List Int}
theorem MS_below (h : MS W base v xs) (hb : Below W.heap.size W W1) : MS W1 base v xs := by
  obtain ⟨b, e, h1, h2⟩ := h
  exact ⟨b, e, h1, h2.kept (grown_of_below hb none) (by simp)⟩
theorem MS_alloc (h : MS W base v xs) (o : Obj) : MS (W.alloc o) base v xs := MS_below h (below_alloc (Below.refl _ _) o)
theorem MS_drew (h : MS W base v xs) : MS W.drew base v xs := MS_below h (below_drew (Below.refl _ _))
theorem MS_drewN (h : MS W base v xs) (m : Nat) : MS (W.drewN m) base v xs := MS_below h (pw_below_drewN (Below.refl _ _) m)
theorem MS_set (h : MS W base v xs) {g t : Nat} {cells : Array Value} (hb : W.heap[g]? = some (.cells cells t (0, 0))) (j : Nat) (u : Value) : MS (W.setCell ⟨g, j, none⟩ u) base v xs := by
  obtain ⟨b, e, h1, h2⟩ := h
  refine ⟨b, e, h1, h2.kept (row := some g) ⟨rfl, rfl, rfl, by simp, fun k _ hne => Below.heap_setCell W _ u k (fun e => hne (by rw [e]))⟩ (fun e2 => ?_)⟩
  obtain ⟨es, clock, hh, _⟩ := h2
  cases e2
  rw [hh] at hb
  cases hb
theorem MS_set3 (h : MS W base v xs) {g t : Nat} {cells : Array Value} (hb : W.heap[g]? = some (.cells cells t (0, 0))) (u0 u1 u2 : Value) : MS (((W.setCell ⟨g, 0, none⟩ u0).setCell ⟨g, 1, none⟩ u1).setCell ⟨g, 2, none⟩ u2) base v xs := MS_set (MS_set (MS_set h hb 0 u0) (blk_set hb 0 u0) 1 u1) (blk_set (blk_set hb 0 u0) 1 u1) 2 u2
theorem MS_made (W : World) (h : base ≤ W.heap.size) : MS (W.alloc (.map #[] 0)) base (.map (some W.heap.size)) [] := ⟨_, rfl, h, World.ownsMap_made _ _ _ _⟩
theorem MS_own {b : Nat} (h : MS W base (.map (some b)) xs) : W.ownsMap Try.prog 3 (plainElem (H := Unit) Try.prog 4) b xs.length (setD xs) := by
  obtain ⟨b', e, _, h2⟩ := h
  cases e
  exact h2
theorem MS_ge {b : Nat} (h : MS W base (.map (some b)) xs) : ∀ j, some b = some j → base ≤ j := fun j e => by
  obtain ⟨b', e', h1, _⟩ := h
  cases e'
  cases e
  exact h1
theorem MS_ne {b g t : Nat} {cells : Array Value} (h : MS W base (.map (some b)) xs) (hb : W.heap[g]? = some (.cells cells t (0, 0))) : some g ≠ some b := fun e => by
  obtain ⟨es, clock, hh, _⟩ := MS_own h
  cases e
  rw [hh] at hb
  cases hb
theorem ins_le {p : Int} {t : List Int} (h : insF xs p = some t) : xs.length < maxLen := by
  unfold insF at h
  split at h
  · rename_i c
    unfold maxLen
    omega
  · cases h
theorem ins_key {p : Int} {t : List Int} (h : insF xs p = some t) : keyOf Try.prog 3 (.int .i64 p) = some (.int .i64 p) := by
  unfold insF at h
  split at h
  · rename_i c
    exact Go.Maps.keyOf_int_mk Try.underlying3 c.2
  · cases h
theorem MS_put {b : Nat} {p : Int} {t : List Int} (h : MS W base (.map (some b)) xs) (hi : insF xs p = some t) (ho : W1.ownsMap Try.prog 3 (plainElem (H := Unit) Try.prog 4) b (xs.length + 1) ((setD xs).put (.int .i64 p) (.lit (.bool true)))) : MS W1 base (.map (some b)) t := by
  unfold insF at hi
  split at hi
  · obtain rfl := Option.some.inj hi
    refine ⟨b, rfl, MS_ge h b rfl, ?_⟩
    rw [List.length_append, List.length_singleton]
    unfold setD
    rw [List.map_append, List.map_singleton, setOf_snoc]
    exact ho
  · cases hi
theorem mq {A B : Prop} (h : A) (s : A → B := by intro h; (with_reducible repeat (first | apply MS_alloc | apply MS_drewN | apply MS_drew)); exact h) : B := s h
end
end Go.Proofs.Yteifekndhgkgcaa.H
