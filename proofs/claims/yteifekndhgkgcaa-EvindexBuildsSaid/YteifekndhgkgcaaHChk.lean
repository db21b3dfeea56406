/- Several texts in one: HOrdS, HMapS, HCheck. No condition beyond theirs. -/
import Derived.Test.YteifekndhgkgcaaHBld
import Derived.Test.YteifekndhgkgcaaH0
import Derived.Maps.OwnSet
import Derived.Maps.Keyed
import Derived.Maps.Views
/- evindex.order as the prints take it; no condition. -/
namespace Go.Proofs.Yteifekndhgkgcaa.H
open Go.RowKit Go.Proofs.YteifekndhgkgcaaW.PrintWords Go.Proofs.YteifekndhgkgcaaW.PrintLast Go.Proofs.YteifekndhgkgcaaW.PrintMore
attribute [local go_sem] max2_int min2_int max_two min_two max_three min_three max_four min_four
set_option linter.unusedVariables false
set_option linter.unusedSimpArgs false
def evindex_order.f (a b : Int) (_ : List Int) (c d : Int) (_ : List Int) : Option Int := some (ordI (a, b) (c, d))
theorem below_draw_grow (W : World) (n : Nat) (os : Array Obj) : Below W.heap.size W (Go.Sort.grow (W.drewN n) os) := by
  refine ⟨rfl, rfl, rfl, ?_, fun k hk => ?_⟩
  · unfold Go.Sort.grow
    simp only [Array.size_append]
    show W.heap.size ≤ W.heap.size + os.size
    omega
  · rw [Go.Sort.heap_grow_old _ _ (by exact hk)]
    rfl
theorem evindex_order.calls (a b : Int) (A0 : Option Addr) (c0 : Nat) (l0 : List Int) (c d : Int) (A1 : Option Addr) (c1 : Nat) (l1 : List Int) (r : Int) (w : World) (_ : (Kd.int .i64).C w A0 l0.length l0) (_ : l0.length ≤ c0) (_ : (Kd.int .i64).C w A1 l1.length l1) (_ : l1.length ≤ c1) (h : evindex_order.f a b l0 c d l1 = some r) :
    Calls Try.prog 25 #[.agg #[.int .i64 a, .int .i64 b, .slice A0 l0.length c0], .agg #[.int .i64 c, .int .i64 d, .slice A1 l1.length c1]] w fun e w' => e = .returned (.int .i64 r) ∧ Below w.heap.size w w' := by
  obtain rfl := Option.some.inj h
  exact (order25 (a, b) (c, d) _ _ w).mono fun e w' ⟨he, n, os, hw⟩ => ⟨he, by rw [hw]; exact below_draw_grow w n os⟩
end Go.Proofs.Yteifekndhgkgcaa.H
/- A map of numbers to bools that the call has made and that it stores true into; no condition beyond the numbers' kind. -/
namespace Go.Proofs.Yteifekndhgkgcaa.H
open Go.RowKit Go.Proofs.YteifekndhgkgcaaW.PrintWords Go.Proofs.YteifekndhgkgcaaW.PrintLast Go.Proofs.YteifekndhgkgcaaW.PrintMore
attribute [local go_sem] max2_int min2_int max_two min_two max_three min_three max_four min_four
set_option linter.unusedVariables false
set_option linter.unusedSimpArgs false
open Go.Maps (setOf setOf_snoc)
theorem law3m : Go.Maps.Keyed Try.prog 3 := Go.Maps.int_keyed Try.underlying3
def setD (xs : List Int) : DataW Unit := setOf (.lit (.bool true)) (xs.map fun x => Lit.int .i64 x)
def insF (xs : List Int) (p : Int) : Option (List Int) := if xs.length < 4611686018427387904 ∧ (Lit.int .i64 p).wf = true then some (xs ++ [p]) else none
def MS (W : World) (base : Nat) (v : Value) (xs : List Int) : Prop := ∃ b, v = .map (some b) ∧ base ≤ b ∧ W.ownsMap Try.prog 3 (plainElem (H := Unit) Try.prog 4) b xs.length (setD xs)
section
variable {W W1 : World} {base : Nat} {v : Value} {xs : List Int}
theorem MS_below (h : MS W base v xs) (hb : Below W.heap.size W W1) : MS W1 base v xs := by
  obtain ⟨b, e, h1, h2⟩ := h
  exact ⟨b, e, h1, h2.kept (grown_of_below hb none) (by simp)⟩
theorem MS_alloc (h : MS W base v xs) (o : Obj) : MS (W.alloc o) base v xs := MS_below h (below_alloc (Below.refl _ _) o)
theorem MS_drew (h : MS W base v xs) : MS W.drew base v xs := MS_below h (below_drew (Below.refl _ _))
theorem MS_drewN (h : MS W base v xs) (m : Nat) : MS (W.drewN m) base v xs := MS_below h (pw_below_drewN (Below.refl _ _) m)
theorem MS_set (h : MS W base v xs) {g t : Nat} {cells : Array Value} (hb : W.heap[g]? = some (.cells cells t (0, 0))) (j : Nat) (u : Value) : MS (W.setCell ⟨g, j, none⟩ u) base v xs := by
  obtain ⟨b, e, h1, h2⟩ := h
  refine ⟨b, e, h1, h2.kept (row := some g) ⟨rfl, rfl, rfl, by simp, fun k _ hne => Below.heap_setCell W _ u k (fun e => hne (by rw [e]))⟩ (fun e2 => ?_)⟩
  obtain ⟨es, clock, hh, _⟩ := h2
  cases e2
  rw [hh] at hb
  cases hb
theorem MS_set3 (h : MS W base v xs) {g t : Nat} {cells : Array Value} (hb : W.heap[g]? = some (.cells cells t (0, 0))) (u0 u1 u2 : Value) : MS (((W.setCell ⟨g, 0, none⟩ u0).setCell ⟨g, 1, none⟩ u1).setCell ⟨g, 2, none⟩ u2) base v xs := MS_set (MS_set (MS_set h hb 0 u0) (blk_set hb 0 u0) 1 u1) (blk_set (blk_set hb 0 u0) 1 u1) 2 u2
theorem MS_made (W : World) (h : base ≤ W.heap.size) : MS (W.alloc (.map #[] 0)) base (.map (some W.heap.size)) [] := ⟨_, rfl, h, World.ownsMap_made _ _ _ _⟩
theorem MS_own {b : Nat} (h : MS W base (.map (some b)) xs) : W.ownsMap Try.prog 3 (plainElem (H := Unit) Try.prog 4) b xs.length (setD xs) := by
  obtain ⟨b', e, _, h2⟩ := h
  cases e
  exact h2
theorem MS_ge {b : Nat} (h : MS W base (.map (some b)) xs) : ∀ j, some b = some j → base ≤ j := fun j e => by
  obtain ⟨b', e', h1, _⟩ := h
  cases e'
  cases e
  exact h1
theorem MS_ne {b g t : Nat} {cells : Array Value} (h : MS W base (.map (some b)) xs) (hb : W.heap[g]? = some (.cells cells t (0, 0))) : some g ≠ some b := fun e => by
  obtain ⟨es, clock, hh, _⟩ := MS_own h
  cases e
  rw [hh] at hb
  cases hb
theorem ins_le {p : Int} {t : List Int} (h : insF xs p = some t) : xs.length < maxLen := by
  unfold insF at h
  split at h
  · rename_i c
    unfold maxLen
    omega
  · cases h
theorem ins_key {p : Int} {t : List Int} (h : insF xs p = some t) : keyOf Try.prog 3 (.int .i64 p) = some (.int .i64 p) := by
  unfold insF at h
  split at h
  · rename_i c
    exact Go.Maps.keyOf_int_mk Try.underlying3 c.2
  · cases h
theorem MS_put {b : Nat} {p : Int} {t : List Int} (h : MS W base (.map (some b)) xs) (hi : insF xs p = some t) (ho : W1.ownsMap Try.prog 3 (plainElem (H := Unit) Try.prog 4) b (xs.length + 1) ((setD xs).put (.int .i64 p) (.lit (.bool true)))) : MS W1 base (.map (some b)) t := by
  unfold insF at hi
  split at hi
  · obtain rfl := Option.some.inj hi
    refine ⟨b, rfl, MS_ge h b rfl, ?_⟩
    rw [List.length_append, List.length_singleton]
    unfold setD
    rw [List.map_append, List.map_singleton, setOf_snoc]
    exact ho
  · cases hi
theorem mq {A B : Prop} (h : A) (s : A → B := by intro h; (with_reducible repeat (first | apply MS_alloc | apply MS_drewN | apply MS_drew)); exact h) : B := s h
end
end Go.Proofs.Yteifekndhgkgcaa.H
/- evindex.Check: what the code computes; no condition. -/
namespace Go.Proofs.Yteifekndhgkgcaa.H
open Go.RowKit Go.Proofs.YteifekndhgkgcaaW.PrintWords Go.Proofs.YteifekndhgkgcaaW.PrintLast Go.Proofs.YteifekndhgkgcaaW.PrintMore
attribute [local go_sem] max2_int min2_int max_two min_two max_three min_three max_four min_four
set_option linter.unusedVariables false
set_option linter.unusedSimpArgs false
/-! ### evindex_Check: function 14 -/
mutual
def evindex_Check.l0 : Nat → List Int → Int → List (S43) → Int → Int → Int → List (S43) → Option (Int)
 | 0, _, _, _, _, _, _, _ => none
 | k + 1, x3, x4, x14, x15, x16, x102000, x102001 => if x16 < x15 then (if 0 ≤ x16 then (if x16 < (x14.length : Int) then (if x16 > 0 then (if 0 ≤ (wrap64 (x16 - 1)) then (if (wrap64 (x16 - 1)) < (x102001.length : Int) then ((evindex_order.f ((rd_T43 x102001 (wrap64 (x16 - 1))).f0) ((rd_T43 x102001 (wrap64 (x16 - 1))).f1) ((rd_T43 x102001 (wrap64 (x16 - 1))).f2) ((rd_T43 x14 x16).f0) ((rd_T43 x14 x16).f1) ((rd_T43 x14 x16).f2)).bind fun t105 => (evindex_Check.j1 k x3 x4 x14 x15 x16 (decide (t105 ≥ 0)) x102000 x102001 ((rd_T43 x14 x16).f0) ((rd_T43 x14 x16).f1) ((rd_T43 x14 x16).f2))) else (none)) else (none)) else (evindex_Check.j1 k x3 x4 x14 x15 x16 false x102000 x102001 ((rd_T43 x14 x16).f0) ((rd_T43 x14 x16).f1) ((rd_T43 x14 x16).f2))) else (none)) else (none)) else (if ((Go.Maps.size (setD x3) : Nat) : Int) < x4 then (some 9) else (if x4 < x102000 then (some 12) else (some 0)))
def evindex_Check.j1 : Nat → List Int → Int → List (S43) → Int → Int → Bool → Int → List (S43) → Int → Int → List Int → Option (Int)
 | 0, _, _, _, _, _, _, _, _, _, _, _ => none
 | k + 1, x3, x4, x14, x15, x16, x33, x102000, x102001, x104000, x104001, x104002 => if x33 = true then (some 7) else (if (x104002.length : Int) = 0 then (some 1) else (evindex_Check.l1 k x3 x4 x14 x15 x16 x104002 (x104002.length : Int) 0 x102000 x102001 x104000 x104001 x104002))
def evindex_Check.l1 : Nat → List Int → Int → List (S43) → Int → Int → List Int → Int → Int → Int → List (S43) → Int → Int → List Int → Option (Int)
 | 0, _, _, _, _, _, _, _, _, _, _, _, _, _ => none
 | k + 1, x3, x4, x14, x15, x16, x39, x40, x41, x102000, x102001, x104000, x104001, x104002 => if x41 < x40 then (if 0 ≤ x41 then (if x41 < (x39.length : Int) then (if (rd x39 x41) < 0 then (evindex_Check.j3 k x3 x4 x41 (rd x39 x41) x14 x15 x16 x39 x40 x41 true x102000 x102001 x104000 x104001 x104002) else (evindex_Check.j3 k x3 x4 x41 (rd x39 x41) x14 x15 x16 x39 x40 x41 (decide ((rd x39 x41) ≥ x102000)) x102000 x102001 x104000 x104001 x104002)) else (none)) else (none)) else (evindex_Check.l0 k x3 x4 x14 x15 (wrap64 (x16 + 1)) x102000 x102001)
def evindex_Check.j3 : Nat → List Int → Int → Int → Int → List (S43) → Int → Int → List Int → Int → Int → Bool → Int → List (S43) → Int → Int → List Int → Option (Int)
 | 0, _, _, _, _, _, _, _, _, _, _, _, _, _, _, _, _ => none
 | k + 1, x3, x4, x7, x8, x14, x15, x16, x39, x40, x41, x53, x102000, x102001, x104000, x104001, x104002 => if x53 = true then (some 2) else (if x7 > 0 then (if 0 ≤ (wrap64 (x7 - 1)) then (if (wrap64 (x7 - 1)) < (x104002.length : Int) then (if x8 ≤ (rd x104002 (wrap64 (x7 - 1))) then (some 7) else ((insF x3 x8).bind fun t108 => (evindex_Check.l1 k t108 (wrap64 (x4 + 1)) x14 x15 x16 x39 x40 (wrap64 (x41 + 1)) x102000 x102001 x104000 x104001 x104002))) else (none)) else (none)) else ((insF x3 x8).bind fun t111 => (evindex_Check.l1 k t111 (wrap64 (x4 + 1)) x14 x15 x16 x39 x40 (wrap64 (x41 + 1)) x102000 x102001 x104000 x104001 x104002)))
end
def evindex_Check.f (k : Nat) (a0_0 : Int) (l0_1 : List (S43)) : Option (Int) := if a0_0 < 0 then (some 2) else (evindex_Check.l0 k ([] : List Int) 0 l0_1 (l0_1.length : Int) 0 a0_0 l0_1)
theorem evindex_Check.mono_l : ∀ k, (∀ y0 y1 y2 y3 y4 y5 y6, LeO (evindex_Check.l0 k y0 y1 y2 y3 y4 y5 y6) (evindex_Check.l0 (k + 1) y0 y1 y2 y3 y4 y5 y6)) ∧ (∀ y0 y1 y2 y3 y4 y5 y6 y7 y8 y9 y10, LeO (evindex_Check.j1 k y0 y1 y2 y3 y4 y5 y6 y7 y8 y9 y10) (evindex_Check.j1 (k + 1) y0 y1 y2 y3 y4 y5 y6 y7 y8 y9 y10)) ∧ (∀ y0 y1 y2 y3 y4 y5 y6 y7 y8 y9 y10 y11 y12, LeO (evindex_Check.l1 k y0 y1 y2 y3 y4 y5 y6 y7 y8 y9 y10 y11 y12) (evindex_Check.l1 (k + 1) y0 y1 y2 y3 y4 y5 y6 y7 y8 y9 y10 y11 y12)) ∧ (∀ y0 y1 y2 y3 y4 y5 y6 y7 y8 y9 y10 y11 y12 y13 y14 y15, LeO (evindex_Check.j3 k y0 y1 y2 y3 y4 y5 y6 y7 y8 y9 y10 y11 y12 y13 y14 y15) (evindex_Check.j3 (k + 1) y0 y1 y2 y3 y4 y5 y6 y7 y8 y9 y10 y11 y12 y13 y14 y15))
 | 0 => ⟨fun _ _ _ _ _ _ _ r h => by simp [evindex_Check.l0] at h, fun _ _ _ _ _ _ _ _ _ _ _ r h => by simp [evindex_Check.j1] at h, fun _ _ _ _ _ _ _ _ _ _ _ _ _ r h => by simp [evindex_Check.l1] at h, fun _ _ _ _ _ _ _ _ _ _ _ _ _ _ _ _ r h => by simp [evindex_Check.j3] at h⟩
 | k + 1 => by
  obtain ⟨ih0, ih1, ih2, ih3⟩ := evindex_Check.mono_l k
  refine ⟨?_, ?_, ?_, ?_⟩
  ·
   intro y0 y1 y2 y3 y4 y5 y6
   unfold evindex_Check.l0
   repeat' first
   | (with_reducible exact ih0 _ _ _ _ _ _ _)
   | (with_reducible exact ih1 _ _ _ _ _ _ _ _ _ _ _)
   | (with_reducible exact ih2 _ _ _ _ _ _ _ _ _ _ _ _ _)
   | (with_reducible exact ih3 _ _ _ _ _ _ _ _ _ _ _ _ _ _ _ _)
   | (with_reducible exact LeO.refl _)
   | (with_reducible exact LeO.none _)
   | (with_reducible refine LeO.ite ?_ ?_)
   | (with_reducible refine LeO.bind ?_ (fun _ => ?_))
   | exact ih0 _ _ _ _ _ _ _
   | exact ih1 _ _ _ _ _ _ _ _ _ _ _
   | exact ih2 _ _ _ _ _ _ _ _ _ _ _ _ _
   | exact ih3 _ _ _ _ _ _ _ _ _ _ _ _ _ _ _ _
   | exact LeO.none _
   | refine LeO.ite ?_ ?_
   | refine LeO.bind ?_ (fun _ => ?_)
  ·
   intro y0 y1 y2 y3 y4 y5 y6 y7 y8 y9 y10
   unfold evindex_Check.j1
   repeat' first
   | (with_reducible exact ih0 _ _ _ _ _ _ _)
   | (with_reducible exact ih1 _ _ _ _ _ _ _ _ _ _ _)
   | (with_reducible exact ih2 _ _ _ _ _ _ _ _ _ _ _ _ _)
   | (with_reducible exact ih3 _ _ _ _ _ _ _ _ _ _ _ _ _ _ _ _)
   | (with_reducible exact LeO.refl _)
   | (with_reducible exact LeO.none _)
   | (with_reducible refine LeO.ite ?_ ?_)
   | (with_reducible refine LeO.bind ?_ (fun _ => ?_))
   | exact ih0 _ _ _ _ _ _ _
   | exact ih1 _ _ _ _ _ _ _ _ _ _ _
   | exact ih2 _ _ _ _ _ _ _ _ _ _ _ _ _
   | exact ih3 _ _ _ _ _ _ _ _ _ _ _ _ _ _ _ _
   | exact LeO.none _
   | refine LeO.ite ?_ ?_
   | refine LeO.bind ?_ (fun _ => ?_)
  ·
   intro y0 y1 y2 y3 y4 y5 y6 y7 y8 y9 y10 y11 y12
   unfold evindex_Check.l1
   repeat' first
   | (with_reducible exact ih0 _ _ _ _ _ _ _)
   | (with_reducible exact ih1 _ _ _ _ _ _ _ _ _ _ _)
   | (with_reducible exact ih2 _ _ _ _ _ _ _ _ _ _ _ _ _)
   | (with_reducible exact ih3 _ _ _ _ _ _ _ _ _ _ _ _ _ _ _ _)
   | (with_reducible exact LeO.refl _)
   | (with_reducible exact LeO.none _)
   | (with_reducible refine LeO.ite ?_ ?_)
   | (with_reducible refine LeO.bind ?_ (fun _ => ?_))
   | exact ih0 _ _ _ _ _ _ _
   | exact ih1 _ _ _ _ _ _ _ _ _ _ _
   | exact ih2 _ _ _ _ _ _ _ _ _ _ _ _ _
   | exact ih3 _ _ _ _ _ _ _ _ _ _ _ _ _ _ _ _
   | exact LeO.none _
   | refine LeO.ite ?_ ?_
   | refine LeO.bind ?_ (fun _ => ?_)
  ·
   intro y0 y1 y2 y3 y4 y5 y6 y7 y8 y9 y10 y11 y12 y13 y14 y15
   unfold evindex_Check.j3
   repeat' first
   | (with_reducible exact ih0 _ _ _ _ _ _ _)
   | (with_reducible exact ih1 _ _ _ _ _ _ _ _ _ _ _)
   | (with_reducible exact ih2 _ _ _ _ _ _ _ _ _ _ _ _ _)
   | (with_reducible exact ih3 _ _ _ _ _ _ _ _ _ _ _ _ _ _ _ _)
   | (with_reducible exact LeO.refl _)
   | (with_reducible exact LeO.none _)
   | (with_reducible refine LeO.ite ?_ ?_)
   | (with_reducible refine LeO.bind ?_ (fun _ => ?_))
   | exact ih0 _ _ _ _ _ _ _
   | exact ih1 _ _ _ _ _ _ _ _ _ _ _
   | exact ih2 _ _ _ _ _ _ _ _ _ _ _ _ _
   | exact ih3 _ _ _ _ _ _ _ _ _ _ _ _ _ _ _ _
   | exact LeO.none _
   | refine LeO.ite ?_ ?_
   | refine LeO.bind ?_ (fun _ => ?_)
theorem evindex_Check.mono : ∀ a0 a1 k, LeO (evindex_Check.f k a0 a1) (evindex_Check.f (k + 1) a0 a1) := by
 intro a0 a1 k
 obtain ⟨ih0, ih1, ih2, ih3⟩ := evindex_Check.mono_l k
 unfold evindex_Check.f
 repeat' first
   | (with_reducible exact ih0 _ _ _ _ _ _ _)
   | (with_reducible exact ih1 _ _ _ _ _ _ _ _ _ _ _)
   | (with_reducible exact ih2 _ _ _ _ _ _ _ _ _ _ _ _ _)
   | (with_reducible exact ih3 _ _ _ _ _ _ _ _ _ _ _ _ _ _ _ _)
   | (with_reducible exact LeO.refl _)
   | (with_reducible exact LeO.none _)
   | (with_reducible refine LeO.ite ?_ ?_)
   | (with_reducible refine LeO.bind ?_ (fun _ => ?_))
   | exact ih0 _ _ _ _ _ _ _
   | exact ih1 _ _ _ _ _ _ _ _ _ _ _
   | exact ih2 _ _ _ _ _ _ _ _ _ _ _ _ _
   | exact ih3 _ _ _ _ _ _ _ _ _ _ _ _ _ _ _ _
   | exact LeO.none _
   | refine LeO.ite ?_ ?_
   | refine LeO.bind ?_ (fun _ => ?_)
def evindex_Check.T8 : Bool × List (List Nat × List Nat) := (true, [([], []), ([0], [0]), ([1], [1]), ([2], [2]), ([3, 2], [2, 3]), ([2], [2]), ([5, 2], [2, 5]), ([4, 6, 2], [2, 4, 6]), ([7, 2], [2, 7]), ([2], [2]), ([8, 9, 2, 2], [2, 8, 9]), ([10, 2], [2, 10]), ([2, 11], [2, 11])])
def evindex_Check.B8 : List Nat := [0, 1, 3, 7, 15, 7, 39, 127, 255, 7, 1023, 2047, 4095]
theorem evindex_Check.tab8 : rtab .any (opsOf Try.f14 8) = evindex_Check.T8 := by kernel_rfl
theorem evindex_Check.bits8 : waitsOk evindex_Check.T8.2 evindex_Check.B8 = true := by kernel_rfl
set_option maxHeartbeats 8000000 in
set_option maxRecDepth 100000 in
theorem evindex_Check.calls (k : Nat) (a0_0 : Int) (A0_1 : Option Addr) (c0_1 : Nat) (l0_1 : List (S43)) (r : Int) (w : World) (hr0_1 : Kd.C k43 w A0_1 l0_1.length l0_1) (hc0_1 : l0_1.length ≤ c0_1) (h : evindex_Check.f k a0_0 l0_1 = some r) :
  Calls Try.prog 14 #[.agg #[.int .i64 a0_0, .slice A0_1 l0_1.length c0_1]] w fun e w' => e = .returned (.int .i64 r) ∧ Below w.heap.size w w' := by
 have hmm := @run_makeMap Try.prog
 have hu27 := Try.underlying27
 have hu43 := Try.underlying43
 have HR0_1 := Aside0.mk hr0_1
 have HC0_1 := Aside0.mk hc0_1
 clear hr0_1 hc0_1
 have HB := Aside0.mk (Below.refl w.heap.size w)
 have H : (if a0_0 < 0 then (some 2) else (evindex_Check.l0 k ([] : List Int) 0 l0_1 (l0_1.length : Int) 0 a0_0 l0_1)) = some r := h
 clear h
 by_cases c2 : a0_0 < 0
 ·
  rw [if_pos c2] at H
  have c2b0 : decide (a0_0 < 0) = true := decide_eq_true c2
  clear c2
  obtain rfl := Option.some.inj H
  go_enter Try.func14, Try.ntmps14
  go_wp2_with (first | ((with_reducible refine gate_dst (N := 1) rfl ?_); refine box_event ?hg (N := 1) ?hd (cs := #[.int .i64 a0_0, .slice A0_1 l0_1.length c0_1]) (t := 27) ?hr ?_; (case hd => rfl); (case hg => rfl); (case hr => first | (go_simp; done) | (go_simp; rfl)); intro gb101 hg w3 hbox hb; have n0_ := Aside0.mk (below_step (bs HB.out) hb); have n1_ := Aside0.mk (hbox); have n2_ := Aside0.mk ((by rw [hg]; exact (below_size (bs HB.out)) : w.heap.size ≤ gb101)); have n3_ := n2_; clear HB; have HB := n0_; have BK101 := n1_; have GW101 := n2_; have GE101 := n3_; clear n0_ n1_ n2_ n3_; clear hb hbox hg; obtain ⟨hcz4_0, hcz4_1⟩ := bc2 BK101.out; obtain ⟨hfz4_0, hfz4_1⟩ := bf2 BK101.out))
  go_ret
  exact ⟨by first | rfl | (simp [errW_none, errW_some] <;> rfl) | (simp [*, errW_none, errW_some] <;> rfl), bs HB.out⟩
 ·
  rw [if_neg c2] at H
  have c2b0 : decide (a0_0 < 0) = false := decide_eq_false c2
  clear c2
  have H' := Aside0.mk H
  clear H
  go_enter Try.func14, Try.ntmps14
  go_wp2_with (first | ((with_reducible refine gate_dst (N := 1) rfl ?_); refine box_event ?hg (N := 1) ?hd (cs := #[.int .i64 a0_0, .slice A0_1 l0_1.length c0_1]) (t := 27) ?hr ?_; (case hd => rfl); (case hg => rfl); (case hr => first | (go_simp; done) | (go_simp; rfl)); intro gb101 hg w5 hbox hb; have n0_ := Aside0.mk (below_step (bs HB.out) hb); have n1_ := Aside0.mk (hbox); have n2_ := Aside0.mk ((by rw [hg]; exact (below_size (bs HB.out)) : w.heap.size ≤ gb101)); have n3_ := n2_; clear HB; have HB := n0_; have BK101 := n1_; have GW101 := n2_; have GE101 := n3_; clear n0_ n1_ n2_ n3_; clear hb hbox hg; obtain ⟨hcz6_0, hcz6_1⟩ := bc2 BK101.out; obtain ⟨hfz6_0, hfz6_1⟩ := bf2 BK101.out; obtain ⟨hcm0, hcm1⟩ := bc2 (blk_alloc BK101.out (Obj.map #[] 0))))
  have HM0 := MS_made w5 (below_size HB.out)
  generalize w5.heap.size = bm at HM0 ⊢
  go_loopg [4, 16] k (fun kq v4 v16 w' => ∃ (x3_1 : List Int) (x4_1 : Int) (x16_1 : Int), v4 = .int .i64 x4_1 ∧ v16 = .int .i64 x16_1 ∧ Aside0 (evindex_Check.l0 kq x3_1 x4_1 l0_1 (l0_1.length : Int) x16_1 a0_0 l0_1 = some r) ∧ Aside0 (kq ≤ k) ∧ Aside0 (MS w' w.heap.size (.map (some bm)) x3_1) ∧ Aside0 (w'.heap[gb101]? = some (.cells #[.int .i64 a0_0, (.slice A0_1 l0_1.length c0_1)] 27 (0, 0))) ∧ Aside0 (Below w.heap.size w w'))
  case atStart => exact ⟨(([] : List Int)), (0), (0), (by first | rfl | (simp; done) | (simp [*]; done)), (by first | rfl | (simp; done) | (simp [*]; done)), H', ⟨Nat.le_refl _⟩, ⟨HM0⟩, ⟨bg BK101.out⟩, ⟨bs HB.out⟩⟩
  case round =>
   clear H'
   try clear c1
   try clear c2
   try clear c2b0
   try clear p2
   try clear hcz4_0 hcz4_1
   try clear hcz6_0 hcz6_1
   try clear hcm0 hcm1
   clear hmm
   try clear hfz4_0 hfz4_1
   try clear hfz6_0 hfz6_1
   obtain ⟨x3_1, x4_1, x16_1, rfl, rfl, HA, HK1, HO_3, BK101, HB⟩ := hrel
   cases gk with
   | zero => exact absurd HA.out (by simp [evindex_Check.l0])
   | succ k1 =>
    have H := HA.out
    clear HA
    simp only [evindex_Check.l0] at H
    by_cases c7 : x16_1 < (l0_1.length : Int)
    ·
     rw [if_pos c7] at H
     have c7b0 : decide (x16_1 < (l0_1.length : Int)) = true := decide_eq_true c7
     clear c7
     by_cases c8 : 0 ≤ x16_1
     ·
      rw [if_pos c8] at H
      have c8b0 : decide (0 ≤ x16_1) = true := decide_eq_true c8
      clear c8
      by_cases c9 : x16_1 < (l0_1.length : Int)
      ·
       rw [if_pos c9] at H
       have c9b0 : decide (x16_1 < (l0_1.length : Int)) = true := decide_eq_true c9
       clear c9
       have HC10 := Aside0.mk H
       clear H
       have p102 : 0 ≤ (x16_1 : Int) := of_decide_eq_true (by first | (with_reducible assumption) | assumption)
       have q102 : x16_1 < (l0_1.length : Int) := of_decide_eq_true (by first | (with_reducible assumption) | assumption)
       obtain ⟨ad102, A102_2, c102_2, e102, hx102_0, hx102_1, hx102_2, hl102_2, hi102_2⟩ := at_T43 HR0_1.out x16_1 p102 q102
       cases e102
       replace hx102_0 := pw_cell_below HB.out hx102_0
       replace hx102_1 := pw_cell_below HB.out hx102_1
       replace hx102_2 := pw_cell_below HB.out hx102_2
       have HR102_2 := Aside0.mk hi102_2
       have HC102_2 := Aside0.mk hl102_2
       clear hi102_2 hl102_2
       replace p102 := eq_true p102
       replace q102 := eq_true q102
       go_upto_region 8 with (first | ((with_reducible refine gate_dst (N := 6) rfl ?_); refine box_event ?hg (N := 6) ?hd (cs := #[.int .i64 0, .int .i64 0, .slice none 0 0]) (t := 43) ?hr ?_; (case hd => rfl); (case hg => rfl); (case hr => first | (go_simp; done) | (go_simp; rfl)); intro gb103 hg w11 hbox hb; have n0_ := Aside0.mk (MS_below (mq HO_3.out) hb); have n1_ := Aside0.mk (blk_below (bg BK101.out) hb); have n2_ := Aside0.mk (below_step (bs HB.out) hb); have n3_ := Aside0.mk (hbox); have n4_ := Aside0.mk ((by rw [hg]; exact (below_size (bs HB.out)) : w.heap.size ≤ gb103)); have n5_ := n4_; have n6_ := Aside0.mk ((by rw [hg]; exact Nat.ne_of_lt (blk_lt (bg BK101.out)) : gb101 ≠ gb103)); have n7_ := Aside0.mk ((by rw [hg]; exact Nat.ne_of_gt (blk_lt (bg BK101.out)) : gb103 ≠ gb101)); clear HO_3; clear BK101; clear HB; have HO_3 := n0_; have BK101 := n1_; have HB := n2_; have BK103 := n3_; have GW103 := n4_; have GE103 := n5_; have NB101_103 := n6_; have NB103_101 := n7_; clear n0_ n1_ n2_ n3_ n4_ n5_ n6_ n7_; clear hb hbox hg; have hnb12 := NB103_101.out; have hnc12 := NB101_103.out; obtain ⟨hcz13_0, hcz13_1, hcz13_2⟩ := bc3 BK103.out; obtain ⟨hfz13_0, hfz13_1, hfz13_2⟩ := bf3 BK103.out))
       (try simp only [Act.put, List.setIfInBounds_toArray, List.set_cons_zero, List.set_cons_succ])
       go_cut [33] (fun v33 wc => ∃ (kq : Nat) (x33_9 : Bool), v33 = .bool x33_9 ∧ Aside0 (evindex_Check.j1 kq x3_1 x4_1 l0_1 (l0_1.length : Int) x16_1 x33_9 a0_0 l0_1 ((rd_T43 l0_1 x16_1).f0) ((rd_T43 l0_1 x16_1).f1) ((rd_T43 l0_1 x16_1).f2) = some r) ∧ Aside0 (kq ≤ k1) ∧ Aside0 (MS wc w.heap.size (.map (some bm)) x3_1) ∧ Aside0 (wc.heap[gb101]? = some (.cells #[.int .i64 a0_0, (.slice (some ad102) l0_1.length c0_1)] 27 (0, 0))) ∧ Aside0 (wc.heap[gb103]? = some (.cells #[.int .i64 ((rd_T43 l0_1 x16_1).f0), .int .i64 ((rd_T43 l0_1 x16_1).f1), (.slice A102_2 ((rd_T43 l0_1 x16_1).f2).length c102_2)] 43 (0, 0))) ∧ Aside0 (Below w.heap.size w wc))
       case first =>
        have H := HC10.out
        clear HC10
        by_cases c14 : x16_1 > 0
        ·
         rw [if_pos c14] at H
         have c14b0 : decide (0 < x16_1) = true := decide_eq_true c14
         clear c14
         (first | rw [c14b0] | (simp only [i64_w, i32_w]; rw [c14b0]) | skip)
         obtain ⟨ji15, hji15⟩ : ∃ j_ : Int, (wrap64 (x16_1 - 1)) = j_ := ⟨_, rfl⟩
         replace H : (if 0 ≤ (ji15) then (if (ji15) < (l0_1.length : Int) then ((evindex_order.f ((rd_T43 l0_1 (ji15)).f0) ((rd_T43 l0_1 (ji15)).f1) ((rd_T43 l0_1 (ji15)).f2) ((rd_T43 l0_1 x16_1).f0) ((rd_T43 l0_1 x16_1).f1) ((rd_T43 l0_1 x16_1).f2)).bind fun t105 => (evindex_Check.j1 k1 x3_1 x4_1 l0_1 (l0_1.length : Int) x16_1 (decide (t105 ≥ 0)) a0_0 l0_1 ((rd_T43 l0_1 x16_1).f0) ((rd_T43 l0_1 x16_1).f1) ((rd_T43 l0_1 x16_1).f2))) else (none)) else (none)) = some r := by first | (rw [hji15] at H; exact H) | (simp only [hji15] at H ⊢; exact H)
         have hji15w : (IntKind.i64.wrap (x16_1 - 1)) = ji15 := (i64_w _).trans hji15
         by_cases c16 : 0 ≤ (ji15)
         ·
          rw [if_pos c16] at H
          have c16b0 : decide (0 ≤ (ji15)) = true := decide_eq_true c16
          clear c16
          by_cases c17 : (ji15) < (l0_1.length : Int)
          ·
           rw [if_pos c17] at H
           have c17b0 : decide ((ji15) < (l0_1.length : Int)) = true := decide_eq_true c17
           clear c17
           replace H := Option.bind_eq_some_iff.mp H
           obtain ⟨t105, A180, H⟩ := H
           replace H : (evindex_Check.j1 k1 x3_1 x4_1 l0_1 (l0_1.length : Int) x16_1 (decide (t105 ≥ 0)) a0_0 l0_1 ((rd_T43 l0_1 x16_1).f0) ((rd_T43 l0_1 x16_1).f1) ((rd_T43 l0_1 x16_1).f2)) = some r := H
           have A18 := Aside0.mk A180
           clear A180
           have H' := Aside0.mk H
           clear H
           try go_wp2
           have n0_ : Aside0 (MS (((w11.setCell ⟨gb103, 0, none⟩ (.int .i64 ((rd_T43 l0_1 x16_1).f0))).setCell ⟨gb103, 1, none⟩ (.int .i64 ((rd_T43 l0_1 x16_1).f1))).setCell ⟨gb103, 2, none⟩ (.slice A102_2 ((rd_T43 l0_1 x16_1).f2).length c102_2)) w.heap.size (.map (some bm)) x3_1) := ⟨by (with_reducible repeat (first | apply MS_alloc | apply MS_drewN | apply MS_drew)); exact MS_set3 HO_3.out BK103.out _ _ _⟩
           have n1_ : Aside0 ((((w11.setCell ⟨gb103, 0, none⟩ (.int .i64 ((rd_T43 l0_1 x16_1).f0))).setCell ⟨gb103, 1, none⟩ (.int .i64 ((rd_T43 l0_1 x16_1).f1))).setCell ⟨gb103, 2, none⟩ (.slice A102_2 ((rd_T43 l0_1 x16_1).f2).length c102_2)).heap[gb101]? = some (.cells #[.int .i64 a0_0, .slice (some ad102) l0_1.length c0_1] 27 (0, 0))) := ⟨by (iterate 3 (with_reducible repeat (first | refine blk_drewN ?_ _ | refine blk_drew ?_ | refine blk_alloc ?_ _)); refine blk_far ?_ NB101_103.out _); exact bg BK101.out⟩
           have n2_ : Aside0 ((((w11.setCell ⟨gb103, 0, none⟩ (.int .i64 ((rd_T43 l0_1 x16_1).f0))).setCell ⟨gb103, 1, none⟩ (.int .i64 ((rd_T43 l0_1 x16_1).f1))).setCell ⟨gb103, 2, none⟩ (.slice A102_2 ((rd_T43 l0_1 x16_1).f2).length c102_2)).heap[gb103]? = some (.cells #[.int .i64 ((rd_T43 l0_1 x16_1).f0), .int .i64 ((rd_T43 l0_1 x16_1).f1), .slice A102_2 ((rd_T43 l0_1 x16_1).f2).length c102_2] 43 (0, 0))) := ⟨by exact pt3 (bg BK103.out)⟩
           have n3_ : Aside0 (Below w.heap.size w (((w11.setCell ⟨gb103, 0, none⟩ (.int .i64 ((rd_T43 l0_1 x16_1).f0))).setCell ⟨gb103, 1, none⟩ (.int .i64 ((rd_T43 l0_1 x16_1).f1))).setCell ⟨gb103, 2, none⟩ (.slice A102_2 ((rd_T43 l0_1 x16_1).f2).length c102_2))) := ⟨bs HB.out⟩
           (try clear HO_3)
           (try clear BK101)
           (try clear BK103)
           (try clear HB)
           generalize (((w11.setCell ⟨gb103, 0, none⟩ (.int .i64 ((rd_T43 l0_1 x16_1).f0))).setCell ⟨gb103, 1, none⟩ (.int .i64 ((rd_T43 l0_1 x16_1).f1))).setCell ⟨gb103, 2, none⟩ (.slice A102_2 ((rd_T43 l0_1 x16_1).f2).length c102_2)) = w19 at n0_ n1_ n2_ n3_ ⊢
           have HO_3 := n0_
           have BK101 := n1_
           have BK103 := n2_
           have HB := n3_
           clear n0_ n1_ n2_ n3_
           have n0_ := Aside0.mk (MS_drew HO_3.out)
           have n1_ := Aside0.mk (blk_drew BK101.out)
           have n2_ := Aside0.mk (blk_drew BK103.out)
           have n3_ := Aside0.mk (below_drew1 HB.out)
           clear HO_3
           clear BK101
           clear BK103
           clear HB
           have HO_3 := n0_
           have BK101 := n1_
           have BK103 := n2_
           have HB := n3_
           clear n0_ n1_ n2_ n3_
           have p104 : 0 ≤ ((ji15) : Int) := of_decide_eq_true (by first | (with_reducible assumption) | assumption)
           have q104 : (ji15) < (l0_1.length : Int) := of_decide_eq_true (by first | (with_reducible assumption) | assumption)
           obtain ⟨ad104, A104_2, c104_2, e104, hx104_0, hx104_1, hx104_2, hl104_2, hi104_2⟩ := at_T43 HR0_1.out (ji15) p104 q104
           have hw104_2 := hx104_2
           have hw104_1 := hx104_1
           have hw104_0 := hx104_0
           obtain rfl : ad102 = ad104 := (by injection e104)
           replace hx104_0 := pw_cell_below HB.out hx104_0
           replace hx104_1 := pw_cell_below HB.out hx104_1
           replace hx104_2 := pw_cell_below HB.out hx104_2
           have HR104_2 := Aside0.mk hi104_2
           have HC104_2 := Aside0.mk hl104_2
           clear hi104_2 hl104_2
           replace p104 := eq_true p104
           replace q104 := eq_true q104
           refine start_ (n := 13) (S := fun w' => w'.cell? ⟨gb101, 0, none⟩ = some (.int .i64 a0_0) ∧ w'.cell? ⟨gb101, 1, none⟩ = some (.slice (some ad102) l0_1.length c0_1) ∧ w'.cell? ⟨gb103, 0, none⟩ = some (.int .i64 ((rd_T43 l0_1 x16_1).f0)) ∧ w'.cell? ⟨gb103, 1, none⟩ = some (.int .i64 ((rd_T43 l0_1 x16_1).f1)) ∧ w'.cell? ⟨gb103, 2, none⟩ = some (.slice A102_2 ((rd_T43 l0_1 x16_1).f2).length c102_2) ∧ w'.cell? (ad102.add (((ji15)).toNat * 3)) = some (.int .i64 ((rd_T43 l0_1 (ji15)).f0)) ∧ w'.cell? ⟨(ad102.add (((ji15)).toNat * 3)).block, (ad102.add (((ji15)).toNat * 3)).off + 1, none⟩ = some (.int .i64 ((rd_T43 l0_1 (ji15)).f1)) ∧ w'.cell? ⟨(ad102.add (((ji15)).toNat * 3)).block, (ad102.add (((ji15)).toNat * 3)).off + 2, none⟩ = some (.slice A104_2 ((rd_T43 l0_1 (ji15)).f2).length c104_2)) (ds := []) (bsq 0 13) (by kernel_rfl) rfl rfl ⟨(blk_cell BK101.out 0).trans rfl, (blk_cell BK101.out 1).trans rfl, (blk_cell BK103.out 0).trans rfl, (blk_cell BK103.out 1).trans rfl, (blk_cell BK103.out 2).trans rfl, ((HB.out.cell (World.block_lt_of_cell? w _ hw104_0)).trans hw104_0), ((HB.out.cell (World.block_lt_of_cell? w _ hw104_1)).trans hw104_1), ((HB.out.cell (World.block_lt_of_cell? w _ hw104_2)).trans hw104_2)⟩ (fun hHeld => ?_); refine with_tabW evindex_Check.tab8 evindex_Check.bits8 (fun HT_ HW_ => ?_)
           generalize w19.drew = w20 at HO_3 BK101 BK103 HB HR104_2 hx104_0 hx104_1 hx104_2 hHeld ⊢
           refine pu 0 21 (bsq 1 12) ?_
           refine pu 1 22 (bsq 2 11) ?_
           refine pu 2 23 (bsq 3 10) ?_
           refine pu 3 24 (bsq 4 9) ?_
           refine pu 5 26 (bls [4, 1, 1, 7]) ?_
           refine pu 6 27 (bls [4, 1, 2, 6]) ?_
           refine tk 4 25 (bsq 7 6) hHeld ?_ (he := by rintro w' ⟨s0, s1, s2, s3, s4, s5, s6, s7⟩; go_simp; with_reducible rfl)
           refine pu 7 28 (bsq 8 5) ?_
           refine tk 8 29 (bsq 9 4) hHeld ?_ (he := by rintro w' ⟨s0, s1, s2, s3, s4, s5, s6, s7⟩; go_simp; with_reducible rfl)
           refine tk 9 30 (bsq 10 3) hHeld ?_ (he := by rintro w' ⟨s0, s1, s2, s3, s4, s5, s6, s7⟩; go_simp; with_reducible rfl)
           refine one_ (i := 10) (N := some 31) (bsq 11 2) rfl rfl (one_of HT_.out (by kernel_rfl)) (by decide) (fun K hK => ?_)
           refine goes_ Try.func25 (by kernel_rfl) rfl #[.agg #[.int .i64 ((rd_T43 l0_1 (ji15)).f0), .int .i64 ((rd_T43 l0_1 (ji15)).f1), .slice A104_2 ((rd_T43 l0_1 (ji15)).f2).length c104_2], .agg #[.int .i64 ((rd_T43 l0_1 x16_1).f0), .int .i64 ((rd_T43 l0_1 x16_1).f1), .slice A102_2 ((rd_T43 l0_1 x16_1).f2).length c102_2]] (by rfl) rfl rfl (by (try simp only [List.map_toArray, List.map_cons, List.map_nil]); first | done | (simp only [hji15]; rfl) | rfl | (simp only [List.length_drop, List.length_take]; rfl)) ?_
           with_reducible refine (evindex_order.calls ((rd_T43 l0_1 (ji15)).f0) ((rd_T43 l0_1 (ji15)).f1) _ _ ((rd_T43 l0_1 (ji15)).f2) ((rd_T43 l0_1 x16_1).f0) ((rd_T43 l0_1 x16_1).f1) _ _ ((rd_T43 l0_1 x16_1).f2) t105 _ ?side1 ?side2 ?side3 ?side4 A18.out).mono ?_
           (case side1 => repeat (first | exact (Kd.C_below HR104_2.out HB.out) | (with_reducible refine Kd.C_alloc ?_ _) | (with_reducible refine Kd.C_drewN ?_ _) | (with_reducible refine Kd.C_drew ?_)))
           (case side2 => exact HC104_2.out)
           (case side3 => repeat (first | exact (Kd.C_below HR102_2.out HB.out) | (with_reducible refine Kd.C_alloc ?_ _) | (with_reducible refine Kd.C_drewN ?_ _) | (with_reducible refine Kd.C_drew ?_)))
           (case side4 => exact HC102_2.out)
           rintro e w21 ⟨rfl, hb⟩
           refine ⟨_, rfl, ?_⟩
           have n0_ := Aside0.mk (MS_below (mq HO_3.out) hb)
           have n1_ := Aside0.mk (blk_below (bg BK101.out) hb)
           have n2_ := Aside0.mk (blk_below (bg BK103.out) hb)
           have n3_ := Aside0.mk (below_step (bs HB.out) hb)
           clear HO_3
           clear BK101
           clear BK103
           clear HB
           have HO_3 := n0_
           have BK101 := n1_
           have BK103 := n2_
           have HB := n3_
           clear n0_ n1_ n2_ n3_
           (try clear hb)
           (try clear hb2)
           (try clear hk)
           (try clear hi)
           refine hK.out _ _ ⟨(blk_cell BK101.out 0).trans rfl, (blk_cell BK101.out 1).trans rfl, (blk_cell BK103.out 0).trans rfl, (blk_cell BK103.out 1).trans rfl, (blk_cell BK103.out 2).trans rfl, ((HB.out.cell (World.block_lt_of_cell? w _ hw104_0)).trans hw104_0), ((HB.out.cell (World.block_lt_of_cell? w _ hw104_1)).trans hw104_1), ((HB.out.cell (World.block_lt_of_cell? w _ hw104_2)).trans hw104_2)⟩ (fun hHeld => ?_)
           clear hK K
           refine norm_ (a' := ?_) ?_ ?_
           rotate_left
           ·
            show Act.put _ (some 31) _ = _
            simp only [Act.put, List.setIfInBounds_toArray, List.set_cons_zero, List.set_cons_succ, i64_w, i32_w]
            rfl
           refine pu 11 32 (bsq 12 1) ?_
           refine pu 12 33 (bsq 13 0) ?_
           refine done_ (done_of HT_.out (by kernel_rfl)) ?_
           try go_wp2
           go_meet
           case rel => exact ⟨_, (decide (t105 ≥ 0)), (by first | rfl | (simp; done) | (simp [*]; done)), H', ⟨by have := HK1.out; first | omega | exact Nat.le_refl _⟩, ⟨by (with_reducible repeat (first | apply MS_alloc | apply MS_drewN | apply MS_drew)); exact HO_3.out⟩, ⟨bg BK101.out⟩, ⟨bg BK103.out⟩, ⟨bs HB.out⟩⟩
          ·
           rw [if_neg c17] at H
           exact absurd H (by simp)
         ·
          rw [if_neg c16] at H
          exact absurd H (by simp)
        ·
         rw [if_neg c14] at H
         have c14b0 : decide (0 < x16_1) = false := decide_eq_false c14
         clear c14
         (first | rw [c14b0] | (simp only [i64_w, i32_w]; rw [c14b0]) | skip)
         have H' := Aside0.mk H
         clear H
         try go_wp2
         have n0_ : Aside0 (MS (((w11.setCell ⟨gb103, 0, none⟩ (.int .i64 ((rd_T43 l0_1 x16_1).f0))).setCell ⟨gb103, 1, none⟩ (.int .i64 ((rd_T43 l0_1 x16_1).f1))).setCell ⟨gb103, 2, none⟩ (.slice A102_2 ((rd_T43 l0_1 x16_1).f2).length c102_2)) w.heap.size (.map (some bm)) x3_1) := ⟨by (with_reducible repeat (first | apply MS_alloc | apply MS_drewN | apply MS_drew)); exact MS_set3 HO_3.out BK103.out _ _ _⟩
         have n1_ : Aside0 ((((w11.setCell ⟨gb103, 0, none⟩ (.int .i64 ((rd_T43 l0_1 x16_1).f0))).setCell ⟨gb103, 1, none⟩ (.int .i64 ((rd_T43 l0_1 x16_1).f1))).setCell ⟨gb103, 2, none⟩ (.slice A102_2 ((rd_T43 l0_1 x16_1).f2).length c102_2)).heap[gb101]? = some (.cells #[.int .i64 a0_0, .slice (some ad102) l0_1.length c0_1] 27 (0, 0))) := ⟨by (iterate 3 (with_reducible repeat (first | refine blk_drewN ?_ _ | refine blk_drew ?_ | refine blk_alloc ?_ _)); refine blk_far ?_ NB101_103.out _); exact bg BK101.out⟩
         have n2_ : Aside0 ((((w11.setCell ⟨gb103, 0, none⟩ (.int .i64 ((rd_T43 l0_1 x16_1).f0))).setCell ⟨gb103, 1, none⟩ (.int .i64 ((rd_T43 l0_1 x16_1).f1))).setCell ⟨gb103, 2, none⟩ (.slice A102_2 ((rd_T43 l0_1 x16_1).f2).length c102_2)).heap[gb103]? = some (.cells #[.int .i64 ((rd_T43 l0_1 x16_1).f0), .int .i64 ((rd_T43 l0_1 x16_1).f1), .slice A102_2 ((rd_T43 l0_1 x16_1).f2).length c102_2] 43 (0, 0))) := ⟨by exact pt3 (bg BK103.out)⟩
         have n3_ : Aside0 (Below w.heap.size w (((w11.setCell ⟨gb103, 0, none⟩ (.int .i64 ((rd_T43 l0_1 x16_1).f0))).setCell ⟨gb103, 1, none⟩ (.int .i64 ((rd_T43 l0_1 x16_1).f1))).setCell ⟨gb103, 2, none⟩ (.slice A102_2 ((rd_T43 l0_1 x16_1).f2).length c102_2))) := ⟨bs HB.out⟩
         (try clear HO_3)
         (try clear BK101)
         (try clear BK103)
         (try clear HB)
         generalize (((w11.setCell ⟨gb103, 0, none⟩ (.int .i64 ((rd_T43 l0_1 x16_1).f0))).setCell ⟨gb103, 1, none⟩ (.int .i64 ((rd_T43 l0_1 x16_1).f1))).setCell ⟨gb103, 2, none⟩ (.slice A102_2 ((rd_T43 l0_1 x16_1).f2).length c102_2)) = w22 at n0_ n1_ n2_ n3_ ⊢
         have HO_3 := n0_
         have BK101 := n1_
         have BK103 := n2_
         have HB := n3_
         clear n0_ n1_ n2_ n3_
         have n0_ := Aside0.mk (MS_drew HO_3.out)
         have n1_ := Aside0.mk (blk_drew BK101.out)
         have n2_ := Aside0.mk (blk_drew BK103.out)
         have n3_ := Aside0.mk (below_drew1 HB.out)
         clear HO_3
         clear BK101
         clear BK103
         clear HB
         have HO_3 := n0_
         have BK101 := n1_
         have BK103 := n2_
         have HB := n3_
         clear n0_ n1_ n2_ n3_
         refine start_ (n := 13) (S := fun w' => True) (ds := []) (bsq 0 13) (by kernel_rfl) rfl rfl trivial (fun hHeld => ?_); refine with_tabW evindex_Check.tab8 evindex_Check.bits8 (fun HT_ HW_ => ?_)
         generalize w22.drew = w23 at HO_3 BK101 BK103 HB hHeld ⊢
         refine pu 0 21 (bsq 1 12) ?_
         refine pu 1 22 (bsq 2 11) ?_
         refine pu 2 23 (bsq 3 10) ?_
         refine un 3 24 (bsq 4 9) ?_
         refine un 4 25 (bsq 5 8) ?_
         refine un 5 26 (bsq 6 7) ?_
         refine un 6 27 (bsq 7 6) ?_
         refine un 7 28 (bsq 8 5) ?_
         refine un 8 29 (bsq 9 4) ?_
         refine un 9 30 (bsq 10 3) ?_
         refine un 10 31 (bsq 11 2) ?_
         refine un 11 32 (bsq 12 1) ?_
         refine pu 12 33 (bsq 13 0) ?_
         refine done_ (done_of HT_.out (by kernel_rfl)) ?_
         try go_wp2
         go_meet
         case rel => exact ⟨_, (false), (by first | rfl | (simp; done) | (simp [*]; done)), H', ⟨by have := HK1.out; first | omega | exact Nat.le_refl _⟩, ⟨by (with_reducible repeat (first | apply MS_alloc | apply MS_drewN | apply MS_drew)); exact HO_3.out⟩, ⟨bg BK101.out⟩, ⟨bg BK103.out⟩, ⟨bs HB.out⟩⟩
       case rest =>
        clear HC10
        try clear c1
        try clear p1
        try clear q1
        try clear hx1
        try clear c2
        try clear c2b0
        try clear p2
        try clear p6
        try clear c7
        try clear c7b0
        try clear c8
        try clear c8b0
        try clear c9
        try clear c9b0
        try clear c10
        try clear p10
        try clear q10
        try clear hx10
        try clear c12
        try clear c14
        try clear c14b0
        try clear c16
        try clear c16b0
        try clear c17
        try clear c17b0
        try clear hcz13_0 hcz13_1 hcz13_2
        try clear hcz4_0 hcz4_1
        try clear hcz6_0 hcz6_1
        try clear hfz13_0 hfz13_1 hfz13_2
        try clear hfz4_0 hfz4_1
        try clear hfz6_0 hfz6_1
        try clear hx102_0
        try clear hx102_1
        try clear hx102_2
        try clear hx104_0
        try clear hx104_1
        try clear hx104_2
        try clear p102
        try clear p104
        try clear p2
        try clear q102
        try clear q104
        obtain ⟨kq, x33_9, rfl, HA, HJ9, HO_3, BK101, BK103, HB⟩ := hcut
        cases kq with
        | zero => exact absurd HA.out (by simp [evindex_Check.j1])
        | succ kj9 =>
         have H := HA.out
         clear HA
         simp only [evindex_Check.j1] at H
         by_cases c24 : x33_9 = true
         ·
          subst c24
          have H1 : (some 7) = some r := by rw [if_pos rfl] at H; exact H
          clear H
          have H := H1
          clear H1
          obtain rfl := Option.some.inj H
          go_wp2
          go_ret
          exact ⟨by first | rfl | (simp [errW_none, errW_some] <;> rfl) | (simp [*, errW_none, errW_some] <;> rfl), bs HB.out⟩
         ·
          replace c24 := Bool.eq_false_iff.mpr c24
          subst c24
          have H1 : (if (((rd_T43 l0_1 x16_1).f2).length : Int) = 0 then (some 1) else (evindex_Check.l1 kj9 x3_1 x4_1 l0_1 (l0_1.length : Int) x16_1 ((rd_T43 l0_1 x16_1).f2) (((rd_T43 l0_1 x16_1).f2).length : Int) 0 a0_0 l0_1 ((rd_T43 l0_1 x16_1).f0) ((rd_T43 l0_1 x16_1).f1) ((rd_T43 l0_1 x16_1).f2))) = some r := by rw [if_neg (show ¬ (false = true) by decide)] at H; exact H
          clear H
          have H := H1
          clear H1
          by_cases c25 : (((rd_T43 l0_1 x16_1).f2).length : Int) = 0
          ·
           rw [if_pos c25] at H
           have c25b0 : ((((rd_T43 l0_1 x16_1).f2).length : Int) == 0) = true := beq_iff_eq.mpr c25
           have c25b1 : ((((rd_T43 l0_1 x16_1).f2).length : Int) != 0) = false := bne_eq_false_iff_eq.mpr c25
           clear c25
           obtain rfl := Option.some.inj H
           have hnb26 := NB103_101.out
           have hnc26 := NB101_103.out
           obtain ⟨hcz27_0, hcz27_1, hcz27_2⟩ := bc3 BK103.out
           obtain ⟨hfz27_0, hfz27_1, hfz27_2⟩ := bf3 BK103.out
           go_wp2
           go_ret
           exact ⟨by first | rfl | (simp [errW_none, errW_some] <;> rfl) | (simp [*, errW_none, errW_some] <;> rfl), bs HB.out⟩
          ·
           rw [if_neg c25] at H
           have c25b0 : ((((rd_T43 l0_1 x16_1).f2).length : Int) == 0) = false := beq_eq_false_iff_ne.mpr c25
           have c25b1 : ((((rd_T43 l0_1 x16_1).f2).length : Int) != 0) = true := bne_iff_ne.mpr c25
           have c25b2 : ¬ (((rd_T43 l0_1 x16_1).f2) = []) := fun h_ => c25 (by rw [h_]; rfl)
           have H' := Aside0.mk H
           clear H
           have hnb28 := NB103_101.out
           have hnc28 := NB101_103.out
           obtain ⟨hcz29_0, hcz29_1, hcz29_2⟩ := bc3 BK103.out
           obtain ⟨hfz29_0, hfz29_1, hfz29_2⟩ := bf3 BK103.out
           go_wp2
           go_loopg [4, 41] kj9 (fun kq v4 v41 w' => ∃ (x3_3 : List Int) (x4_3 : Int) (x41_3 : Int), v4 = .int .i64 x4_3 ∧ v41 = .int .i64 x41_3 ∧ Aside0 (evindex_Check.l1 kq x3_3 x4_3 l0_1 (l0_1.length : Int) x16_1 ((rd_T43 l0_1 x16_1).f2) (((rd_T43 l0_1 x16_1).f2).length : Int) x41_3 a0_0 l0_1 ((rd_T43 l0_1 x16_1).f0) ((rd_T43 l0_1 x16_1).f1) ((rd_T43 l0_1 x16_1).f2) = some r) ∧ Aside0 (kq ≤ kj9) ∧ Aside0 (MS w' w.heap.size (.map (some bm)) x3_3) ∧ Aside0 (w'.heap[gb101]? = some (.cells #[.int .i64 a0_0, (.slice (some ad102) l0_1.length c0_1)] 27 (0, 0))) ∧ Aside0 (w'.heap[gb103]? = some (.cells #[.int .i64 ((rd_T43 l0_1 x16_1).f0), .int .i64 ((rd_T43 l0_1 x16_1).f1), (.slice A102_2 ((rd_T43 l0_1 x16_1).f2).length c102_2)] 43 (0, 0))) ∧ Aside0 (Below w.heap.size w w'))
           case atStart => exact ⟨(x3_1), (x4_1), (0), (by first | rfl | (simp; done) | (simp [*]; done)), (by first | rfl | (simp; done) | (simp [*]; done)), H', ⟨Nat.le_refl _⟩, ⟨by (with_reducible repeat (first | apply MS_alloc | apply MS_drewN | apply MS_drew)); exact HO_3.out⟩, ⟨bg BK101.out⟩, ⟨bg BK103.out⟩, ⟨bs HB.out⟩⟩
           case round =>
            clear H'
            try clear c1
            try clear p1
            try clear q1
            try clear hx1
            try clear c2
            try clear c2b0
            try clear p2
            try clear p6
            try clear c7
            try clear c7b0
            try clear c8
            try clear c8b0
            try clear c9
            try clear c9b0
            try clear c10
            try clear p10
            try clear q10
            try clear hx10
            try clear c12
            try clear c14
            try clear c14b0
            try clear c16
            try clear c16b0
            try clear c17
            try clear c17b0
            try clear c24
            try clear c25
            try clear c25b0
            try clear c25b1
            try clear c25b2
            try clear c26
            try clear c28
            try clear hcz13_0 hcz13_1 hcz13_2
            try clear hcz27_0 hcz27_1 hcz27_2
            try clear hcz29_0 hcz29_1 hcz29_2
            try clear hcz4_0 hcz4_1
            try clear hcz6_0 hcz6_1
            try clear hfz13_0 hfz13_1 hfz13_2
            try clear hfz27_0 hfz27_1 hfz27_2
            try clear hfz29_0 hfz29_1 hfz29_2
            try clear hfz4_0 hfz4_1
            try clear hfz6_0 hfz6_1
            try clear hx102_0
            try clear hx102_1
            try clear hx102_2
            try clear hx104_0
            try clear hx104_1
            try clear hx104_2
            try clear p1
            try clear p10
            try clear p102
            try clear p104
            try clear p2
            try clear p6
            try clear q1
            try clear q10
            try clear q102
            try clear q104
            obtain ⟨x3_3, x4_3, x41_3, rfl, rfl, HA, HK3, HO_3, BK101, BK103, HB⟩ := hrel
            cases gk with
            | zero => exact absurd HA.out (by simp [evindex_Check.l1])
            | succ k3 =>
             have H := HA.out
             clear HA
             simp only [evindex_Check.l1] at H
             by_cases c30 : x41_3 < (((rd_T43 l0_1 x16_1).f2).length : Int)
             ·
              rw [if_pos c30] at H
              have c30b0 : decide (x41_3 < (((rd_T43 l0_1 x16_1).f2).length : Int)) = true := decide_eq_true c30
              clear c30
              by_cases c31 : 0 ≤ x41_3
              ·
               rw [if_pos c31] at H
               have c31b0 : decide (0 ≤ x41_3) = true := decide_eq_true c31
               clear c31
               by_cases c32 : x41_3 < (((rd_T43 l0_1 x16_1).f2).length : Int)
               ·
                rw [if_pos c32] at H
                have c32b0 : decide (x41_3 < (((rd_T43 l0_1 x16_1).f2).length : Int)) = true := decide_eq_true c32
                clear c32
                have HC33 := Aside0.mk H
                clear H
                have p106 : 0 ≤ (x41_3 : Int) := of_decide_eq_true (by first | (with_reducible assumption) | assumption)
                have q106 : x41_3 < (((rd_T43 l0_1 x16_1).f2).length : Int) := of_decide_eq_true (by first | (with_reducible assumption) | assumption)
                obtain ⟨ad106, e106, hx106_0⟩ := Kd.at_int HR102_2.out x41_3 p106 q106
                cases e106
                replace hx106_0 := pw_cell_below HB.out hx106_0
                replace p106 := eq_true p106
                replace q106 := eq_true q106
                go_upto_region 15 with (fail)
                go_cut [53] (fun v53 wc => ∃ (kq : Nat) (x53_32 : Bool), v53 = .bool x53_32 ∧ Aside0 (evindex_Check.j3 kq x3_3 x4_3 x41_3 (rd ((rd_T43 l0_1 x16_1).f2) x41_3) l0_1 (l0_1.length : Int) x16_1 ((rd_T43 l0_1 x16_1).f2) (((rd_T43 l0_1 x16_1).f2).length : Int) x41_3 x53_32 a0_0 l0_1 ((rd_T43 l0_1 x16_1).f0) ((rd_T43 l0_1 x16_1).f1) ((rd_T43 l0_1 x16_1).f2) = some r) ∧ Aside0 (kq ≤ k3) ∧ Aside0 (MS wc w.heap.size (.map (some bm)) x3_3) ∧ Aside0 (wc.heap[gb101]? = some (.cells #[.int .i64 a0_0, (.slice (some ad102) l0_1.length c0_1)] 27 (0, 0))) ∧ Aside0 (wc.heap[gb103]? = some (.cells #[.int .i64 ((rd_T43 l0_1 x16_1).f0), .int .i64 ((rd_T43 l0_1 x16_1).f1), (.slice (some ad106) ((rd_T43 l0_1 x16_1).f2).length c102_2)] 43 (0, 0))) ∧ Aside0 (Below w.heap.size w wc))
                case first =>
                 have H := HC33.out
                 clear HC33
                 by_cases c34 : (rd ((rd_T43 l0_1 x16_1).f2) x41_3) < 0
                 ·
                  rw [if_pos c34] at H
                  have c34b0 : decide ((rd ((rd_T43 l0_1 x16_1).f2) x41_3) < 0) = true := decide_eq_true c34
                  clear c34
                  (first | rw [c34b0] | (simp only [i64_w, i32_w]; rw [c34b0]) | skip)
                  have H' := Aside0.mk H
                  clear H
                  go_wp2
                  go_meet
                  case rel => exact ⟨_, (true), (by first | rfl | (simp; done) | (simp [*]; done)), H', ⟨by have := HK1.out; have := HJ9.out; have := HK3.out; first | omega | exact Nat.le_refl _⟩, ⟨by (with_reducible repeat (first | apply MS_alloc | apply MS_drewN | apply MS_drew)); exact HO_3.out⟩, ⟨bg BK101.out⟩, ⟨bg BK103.out⟩, ⟨bs HB.out⟩⟩
                 ·
                  rw [if_neg c34] at H
                  have c34b0 : decide ((rd ((rd_T43 l0_1 x16_1).f2) x41_3) < 0) = false := decide_eq_false c34
                  clear c34
                  (first | rw [c34b0] | (simp only [i64_w, i32_w]; rw [c34b0]) | skip)
                  have H' := Aside0.mk H
                  clear H
                  have hnb35 := NB101_103.out
                  have hnc35 := NB103_101.out
                  obtain ⟨hcz36_0, hcz36_1⟩ := bc2 BK101.out
                  obtain ⟨hfz36_0, hfz36_1⟩ := bf2 BK101.out
                  go_wp2
                  go_meet
                  case rel => exact ⟨_, (decide ((rd ((rd_T43 l0_1 x16_1).f2) x41_3) ≥ a0_0)), (by first | rfl | (simp; done) | (simp [*]; done)), H', ⟨by have := HK1.out; have := HJ9.out; have := HK3.out; first | omega | exact Nat.le_refl _⟩, ⟨by (with_reducible repeat (first | apply MS_alloc | apply MS_drewN | apply MS_drew)); exact HO_3.out⟩, ⟨bg BK101.out⟩, ⟨bg BK103.out⟩, ⟨bs HB.out⟩⟩
                case rest =>
                 clear HC33
                 try clear c1
                 try clear p1
                 try clear q1
                 try clear hx1
                 try clear c2
                 try clear c2b0
                 try clear p2
                 try clear c3
                 try clear p6
                 try clear c7
                 try clear c7b0
                 try clear c8
                 try clear c8b0
                 try clear c9
                 try clear c9b0
                 try clear c10
                 try clear p10
                 try clear q10
                 try clear hx10
                 try clear c12
                 try clear c14
                 try clear c14b0
                 try clear c16
                 try clear c16b0
                 try clear c17
                 try clear c17b0
                 try clear c24
                 try clear c25
                 try clear c25b0
                 try clear c25b1
                 try clear c25b2
                 try clear c26
                 try clear c28
                 try clear c30
                 try clear c30b0
                 try clear c31
                 try clear c31b0
                 try clear c32
                 try clear c32b0
                 try clear c34
                 try clear c34b0
                 try clear c35
                 try clear hcz13_0 hcz13_1 hcz13_2
                 try clear hcz27_0 hcz27_1 hcz27_2
                 try clear hcz29_0 hcz29_1 hcz29_2
                 try clear hcz36_0 hcz36_1
                 try clear hcz4_0 hcz4_1
                 try clear hcz6_0 hcz6_1
                 try clear hfz13_0 hfz13_1 hfz13_2
                 try clear hfz27_0 hfz27_1 hfz27_2
                 try clear hfz29_0 hfz29_1 hfz29_2
                 try clear hfz36_0 hfz36_1
                 try clear hfz4_0 hfz4_1
                 try clear hfz6_0 hfz6_1
                 try clear hx102_0
                 try clear hx102_1
                 try clear hx102_2
                 try clear hx104_0
                 try clear hx104_1
                 try clear hx104_2
                 try clear hx106_0
                 try clear p1
                 try clear p10
                 try clear p102
                 try clear p104
                 try clear p106
                 try clear p2
                 try clear p6
                 try clear q1
                 try clear q10
                 try clear q102
                 try clear q104
                 try clear q106
                 obtain ⟨kq, x53_32, rfl, HA, HJ32, HO_3, BK101, BK103, HB⟩ := hcut
                 cases kq with
                 | zero => exact absurd HA.out (by simp [evindex_Check.j3])
                 | succ kj32 =>
                  have H := HA.out
                  clear HA
                  simp only [evindex_Check.j3] at H
                  by_cases c37 : x53_32 = true
                  ·
                   subst c37
                   have H1 : (some 2) = some r := by rw [if_pos rfl] at H; exact H
                   clear H
                   have H := H1
                   clear H1
                   obtain rfl := Option.some.inj H
                   go_wp2
                   go_ret
                   exact ⟨by first | rfl | (simp [errW_none, errW_some] <;> rfl) | (simp [*, errW_none, errW_some] <;> rfl), bs HB.out⟩
                  ·
                   replace c37 := Bool.eq_false_iff.mpr c37
                   subst c37
                   have H1 : (if x41_3 > 0 then (if 0 ≤ (wrap64 (x41_3 - 1)) then (if (wrap64 (x41_3 - 1)) < (((rd_T43 l0_1 x16_1).f2).length : Int) then (if (rd ((rd_T43 l0_1 x16_1).f2) x41_3) ≤ (rd ((rd_T43 l0_1 x16_1).f2) (wrap64 (x41_3 - 1))) then (some 7) else ((insF x3_3 (rd ((rd_T43 l0_1 x16_1).f2) x41_3)).bind fun t108 => (evindex_Check.l1 kj32 t108 (wrap64 (x4_3 + 1)) l0_1 (l0_1.length : Int) x16_1 ((rd_T43 l0_1 x16_1).f2) (((rd_T43 l0_1 x16_1).f2).length : Int) (wrap64 (x41_3 + 1)) a0_0 l0_1 ((rd_T43 l0_1 x16_1).f0) ((rd_T43 l0_1 x16_1).f1) ((rd_T43 l0_1 x16_1).f2)))) else (none)) else (none)) else ((insF x3_3 (rd ((rd_T43 l0_1 x16_1).f2) x41_3)).bind fun t111 => (evindex_Check.l1 kj32 t111 (wrap64 (x4_3 + 1)) l0_1 (l0_1.length : Int) x16_1 ((rd_T43 l0_1 x16_1).f2) (((rd_T43 l0_1 x16_1).f2).length : Int) (wrap64 (x41_3 + 1)) a0_0 l0_1 ((rd_T43 l0_1 x16_1).f0) ((rd_T43 l0_1 x16_1).f1) ((rd_T43 l0_1 x16_1).f2)))) = some r := by rw [if_neg (show ¬ (false = true) by decide)] at H; exact H
                   clear H
                   have H := H1
                   clear H1
                   by_cases c38 : x41_3 > 0
                   ·
                    rw [if_pos c38] at H
                    have c38b0 : decide (0 < x41_3) = true := decide_eq_true c38
                    clear c38
                    obtain ⟨ji39, hji39⟩ : ∃ j_ : Int, (wrap64 (x41_3 - 1)) = j_ := ⟨_, rfl⟩
                    replace H : (if 0 ≤ (ji39) then (if (ji39) < (((rd_T43 l0_1 x16_1).f2).length : Int) then (if (rd ((rd_T43 l0_1 x16_1).f2) x41_3) ≤ (rd ((rd_T43 l0_1 x16_1).f2) (ji39)) then (some 7) else ((insF x3_3 (rd ((rd_T43 l0_1 x16_1).f2) x41_3)).bind fun t108 => (evindex_Check.l1 kj32 t108 (wrap64 (x4_3 + 1)) l0_1 (l0_1.length : Int) x16_1 ((rd_T43 l0_1 x16_1).f2) (((rd_T43 l0_1 x16_1).f2).length : Int) (wrap64 (x41_3 + 1)) a0_0 l0_1 ((rd_T43 l0_1 x16_1).f0) ((rd_T43 l0_1 x16_1).f1) ((rd_T43 l0_1 x16_1).f2)))) else (none)) else (none)) = some r := by first | (rw [hji39] at H; exact H) | (simp only [hji39] at H ⊢; exact H)
                    have hji39w : (IntKind.i64.wrap (x41_3 - 1)) = ji39 := (i64_w _).trans hji39
                    by_cases c40 : 0 ≤ (ji39)
                    ·
                     rw [if_pos c40] at H
                     have c40b0 : decide (0 ≤ (ji39)) = true := decide_eq_true c40
                     clear c40
                     by_cases c41 : (ji39) < (((rd_T43 l0_1 x16_1).f2).length : Int)
                     ·
                      rw [if_pos c41] at H
                      have c41b0 : decide ((ji39) < (((rd_T43 l0_1 x16_1).f2).length : Int)) = true := decide_eq_true c41
                      clear c41
                      by_cases c42 : (rd ((rd_T43 l0_1 x16_1).f2) x41_3) ≤ (rd ((rd_T43 l0_1 x16_1).f2) (ji39))
                      ·
                       rw [if_pos c42] at H
                       have c42b0 : decide ((rd ((rd_T43 l0_1 x16_1).f2) x41_3) ≤ (rd ((rd_T43 l0_1 x16_1).f2) (ji39))) = true := decide_eq_true c42
                       clear c42
                       obtain rfl := Option.some.inj H
                       have hnb43 := NB103_101.out
                       have hnc43 := NB101_103.out
                       obtain ⟨hcz44_0, hcz44_1, hcz44_2⟩ := bc3 BK103.out
                       obtain ⟨hfz44_0, hfz44_1, hfz44_2⟩ := bf3 BK103.out
                       have p107 : 0 ≤ ((ji39) : Int) := of_decide_eq_true (by first | (with_reducible assumption) | assumption)
                       have q107 : (ji39) < (((rd_T43 l0_1 x16_1).f2).length : Int) := of_decide_eq_true (by first | (with_reducible assumption) | assumption)
                       obtain ⟨ad107, e107, hx107_0⟩ := Kd.at_int HR102_2.out (ji39) p107 q107
                       obtain rfl : ad106 = ad107 := (by injection e107)
                       replace hx107_0 := pw_cell_below HB.out hx107_0
                       replace p107 := eq_true p107
                       replace q107 := eq_true q107
                       go_wp2
                       go_ret
                       exact ⟨by first | rfl | (simp [errW_none, errW_some] <;> rfl) | (simp only [← hji39]; first | rfl | (simp [errW_none, errW_some] <;> rfl)) | (simp [*, errW_none, errW_some] <;> rfl), bs HB.out⟩
                      ·
                       rw [if_neg c42] at H
                       have c42b0 : decide ((rd ((rd_T43 l0_1 x16_1).f2) x41_3) ≤ (rd ((rd_T43 l0_1 x16_1).f2) (ji39))) = false := decide_eq_false c42
                       clear c42
                       replace H := Option.bind_eq_some_iff.mp H
                       obtain ⟨t108, A450, H⟩ := H
                       replace H : (evindex_Check.l1 kj32 t108 (wrap64 (x4_3 + 1)) l0_1 (l0_1.length : Int) x16_1 ((rd_T43 l0_1 x16_1).f2) (((rd_T43 l0_1 x16_1).f2).length : Int) (wrap64 (x41_3 + 1)) a0_0 l0_1 ((rd_T43 l0_1 x16_1).f0) ((rd_T43 l0_1 x16_1).f1) ((rd_T43 l0_1 x16_1).f2)) = some r := H
                       have A45 := Aside0.mk A450
                       clear A450
                       have H' := Aside0.mk H
                       clear H
                       have hnb46 := NB103_101.out
                       have hnc46 := NB101_103.out
                       obtain ⟨hcz47_0, hcz47_1, hcz47_2⟩ := bc3 BK103.out
                       obtain ⟨hfz47_0, hfz47_1, hfz47_2⟩ := bf3 BK103.out
                       have p107 : 0 ≤ ((ji39) : Int) := of_decide_eq_true (by first | (with_reducible assumption) | assumption)
                       have q107 : (ji39) < (((rd_T43 l0_1 x16_1).f2).length : Int) := of_decide_eq_true (by first | (with_reducible assumption) | assumption)
                       obtain ⟨ad107, e107, hx107_0⟩ := Kd.at_int HR102_2.out (ji39) p107 q107
                       obtain rfl : ad106 = ad107 := (by injection e107)
                       replace hx107_0 := pw_cell_below HB.out hx107_0
                       replace p107 := eq_true p107
                       replace q107 := eq_true q107
                       go_wp2_with (first | (at_mapUpdate; refine wpList_mapUpdate_own _ rfl _ _ _ 57 rfl 3 4 law3m Try.underlying57 (plainElem (H := Unit) Try.prog 4) bm _ _ rfl (MS_own (mq HO_3.out)) (ins_le A45.out) _ _ _ rfl rfl (ins_key A45.out) _ [] (plainElem_bool Try.underlying4 true) ?_; intro w49 ho0 hgr; have n1_ := Aside0.mk (MS_put HO_3.out A45.out ho0); have n2_ := Aside0.mk (blk_grown (bg BK101.out) hgr (MS_ne HO_3.out BK101.out)); have n3_ := Aside0.mk (blk_grown (bg BK103.out) hgr (MS_ne HO_3.out BK103.out)); have n4_ := Aside0.mk ((bs HB.out).grown hgr (below_size (bs HB.out)) (MS_ge HO_3.out)); clear HO_3; clear BK101; clear BK103; clear HB; have HO110 := n1_; have BK101 := n2_; have BK103 := n3_; have HB := n4_; clear n1_ n2_ n3_ n4_; clear hgr ho0))
                       go_roundg kj32
                       case measure => have := HK1.out; have := HJ9.out; have := HK3.out; have := HJ32.out; omega
                       case rel => exact ⟨(t108), (wrap64 (x4_3 + 1)), (wrap64 (x41_3 + 1)), (by first | rfl | (simp; done) | (simp [*]; done)), (by first | rfl | (simp; done) | (simp [*]; done)), H', ⟨by have := HK1.out; have := HJ9.out; have := HK3.out; have := HJ32.out; omega⟩, ⟨by (with_reducible repeat (first | apply MS_alloc | apply MS_drewN | apply MS_drew)); exact HO110.out⟩, ⟨bg BK101.out⟩, ⟨bg BK103.out⟩, ⟨bs HB.out⟩⟩
                     ·
                      rw [if_neg c41] at H
                      exact absurd H (by simp)
                    ·
                     rw [if_neg c40] at H
                     exact absurd H (by simp)
                   ·
                    rw [if_neg c38] at H
                    have c38b0 : decide (0 < x41_3) = false := decide_eq_false c38
                    clear c38
                    replace H := Option.bind_eq_some_iff.mp H
                    obtain ⟨t111, A500, H⟩ := H
                    replace H : (evindex_Check.l1 kj32 t111 (wrap64 (x4_3 + 1)) l0_1 (l0_1.length : Int) x16_1 ((rd_T43 l0_1 x16_1).f2) (((rd_T43 l0_1 x16_1).f2).length : Int) (wrap64 (x41_3 + 1)) a0_0 l0_1 ((rd_T43 l0_1 x16_1).f0) ((rd_T43 l0_1 x16_1).f1) ((rd_T43 l0_1 x16_1).f2)) = some r := H
                    have A50 := Aside0.mk A500
                    clear A500
                    have H' := Aside0.mk H
                    clear H
                    go_wp2_with (first | (at_mapUpdate; refine wpList_mapUpdate_own _ rfl _ _ _ 57 rfl 3 4 law3m Try.underlying57 (plainElem (H := Unit) Try.prog 4) bm _ _ rfl (MS_own (mq HO_3.out)) (ins_le A50.out) _ _ _ rfl rfl (ins_key A50.out) _ [] (plainElem_bool Try.underlying4 true) ?_; intro w52 ho0 hgr; have n1_ := Aside0.mk (MS_put HO_3.out A50.out ho0); have n2_ := Aside0.mk (blk_grown (bg BK101.out) hgr (MS_ne HO_3.out BK101.out)); have n3_ := Aside0.mk (blk_grown (bg BK103.out) hgr (MS_ne HO_3.out BK103.out)); have n4_ := Aside0.mk ((bs HB.out).grown hgr (below_size (bs HB.out)) (MS_ge HO_3.out)); clear HO_3; clear BK101; clear BK103; clear HB; have HO113 := n1_; have BK101 := n2_; have BK103 := n3_; have HB := n4_; clear n1_ n2_ n3_ n4_; clear hgr ho0))
                    go_roundg kj32
                    case measure => have := HK1.out; have := HJ9.out; have := HK3.out; have := HJ32.out; omega
                    case rel => exact ⟨(t111), (wrap64 (x4_3 + 1)), (wrap64 (x41_3 + 1)), (by first | rfl | (simp; done) | (simp [*]; done)), (by first | rfl | (simp; done) | (simp [*]; done)), H', ⟨by have := HK1.out; have := HJ9.out; have := HK3.out; have := HJ32.out; omega⟩, ⟨by (with_reducible repeat (first | apply MS_alloc | apply MS_drewN | apply MS_drew)); exact HO113.out⟩, ⟨bg BK101.out⟩, ⟨bg BK103.out⟩, ⟨bs HB.out⟩⟩
               ·
                rw [if_neg c32] at H
                exact absurd H (by simp)
              ·
               rw [if_neg c31] at H
               exact absurd H (by simp)
             ·
              rw [if_neg c30] at H
              have c30b0 : decide (x41_3 < (((rd_T43 l0_1 x16_1).f2).length : Int)) = false := decide_eq_false c30
              clear c30
              have H' := Aside0.mk H
              clear H
              go_wp2
              go_roundg k3
              case measure => have := HK1.out; have := HJ9.out; have := HK3.out; omega
              case rel => exact ⟨(x3_3), (x4_3), (wrap64 (x16_1 + 1)), (by first | rfl | (simp; done) | (simp [*]; done)), (by first | rfl | (simp; done) | (simp [*]; done)), H', ⟨by have := HK1.out; have := HJ9.out; have := HK3.out; omega⟩, ⟨by (with_reducible repeat (first | apply MS_alloc | apply MS_drewN | apply MS_drew)); exact HO_3.out⟩, ⟨bg BK101.out⟩, ⟨bs HB.out⟩⟩
      ·
       rw [if_neg c9] at H
       exact absurd H (by simp)
     ·
      rw [if_neg c8] at H
      exact absurd H (by simp)
    ·
     rw [if_neg c7] at H
     have c7b0 : decide (x16_1 < (l0_1.length : Int)) = false := decide_eq_false c7
     clear c7
     by_cases c53 : ((Go.Maps.size (setD x3_1) : Nat) : Int) < x4_1
     ·
      rw [if_pos c53] at H
      have c53b0 : decide (((Go.Maps.size (setD x3_1) : Nat) : Int) < x4_1) = true := decide_eq_true c53
      clear c53
      obtain rfl := Option.some.inj H
      go_wp2_with (first | (at_len; refine wpList_len_own _ rfl _ 57 rfl 3 4 Try.underlying57 (plainElem (H := Unit) Try.prog 4) bm _ _ rfl (MS_own (mq HO_3.out)) ?_))
      go_ret
      exact ⟨by first | rfl | (simp [errW_none, errW_some] <;> rfl) | (simp [*, errW_none, errW_some] <;> rfl), bs HB.out⟩
     ·
      rw [if_neg c53] at H
      have c53b0 : decide (((Go.Maps.size (setD x3_1) : Nat) : Int) < x4_1) = false := decide_eq_false c53
      clear c53
      by_cases c55 : x4_1 < a0_0
      ·
       rw [if_pos c55] at H
       have c55b0 : decide (x4_1 < a0_0) = true := decide_eq_true c55
       clear c55
       obtain rfl := Option.some.inj H
       obtain ⟨hcz57_0, hcz57_1⟩ := bc2 BK101.out
       obtain ⟨hfz57_0, hfz57_1⟩ := bf2 BK101.out
       go_wp2_with (first | (at_len; refine wpList_len_own _ rfl _ 57 rfl 3 4 Try.underlying57 (plainElem (H := Unit) Try.prog 4) bm _ _ rfl (MS_own (mq HO_3.out)) ?_))
       go_ret
       exact ⟨by first | rfl | (simp [errW_none, errW_some] <;> rfl) | (simp [*, errW_none, errW_some] <;> rfl), bs HB.out⟩
      ·
       rw [if_neg c55] at H
       have c55b0 : decide (x4_1 < a0_0) = false := decide_eq_false c55
       clear c55
       obtain rfl := Option.some.inj H
       obtain ⟨hcz59_0, hcz59_1⟩ := bc2 BK101.out
       obtain ⟨hfz59_0, hfz59_1⟩ := bf2 BK101.out
       go_wp2_with (first | (at_len; refine wpList_len_own _ rfl _ 57 rfl 3 4 Try.underlying57 (plainElem (H := Unit) Try.prog 4) bm _ _ rfl (MS_own (mq HO_3.out)) ?_))
       go_ret
       exact ⟨by first | rfl | (simp [errW_none, errW_some] <;> rfl) | (simp [*, errW_none, errW_some] <;> rfl), bs HB.out⟩

end Go.Proofs.Yteifekndhgkgcaa.H
