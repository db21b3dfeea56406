/- evindex.order and cmp.Or of two numbers, in whatever world; no condition. -/
import Derived.Test.YteifekndhgkgcaaH0
import Derived.Test.YteifekndhgkgcaaHShelf
import Derived.Shelf.Small.Wraps
import Derived.Deep.RegionWith
namespace Go.Proofs.Yteifekndhgkgcaa.H
open Go.RowKit Go.Proofs.YteifekndhgkgcaaW.PrintWords Go.Proofs.YteifekndhgkgcaaW.PrintLast Go.Proofs.YteifekndhgkgcaaW.PrintMore
open Go.Shelf
set_option linter.unusedSimpArgs false
set_option linter.unusedVariables false
theorem compare36 (x y : Int) (w : World) : Calls Try.prog 36 #[.int .i64 x, .int .i64 y] w fun e w' => e = .returned (.int .i64 (Lib.compareInt x y)) ∧ w' = w := Any.cmp_Compare_int Try.lays122 x y w
set_option maxRecDepth 100000 in
theorem or2 (g : Nat) (a b : Int) (W : World) (h0 : W.cell? ⟨g, 0, none⟩ = some (.int .i64 a)) (h1 : W.cell? ⟨g, 1, none⟩ = some (.int .i64 b)) :
    Calls Try.prog 35 #[.slice (some ⟨g, 0, none⟩) 2 2] W fun e w' => e = .returned (.int .i64 (if a = 0 then b else a)) ∧ w' = W := by
  by_cases ha : a = 0
  · rw [if_pos ha]
    subst ha
    by_cases hb : b = 0
    · subst hb
      go_enter Try.func35, Try.ntmps35
      go_wp2
      refine wp_loop_rounds 3 ?_
      rw [rounds_succ]
      go_wp2
      rw [rounds_succ]
      go_wp2
      rw [rounds_succ]
      go_wp2
      go_ret
      exact ⟨rfl, rfl⟩
    · have hb0 : (b != 0) = true := by simp [hb]
      have hb1 : (b == 0) = false := by simp [hb]
      go_enter Try.func35, Try.ntmps35
      go_wp2
      refine wp_loop_rounds 3 ?_
      rw [rounds_succ]
      go_wp2
      rw [rounds_succ]
      go_wp2
      go_ret
      exact ⟨rfl, rfl⟩
  · rw [if_neg ha]
    have hb0 : (a != 0) = true := by simp [ha]
    have hb1 : (a == 0) = false := by simp [ha]
    go_enter Try.func35, Try.ntmps35
    go_wp2
    refine wp_loop_rounds 3 ?_
    rw [rounds_succ]
    go_wp2
    go_ret
    exact ⟨rfl, rfl⟩
def evindex_order.T1 : Bool × List (List Nat × List Nat) := (true, [([], []), ([0], [0]), ([], []), ([2], [2]), ([1, 3], [1, 3]), ([], []), ([5], [5]), ([], []), ([7], [7]), ([6, 8, 4], [6, 8]), ([4, 9], [4, 9]), ([10, 9], [10]), ([11, 11, 0, 1, 2, 3, 4, 5, 6, 7, 8, 9, 10, 11], [11])])
def evindex_order.B1 : List Nat := [0, 1, 0, 4, 15, 0, 32, 0, 128, 511, 1023, 2047, 4095]
theorem evindex_order.tab1 : rtab .any (opsOf Try.f25 1) = evindex_order.T1 := by kernel_rfl
theorem evindex_order.bits1 : waitsOk evindex_order.T1.2 evindex_order.B1 = true := by kernel_rfl
/-- what order answers -/
def ordI (x y : Int × Int) : Int := if Lib.compareInt x.1 y.1 = 0 then Lib.compareInt x.2 y.2 else Lib.compareInt x.1 y.1
set_option maxRecDepth 100000 in
set_option maxHeartbeats 2000000 in
theorem order25 (x y : Int × Int) (p q : Value) (W : World) : Calls Try.prog 25 #[.agg #[.int .i64 x.1, .int .i64 x.2, p], .agg #[.int .i64 y.1, .int .i64 y.2, q]] W fun e w' => e = .returned (.int .i64 (ordI x y)) ∧ ∃ n os', w' = Go.Sort.grow (W.drewN n) os' := by
  have hu43 := Try.underlying43
  go_enter Try.func25, Try.ntmps25
  go_wp2
  have c0 : ((W.alloc (Obj.cells #[Value.int .i64 x.1, Value.int .i64 x.2, p] 43)).alloc (Obj.cells #[Value.int .i64 y.1, Value.int .i64 y.2, q] 43)).cell? ⟨W.heap.size, 0, none⟩ = some (.int .i64 x.1) := by go_simp
  have c1 : ((W.alloc (Obj.cells #[Value.int .i64 x.1, Value.int .i64 x.2, p] 43)).alloc (Obj.cells #[Value.int .i64 y.1, Value.int .i64 y.2, q] 43)).cell? ⟨W.heap.size, 1, none⟩ = some (.int .i64 x.2) := by go_simp
  have c2 : ((W.alloc (Obj.cells #[Value.int .i64 x.1, Value.int .i64 x.2, p] 43)).alloc (Obj.cells #[Value.int .i64 y.1, Value.int .i64 y.2, q] 43)).cell? ⟨W.heap.size + 1, 0, none⟩ = some (.int .i64 y.1) := by go_simp
  have c3 : ((W.alloc (Obj.cells #[Value.int .i64 x.1, Value.int .i64 x.2, p] 43)).alloc (Obj.cells #[Value.int .i64 y.1, Value.int .i64 y.2, q] 43)).cell? ⟨W.heap.size + 1, 1, none⟩ = some (.int .i64 y.2) := by go_simp
  have hg : (W.alloc (Obj.cells #[Value.int .i64 x.1, Value.int .i64 x.2, p] 43)).alloc (Obj.cells #[Value.int .i64 y.1, Value.int .i64 y.2, q] 43) = Go.Sort.grow W #[Obj.cells #[Value.int .i64 x.1, Value.int .i64 x.2, p] 43, Obj.cells #[Value.int .i64 y.1, Value.int .i64 y.2, q] 43] := by
    rw [Go.Sort.alloc_eq_grow, Go.Sort.alloc_eq_grow, Go.Sort.grow_grow]; rfl
  generalize (W.alloc (Obj.cells #[Value.int .i64 x.1, Value.int .i64 x.2, p] 43)).alloc (Obj.cells #[Value.int .i64 y.1, Value.int .i64 y.2, q] 43) = W2 at c0 c1 c2 c3 hg ⊢
  replace c0 : W2.drew.cell? ⟨W.heap.size, 0, none⟩ = some (.int .i64 x.1) := c0
  replace c1 : W2.drew.cell? ⟨W.heap.size, 1, none⟩ = some (.int .i64 x.2) := c1
  replace c2 : W2.drew.cell? ⟨W.heap.size + 1, 0, none⟩ = some (.int .i64 y.1) := c2
  replace c3 : W2.drew.cell? ⟨W.heap.size + 1, 1, none⟩ = some (.int .i64 y.2) := c3
  have hg2 : W2.drew = Go.Sort.grow (W.drewN 1) #[Obj.cells #[Value.int .i64 x.1, Value.int .i64 x.2, p] 43, Obj.cells #[Value.int .i64 y.1, Value.int .i64 y.2, q] 43] := by rw [hg]; rfl
  have hsz : W2.drew.heap.size = W.heap.size + 2 := by rw [hg2]; simp [Go.Sort.grow]
  refine start_ (n := 13) (S := fun w' => w'.cell? ⟨W.heap.size, 0, none⟩ = some (.int .i64 x.1) ∧ w'.cell? ⟨W.heap.size, 1, none⟩ = some (.int .i64 x.2) ∧ w'.cell? ⟨W.heap.size + 1, 0, none⟩ = some (.int .i64 y.1) ∧ w'.cell? ⟨W.heap.size + 1, 1, none⟩ = some (.int .i64 y.2)) (ds := []) (bsq 0 13) (by kernel_rfl) rfl rfl ⟨c0, c1, c2, c3⟩ (fun hHeld => ?_); refine with_tabW evindex_order.tab1 evindex_order.bits1 (fun HT_ HW_ => ?_)
  generalize W2.drew = w8 at c0 c1 c2 c3 hg2 hsz hHeld ⊢
  refine pu 0 5 (bsq 1 12) ?_
  refine pu 2 7 (bls [1, 1, 1, 10]) ?_
  refine pu 5 10 (bls [1, 1, 1, 2, 1, 7]) ?_
  refine pu 7 12 (bls [1, 1, 1, 2, 1, 1, 1, 5]) ?_
  refine tk 1 6 (bls [3, 2, 1, 1, 1, 5]) hHeld ?_ (he := by rintro w' ⟨s0, s1, s2, s3⟩; go_simp; with_reducible rfl)
  refine tk 3 8 (bls [4, 1, 1, 1, 1, 5]) hHeld ?_ (he := by rintro w' ⟨s0, s1, s2, s3⟩; go_simp; with_reducible rfl)
  refine tk 6 11 (bls [4, 1, 3, 5]) hHeld ?_ (he := by rintro w' ⟨s0, s1, s2, s3⟩; go_simp; with_reducible rfl)
  refine tk 8 13 (bls [4, 1, 4, 4]) hHeld ?_ (he := by rintro w' ⟨s0, s1, s2, s3⟩; go_simp; with_reducible rfl)
  refine one_ (i := 4) (N := some 9) (bsq 9 4) rfl rfl (one_of HT_.out (by kernel_rfl)) (by decide) (fun K hK => ?_)
  refine goes_ Try.func36 (by kernel_rfl) rfl #[.int .i64 x.1, .int .i64 y.1] (by rfl) rfl rfl (by (try simp only [List.map_toArray, List.map_cons, List.map_nil]); first | done | rfl) ?_
  refine (compare36 x.1 y.1 _).mono ?_
  rintro e w_ ⟨rfl, hw_⟩
  obtain rfl := hw_.symm
  clear hw_
  refine ⟨_, rfl, ?_⟩
  refine hK.out _ _ ⟨c0, c1, c2, c3⟩ (fun hHeld => ?_)
  clear hK K
  refine norm_ (a' := ?_) ?_ ?_
  rotate_left
  ·
   show Act.put _ (some 9) _ = _
   simp only [Act.put, List.setIfInBounds_toArray, List.set_cons_zero, List.set_cons_succ, i64_w, i32_w]
   rfl
  refine one_ (i := 9) (N := some 14) (bsq 10 3) rfl rfl (one_of HT_.out (by kernel_rfl)) (by decide) (fun K hK => ?_)
  refine goes_ Try.func36 (by kernel_rfl) rfl #[.int .i64 x.2, .int .i64 y.2] (by rfl) rfl rfl (by (try simp only [List.map_toArray, List.map_cons, List.map_nil]); first | done | rfl) ?_
  refine (compare36 x.2 y.2 _).mono ?_
  rintro e w_ ⟨rfl, hw_⟩
  obtain rfl := hw_.symm
  clear hw_
  refine ⟨_, rfl, ?_⟩
  refine hK.out _ _ ⟨c0, c1, c2, c3⟩ (fun hHeld => ?_)
  clear hK K
  refine norm_ (a' := ?_) ?_ ?_
  rotate_left
  ·
   show Act.put _ (some 14) _ = _
   simp only [Act.put, List.setIfInBounds_toArray, List.set_cons_zero, List.set_cons_succ, i64_w, i32_w]
   rfl
  generalize hu : Lib.compareInt x.1 y.1 = u
  generalize hv : Lib.compareInt x.2 y.2 = v
  have e0 : ∀ o : Obj, ∀ k, k < w8.heap.size → ∀ off, (w8.alloc o).cell? ⟨k, off, none⟩ = w8.cell? ⟨k, off, none⟩ := fun o k hk off => World.cell?_alloc_lt _ _ _ hk
  have r0 : (w8.alloc (.cells #[.int .i64 u, .int .i64 v] 3)).cell? ⟨w8.heap.size, 0, none⟩ = some (.int .i64 u) := by go_simp
  have r1 : (w8.alloc (.cells #[.int .i64 u, .int .i64 v] 3)).cell? ⟨w8.heap.size, 1, none⟩ = some (.int .i64 v) := by go_simp
  refine one_ (i := 10) (N := some 15) (bsq 11 2) rfl rfl (one_of HT_.out (by kernel_rfl)) (by decide) (fun K hK => ?_)
  refine value_ (v := .slice (some ⟨w8.heap.size, 0, none⟩) 2 2) (w1 := w8.alloc (.cells #[.int .i64 u, .int .i64 v] 3)) rfl rfl (by go_simp) ?_
  refine hK.out _ _ ⟨(e0 _ _ (by omega) _).trans c0, (e0 _ _ (by omega) _).trans c1, (e0 _ _ (by omega) _).trans c2, (e0 _ _ (by omega) _).trans c3⟩ (fun hHeld => ?_)
  clear hK K
  refine norm_ (a' := ?_) ?_ ?_
  rotate_left
  ·
   show Act.put _ (some 15) _ = _
   simp only [Act.put, List.setIfInBounds_toArray, List.set_cons_zero, List.set_cons_succ, i64_w, i32_w]
   rfl
  refine one_ (i := 11) (N := some 16) (bsq 12 1) rfl rfl (one_of HT_.out (by kernel_rfl)) (by decide) (fun K hK => ?_)
  refine goes_ Try.func35 (by kernel_rfl) rfl #[.slice (some ⟨w8.heap.size, 0, none⟩) 2 2] (by rfl) rfl rfl (by (try simp only [List.map_toArray, List.map_cons, List.map_nil]); first | done | rfl) ?_
  have horr := or2 w8.heap.size u v _ r0 r1
  have hans : ordI x y = if u = 0 then v else u := by unfold ordI; rw [hu, hv]
  rw [← hans] at horr
  refine horr.mono ?_
  clear horr hans
  generalize hrr : ordI x y = rr
  rintro e w_ ⟨rfl, hw_⟩
  obtain rfl := hw_.symm
  clear hw_
  refine ⟨_, rfl, ?_⟩
  refine hK.out _ _ ⟨(e0 _ _ (by omega) _).trans c0, (e0 _ _ (by omega) _).trans c1, (e0 _ _ (by omega) _).trans c2, (e0 _ _ (by omega) _).trans c3⟩ (fun hHeld => ?_)
  clear hK K
  refine norm_ (a' := ?_) ?_ ?_
  rotate_left
  ·
   show Act.put _ (some 16) _ = _
   simp only [Act.put, List.setIfInBounds_toArray, List.set_cons_zero, List.set_cons_succ, i64_w, i32_w]
   rfl
  refine pu 12 4 (bsq 13 0) ?_
  refine done_ (done_of HT_.out (by kernel_rfl)) ?_
  try go_wp2
  go_ret
  refine ⟨by rw [hrr]; rfl, 1, #[Obj.cells #[Value.int .i64 x.1, Value.int .i64 x.2, p] 43, Obj.cells #[Value.int .i64 y.1, Value.int .i64 y.2, q] 43, .cells #[.int .i64 u, .int .i64 v] 3], ?_⟩
  rw [hg2, Go.Sort.alloc_eq_grow, Go.Sort.grow_grow]
  rfl
end Go.Proofs.Yteifekndhgkgcaa.H
