/- feed.Split: the parts of events at ticks, for lists of at most a thousand events and a thousand ticks. -/
import Derived.Test.YtioedeglgljblaaHParts
import Derived.Test.YtioedeglgljblaaHSortI
import Derived.Test.YtioedeglgljblaaHClone
import Derived.Maps.OwnIn
import Derived.Shelf.Abstract
namespace Go.Proofs.Ytioedeglgljblaa.H
open Go.RowKit Go.Proofs.YtioedeglgljblaaW.PrintWords Go.Proofs.YtioedeglgljblaaW.PrintLast Go.Proofs.YtioedeglgljblaaW.PrintMore
attribute [local go_sem] Oper.semAt_some
def feed_Split.f (l : List S48) (at_ : List Int) : Option (List S48) := if l.length ≤ 1000 ∧ at_.length ≤ 1000 then some (l.flatMap fun e => partsE e (isort at_)) else none
theorem cutE_len : ∀ (ts : List Int) (e : S48), (cutE e ts).length ≤ ts.length + 1
  | [], _ => Nat.le_refl _
  | t :: ts, e => by
    unfold cutE
    split
    · have := cutE_len ts e
      simp only [List.length_cons]
      omega
    · have := cutE_len ts ⟨e.f0, t, e.f2, e.f3, e.f4, e.f5, e.f6⟩
      simp only [List.length_cons]
      omega
theorem partsE_len (e : S48) (ts : List Int) : (partsE e ts).length ≤ ts.length + 1 := by
  unfold partsE
  split
  · exact cutE_len ts e
  · simp
theorem flat_len (ts : List Int) (h : ts.length ≤ 1000) : ∀ l : List S48, (l.flatMap fun e => partsE e ts).length ≤ l.length * 1001
  | [] => by simp
  | e :: l => by
    have h1 := flat_len ts h l
    have h2 := partsE_len e ts
    rw [List.flatMap_cons, List.length_append, List.length_cons]
    omega
def cellsL (e : S48) : List Value := [.int .i64 e.f0, .int .i64 e.f1, .int .i64 e.f2, .int .i64 e.f3, .int .i64 e.f4, .string e.f5, .int .i64 e.f6]
def flatE (xs : List S48) : List Value := xs.flatMap cellsL
theorem flatE_snoc (xs : List S48) (x : S48) : flatE (xs ++ [x]) = flatE xs ++ cellsL x := by unfold flatE; simp
theorem flatE_len : ∀ xs : List S48, (flatE xs).length = xs.length * 7
  | [] => rfl
  | x :: xs => by
    have := flatE_len xs
    unfold flatE at this ⊢
    rw [List.flatMap_cons, List.length_append, this, List.length_cons]
    simp [cellsL]
    omega
theorem reps_flat (w : World) (base : Nat) (ok : Nat → Prop) : ∀ (xs ys : List S48), Reps (k48.M w base ok) 7 ys (flatE ys) → Reps (k48.M w base ok) 7 (ys ++ xs) (flatE (ys ++ xs))
  | [], ys, h => by rw [List.append_nil]; exact h
  | x :: xs, ys, h => by
    have := reps_flat w base ok xs (ys ++ [x]) (by rw [flatE_snoc]; exact h.snoc (k48_mkM w base ok x) rfl)
    rw [List.append_assoc] at this
    exact this
/-- what the appends to the row in the box Bo leave alone -/
def SafeO (Bo : Nat) (g : Nat) (W : World) : Prop := (Bo < W.heap.size ∧ g < W.heap.size) ∧ g ≠ Bo ∧ ∀ v, W.cell? ⟨Bo, 0, none⟩ = some v → v.ownBlock ≠ some g
/-- the row that is made, in its box -/
def OutAt (base Bo : Nat) (w0 : World) (xs : List S48) (W : World) : Prop := ∃ v, Boxed W Bo 26 v ∧ W.ownsRow base 48 7 v xs.length (flatE xs) ∧ Below base w0 W
def Marks (ds : List Nat) (W : World) : Prop := ∀ D ∈ ds, W.heap[D]? = some (.deferred (some []))
theorem cell_same {w w' : World} {a : Addr} (h : w'.heap[a.block]? = w.heap[a.block]?) : w'.cell? a = w.cell? a := by
  unfold World.cell?
  rw [h]
theorem SafeO.grow {Bo g : Nat} {A B : World} (h : SafeO Bo g A) (hg : A.grownBy B none) : SafeO Bo g B :=
  ⟨⟨Nat.lt_of_lt_of_le h.1.1 hg.size, Nat.lt_of_lt_of_le h.1.2 hg.size⟩, h.2.1, fun v hv => h.2.2 v (by rw [← hv]; exact (cell_same (hg.block Bo h.1.1 (by simp))).symm)⟩
theorem OutAt.lt {base Bo : Nat} {w0 : World} {xs : List S48} {W : World} (h : OutAt base Bo w0 xs W) : Bo < W.heap.size := by
  obtain ⟨v, h1, _⟩ := h
  exact h1.lt
theorem OutAt.grow {base Bo : Nat} {w0 : World} {xs : List S48} {A B : World} (h : OutAt base Bo w0 xs A) (hb : base ≤ A.heap.size) (hg : A.grownBy B none) : OutAt base Bo w0 xs B := by
  obtain ⟨v, h1, h2, h3⟩ := h
  refine ⟨v, h1.kept hg (by simp), h2.kept hg ?_, pw_below_grown h3 none hb hg (by simp)⟩
  cases hv : v.ownBlock with
  | none => exact .inl rfl
  | some g => exact .inr (by simp)
theorem OutAt.safe_cell {base Bo : Nat} {w0 : World} {xs : List S48} {A : World} {Be off : Nat} {u : Value} (h : OutAt base Bo w0 xs A) (hs : SafeO Bo Be A) (hb : base ≤ Be) : OutAt base Bo w0 xs (A.setCell ⟨Be, off, none⟩ u) := by
  obtain ⟨v, h1, h2, h3⟩ := h
  have hg : A.grownBy (A.setCell ⟨Be, off, none⟩ u) (some Be) := ⟨rfl, rfl, rfl, by simp [World.setCell], fun k _ hk => Below.heap_setCell _ _ _ k (fun e => hk (by rw [e]))⟩
  refine ⟨v, h1.kept hg (fun e => hs.2.1 (Option.some.inj e).symm), h2.kept hg (.inr (hs.2.2 v h1.cell)), h3.setCell (p := ⟨Be, off, none⟩) hb u⟩
theorem SafeO.set {Bo g Be off : Nat} {A : World} {u : Value} (h : SafeO Bo g A) (hne : Bo ≠ Be) : SafeO Bo g (A.setCell ⟨Be, off, none⟩ u) :=
  ⟨by simpa [World.setCell] using h.1, h.2.1, fun v hv => h.2.2 v (by rw [← hv]; exact (cell_same (setCell_blk hne)).symm)⟩
theorem put_other {A : World} {l : Nat} {o' : Obj} {g : Nat} {cs : Array Value} {t : TypeId} {fr : Nat × Nat} {o : Obj} (h : A.heap[g]? = some (.cells cs t fr)) (hl : A.heap[l]? = some o) (ho : o.isCells = false) : (A.putObj l o').heap[g]? = some (.cells cs t fr) := by
  refine (World.putObj_heap_other ?_).trans h
  rintro rfl
  rw [h] at hl
  cases hl
  cases ho
theorem OutAt.put {base Bo : Nat} {w0 : World} {xs : List S48} {A : World} {l : Nat} {o o' : Obj} (h : OutAt base Bo w0 xs A) (hb : base ≤ l) (hl : A.heap[l]? = some o) (ho : o.isCells = false) : OutAt base Bo w0 xs (A.putObj l o') := by
  obtain ⟨v, h1, h2, h3⟩ := h
  refine ⟨v, put_other h1 hl ho, ownsRow_putObj h2 _ hl ho, ?_⟩
  exact ⟨h3.os, h3.tape, h3.output, by rw [World.putObj]; simpa using h3.size, fun k hk => (World.putObj_heap_other (by omega)).trans (h3.block k hk)⟩
theorem SafeO.put {Bo g : Nat} {A : World} {l : Nat} {o o' : Obj} (h : SafeO Bo g A) (hb : ∃ v, Boxed A Bo 26 v) (hl : A.heap[l]? = some o) (ho : o.isCells = false) : SafeO Bo g (A.putObj l o') := by
  obtain ⟨u, hu⟩ := hb
  refine ⟨by rw [World.putObj]; simpa using h.1, h.2.1, fun v hv => h.2.2 v ?_⟩
  rw [← hv]
  exact (cell_same ((put_other (show A.heap[Bo]? = some (.cells #[u] 26 (0, 0)) from hu) hl ho).trans (show A.heap[Bo]? = some (.cells #[u] 26 (0, 0)) from hu).symm)).symm
theorem KpO_put {Bo : Nat} (W : World) (l : Nat) (o o' : Obj) (hBo : Bo ≠ l) (h : W.heap[l]? = some o) (hc : o.isCells = false) : KpS (SafeO Bo) W (W.putObj l o') := fun g cs t fr hh hsf => by
  refine ⟨put_other hh h hc, by rw [World.putObj]; simpa using hsf.1, hsf.2.1, fun v hv => hsf.2.2 v ?_⟩
  rw [← hv]
  exact (cell_same (World.putObj_heap_other hBo)).symm
theorem KpO_grow {Bo : Nat} {A B : World} (hg : A.grownBy B none) : KpS (SafeO Bo) A B := fun g cs t fr hh hsf =>
  ⟨(hg.block g (Array.getElem?_eq_some_iff.1 hh).1 (by simp)).trans hh, hsf.grow hg⟩
theorem append_safe {Bo g : Nat} {W w1 : World} {v v' : Value} {tmp : Obj} (hs : SafeO Bo g W) (hv : W.cell? ⟨Bo, 0, none⟩ = some v)
    (hgrow : (W.alloc tmp).grownBy w1 v.ownBlock) (hat : v'.ownBlock = v.ownBlock ∨ v'.ownBlock = some (W.alloc tmp).heap.size) (hset : (w1.setCell ⟨Bo, 0, none⟩ v').cell? ⟨Bo, 0, none⟩ = some v') :
    (w1.setCell ⟨Bo, 0, none⟩ v').heap[g]? = W.heap[g]? ∧ SafeO Bo g (w1.setCell ⟨Bo, 0, none⟩ v') := by
  have hlt := hs.1.2
  have hne := hs.2.2 v hv
  have h1 : w1.heap[g]? = W.heap[g]? := by
    rw [hgrow.block g (by simp; omega) (fun e => hne e.symm)]
    exact Below.heap_alloc _ _ _ hlt
  refine ⟨(setCell_blk hs.2.1).trans h1, ?_, hs.2.1, fun u hu => ?_⟩
  · have := hgrow.size
    have h5 := hs.1
    simp at this
    have e5 : (w1.setCell ⟨Bo, 0, none⟩ v').heap.size = w1.heap.size := by simp [World.setCell]
    rw [e5]
    omega
  rw [hset] at hu
  obtain rfl := Option.some.inj hu
  rcases hat with e | e
  · rw [e]; exact hne
  · rw [e]
    intro e'
    have := Option.some.inj e'
    simp at this
    omega
theorem RowSafe.put {Bo Be : Nat} {v : Value} {ts : List Int} {A : World} {l : Nat} {o o' : Obj} (h : RowSafe (SafeO Bo) Be v ts A) (hb : ∃ v, Boxed A Bo 26 v) (hl : A.heap[l]? = some o) (ho : o.isCells = false) : RowSafe (SafeO Bo) Be v ts (A.putObj l o') := by
  obtain ⟨A', c, e, hh⟩ := h
  refine ⟨A', c, e, fun hp => ?_⟩
  obtain ⟨b, cs, t, fr, e1, hne, h1, h2, h3⟩ := hh hp
  exact ⟨b, cs, t, fr, e1, hne, put_other h1 hl ho, h2.put hb hl ho, h3⟩
theorem RowSafe.atBo {Bo Be : Nat} {v : Value} {ts : List Int} {A : World} (h : RowSafe (SafeO Bo) Be v ts A) : RowSafe (SafeO Bo) Bo v ts A := by
  obtain ⟨A', c, e, hh⟩ := h
  refine ⟨A', c, e, fun hp => ?_⟩
  obtain ⟨b, cs, t, fr, e1, _, h1, h2, h3⟩ := hh hp
  exact ⟨b, cs, t, fr, e1, h2.2.1, h1, h2, h3⟩
theorem RowSafe.fresh {Bo Be Be' : Nat} {v : Value} {ts : List Int} {A : World} (h : RowSafe (SafeO Bo) Be v ts A) (hB : A.heap.size ≤ Be') : RowSafe (SafeO Bo) Be' v ts A := by
  obtain ⟨A', c, e, hh⟩ := h
  refine ⟨A', c, e, fun hp => ?_⟩
  obtain ⟨b, cs, t, fr, e1, hne, h1, h2, h3⟩ := hh hp
  exact ⟨b, cs, t, fr, e1, by have := blk_lt h1; omega, h1, h2, h3⟩
def markOf (D : Nat) : Deferred := { target := .collected D, args := #[] }
theorem leaves_marks {F : Fence} {n : Nat} {P : Program} {fn : Func} {tmps : Array Value} {R : Ending → World → Prop} (Inv : World → Prop) (base : Nat)
    (hput : ∀ A l o o', Inv A → base ≤ l → A.heap[l]? = some o → o.isCells = false → Inv (A.putObj l o')) (hend : ∀ A, Inv A → LeavesIn F n P fn tmps R [] .returning A) :
    ∀ (ds : List Nat) (A : World), ds.Nodup → Marks ds A → (∀ D ∈ ds, base ≤ D) → Inv A → LeavesInM F n P fn tmps R (ds.map markOf) .returning A
  | [], A, _, _, _, hA => hend A hA
  | D :: ds, A, hn, hm, hb, hA => by
    have hn' := List.nodup_cons.1 hn
    have hD := hm D List.mem_cons_self
    refine ⟨by simp, .inl ⟨D, _, rfl, run_takeDeferred hD, leaves_marks Inv base hput hend ds _ hn'.2 (fun D' hD' => ?_) (fun D' hD' => hb D' (List.mem_cons_of_mem _ hD')) (hput _ _ _ _ hA (hb D List.mem_cons_self) hD rfl)⟩⟩
    exact (World.putObj_heap_other (fun e => hn'.1 (by rw [e] at hD'; exact hD'))).trans (hm D' (List.mem_cons_of_mem _ hD'))
set_option maxHeartbeats 1000000 in
theorem parts34 (n : Nat) (e : S48) (v : Value) (A : Option Addr) (m c : Nat) (hv : v = .slice A m c) (w : World) :
    CallsIn Fence.wide n Try.prog 34 #[.agg #[.int .i64 e.f0, .int .i64 e.f1, .int .i64 e.f2, .int .i64 e.f3, .int .i64 e.f4, .string e.f5, .int .i64 e.f6], v] w fun e' w' => e' = .returned (.func (.func 45) #[] #[.pointer (some ⟨w.heap.size, 0, none⟩), .pointer (some ⟨w.heap.size + 1, 0, none⟩)]) ∧ w' = (w.alloc (.cells (cellsE e) 48)).alloc (.cells #[v] 35) := by
  subst hv
  have hu48 := Try.underlying48
  have hu35 := Try.underlying35
  refine callsIn_of_wp Try.func34 rfl trivial ?_ rfl
  simp only [Try.ntmps34, List.size_toArray, List.length_cons, List.length_nil, Nat.reduceAdd, Nat.reduceSub, Array.replicate_succ, Array.replicate_zero, List.push_toArray, List.append_toArray, List.nil_append, List.cons_append]
  gi_wp2
  go_ret
  exact ⟨rfl, rfl⟩
theorem new_cells (W : World) (y : S48) (j : Nat) (u : Value) (hj : (cellsL y)[j]? = some u) : (W.alloc (.cells #[.int .i64 y.f0, .int .i64 y.f1, .int .i64 y.f2, .int .i64 y.f3, .int .i64 y.f4, .string y.f5, .int .i64 y.f6] 48)).cell? ((⟨W.heap.size, 0, none⟩ : Addr).add j) = some u := by
  have h := blk_cell (blk_new W (.cells #[.int .i64 y.f0, .int .i64 y.f1, .int .i64 y.f2, .int .i64 y.f3, .int .i64 y.f4, .string y.f5, .int .i64 y.f6] 48)) j
  have e : (⟨W.heap.size, 0, none⟩ : Addr).add j = ⟨W.heap.size, j, none⟩ := by
    simp [Addr.add]
    exact fun h => h.symm
  rw [e, h, ← hj]
  exact (Array.getElem?_toList).symm
theorem cellsL_one (y : S48) : ∀ u ∈ cellsL y, u.oneCell' = true := by
  intro u hu
  simp [cellsL] at hu
  rcases hu with rfl | rfl | rfl | rfl | rfl | rfl | rfl <;> rfl
theorem info48' : (Try.prog.info? 48).map (fun i => (i.zero, i.size, i.bytes)) = some (some (.agg #[(.int .i64 0), (.int .i64 0), (.int .i64 0), (.int .i64 0), (.int .i64 0), (.string ⟨#[]⟩), (.int .i64 0)]), 7, 64) := by kernel_rfl
set_option maxRecDepth 100000 in
set_option maxHeartbeats 4000000 in
theorem feed_Split.calls (A0 : Option Addr) (c0 : Nat) (l0 : List S48) (A1 : Option Addr) (c1 : Nat) (l1 : List Int) (r : List S48) (w : World) (hr0 : Kd.C k48 w A0 l0.length l0) (hc0 : l0.length ≤ c0) (hr1 : Kd.C (Kd.int .i64) w A1 l1.length l1) (hc1 : l1.length ≤ c1) (h : feed_Split.f l0 l1 = some r) :
    Calls Try.prog 15 #[.slice A0 l0.length c0, .slice A1 l1.length c1] w fun e w' => ∃ v0_ : Value, e = .returned (v0_) ∧ Kd.R k48 48 w' w.heap.size (fun _ => True) v0_ r ∧ Below w.heap.size w w' := by
  unfold feed_Split.f at h
  by_cases hb : l0.length ≤ 1000 ∧ l1.length ≤ 1000
  case neg =>
    rw [if_neg hb] at h
    exact absurd h (by simp)
  rw [if_pos hb] at h
  have hre := Option.some.inj h
  have HRE := Aside0.mk hre
  clear h hre
  obtain ⟨hl0, hl1⟩ := hb
  have hu48 := Try.underlying48
  have hu26 := Try.underlying26
  refine (callsIn_wide (n := 3)).1 ?_
  refine callsIn_of_wp_marks Try.func15 rfl trivial ?_ rfl
  simp only [Try.ntmps15, List.size_toArray, List.length_cons, List.length_nil, Nat.reduceAdd, Nat.reduceSub, Array.replicate_succ, Array.replicate_zero, List.push_toArray, List.append_toArray, List.nil_append, List.cons_append]
  have HR0 := Aside0.mk hr0
  have HR1 := Aside0.mk hr1
  have HC0 := Aside0.mk hc0
  have HC1 := Aside0.mk hc1
  have HL0 := Aside0.mk hl0
  have HL1 := Aside0.mk hl1
  have HB := Aside0.mk (Below.refl w.heap.size w)
  clear hr0 hr1 hc0 hc1 hl1
  gi_wp2_with (first
    | (refine ⟨trivial, ?_⟩; gi_at_call 32; refine (callsIn_wide.2 (slices_Clone_int_int.calls A1 c1 l1 l1 _ (Kd.C_below HR1.out HB.out) HC1.out (by unfold slices_Clone_int_int.f; rw [if_pos (by have := HL1.out; omega)]))).mono ?_; rintro e w1 ⟨v1, rfl, hR, hb⟩; have HRS := Aside0.mk (Kd.R_lower hR (below_size HB.out)); have n0_ := Aside0.mk (below_step HB.out hb); clear HB; have HB := n0_; clear n0_ hR hb)
    | (refine ⟨trivial, ?_⟩; gi_at_call 33; refine (callsIn_wide.2 (sort_ints w.heap.size (fun _ => True) w _ v1 l1 HRS.out HB.out (below_size HB.out) (by have := HL1.out; omega))).mono ?_; rintro e w2 ⟨rfl, hR, hb⟩; clear HRS HB; have HRS := Aside0.mk hR; have HB := Aside0.mk hb; clear hR hb))
  obtain ⟨Av, cv, ev⟩ := Kd.R_slice HRS.out
  subst ev
  obtain ⟨ts, hts⟩ : ∃ ts, ts = isort l1 := ⟨_, rfl⟩
  rw [← hts] at HRS HRE ⊢
  have HTS : Aside0 (ts.length ≤ 1000) := ⟨by rw [hts, isort_len]; exact HL1.out⟩
  have hbo : w.heap.size ≤ w2.heap.size := below_size HB.out
  have HO0 : Aside0 (OutAt w.heap.size w2.heap.size w [] (w2.alloc (.cells #[.slice none 0 0] 26))) := ⟨⟨_, Boxed.new _ _ _, World.ownsRow_nil _ _ _ _, below_alloc HB.out _⟩⟩
  have HS0 : Aside0 (RowSafe (SafeO w2.heap.size) w2.heap.size (.slice Av ts.length cv) ts (w2.alloc (.cells #[.slice none 0 0] 26))) := ⟨by
    refine ⟨Av, cv, rfl, fun hp => ?_⟩
    obtain ⟨g, cap, cur, e1, _, hc, _, _, _, _, hx⟩ := I_cells HRS.out hp
    injection e1 with e1
    have hlt := blk_lt hc
    refine ⟨g, cur, 3, (0, 0), e1, by omega, blk_alloc hc _, ⟨⟨by simp, by simp; omega⟩, by omega, fun v hv => ?_⟩, hx⟩
    rw [(Boxed.new w2 26 (.slice none 0 0)).cell] at hv
    obtain rfl := Option.some.inj hv
    simp [Value.ownBlock]⟩
  have HM0 : Aside0 (Marks [] (w2.alloc (.cells #[.slice none 0 0] 26))) := ⟨fun D hD => by simp at hD⟩
  generalize w2.alloc (.cells #[.slice none 0 0] 26) = W0 at HO0 HS0 HM0 ⊢
  have HBO := Aside0.mk hbo
  generalize w2.heap.size = Bo at HO0 HS0 HBO ⊢
  clear HRS HB HR1 HC1 HL1 hts hbo
  refine wpIn_loop (fun a' w' => ∃ (q : Nat) (x : Int) (ds : List Nat) (u8 u9 u17 u18 u19 u20 u21 u22 u23 u24 u25 u26 u27 u28 : Value), Aside0 (x = q) ∧ q ≤ l0.length ∧ Aside0 ds.Nodup ∧ Aside0 (Marks ds w') ∧ Aside0 (∀ D ∈ ds, w.heap.size ≤ D) ∧ Aside0 (OutAt w.heap.size Bo w ((l0.take q).flatMap fun e => partsE e ts) w') ∧ Aside0 (RowSafe (SafeO Bo) Bo (.slice Av ts.length cv) ts w') ∧
    a' = { tmps := #[.slice A0 l0.length c0, .slice A1 l1.length c1, undef, undef, .slice none 0 0, .slice Av ts.length cv, .pointer (some ⟨Bo, 0, none⟩), undef, u8, u9, .slice A1 l1.length c1, .slice Av ts.length cv, .slice Av ts.length cv, .tuple #[], .slice A0 l0.length c0, .int .i64 l0.length, .int .i64 x, u17, u18, u19, u20, u21, u22, u23, u24, u25, u26, u27, u28, undef], defers := ds.map markOf })
    (fun a' _ => l0.length - (Lib.intOf (a'.tmps.getD 16 undef)).toNat) ?start ?round
  case start => exact ⟨0, 0, [], undef, undef, undef, undef, undef, undef, undef, undef, undef, undef, undef, undef, undef, undef, ⟨rfl⟩, Nat.zero_le _, ⟨List.nodup_nil⟩, HM0, ⟨fun D hD => by simp at hD⟩, by simpa using HO0, HS0, rfl⟩
  case round =>
    clear HO0 HS0 HM0
    rintro _ wr ⟨q, x, ds, u8, u9, u17, u18, u19, u20, u21, u22, u23, u24, u25, u26, u27, u28, HX, hq, HND, HM, HDB, HO, HS, rfl⟩
    by_cases hlt : q < l0.length
    · have p105 : 0 ≤ (x : Int) := by rw [HX.out]; omega
      have q105 : x < (l0.length : Int) := by rw [HX.out]; omega
      have HBR : Aside0 (Below w.heap.size w wr) := ⟨by obtain ⟨_, _, _, h3⟩ := HO.out; exact h3⟩
      obtain ⟨ad105, e105, hx0, hx1, hx2, hx3, hx4, hx5, hx6⟩ := at_T48 (Kd.C_below HR0.out HBR.out) x p105 q105
      cases e105
      obtain ⟨e, he⟩ : ∃ e, e = rd_T48 l0 x := ⟨_, rfl⟩
      rw [← he] at hx0 hx1 hx2 hx3 hx4 hx5 hx6
      have HE := Aside0.mk he
      have c5b0 : decide (x < (l0.length : Int)) = true := decide_eq_true q105
      have c6b0 : decide (0 ≤ x) = true := decide_eq_true p105
      clear he hlt
      replace p105 := eq_true p105
      replace q105 := eq_true q105
      gi_wp2_with (refine ⟨trivial, ?_⟩; gi_at_call 34; refine (parts34 _ e _ Av ts.length cv rfl _).mono ?_; rintro e1 w1 ⟨rfl, rfl⟩)
      clear hx0 hx1 hx2 hx3 hx4 hx5 hx6 c6b0
      obtain ⟨W3, hW3⟩ : ∃ W3, W3 = (((wr.alloc (.cells #[.int .i64 e.f0, .int .i64 e.f1, .int .i64 e.f2, .int .i64 e.f3, .int .i64 e.f4, .string e.f5, .int .i64 e.f6] 48)).alloc (.cells (cellsE e) 48)).alloc (.cells #[.slice Av ts.length cv] 35)) := ⟨_, rfl⟩
      rw [← hW3]
      have hB3 : Below wr.heap.size wr W3 := by rw [hW3]; exact below_alloc (below_alloc (below_alloc (Below.refl _ _) _) _) _
      have hg3 := grown_of_below hB3 none
      have hs3 : W3.heap.size = wr.heap.size + 3 := by rw [hW3]; simp
      have hbe3 : W3.heap[wr.heap.size + 1]? = some (.cells (cellsE e) 48 (0, 0)) := by
        rw [hW3]
        have := blk_alloc (blk_new (wr.alloc (.cells #[.int .i64 e.f0, .int .i64 e.f1, .int .i64 e.f2, .int .i64 e.f3, .int .i64 e.f4, .string e.f5, .int .i64 e.f6] 48)) (.cells (cellsE e) 48)) (.cells #[.slice Av ts.length cv] 35)
        rwa [World.size_alloc] at this
      have hba3 : W3.heap[wr.heap.size + 1 + 1]? = some (.cells #[.slice Av ts.length cv] 35 (0, 0)) := by
        rw [hW3]
        have := blk_new ((wr.alloc (.cells #[.int .i64 e.f0, .int .i64 e.f1, .int .i64 e.f2, .int .i64 e.f3, .int .i64 e.f4, .string e.f5, .int .i64 e.f6] 48)).alloc (.cells (cellsE e) 48)) (.cells #[.slice Av ts.length cv] 35)
        rwa [World.size_alloc, World.size_alloc] at this
      have hbase : w.heap.size ≤ wr.heap.size := HBR.out.size
      have hbolt : Bo < wr.heap.size := HO.out.lt
      have hml : ∀ D ∈ ds, D < wr.heap.size := fun D hD => (Array.getElem?_eq_some_iff.1 (HM.out D hD)).1
      have hO3 : OutAt w.heap.size Bo w ((l0.take q).flatMap fun e => partsE e ts) W3 := HO.out.grow hbase hg3
      have hS3 : SafeO Bo (wr.heap.size + 1) W3 := ⟨⟨by omega, by omega⟩, by omega, fun v hv => by
        obtain ⟨u, h1, h2, h3⟩ := HO.out
        have e1 := (h1.kept hg3 (by simp)).cell
        rw [e1] at hv
        obtain rfl := Option.some.inj hv
        intro e2
        have := own_lt h2 _ e2
        omega⟩
      have hR3 : RowSafe (SafeO Bo) (wr.heap.size + 1) (.slice Av ts.length cv) ts W3 := (HS.out.fresh (by omega)).grow hg3 (fun A B g h k => SafeO.grow k h)
      have hM3 : Marks ds W3 := fun D hD => (hg3.block D (hml D hD) (by simp)).trans (HM.out D hD)
      obtain ⟨outs, houts⟩ : ∃ outs, outs = (l0.take q).flatMap fun e => partsE e ts := ⟨_, rfl⟩
      rw [← houts] at hO3
      have HOUTS := Aside0.mk houts
      have hlen3 : outs.length ≤ q * 1001 := by
        rw [houts]
        have := flat_len ts HTS.out (l0.take q)
        rw [List.length_take, Nat.min_eq_left hq] at this
        exact this
      have HW3 := Aside0.mk hW3
      clear hW3 HO HS HM houts
      obtain ⟨i0, hi, hz0, hz1, hz2⟩ := info_parts info48'
      refine range_state (F := Fence.wide) (n := 3) (gf := 45) (lb := #[.pointer (some ⟨wr.heap.size + 1, 0, none⟩), .pointer (some ⟨wr.heap.size + 1 + 1, 0, none⟩)]) rfl (by omega) rfl trivial (enters_of Try.func45 (by kernel_rfl) rfl)
        (encs := encE) (Kp := KpS (SafeO Bo)) (N := (partsE e ts).length) (ys := partsE e ts) (Be := wr.heap.size + 1) (by omega)
        (fun l J W hB hgr hset hY h0 => parts45 2 (by omega) l (wr.heap.size + 1) (wr.heap.size + 1 + 1) (.slice Av ts.length cv) e ts (partsE e ts) rfl (by have := HTS.out; omega) (SafeO Bo) J W hgr hset hY
          (blk_below hbe3 hB) (blk_below hba3 hB) (hS3.grow (grown_of_below hB none)) (hR3.grow (grown_of_below hB none) (fun A B g h k => SafeO.grow k h)) (fun A B g h k => SafeO.grow k h) (fun A off v g h => SafeO.set h (by omega)) h0)
        KpS_trans (fun W l o o' hl h hc => KpO_put W l o o' (by omega) h hc) (fun _ => rfl)
        (fun pre W => OutAt w.heap.size Bo w (outs ++ pre) W ∧ SafeO Bo (wr.heap.size + 1) W ∧ RowSafe (SafeO Bo) (wr.heap.size + 1) (.slice Av ts.length cv) ts W ∧ Marks ds W)
        (fun pre y a₁ W => ∃ Bx, a₁ = { tmps := #[.slice (some ad105) l0.length c0, .slice A1 l1.length c1, undef, undef, .slice none 0 0, .slice Av ts.length cv, .pointer (some ⟨Bo, 0, none⟩), undef, .pointer (some ⟨wr.heap.size, 0, none⟩), .pointer (some ⟨Bx, 0, none⟩), .slice A1 l1.length c1, .slice Av ts.length cv, .slice Av ts.length cv, .tuple #[], .slice (some ad105) l0.length c0, .int .i64 l0.length, .int .i64 x, .bool true, .pointer (some (ad105.add (x.toNat * 7))), .agg #[.int .i64 e.f0, .int .i64 e.f1, .int .i64 e.f2, .int .i64 e.f3, .int .i64 e.f4, .string e.f5, .int .i64 e.f6], .agg #[.int .i64 e.f0, .int .i64 e.f1, .int .i64 e.f2, .int .i64 e.f3, .int .i64 e.f4, .string e.f5, .int .i64 e.f6], .slice Av ts.length cv, .func (.func 45) #[] #[.pointer (some ⟨wr.heap.size + 1, 0, none⟩), .pointer (some ⟨wr.heap.size + 1 + 1, 0, none⟩)], .agg #[.int .i64 y.f0, .int .i64 y.f1, .int .i64 y.f2, .int .i64 y.f3, .int .i64 y.f4, .string y.f5, .int .i64 y.f6], u24, u25, u26, u27, u28, undef], defers := [] } ∧
          W.heap[Bx]? = some (.cells (cellsE y) 48 (0, 0)) ∧ pre.length < (partsE e ts).length ∧ OutAt w.heap.size Bo w (outs ++ pre) W ∧ SafeO Bo (wr.heap.size + 1) W ∧ RowSafe (SafeO Bo) (wr.heap.size + 1) (.slice Av ts.length cv) ts W ∧ Marks ds W)
        (fun s => ⟨fun A B h hg => ⟨h.1.grow (by obtain ⟨_, _, _, h3⟩ := h.1; exact h3.size) hg, h.2.1.grow hg, h.2.2.1.grow hg (fun A B g h k => SafeO.grow k h), fun D hD => (hg.block D (Array.getElem?_eq_some_iff.1 (h.2.2.2 D hD)).1 (by simp)).trans (h.2.2.2 D hD)⟩,
          fun A off v h => ⟨h.1.safe_cell h.2.1 (by omega), h.2.1.set (by omega), h.2.2.1.set off v (fun A off v g h => SafeO.set h (by omega)), fun D hD => (setCell_blk (by have := hml D hD; omega)).trans (h.2.2.2 D hD)⟩,
          fun A l o o' h hl ho hc => ⟨h.1.put (by omega) ho hc, h.2.1.put (by obtain ⟨v, h1, _⟩ := h.1; exact ⟨v, h1⟩) ho hc, h.2.2.1.put (by obtain ⟨v, h1, _⟩ := h.1; exact ⟨v, h1⟩) ho hc, fun D hD => (World.putObj_heap_other (by have := hml D hD; omega)).trans (h.2.2.2 D hD)⟩⟩)
        (fun s y a₁ A l o o' h hl ho hc => by
          obtain ⟨Bx, h0, h1, hp, h2, h3, h4, h5⟩ := h
          exact ⟨Bx, h0, put_other h1 ho hc, hp, h2.put (by omega) ho hc, h3.put (by obtain ⟨v, h1, _⟩ := h2; exact ⟨v, h1⟩) ho hc, h4.put (by obtain ⟨v, h1, _⟩ := h2; exact ⟨v, h1⟩) ho hc, fun D hD => (World.putObj_heap_other (by have := hml D hD; omega)).trans (h5 D hD)⟩)
        ⟨by rw [List.append_nil]; exact hO3, hS3, hR3, hM3⟩ ?assign ?body ?done
      case assign =>
        intro l pre y W K hI hlen hK
        have HI := Aside0.mk hI
        have HK := Aside0.mk hK
        clear hI hK hO3 hS3 hR3 hM3 hB3 hg3 hbe3 hba3
        unfold encE
        gi_wp2
        have hB1 : Below W.heap.size W (W.alloc (.cells (cellsE y) 48)) := below_alloc (Below.refl _ _) _
        have hg1 := grown_of_below hB1 none
        exact HK.out _ _ ((KeepsOthers.alloc _ _).from _) (KpO_grow hg1) ⟨W.heap.size, rfl, blk_new W _, hlen, HI.out.1.grow (by obtain ⟨_, _, _, h3⟩ := HI.out.1; exact h3.size) hg1, HI.out.2.1.grow hg1, HI.out.2.2.1.grow hg1 (fun A B g h k => SafeO.grow k h), fun D hD => (hg1.block D (Array.getElem?_eq_some_iff.1 (HI.out.2.2.2 D hD)).1 (by simp)).trans (HI.out.2.2.2 D hD)⟩
      case body =>
        rintro l pre y a₁ W ⟨Bx, rfl, hbx, hlen, hO, hS, hR, hM⟩
        obtain ⟨v, hv, hrow, hB⟩ := hO
        obtain ⟨g0, g1, g2, g3, g4, g5, g6⟩ := cellsE_at hbx
        have hc := hv.cell
        have hle := hB.size
        have HB := Aside0.mk hB
        have HS := Aside0.mk hS
        have HR := Aside0.mk hR
        have HM := Aside0.mk hM
        have hpl := partsE_len e ts
        have htl := HTS.out
        have hn1 : (outs ++ pre).length + 1 ≤ 2000000 := by rw [List.length_append]; omega
        have HN1 := Aside0.mk hn1
        clear hB hS hR hM hO3 hS3 hR3 hM3 hB3 hg3 hbe3 hba3 hlen hpl htl hn1 hbx
        gi_wp2_with (gi_at_builtin; refine wpListIn_append_own_at _ rfl _ _ 26 rfl w.heap.size 48 i0 (.agg #[(.int .i64 0), (.int .i64 0), (.int .i64 0), (.int .i64 0), (.int .i64 0), (.string ⟨#[]⟩), (.int .i64 0)]) 7 64 Try.underlying26 hi hz0 hz1 hz2 rfl (by decide) _ _ _ rfl (hrow.alloc _) ⟨W.heap.size, 0, none⟩ 1 1 (cellsL y) rfl rfl (new_cells W y) (cellsL_one y) (by have := HN1.out; unfold maxLen; omega) (by have := HN1.out; omega) (by simp; omega) ?_; intro v' w1 hown' hgrow _ hat; obtain ⟨g', cap', rfl⟩ := ownsRow_succ hown'; obtain ⟨hv1, hv2, hr2, hk2, hb2⟩ := hv.appended (by decide) hrow hle (by have := HBO.out; omega) hown' hgrow; have hc1 := hv1.cell; have hf1 := hv1.frozen)
        have hl : (outs ++ pre).length = outs.length + pre.length := List.length_append
        rw [hl] at hv2 hr2 hk2 hb2 hat
        have K : KpS (SafeO Bo) W (w1.setCell ⟨Bo, 0, none⟩ (.slice (some ⟨g', 0, none⟩) (outs.length + pre.length + 1) cap')) := fun g cs t fr hh hs => by
          obtain ⟨k1, k2⟩ := append_safe hs hc hgrow hat hv2.cell
          exact ⟨k1.trans hh, k2⟩
        refine ⟨hs3 ▸ hk2.from _, K, ⟨_, hv2, ?_, HB.out.trans hb2⟩, (append_safe HS.out hc hgrow hat hv2.cell).2, HR.out.keep K, fun D hD => hk2.same D _ (HM.out D hD) rfl⟩
        rw [← List.append_assoc, flatE_snoc, List.length_append, hl]
        exact hr2
      case done =>
        intro D W hD hI hdef
        have HI := Aside0.mk hI
        have HD := Aside0.mk hdef
        have HDL := Aside0.mk hD
        clear hI hdef hD hO3 hS3 hR3 hM3 hB3 hg3 hbe3 hba3 hi hz0 hz1 hz2
        gi_wp2
        have hxq := HX.out
        have hqlt : q < l0.length := by
          have := of_decide_eq_true c5b0
          omega
        have hw : wrap64 (x + 1) = ((q + 1 : Nat) : Int) := by
          rw [hxq]
          have := HL0.out
          unfold wrap64
          omega
        refine ⟨⟨q + 1, wrap64 (x + 1), D :: ds, _, _, _, _, _, _, _, _, _, _, _, _, _, _, ⟨hw⟩, hqlt, ⟨List.nodup_cons.2 ⟨fun h => ?_, HND.out⟩⟩, ⟨fun D' hD' => ?_⟩, ⟨fun D' hD' => ?_⟩, ⟨?_⟩, ⟨HI.out.2.2.1.atBo⟩, rfl⟩, ?_⟩
        · have := hml D h
          have := HDL.out
          omega
        · rcases List.mem_cons.1 hD' with rfl | hD'
          · exact HD.out
          · exact HI.out.2.2.2 D' hD'
        · rcases List.mem_cons.1 hD' with rfl | hD'
          · have := HDL.out
            omega
          · exact HDB.out D' hD'
        · have e1 : e = l0[q] := by
            rw [HE.out, hxq]
            unfold rd_T48
            rw [Int.toNat_natCast, List.getD_eq_getElem?_getD, List.getElem?_eq_getElem hqlt]
            rfl
          have e2 : ((l0.take (q + 1)).flatMap fun e => partsE e ts) = outs ++ partsE e ts := by
            rw [List.take_succ_eq_append_getElem hqlt, List.flatMap_append, HOUTS.out, e1]
            simp
          rw [e2]
          exact HI.out.1
        · show l0.length - (wrap64 (x + 1)).toNat < l0.length - x.toNat
          rw [hw, hxq]
          omega
    · have hxq := HX.out
      have hqe : q = l0.length := by omega
      have c5b0 : decide (x < (l0.length : Int)) = false := decide_eq_false (by rw [hxq]; omega)
      have hO : OutAt w.heap.size Bo w r wr := by
        have := HO.out
        rw [hqe, List.take_length] at this
        rw [← HRE.out]
        exact this
      obtain ⟨v, hv, hrow, hB⟩ := hO
      have hc := hv.cell
      have HV := Aside0.mk hv
      have HROW := Aside0.mk hrow
      have HBW := Aside0.mk hB
      clear hv hrow hB hlt hqe hxq HO HS HX
      gi_wp2
      show LeavesInM _ _ _ _ _ _ _ _ _
      refine leaves_marks (fun A => A.ownsRow w.heap.size 48 7 v r.length (flatE r) ∧ Below w.heap.size w A) w.heap.size (fun A l o o' h hl ho hc => ⟨ownsRow_putObj h.1 _ ho hc, ⟨h.2.os, h.2.tape, h.2.output, by rw [World.putObj]; simpa using h.2.size, fun k hk => (World.putObj_heap_other (by omega)).trans (h.2.block k hk)⟩⟩)
        (fun A h => ?_) ds wr HND.out HM.out HDB.out ⟨HROW.out, HBW.out⟩
      exact ⟨_, results_tmp rfl _ _ _, v, rfl, ⟨fun _ _ => trivial, flatE r, h.1, by have := reps_flat A w.heap.size (fun k => True ∧ some k ≠ v.ownBlock) r [] (Reps.none _ _); rw [List.nil_append] at this; exact this⟩, h.2⟩
end Go.Proofs.Ytioedeglgljblaa.H
