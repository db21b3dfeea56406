/- search.All: the places at which a match ends, for lists whose row of bools has at most 2^47 bytes in places. -/
import Derived.Test.YtgdjiphljadlcaaKEnds
import Derived.Maps.OwnIn
import Derived.Shelf.Abstract
namespace Go.Proofs.Ytgdjiphljadlcaa.K
open Go.RowKit Go.Proofs.YtgdjiphljadlcaaW.PrintWords Go.Proofs.YtgdjiphljadlcaaW.PrintLast Go.Proofs.YtgdjiphljadlcaaW.PrintMore
attribute [local go_sem] Oper.semAt_some
def search_All.f (k : Nat) (l0 : List S50) (l1 : List S46) : Option (List Int) :=
  (search_layers.f k l0 l1).bind fun L => if (lastRow L).length * 8 ≤ 140737488351232 then some (idxT (lastRow L) 0) else none
theorem KpS_trans {Safe : Nat → World → Prop} {A B C : World} (h : KpS Safe A B) (k : KpS Safe B C) : KpS Safe A C := fun g cs t fr hh hs => by
  obtain ⟨h1, h2⟩ := h g cs t fr hh hs
  exact k g cs t fr h1 h2
set_option maxHeartbeats 1000000 in
theorem ends61 (n : Nat) (A0 A1 : Option Addr) (n0 c0 n1 c1 : Nat) (w : World) :
    CallsIn Fence.wide n Try.prog 61 #[.agg #[.slice A0 n0 c0], .slice A1 n1 c1] w fun e w' => e = .returned (.func (.func 77) #[] #[.pointer (some ⟨w.heap.size, 0, none⟩), .pointer (some ⟨w.heap.size + 1, 0, none⟩)]) ∧ w' = (w.alloc (.cells #[.slice A0 n0 c0] 31)).alloc (.cells #[.slice A1 n1 c1] 51) := by
  refine callsIn_of_wp Try.func61 rfl trivial ?_ rfl
  simp only [Try.ntmps61, List.size_toArray, List.length_cons, List.length_nil, Nat.reduceAdd, Nat.reduceSub, Array.replicate_succ, Array.replicate_zero, List.push_toArray, List.append_toArray, List.nil_append, List.cons_append]
  gi_wp2
  go_ret
  exact ⟨rfl, rfl⟩
/-- what an append to the row in the box Bo leaves alone -/
def SafeO (Bo : Nat) (g : Nat) (W : World) : Prop := g ≠ Bo ∧ ∀ v, W.cell? ⟨Bo, 0, none⟩ = some v → v.ownBlock ≠ some g
theorem KpO_b {Bo s : Nat} (hs : Bo < s) (W : World) (l : Nat) (o o' : Obj) (hl : s ≤ l) (h : W.heap[l]? = some o) (hc : o.isCells = false) (_ : o.isWalk = false) : KpS (SafeO Bo) W (W.putObj l o') := fun g cs t fr hh hsf => by
  have hgl : g ≠ l := by
    rintro rfl
    rw [hh] at h
    cases h
    cases hc
  refine ⟨(World.putObj_heap_other hgl).trans hh, hsf.1, fun v hv => hsf.2 v ?_⟩
  rw [← hv]
  exact (cell_same (World.putObj_heap_other (by show Bo ≠ l; omega))).symm
/-- the iterator, for a loop that begins with an empty box -/
theorem ends_stops (n : Nat) (hn : 1 ≤ n) (Bo Ba Bl : Nat) (k : Nat) (A0 A1 : Option Addr) (c0 c1 : Nat) (l0 : List S50) (l1 : List S46) (L : List (List Bool)) (hL : search_layers.f k l0 l1 = some L) (w : World)
    (hBo : Bo < w.heap.size) (hBo2 : w.cell? ⟨Bo, 0, none⟩ = some (.slice none 0 0)) (hBa : w.cell? ⟨Ba, 0, none⟩ = some (.slice A0 l0.length c0)) (hBl : w.cell? ⟨Bl, 0, none⟩ = some (.slice A1 l1.length c1))
    (hr0 : Kd.C k50 w A0 l0.length l0) (hc0 : l0.length ≤ c0) (hr1 : Kd.C k46 w A1 l1.length l1) (hc1 : l1.length ≤ c1) :
    SeqStopsK Fence.wide n Try.prog 77 #[.pointer (some ⟨Ba, 0, none⟩), .pointer (some ⟨Bl, 0, none⟩)] (fun x : Int => #[Value.int .i64 x]) (KpS (SafeO Bo)) (fun ys => ys = idxT (lastRow L) 0)
      (fun pre => ∃ q, q < (lastRow L).length ∧ (lastRow L).getD q false = true ∧ pre = idxT ((lastRow L).take (q + 1)) 0) (lastRow L).length w := fun l J Jx W hW hJ _ hY h0 => by
  refine ends1 n hn l Ba Bl k A0 A1 c0 c1 l0 l1 L hL _ rfl (SafeO Bo) J Jx W hY hJ ((hW.cell (p := ⟨Ba, 0, none⟩) (World.block_lt_of_cell? w _ hBa)).trans hBa) ((hW.cell (p := ⟨Bl, 0, none⟩) (World.block_lt_of_cell? w _ hBl)).trans hBl)
    (Kd.C_below hr0 hW) hc0 (Kd.C_below hr1 hW) hc1 (fun w1 g hb hg => ⟨?_, fun v hv => ?_⟩) h0
  · have := hW.size
    omega
  · have e1 := (hW.cell (p := ⟨Bo, 0, none⟩) hBo).trans hBo2
    have e2 := (hb.cell (p := ⟨Bo, 0, none⟩) (Nat.lt_of_lt_of_le hBo hW.size)).trans e1
    rw [e2] at hv
    obtain rfl := Option.some.inj hv
    simp [Value.ownBlock]
theorem info3' : (Try.prog.info? 3).map (fun i => (i.zero, i.size, i.bytes)) = some (some (.int .i64 0), 1, 8) := by kernel_rfl
theorem setCell_other {W : World} {p : Addr} {v : Value} {g : Nat} (h : g ≠ p.block) : (W.setCell p v).heap[g]? = W.heap[g]? := Below.heap_setCell W p v g h
theorem append_safe {Bo g : Nat} {W w1 : World} {v v' : Value} {tmp : Obj} {cs : Array Value} {t : TypeId} {fr : Nat × Nat} (hh : W.heap[g]? = some (.cells cs t fr)) (hs : SafeO Bo g W) (hv : W.cell? ⟨Bo, 0, none⟩ = some v)
    (hgrow : (W.alloc tmp).grownBy w1 v.ownBlock) (hat : v'.ownBlock = v.ownBlock ∨ v'.ownBlock = some (W.alloc tmp).heap.size) (hset : (w1.setCell ⟨Bo, 0, none⟩ v').cell? ⟨Bo, 0, none⟩ = some v') :
    (w1.setCell ⟨Bo, 0, none⟩ v').heap[g]? = some (.cells cs t fr) ∧ SafeO Bo g (w1.setCell ⟨Bo, 0, none⟩ v') := by
  have hlt := blk_lt hh
  have hne := hs.2 v hv
  have h1 : w1.heap[g]? = some (.cells cs t fr) := by
    rw [hgrow.block g (by simp; omega) (fun e => hne e.symm)]
    exact blk_alloc hh tmp
  refine ⟨(setCell_other hs.1).trans h1, hs.1, fun u hu => ?_⟩
  rw [hset] at hu
  obtain rfl := Option.some.inj hu
  rcases hat with e | e
  · rw [e]; exact hne
  · rw [e]
    intro e'
    have := Option.some.inj e'
    simp at this
    omega
set_option maxRecDepth 100000 in
set_option maxHeartbeats 4000000 in
theorem search_All.calls (k : Nat) (A0_0 : Option Addr) (c0_0 : Nat) (l0_0 : List S50) (A1 : Option Addr) (c1 : Nat) (l1 : List S46) (r : List Int) (w : World) (hr0_0 : Kd.C k50 w A0_0 l0_0.length l0_0) (hc0_0 : l0_0.length ≤ c0_0) (hr1 : Kd.C k46 w A1 l1.length l1) (hc1 : l1.length ≤ c1) (h : search_All.f k l0_0 l1 = some r) :
    Calls Try.prog 30 #[.agg #[.slice A0_0 l0_0.length c0_0], .slice A1 l1.length c1] w fun e w' => ∃ v0_ : Value, e = .returned (v0_) ∧ Kd.R (Kd.int .i64) 3 w' w.heap.size (fun _ => True) v0_ r ∧ Below w.heap.size w w' := by
  obtain ⟨L, hL, h⟩ := Option.bind_eq_some_iff.1 h
  have hbig : (lastRow L).length * 8 ≤ 140737488351232 := by
    by_cases c : (lastRow L).length * 8 ≤ 140737488351232
    · exact c
    · rw [if_neg c] at h; cases h
  rw [if_pos hbig] at h
  obtain rfl := Option.some.inj h
  clear h
  obtain ⟨i0, hi, hz0, hz1, hz2⟩ := info_parts info3'
  refine (callsIn_wide (n := 3)).1 ?_
  have hu31 := Try.underlying31
  refine callsIn_of_wp_marks Try.func30 rfl trivial ?_ rfl
  simp only [Try.ntmps30, List.size_toArray, List.length_cons, List.length_nil, Nat.reduceAdd, Nat.reduceSub, Array.replicate_succ, Array.replicate_zero, List.push_toArray, List.append_toArray, List.nil_append, List.cons_append]
  have HR0 := Aside0.mk hr0_0
  have HR1 := Aside0.mk hr1
  have HL := Aside0.mk hL
  have HC0 := Aside0.mk hc0_0
  have HC1 := Aside0.mk hc1
  clear hr0_0 hr1 hL hc0_0 hc1
  gi_wp2_with (refine ⟨trivial, ?_⟩; gi_at_call 61; refine (ends61 _ _ _ _ _ _ _ _).mono ?_; rintro e w' ⟨rfl, rfl⟩)
  clear hu31
  have bO := ((Boxed.new (w.alloc (.cells #[.slice A0_0 l0_0.length c0_0] 31)) 52 (.slice none 0 0)).alloc (.cells #[.slice A0_0 l0_0.length c0_0] 31)).alloc (.cells #[.slice A1 l1.length c1] 51)
  have b2 := blk_alloc (blk_new ((w.alloc (.cells #[.slice A0_0 l0_0.length c0_0] 31)).alloc (.cells #[.slice none 0 0] 52)) (.cells #[.slice A0_0 l0_0.length c0_0] 31)) (.cells #[.slice A1 l1.length c1] 51)
  have b3 := blk_new (((w.alloc (.cells #[.slice A0_0 l0_0.length c0_0] 31)).alloc (.cells #[.slice none 0 0] 52)).alloc (.cells #[.slice A0_0 l0_0.length c0_0] 31)) (.cells #[.slice A1 l1.length c1] 51)
  have hB0 : Below w.heap.size w ((((w.alloc (.cells #[.slice A0_0 l0_0.length c0_0] 31)).alloc (.cells #[.slice none 0 0] 52)).alloc (.cells #[.slice A0_0 l0_0.length c0_0] 31)).alloc (.cells #[.slice A1 l1.length c1] 51)) :=
    below_alloc (below_alloc (below_alloc (below_alloc (Below.refl _ _) _) _) _) _
  have hsz : ((((w.alloc (.cells #[.slice A0_0 l0_0.length c0_0] 31)).alloc (.cells #[.slice none 0 0] 52)).alloc (.cells #[.slice A0_0 l0_0.length c0_0] 31)).alloc (.cells #[.slice A1 l1.length c1] 51)).heap.size = w.heap.size + 4 := by simp
  simp only [World.size_alloc] at bO b2 b3
  obtain ⟨W0, hW0⟩ : ∃ W0, ((((w.alloc (.cells #[.slice A0_0 l0_0.length c0_0] 31)).alloc (.cells #[.slice none 0 0] 52)).alloc (.cells #[.slice A0_0 l0_0.length c0_0] 31)).alloc (.cells #[.slice A1 l1.length c1] 51)) = W0 := ⟨_, rfl⟩
  rw [hW0] at bO b2 b3 hB0 hsz ⊢
  clear hW0
  have hc2 : W0.cell? ⟨w.heap.size + 1 + 1, 0, none⟩ = some (.slice A0_0 l0_0.length c0_0) := blk_cell b2 0
  have hc3 : W0.cell? ⟨w.heap.size + 1 + 1 + 1, 0, none⟩ = some (.slice A1 l1.length c1) := blk_cell b3 0
  have hseq := ends_stops 2 (by omega) (w.heap.size + 1) (w.heap.size + 1 + 1) (w.heap.size + 1 + 1 + 1) k A0_0 A1 c0_0 c1 l0_0 l1 L HL.out W0 (by omega) bO.cell hc2 hc3 (Kd.C_below HR0.out hB0) HC0.out (Kd.C_below HR1.out hB0) HC1.out
  refine wpIn_rangeFunc_ownG rfl (by omega) (gf := 77) (lb := #[.pointer (some ⟨w.heap.size + 1 + 1, 0, none⟩), .pointer (some ⟨w.heap.size + 1 + 1 + 1, 0, none⟩)]) rfl trivial (enters_of Try.func77 (by kernel_rfl) rfl)
    hseq KpS_trans (fun W l o o' hl => KpO_b (Bo := w.heap.size + 1) (s := W0.heap.size) (by omega) W l o o' hl) (Below.refl _ _) (fun _ => rfl)
    (fun pre W => (∃ v, Boxed W (w.heap.size + 1) 52 v ∧ W.ownsRow w.heap.size 3 1 v pre.length (pre.map (Value.int .i64)) ∧ True) ∧ Below w.heap.size w W)
    (fun _ _ _ => False)
    (OwnFrom.and (Own.from (holdsRow_own w.heap.size (w.heap.size + 1) 52 3 1 (fun pre : List Int => pre.length) (fun pre => pre.map (Value.int .i64)) (fun _ _ => True)) _) (ownFrom_below (Nat.le_refl _) (by omega)))
    (fun _ _ _ _ _ hs _ _ => hs)
    ⟨⟨_, bO, World.ownsRow_nil _ _ _ _, trivial⟩, hB0⟩
    (fun x => { tmps := #[Value.agg #[Value.slice A0_0 l0_0.length c0_0], Value.slice A1 l1.length c1,
          Value.pointer (some { block := w.heap.size, off := 0 }), undef, Value.slice none 0 0,
          Value.pointer (some { block := w.heap.size + 1, off := 0 }), .int .i64 x,
          Value.agg #[Value.slice A0_0 l0_0.length c0_0], Value.slice A1 l1.length c1,
          Value.func (Fn.func 77) #[]
            #[Value.pointer (some { block := w.heap.size + 1 + 1, off := 0 }),
              Value.pointer (some { block := w.heap.size + 1 + 1 + 1, off := 0 })],
          .int .i64 x, undef, undef, undef, undef, undef], defers := [] }) ?assign ?body ?done ?stop
  case assign =>
    intro l x W K hK
    gi_wp2
    exact hK
  case body =>
    rintro l pre x W ⟨⟨v, hv, hrow, _⟩, hB⟩ hlt
    have hc := hv.cell
    have hHB := Aside0.mk hB
    have hle := hB.size
    clear hB hseq bO b2 b3 hc2 hc3 hB0 h
    gi_wp2_with (gi_at_builtin; refine wpListIn_append_own_at _ rfl _ _ 52 rfl w.heap.size 3 i0 (.int .i64 0) 1 8 Try.underlying52 hi hz0 hz1 hz2 rfl (by decide) _ _ _ rfl (hrow.alloc _) ⟨W.heap.size, 0, none⟩ 1 1 [.int .i64 x] rfl rfl (cell_one_new _ _ _) (by simp [Value.oneCell']) (by unfold maxLen; omega) (by omega) (by simp; omega) ?_; intro v' w1 hown' hgrow _ hat; obtain ⟨g', cap', rfl⟩ := ownsRow_succ hown'; obtain ⟨hv1, hv2, hr2, hk2, hb2⟩ := hv.appended (by decide) hrow hle (by omega) hown' hgrow; have hc1 := hv1.cell; have hf1 := hv1.frozen)
    exact ⟨hk2.from _, fun g cs t fr hh hs => append_safe hh hs hc hgrow hat hv2.cell, ⟨_, hv2, by simpa using hr2, trivial⟩, hHB.out.trans hb2⟩
  case done =>
    rintro D ys W hD rfl ⟨⟨v, hv, hrow, _⟩, hB⟩ hK
    have hc := hv.cell
    gi_wp2
    refine ⟨by simp, .inl ⟨_, _, rfl, run_takeDeferred hK, ?_⟩⟩
    exact ⟨_, results_tmp rfl _ _ _, v, rfl, Kd.R_of_own (enc := Value.int .i64) (ownsRow_putObj hrow _ hK rfl) (fun _ _ => trivial), hB.trans (belowK_b (w := w) (Nat.le_refl _) W D _ _ (by omega) hK rfl rfl)⟩
  case stop =>
    rintro D c pre W _ _ h _
    exact h.elim
end Go.Proofs.Ytgdjiphljadlcaa.K
