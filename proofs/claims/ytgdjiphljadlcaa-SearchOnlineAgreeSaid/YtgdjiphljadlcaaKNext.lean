/- search.Next: the first place, from one on, at which a match ends, or -1; no condition. -/
import Derived.Test.YtgdjiphljadlcaaKEnds
import Derived.Maps.OwnIn
import Derived.Shelf.Abstract
namespace Go.Proofs.Ytgdjiphljadlcaa.K
open Go.RowKit Go.Proofs.YtgdjiphljadlcaaW.PrintWords Go.Proofs.YtgdjiphljadlcaaW.PrintLast Go.Proofs.YtgdjiphljadlcaaW.PrintMore
attribute [local go_sem] Oper.semAt_some
/-- the first of a list that is at least a number, or -1 -/
def firstFrom (x : Int) : List Int → Int
  | [] => -1
  | p :: l => if x ≤ p then p else firstFrom x l
theorem firstFrom_none (x : Int) : ∀ l : List Int, (∀ p ∈ l, p < x) → firstFrom x l = -1
  | [], _ => rfl
  | p :: l, h => by
    have h1 := h p (by simp)
    rw [firstFrom, if_neg (by omega)]
    exact firstFrom_none x l fun q hq => h q (by simp [hq])
theorem firstFrom_mid (x : Int) (p : Int) (b : List Int) (hp : x ≤ p) : ∀ l : List Int, (∀ p ∈ l, p < x) → firstFrom x (l ++ p :: b) = p
  | [], _ => by rw [List.nil_append, firstFrom, if_pos hp]
  | q :: l, h => by
    have h1 := h q (by simp)
    rw [List.cons_append, firstFrom, if_neg (by omega)]
    exact firstFrom_mid x p b hp l fun q hq => h q (by simp [hq])
def search_Next.f (k : Nat) (l0 : List S50) (l1 : List S46) (l2 : Int) : Option Int :=
  (search_layers.f k l0 l1).bind fun L => some (firstFrom l2 (idxT (lastRow L) 0))
theorem idxT_take (q : Nat) : ∀ (l : List Bool) (i : Nat), ∃ b, idxT l i = idxT (l.take q) i ++ b
  := by
  induction q with
  | zero => intro l i; exact ⟨idxT l i, by rw [List.take_zero]; rfl⟩
  | succ q ih =>
    intro l i
    cases l with
    | nil => exact ⟨[], by simp [idxT]⟩
    | cons c l =>
      obtain ⟨b, hb⟩ := ih l (i + 1)
      refine ⟨b, ?_⟩
      cases c <;> simp [idxT, hb]
set_option maxHeartbeats 1000000 in
theorem ends62 (n : Nat) (A0 A1 : Option Addr) (n0 c0 n1 c1 : Nat) (w : World) :
    CallsIn Fence.wide n Try.prog 61 #[.agg #[.slice A0 n0 c0], .slice A1 n1 c1] w fun e w' => e = .returned (.func (.func 77) #[] #[.pointer (some ⟨w.heap.size, 0, none⟩), .pointer (some ⟨w.heap.size + 1, 0, none⟩)]) ∧ w' = (w.alloc (.cells #[.slice A0 n0 c0] 31)).alloc (.cells #[.slice A1 n1 c1] 51) := by
  refine callsIn_of_wp Try.func61 rfl trivial ?_ rfl
  simp only [Try.ntmps61, List.size_toArray, List.length_cons, List.length_nil, Nat.reduceAdd, Nat.reduceSub, Array.replicate_succ, Array.replicate_zero, List.push_toArray, List.append_toArray, List.nil_append, List.cons_append]
  gi_wp2
  go_ret
  exact ⟨rfl, rfl⟩
/-- what a store into the box Bo leaves alone -/
def SafeN (Bo : Nat) (g : Nat) (_ : World) : Prop := g ≠ Bo
theorem KpN_t {Safe : Nat → World → Prop} {A B C : World} (h : KpS Safe A B) (k : KpS Safe B C) : KpS Safe A C := fun g cs t fr hh hs => by
  obtain ⟨h1, h2⟩ := h g cs t fr hh hs
  exact k g cs t fr h1 h2
theorem KpN_b {Bo s : Nat} (W : World) (l : Nat) (o o' : Obj) (_ : s ≤ l) (h : W.heap[l]? = some o) (hc : o.isCells = false) (_ : o.isWalk = false) : KpS (SafeN Bo) W (W.putObj l o') := fun g cs t fr hh hsf => by
  have hgl : g ≠ l := by
    rintro rfl
    rw [hh] at h
    cases h
    cases hc
  exact ⟨(World.putObj_heap_other hgl).trans hh, hsf⟩
theorem KpN_refl {Safe : Nat → World → Prop} (W : World) : KpS Safe W W := fun _ _ _ _ hh hsf => ⟨hh, hsf⟩
theorem ends_stopsN (n : Nat) (hn : 1 ≤ n) (Bo Ba Bl : Nat) (k : Nat) (A0 A1 : Option Addr) (c0 c1 : Nat) (l0 : List S50) (l1 : List S46) (L : List (List Bool)) (hL : search_layers.f k l0 l1 = some L) (w : World)
    (hBo : Bo < w.heap.size) (hBa : w.cell? ⟨Ba, 0, none⟩ = some (.slice A0 l0.length c0)) (hBl : w.cell? ⟨Bl, 0, none⟩ = some (.slice A1 l1.length c1))
    (hr0 : Kd.C k50 w A0 l0.length l0) (hc0 : l0.length ≤ c0) (hr1 : Kd.C k46 w A1 l1.length l1) (hc1 : l1.length ≤ c1) :
    SeqStopsK Fence.wide n Try.prog 77 #[.pointer (some ⟨Ba, 0, none⟩), .pointer (some ⟨Bl, 0, none⟩)] (fun x : Int => #[Value.int .i64 x]) (KpS (SafeN Bo)) (fun ys => ys = idxT (lastRow L) 0)
      (fun pre => ∃ q, q < (lastRow L).length ∧ (lastRow L).getD q false = true ∧ pre = idxT ((lastRow L).take (q + 1)) 0) (lastRow L).length w := fun l J Jx W hW hJ _ hY h0 => by
  refine ends1 n hn l Ba Bl k A0 A1 c0 c1 l0 l1 L hL _ rfl (SafeN Bo) J Jx W hY hJ ((hW.cell (p := ⟨Ba, 0, none⟩) (World.block_lt_of_cell? w _ hBa)).trans hBa) ((hW.cell (p := ⟨Bl, 0, none⟩) (World.block_lt_of_cell? w _ hBl)).trans hBl)
    (Kd.C_below hr0 hW) hc0 (Kd.C_below hr1 hW) hc1 (fun w1 g hb hg => ?_) h0
  have := hW.size
  show g ≠ Bo
  omega
set_option maxRecDepth 100000 in
set_option maxHeartbeats 4000000 in
theorem search_Next.calls (k : Nat) (A0_0 : Option Addr) (c0_0 : Nat) (l0_0 : List S50) (A1 : Option Addr) (c1 : Nat) (l1 : List S46) (l2 : Int) (r : Int) (w : World) (hr0_0 : Kd.C k50 w A0_0 l0_0.length l0_0) (hc0_0 : l0_0.length ≤ c0_0) (hr1 : Kd.C k46 w A1 l1.length l1) (hc1 : l1.length ≤ c1) (h : search_Next.f k l0_0 l1 l2 = some r) :
    Calls Try.prog 32 #[.agg #[.slice A0_0 l0_0.length c0_0], .slice A1 l1.length c1, .int .i64 l2] w fun e w' => e = .returned (.int .i64 r) ∧ Below w.heap.size w w' := by
  obtain ⟨L, hL, h⟩ := Option.bind_eq_some_iff.1 h
  obtain rfl := Option.some.inj h
  clear h
  refine (callsIn_wide (n := 3)).1 ?_
  have hu31 := Try.underlying31
  refine callsIn_of_wp_marks Try.func32 rfl trivial ?_ rfl
  simp only [Try.ntmps32, List.size_toArray, List.length_cons, List.length_nil, Nat.reduceAdd, Nat.reduceSub, Array.replicate_succ, Array.replicate_zero, List.push_toArray, List.append_toArray, List.nil_append, List.cons_append]
  have HR0 := Aside0.mk hr0_0
  have HR1 := Aside0.mk hr1
  have HL := Aside0.mk hL
  have HC0 := Aside0.mk hc0_0
  have HC1 := Aside0.mk hc1
  clear hr0_0 hr1 hL hc0_0 hc1
  gi_wp2_with (refine ⟨trivial, ?_⟩; gi_at_call 61; refine (ends62 _ _ _ _ _ _ _ _).mono ?_; rintro e w' ⟨rfl, rfl⟩)
  clear hu31
  have bF := ((Boxed.new (w.alloc (.cells #[.slice A0_0 l0_0.length c0_0] 31)) 3 (.int .i64 l2)).alloc (.cells #[.int .i64 0] 3)).alloc (.cells #[.slice A0_0 l0_0.length c0_0] 31) |>.alloc (.cells #[.slice A1 l1.length c1] 51)
  have bR := ((Boxed.new ((w.alloc (.cells #[.slice A0_0 l0_0.length c0_0] 31)).alloc (.cells #[.int .i64 l2] 3)) 3 (.int .i64 0)).alloc (.cells #[.slice A0_0 l0_0.length c0_0] 31)).alloc (.cells #[.slice A1 l1.length c1] 51)
  have b2 := blk_alloc (blk_new (((w.alloc (.cells #[.slice A0_0 l0_0.length c0_0] 31)).alloc (.cells #[.int .i64 l2] 3)).alloc (.cells #[.int .i64 0] 3)) (.cells #[.slice A0_0 l0_0.length c0_0] 31)) (.cells #[.slice A1 l1.length c1] 51)
  have b3 := blk_new ((((w.alloc (.cells #[.slice A0_0 l0_0.length c0_0] 31)).alloc (.cells #[.int .i64 l2] 3)).alloc (.cells #[.int .i64 0] 3)).alloc (.cells #[.slice A0_0 l0_0.length c0_0] 31)) (.cells #[.slice A1 l1.length c1] 51)
  have hB0 : Below w.heap.size w (((((w.alloc (.cells #[.slice A0_0 l0_0.length c0_0] 31)).alloc (.cells #[.int .i64 l2] 3)).alloc (.cells #[.int .i64 0] 3)).alloc (.cells #[.slice A0_0 l0_0.length c0_0] 31)).alloc (.cells #[.slice A1 l1.length c1] 51)) :=
    below_alloc (below_alloc (below_alloc (below_alloc (below_alloc (Below.refl _ _) _) _) _) _) _
  have hsz : (((((w.alloc (.cells #[.slice A0_0 l0_0.length c0_0] 31)).alloc (.cells #[.int .i64 l2] 3)).alloc (.cells #[.int .i64 0] 3)).alloc (.cells #[.slice A0_0 l0_0.length c0_0] 31)).alloc (.cells #[.slice A1 l1.length c1] 51)).heap.size = w.heap.size + 5 := by simp
  simp only [World.size_alloc] at bF bR b2 b3
  obtain ⟨W0, hW0⟩ : ∃ W0, (((((w.alloc (.cells #[.slice A0_0 l0_0.length c0_0] 31)).alloc (.cells #[.int .i64 l2] 3)).alloc (.cells #[.int .i64 0] 3)).alloc (.cells #[.slice A0_0 l0_0.length c0_0] 31)).alloc (.cells #[.slice A1 l1.length c1] 51)) = W0 := ⟨_, rfl⟩
  rw [hW0] at bF bR b2 b3 hB0 hsz ⊢
  clear hW0
  have hc2 : W0.cell? ⟨w.heap.size + 1 + 1 + 1, 0, none⟩ = some (.slice A0_0 l0_0.length c0_0) := blk_cell b2 0
  have hc3 : W0.cell? ⟨w.heap.size + 1 + 1 + 1 + 1, 0, none⟩ = some (.slice A1 l1.length c1) := blk_cell b3 0
  have hseq := ends_stopsN 2 (by omega) (w.heap.size + 1 + 1) (w.heap.size + 1 + 1 + 1) (w.heap.size + 1 + 1 + 1 + 1) k A0_0 A1 c0_0 c1 l0_0 l1 L HL.out W0 (by omega) hc2 hc3 (Kd.C_below HR0.out hB0) HC0.out (Kd.C_below HR1.out hB0) HC1.out
  refine wpIn_rangeFunc_ownG rfl (by omega) (gf := 77) (lb := #[.pointer (some ⟨w.heap.size + 1 + 1 + 1, 0, none⟩), .pointer (some ⟨w.heap.size + 1 + 1 + 1 + 1, 0, none⟩)]) rfl trivial (enters_of Try.func77 (by kernel_rfl) rfl)
    hseq KpN_t (fun W l o o' hl => KpN_b (Bo := w.heap.size + 1 + 1) (s := W0.heap.size) W l o o' hl) (Below.refl _ _) (fun _ => rfl)
    (fun pre W => ((∀ p ∈ pre, p < l2) ∧ W.cell? ⟨w.heap.size + 1, 0, none⟩ = some (.int .i64 l2) ∧ W.cell? ⟨w.heap.size + 1 + 1, 0, none⟩ = some (.int .i64 0) ∧ W.frozen? ⟨w.heap.size + 1 + 1, 0, none⟩ = false) ∧ Below w.heap.size w W)
    (fun c pre W => (c = .ret ∧ ∃ ini last, pre = ini ++ [last] ∧ (∀ p ∈ ini, p < l2) ∧ l2 ≤ last ∧ W.cell? ⟨w.heap.size + 1 + 1, 0, none⟩ = some (.int .i64 last)) ∧ Below w.heap.size w W)
    (OwnFrom.and (Own.from (fun s A B row hs hg hr => ⟨hs.1, cell_kept hs.2.1 hg hr, cell_kept hs.2.2.1 hg hr, (frozen_kept hs.2.2.1 hg hr).trans hs.2.2.2⟩) _) (ownFrom_below (Nat.le_refl _) (by omega)))
    (fun c => OwnFrom.and (Own.from (fun s A B row hs hg hr => by obtain ⟨hc, ini, last, e1, e2, e3, e4⟩ := hs; exact ⟨hc, ini, last, e1, e2, e3, cell_kept e4 hg hr⟩) _) (ownFrom_below (Nat.le_refl _) (by omega)))
    ⟨⟨by simp, bF.cell, bR.cell, bR.frozen⟩, hB0⟩
    (fun x => { tmps := #[Value.agg #[Value.slice A0_0 l0_0.length c0_0], Value.slice A1 l1.length c1, Value.int IntKind.i64 l2,
          Value.pointer (some { block := w.heap.size, off := 0 }), undef,
          Value.pointer (some { block := w.heap.size + 1, off := 0 }),
          Value.pointer (some { block := w.heap.size + 1 + 1, off := 0 }), .int .i64 x,
          Value.agg #[Value.slice A0_0 l0_0.length c0_0], Value.slice A1 l1.length c1,
          Value.func (Fn.func 77) #[]
            #[Value.pointer (some { block := w.heap.size + 1 + 1 + 1, off := 0 }),
              Value.pointer (some { block := w.heap.size + 1 + 1 + 1 + 1, off := 0 })],
          .int .i64 x, undef, undef, undef, undef], defers := [] }) ?assign ?body ?done ?stop
  case assign =>
    intro l x W K hK
    gi_wp2
    exact hK
  case body =>
    rintro l pre x W ⟨⟨hp, hcf, hcr, hfr⟩, hB⟩ hlt
    clear hseq bF bR b2 b3 hc2 hc3 hB0
    gi_wp2
    · have hx : l2 ≤ x := by assumption
      refine ⟨(KeepsOthers.setCell _ _ _).from _, ⟨rfl, pre, x, rfl, hp, hx, World.cell?_setCell_same' _ _ _ (by rw [hcr]; rfl)⟩, hB.setCell (p := ⟨w.heap.size + 1 + 1, 0, none⟩) (by show w.heap.size ≤ w.heap.size + 1 + 1; omega) _⟩
    · have hx : x < l2 := by assumption
      exact ⟨KeepsFrom.refl _ _, KpN_refl _, ⟨fun p hp' => (List.mem_append.1 hp').elim (hp p) (fun e => by simp at e; subst e; exact hx), hcf, hcr, hfr⟩, hB⟩
  case done =>
    rintro D ys W hD rfl ⟨⟨hne, hcf, hcr, hfr⟩, hB⟩ hK
    gi_wp2
    have hK' := (KeepsOthers.setCell W ⟨w.heap.size + 1 + 1, 0, none⟩ (.int .i64 (-1))).same D _ hK rfl
    refine ⟨by simp, .inl ⟨_, _, rfl, run_takeDeferred hK', ?_⟩⟩
    have hc5 := cell_kept (World.cell?_setCell_same' W ⟨w.heap.size + 1 + 1, 0, none⟩ (.int .i64 (-1)) (by rw [hcr]; rfl)) (grownBy_putObj' _ D (.deferred none)) (fun r e => by cases e; exact ⟨_, hK', rfl⟩)
    refine ⟨.int .i64 (-1), ?_, by rw [firstFrom_none _ _ hne], (hB.setCell (p := ⟨w.heap.size + 1 + 1, 0, none⟩) (by show w.heap.size ≤ w.heap.size + 1 + 1; omega) _).trans (belowK_b (w := w) (Nat.le_refl _) _ D _ _ (by omega) hK' rfl rfl)⟩
    simp [results, Try.f32, go_sem, hc5]
  case stop =>
    rintro D c pre W hD ⟨q, hq, hqt, rfl⟩ ⟨⟨rfl, ini, last, e1, e2, e3, hcr⟩, hB⟩ hK
    gi_wp2
    refine ⟨by simp, .inl ⟨_, _, rfl, run_takeDeferred hK, ?_⟩⟩
    have hc5 := cell_kept hcr (grownBy_putObj' _ D (.deferred none)) (fun r e => by cases e; exact ⟨_, hK, rfl⟩)
    have hval : firstFrom l2 (idxT (lastRow L) 0) = last := by
      obtain ⟨b, hb⟩ := idxT_take (q + 1) (lastRow L) 0
      rw [hb, e1, List.append_assoc, List.singleton_append]
      exact firstFrom_mid l2 last b e3 ini e2
    refine ⟨.int .i64 last, ?_, by rw [hval], hB.trans (belowK_b (w := w) (Nat.le_refl _) W D _ _ (by omega) hK rfl rfl)⟩
    simp [results, Try.f32, go_sem, hc5]
end Go.Proofs.Ytgdjiphljadlcaa.K
