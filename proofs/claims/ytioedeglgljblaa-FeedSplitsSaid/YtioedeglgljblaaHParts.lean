/- feed.parts: the iterator over the parts of an event; no condition. -/
import Derived.Test.YtioedeglgljblaaH15
import Derived.Test.YtioedeglgljblaaHRange
import Derived.RangeFuncBox
import Derived.RangeFuncLeaves
import Derived.RangeFuncCalls
import Derived.OwnWalkIn
import Derived.TacticsInMore
import Derived.LoopNIn
import Derived.LoopIn
import Derived.Maps.AppendAt
namespace Go.Proofs.Ytioedeglgljblaa.H
open Go.RowKit Go.Proofs.YtioedeglgljblaaW.PrintWords Go.Proofs.YtioedeglgljblaaW.PrintLast Go.Proofs.YtioedeglgljblaaW.PrintMore
attribute [local go_sem] Oper.semAt_some
def plainB (e : S48) : Bool := decide (e.f0 = 1) && (decide (e.f4 = 0) && (e.f5.toList.isEmpty && decide (e.f6 = 0)))
theorem plain_f (e : S48) : feed_plain.f e.f0 e.f1 e.f2 e.f3 e.f4 e.f5 e.f6 = some (plainB e) := by
  unfold feed_plain.f plainB
  by_cases h1 : e.f0 = 1
  · by_cases h2 : e.f4 = 0
    · by_cases h3 : e.f5.toList = []
      · by_cases h4 : e.f6 = 0 <;> simp [h1, h2, h3, h4]
      · simp [h1, h2, h3]
    · simp [h1, h2]
  · simp [h1]
/-- an event, divided at ticks -/
def cutE : S48 → List Int → List S48
 | e, [] => [e]
 | e, t :: ts => if t ≤ e.f1 ∨ t ≥ e.f2 then cutE e ts else ⟨e.f0, e.f1, t, e.f3, e.f4, e.f5, e.f6⟩ :: cutE ⟨e.f0, t, e.f2, e.f3, e.f4, e.f5, e.f6⟩ ts
theorem cutE_pos : ∀ (ts : List Int) (e : S48), 0 < (cutE e ts).length
  | [], _ => Nat.zero_lt_one
  | t :: ts, e => by
    unfold cutE
    split
    · exact cutE_pos ts e
    · simp
def partsE (e : S48) (ts : List Int) : List S48 := if plainB e = true then cutE e ts else [e]
def cellsE (e : S48) : Array Value := #[.int .i64 e.f0, .int .i64 e.f1, .int .i64 e.f2, .int .i64 e.f3, .int .i64 e.f4, .string e.f5, .int .i64 e.f6]
def encE (e : S48) : Array Value := #[.agg #[.int .i64 e.f0, .int .i64 e.f1, .int .i64 e.f2, .int .i64 e.f3, .int .i64 e.f4, .string e.f5, .int .i64 e.f6]]
/-- what a round keeps: whatever cells are safe from it -/
def KpS (Safe : Nat → World → Prop) (W W' : World) : Prop := ∀ g cs t fr, W.heap[g]? = some (.cells cs t fr) → Safe g W → W'.heap[g]? = some (.cells cs t fr) ∧ Safe g W'
theorem KpS_trans {Safe : Nat → World → Prop} {A B C : World} (h : KpS Safe A B) (k : KpS Safe B C) : KpS Safe A C := fun g cs t fr hh hs => by
  obtain ⟨h1, h2⟩ := h g cs t fr hh hs
  exact k g cs t fr h1 h2
/-- a row of numbers that is safe from the rounds -/
def RowSafe (Safe : Nat → World → Prop) (Be : Nat) (v : Value) (ts : List Int) (w : World) : Prop :=
  ∃ A c, v = .slice A ts.length c ∧ (0 < ts.length → ∃ b cs t fr, A = some ⟨b, 0, none⟩ ∧ b ≠ Be ∧ w.heap[b]? = some (.cells cs t fr) ∧ Safe b w ∧ ∀ (j : Nat) (x : Int), ts[j]? = some x → cs[j]? = some (Value.int .i64 x))
theorem RowSafe.keep {Safe : Nat → World → Prop} {Be : Nat} {v : Value} {ts : List Int} {w w' : World} (h : RowSafe Safe Be v ts w) (k : KpS Safe w w') : RowSafe Safe Be v ts w' := by
  obtain ⟨A, c, e, hh⟩ := h
  refine ⟨A, c, e, fun hp => ?_⟩
  obtain ⟨b, cs, t, fr, e1, hne, h1, h2, h3⟩ := hh hp
  obtain ⟨h1', h2'⟩ := k b cs t fr h1 h2
  exact ⟨b, cs, t, fr, e1, hne, h1', h2', h3⟩
theorem RowSafe.grow {Safe : Nat → World → Prop} {Be : Nat} {v : Value} {ts : List Int} {w w' : World} (h : RowSafe Safe Be v ts w) (hg : w.grownBy w' none) (hs : ∀ A B g, A.grownBy B none → Safe g A → Safe g B) : RowSafe Safe Be v ts w' := by
  obtain ⟨A, c, e, hh⟩ := h
  refine ⟨A, c, e, fun hp => ?_⟩
  obtain ⟨b, cs, t, fr, e1, hne, h1, h2, h3⟩ := hh hp
  exact ⟨b, cs, t, fr, e1, hne, (hg.block b (Array.getElem?_eq_some_iff.1 h1).1 (by simp)).trans h1, hs _ _ _ hg h2, h3⟩
theorem RowSafe.set {Safe : Nat → World → Prop} {Be : Nat} {v : Value} {ts : List Int} {w : World} (h : RowSafe Safe Be v ts w) (off : Nat) (u : Value) (hs : ∀ A off v g, Safe g A → Safe g (A.setCell ⟨Be, off, none⟩ v)) : RowSafe Safe Be v ts (w.setCell ⟨Be, off, none⟩ u) := by
  obtain ⟨A, c, e, hh⟩ := h
  refine ⟨A, c, e, fun hp => ?_⟩
  obtain ⟨b, cs, t, fr, e1, hne, h1, h2, h3⟩ := hh hp
  exact ⟨b, cs, t, fr, e1, hne, (setCell_blk hne).trans h1, hs _ _ _ _ h2, h3⟩
theorem cellsE_at {w : World} {g : Nat} {e : S48} (h : w.heap[g]? = some (.cells (cellsE e) 48 (0, 0))) :
    w.cell? ⟨g, 0, none⟩ = some (.int .i64 e.f0) ∧ w.cell? ⟨g, 1, none⟩ = some (.int .i64 e.f1) ∧ w.cell? ⟨g, 2, none⟩ = some (.int .i64 e.f2) ∧ w.cell? ⟨g, 3, none⟩ = some (.int .i64 e.f3) ∧ w.cell? ⟨g, 4, none⟩ = some (.int .i64 e.f4) ∧ w.cell? ⟨g, 5, none⟩ = some (.string e.f5) ∧ w.cell? ⟨g, 6, none⟩ = some (.int .i64 e.f6) :=
  ⟨blk_cell h 0, blk_cell h 1, blk_cell h 2, blk_cell h 3, blk_cell h 4, blk_cell h 5, blk_cell h 6⟩
set_option maxRecDepth 100000 in
set_option maxHeartbeats 4000000 in
theorem parts45 (n : Nat) (hn : 1 ≤ n) (l Be Ba : Nat) (vs : Value) (e : S48) (ts : List Int) (ys : List S48) (hys : ys = partsE e ts) (hmx : ts.length ≤ 1000000) (Safe : Nat → World → Prop) (J : List S48 → World → Prop) (W : World)
    (hg : ∀ s A B, J s A → A.grownBy B none → J s B) (hset : ∀ s A off v, J s A → J s (A.setCell ⟨Be, off, none⟩ v))
    (hY : ∀ pre x W1, J pre W1 → pre.length < ys.length → YieldAt Fence.wide (n - 1) Try.prog l (encE x) W1 fun e W' => e = .returned (.bool true) ∧ J (pre ++ [x]) W' ∧ KpS Safe W1 W')
    (hBe : W.heap[Be]? = some (.cells (cellsE e) 48 (0, 0))) (hBa : W.heap[Ba]? = some (.cells #[vs] 35 (0, 0))) (hSe : Safe Be W) (hrow : RowSafe Safe Be vs ts W)
    (hsafe : ∀ A B g, A.grownBy B none → Safe g A → Safe g B) (hsafe2 : ∀ A off v g, Safe g A → Safe g (A.setCell ⟨Be, off, none⟩ v)) (h0 : J [] W) :
    CallsIn Fence.wide n Try.prog 45 #[.func (.yield l) #[] #[], .pointer (some ⟨Be, 0, none⟩), .pointer (some ⟨Ba, 0, none⟩)] W fun e W' => (∃ v, e = .returned v) ∧ J ys W' := by
  have hu48 := Try.underlying48
  refine callsIn_of_wp Try.func45 rfl trivial ?_ rfl
  simp only [Try.ntmps45, List.size_toArray, List.length_cons, List.length_nil, Nat.reduceAdd, Nat.reduceSub, Array.replicate_succ, Array.replicate_zero, List.push_toArray, List.append_toArray, List.nil_append, List.cons_append]
  obtain ⟨hce0, hce1, hce2, hce3, hce4, hce5, hce6⟩ := cellsE_at hBe
  have HBE := Aside0.mk hBe
  have HBA := Aside0.mk hBa
  have HSE := Aside0.mk hSe
  have HROW := Aside0.mk hrow
  have HY := Aside0.mk hY
  have HYS := Aside0.mk hys
  have HG := Aside0.mk hg
  have HSET := Aside0.mk hset
  have HSAFE := Aside0.mk hsafe
  have HSAFE2 := Aside0.mk hsafe2
  have HJ0 := Aside0.mk h0
  clear hBe hBa hSe hrow hY hys hg hset hsafe hsafe2 h0
  obtain ⟨pl, hpl⟩ : ∃ pl, pl = plainB e := ⟨_, rfl⟩
  have HP : Aside0 (feed_plain.f e.f0 e.f1 e.f2 e.f3 e.f4 e.f5 e.f6 = some pl) := ⟨by rw [hpl]; exact plain_f e⟩
  have HPL := Aside0.mk hpl
  clear hpl
  have HL : Aside0 (0 < ys.length) := ⟨by
    rw [HYS.out]
    unfold partsE
    split
    · exact cutE_pos _ _
    · exact Nat.zero_lt_one⟩
  cases pl
  · have hys1 : ys = [e] := by
      rw [HYS.out]
      unfold partsE
      rw [← HPL.out, if_neg (by decide)]
    have HYS1 := Aside0.mk hys1
    clear hys1
    gi_wp2_with (refine ⟨trivial, ?_⟩; gi_at_call 30; refine (callsIn_wide.2 (feed_plain.calls e.f0 e.f1 e.f2 e.f3 e.f4 e.f5 e.f6 _ W HP.out)).mono ?_; rintro e1 w1 ⟨rfl, hb⟩; clear hce0 hce1 hce2 hce3 hce4 hce5 hce6; obtain ⟨hce0, hce1, hce2, hce3, hce4, hce5, hce6⟩ := cellsE_at (blk_below HBE.out hb); obtain ⟨fn, tmps, assign, body, hy, hR⟩ := HY.out [] e w1 (HG.out _ _ _ HJ0.out (grown_of_below hb none)) HL.out; unfold encE at hy; clear hb)
    refine hR.mono ?_
    rintro e2 W3 ⟨rfl, hJ3, _⟩
    have HJ3 := Aside0.mk hJ3
    clear hJ3
    gi_wp2
    go_end0
    exact ⟨⟨_, rfl⟩, by rw [HYS1.out]; exact HJ3.out⟩
  · have hys1 : ys = cutE e ts := by
      rw [HYS.out]
      unfold partsE
      rw [← HPL.out, if_pos rfl]
    have HYS1 := Aside0.mk hys1
    clear hys1
    obtain ⟨A, c, hvs, _⟩ := HROW.out
    subst hvs
    gi_wp2_with (refine ⟨trivial, ?_⟩; gi_at_call 30; refine (callsIn_wide.2 (feed_plain.calls e.f0 e.f1 e.f2 e.f3 e.f4 e.f5 e.f6 _ W HP.out)).mono ?_; rintro e1 w1 ⟨rfl, hb⟩; clear hce0 hce1 hce2 hce3 hce4 hce5 hce6; have hcba : w1.cell? ⟨Ba, 0, none⟩ = some (.slice A ts.length c) := (blk_cell (blk_below HBA.out hb) 0).trans rfl; have HBE1 := Aside0.mk (blk_below HBE.out hb); have HK1 := Aside0.mk hb; clear hb)
    have HJ1 : Aside0 (J [] w1) := ⟨HG.out _ _ _ HJ0.out (grown_of_below HK1.out none)⟩
    have HSE1 : Aside0 (Safe Be w1) := ⟨HSAFE.out _ _ _ (grown_of_below HK1.out none) HSE.out⟩
    have HROW1 : Aside0 (RowSafe Safe Be (.slice A ts.length c) ts w1) := ⟨by
      obtain ⟨A', c', e1, hh⟩ := HROW.out
      refine ⟨A', c', e1, fun hp => ?_⟩
      obtain ⟨b, cs, t, fr, e2, hne, h1, h2, h3⟩ := hh hp
      exact ⟨b, cs, t, fr, e2, hne, blk_below h1 HK1.out, HSAFE.out _ _ _ (grown_of_below HK1.out none) h2, h3⟩⟩
    clear HJ0 HSE HROW HBE HBA HK1 HPL HP HYS
    gi_loopw [11] (fun i wr => ∃ (q : Nat) (pre : List S48) (e' : S48), q ≤ ts.length ∧ i = .int .i64 q ∧ Aside0 (pre ++ cutE e' (ts.drop q) = ys) ∧ Aside0 (J pre wr) ∧ Aside0 (wr.heap[Be]? = some (.cells (cellsE e') 48 (0, 0))) ∧ Aside0 (Safe Be wr) ∧ Aside0 (RowSafe Safe Be (.slice A ts.length c) ts wr)) (fun i _ => ts.length - (intOf i).toNat)
    case atStart => exact ⟨0, [], e, Nat.zero_le _, rfl, ⟨by rw [HYS1.out]; rfl⟩, HJ1, HBE1, HSE1, HROW1⟩
    case round =>
      obtain ⟨q, pre, e', hq, rfl, HE, HJq, HBEq, HSEq, HROWq⟩ := hrel
      clear HJ1 HBE1 HSE1 HROW1 hcba HYS1
      obtain ⟨hce0, hce1, hce2, hce3, hce4, hce5, hce6⟩ := cellsE_at HBEq.out
      by_cases hlt : q < ts.length
      · have hcell : ∃ b cs t fr, A = some ⟨b, 0, none⟩ ∧ b ≠ Be ∧ wr.heap[b]? = some (.cells cs t fr) ∧ wr.cell? ⟨b, q, none⟩ = some (.int .i64 ts[q]) := by
          obtain ⟨A', c', e1, hh⟩ := HROWq.out
          obtain ⟨b, cs, t, fr, e2, hne, h1, h2, h3⟩ := hh (by omega)
          injection e1 with e1
          refine ⟨b, cs, t, fr, e1.trans e2, hne, h1, ?_⟩
          rw [cell_of_row wr b q cs t fr h1]
          exact h3 q ts[q] (List.getElem?_eq_getElem hlt)
        obtain ⟨b, cs, ty, fr, hA, hne, hbh, hcq⟩ := hcell
        subst hA
        obtain ⟨t, ht⟩ : ∃ t, t = ts[q] := ⟨_, rfl⟩
        rw [← ht] at hcq
        have hdr : ts.drop q = t :: ts.drop (q + 1) := by rw [ht]; exact List.drop_eq_getElem_cons hlt
        have HDR := Aside0.mk hdr
        have HNE := Aside0.mk hne
        have HBH := Aside0.mk hbh
        clear ht hdr hne hbh
        by_cases c1 : t ≤ e'.f1
        · have HE2 : Aside0 (pre ++ cutE e' (ts.drop (q + 1)) = ys) := ⟨by have := HE.out; rw [HDR.out, cutE, if_pos (.inl c1)] at this; exact this⟩
          have c1b : decide (t ≤ e'.f1) = true := decide_eq_true c1
          clear HE c1
          gi_wp2
          go_roundw
          case rel => exact ⟨q + 1, pre, e', by omega, by simp, HE2, HJq, HBEq, HSEq, HROWq⟩
          case measure => simp [intOf]; omega
        · have c1b : decide (t ≤ e'.f1) = false := decide_eq_false c1
          by_cases c2 : t ≥ e'.f2
          · have HE2 : Aside0 (pre ++ cutE e' (ts.drop (q + 1)) = ys) := ⟨by have := HE.out; rw [HDR.out, cutE, if_pos (.inr c2)] at this; exact this⟩
            have c2b : decide (e'.f2 ≤ t) = true := decide_eq_true c2
            clear HE c1 c2
            gi_wp2
            go_roundw
            case rel => exact ⟨q + 1, pre, e', by omega, by simp, HE2, HJq, HBEq, HSEq, HROWq⟩
            case measure => simp [intOf]; omega
          · have HE2 : Aside0 ((pre ++ [⟨e'.f0, e'.f1, t, e'.f3, e'.f4, e'.f5, e'.f6⟩]) ++ cutE ⟨e'.f0, t, e'.f2, e'.f3, e'.f4, e'.f5, e'.f6⟩ (ts.drop (q + 1)) = ys) := ⟨by
              have := HE.out
              rw [HDR.out, cutE, if_neg (by omega)] at this
              rw [List.append_assoc]
              exact this⟩
            have c2b : decide (e'.f2 ≤ t) = false := decide_eq_false c2
            clear HE c1 c2
            have hlen : pre.length < ys.length := by
              have := congrArg List.length HE2.out
              simp only [List.length_append, List.length_singleton] at this
              omega
            have hb1 : Be ≠ wr.heap.size := Nat.ne_of_lt (blk_lt HBEq.out)
            have hAnew : (wr.alloc (.cells (cellsE ⟨e'.f0, e'.f1, t, e'.f3, e'.f4, e'.f5, e'.f6⟩) 48)).heap[wr.heap.size]? = some (.cells (cellsE ⟨e'.f0, e'.f1, t, e'.f3, e'.f4, e'.f5, e'.f6⟩) 48 (0, 0)) := blk_new wr _
            have hAbe := blk_alloc HBEq.out (.cells (cellsE ⟨e'.f0, e'.f1, t, e'.f3, e'.f4, e'.f5, e'.f6⟩) 48)
            have hBnew := (setCell_blk (A := wr.alloc (.cells (cellsE ⟨e'.f0, e'.f1, t, e'.f3, e'.f4, e'.f5, e'.f6⟩) 48)) (off := 1) (v := .int .i64 t) hb1.symm).trans hAnew
            obtain ⟨ga0, ga1, ga2, ga3, ga4, ga5, ga6⟩ := cellsE_at hAbe
            have gaf := blk_frozen hAbe 1
            obtain ⟨gb0, gb1, gb2, gb3, gb4, gb5, gb6⟩ := cellsE_at hBnew
            obtain ⟨fn, tmps, assign, body, hy, hR⟩ := HY.out pre ⟨e'.f0, e'.f1, t, e'.f3, e'.f4, e'.f5, e'.f6⟩ _ (HSET.out pre _ 1 (.int .i64 t) (HG.out pre wr _ HJq.out (World.grownBy_alloc wr (.cells (cellsE ⟨e'.f0, e'.f1, t, e'.f3, e'.f4, e'.f5, e'.f6⟩) 48) none))) hlen
            have HBE2 : Aside0 (((wr.alloc (.cells (cellsE ⟨e'.f0, e'.f1, t, e'.f3, e'.f4, e'.f5, e'.f6⟩) 48)).setCell ⟨Be, 1, none⟩ (.int .i64 t)).heap[Be]? = some (.cells (cellsE ⟨e'.f0, t, e'.f2, e'.f3, e'.f4, e'.f5, e'.f6⟩) 48 (0, 0))) := ⟨blk_put (cs' := cellsE ⟨e'.f0, t, e'.f2, e'.f3, e'.f4, e'.f5, e'.f6⟩) hAbe 1 _ rfl⟩
            have HSE2 : Aside0 (Safe Be ((wr.alloc (.cells (cellsE ⟨e'.f0, e'.f1, t, e'.f3, e'.f4, e'.f5, e'.f6⟩) 48)).setCell ⟨Be, 1, none⟩ (.int .i64 t))) := ⟨HSAFE2.out _ _ _ _ (HSAFE.out _ _ _ (World.grownBy_alloc wr _ none) HSEq.out)⟩
            have HROW2 : Aside0 (RowSafe Safe Be (.slice (some ⟨b, 0, none⟩) ts.length c) ts ((wr.alloc (.cells (cellsE ⟨e'.f0, e'.f1, t, e'.f3, e'.f4, e'.f5, e'.f6⟩) 48)).setCell ⟨Be, 1, none⟩ (.int .i64 t))) := ⟨(HROWq.out.grow (World.grownBy_alloc wr _ none) HSAFE.out).set 1 _ HSAFE2.out⟩
            simp only [cellsE] at ga0 ga1 ga2 ga3 ga4 ga5 ga6 gaf gb0 gb1 gb2 gb3 gb4 gb5 gb6 hy hR HBE2 HSE2 HROW2
            simp only [encE] at hy
            clear hAnew hAbe hBnew HROWq HSEq HBEq HJq
            gi_wp2
            refine hR.mono ?_
            rintro e2 W3 ⟨rfl, hJ3, hk3⟩
            have HJ3 := Aside0.mk hJ3
            have HK3 := Aside0.mk hk3
            clear hJ3 hk3 ga0 ga1 ga2 ga3 ga4 ga5 ga6 gaf gb0 gb1 gb2 gb3 gb4 gb5 gb6 hy hR
            gi_wp2
            go_roundw
            case rel => exact ⟨q + 1, _, ⟨e'.f0, t, e'.f2, e'.f3, e'.f4, e'.f5, e'.f6⟩, by omega, by simp, HE2, HJ3, ⟨(HK3.out Be _ _ _ HBE2.out HSE2.out).1⟩, ⟨(HK3.out Be _ _ _ HBE2.out HSE2.out).2⟩, ⟨HROW2.out.keep HK3.out⟩⟩
            case measure => simp [intOf]; omega
      · obtain rfl : q = ts.length := by omega
        have hys2 : ys = pre ++ [e'] := by
          have := HE.out
          rw [List.drop_length] at this
          exact this.symm
        have HYS2 := Aside0.mk hys2
        obtain ⟨fn, tmps, assign, body, hy, hR⟩ := HY.out pre e' wr HJq.out (by rw [hys2]; simp)
        unfold encE at hy
        clear hys2 HE hlt
        gi_wp2
        refine hR.mono ?_
        rintro e2 W3 ⟨rfl, hJ3, _⟩
        have HJ3 := Aside0.mk hJ3
        clear hJ3
        gi_wp2
        go_end0
        exact ⟨⟨_, rfl⟩, by rw [HYS2.out]; exact HJ3.out⟩
end Go.Proofs.Ytioedeglgljblaa.H
