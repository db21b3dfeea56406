/- evindex.Build: the first loop (under way). -/
import Derived.Test.YteifekndhgkgcaaH0
import Derived.Test.YteifekndhgkgcaaHEntry
import Derived.Test.YteifekndhgkgcaaHGD
import Derived.Test.YteifekndhgkgcaaHRows
import Derived.Test.YteifekndhgkgcaaHEnts
import Derived.Maps.GroupsBeside
import Derived.Maps.RangeWalk
namespace Go.Proofs.Yteifekndhgkgcaa.H
open Go.RowKit Go.Proofs.YteifekndhgkgcaaW.PrintWords Go.Proofs.YteifekndhgkgcaaW.PrintLast Go.Proofs.YteifekndhgkgcaaW.PrintMore
open Go.ChangeShapes (lits)
set_option linter.unusedSimpArgs false
set_option linter.unusedVariables false
theorem grown_of_below {w w1 : World} (h : Below w.heap.size w w1) : w.grownBy w1 none := ⟨h.os, h.tape, h.output, h.size, fun k hk _ => h.block k hk⟩
theorem groups_grown {H : Type} {P : Program} {w w' : World} {k : TypeId} {base : Nat} {e : TypeId} {q : IntKind} {b n : Nat} {D : DataW H} (h : w.ownsGroups P k base e q b n D) (hg : w.grownBy w' none) : w'.ownsGroups P k base e q b n D :=
  h.kept hg (by simp) (fun es clock _ x _ => by cases hx : x.val.ownBlock <;> simp)
theorem gate_entryStore {P : Program} {ops : Array Oper} {o : Oper} {rest : List Oper} {a : Act} {Q : Exit → Act → World → Prop} {W : World} {t : TypeId} {m s v : Operand} (_ho : o.op = .entryStore t m s v) (h : wpList P ops Q (o :: rest) a W) : wpList P ops Q (o :: rest) a W := h
/-- one step of the range over the map of rows, its facts in one -/
structure StepR (w5 w w' : World) (b r n : Nat) (D : DataW Value) (left : Lit → Bool) (cnt cnt' : Nat) (xn xk : Int) (c : Value) : Prop where
  wn : (Lit.int .i64 xn).wf = true
  wk : (Lit.int .i64 xk).wf = true
  hl : left (keyL xn xk) = true
  hat : D.atKey (keyL xn xk) .nil = .held c
  hrg : w'.ranges Try.prog 53 RV b r n D (fun z => left z && !z.sameKey (keyL xn xk)) cnt'
  hlt : cnt' < cnt
  hg : w.grownBy w' (some r)
  hs : w'.heap.size = w.heap.size
  hen : (Instr.entry (.pointer (some ⟨r, 0, none⟩))).run Try.prog w' = .ok (.tuple #[.agg #[.int .i64 xn, .int .i64 xk], c]) w'
theorem next_rows (w5 w : World) {ops : Array Oper} {rest : List Oper} {o : Oper} {a : Act} {Q : Exit → Act → World → Prop} (hg : o.guard = none) (it : Operand) (hop : o.op = Op.next it false) (b r n : Nat) (D : DataW Value) (left : Lit → Bool) (cnt : Nat)
    (hit : a.eval it = .pointer (some ⟨r, 0, none⟩)) (h : w.ranges Try.prog 53 RV b r n D left cnt)
    (hDone : Aside0 (∀ kl, left kl = false) → wpList Try.prog ops Q rest (a.put o.dst (.tuple #[.bool false])) w)
    (hMore : ∀ (xn xk : Int) (c : Value) (w' : World) (cnt' : Nat), StepR w5 w w' b r n D left cnt cnt' xn xk c → wpList Try.prog ops Q rest (a.put o.dst (.tuple #[.bool true, .agg #[.int .i64 xn, .int .i64 xk], c])) w') :
    wpList Try.prog ops Q (o :: rest) a w := by
  refine wpList_next_ranges (α := Int × Int) (β := Value) w hg it hop 53 (Go.Maps.Keyed.of_law law53) RV (fun x => .agg #[.int .i64 x.1, .int .i64 x.2]) (fun v => v) (fun key kl h => by obtain ⟨n, k, e, _⟩ := key53_inv h; exact ⟨(n, k), e⟩) (fun v y _ => ⟨v, rfl⟩) b r n D left cnt hit h (fun _ hl => hDone ⟨hl⟩) ?_
  intro x c kl y w1 cnt1 hkey hlk hv hat hrg1 hlt hg1 hs1 hen
  obtain ⟨n0, k0, ex, wn, wk⟩ := key53_inv hkey
  obtain ⟨xn, xk⟩ := x
  have ex2 : xn = n0 ∧ xk = k0 := by simpa using ex
  obtain ⟨rfl, rfl⟩ := ex2
  have hkl : kl = keyL xn xk := Option.some.inj (hkey.symm.trans (key53 w5 xn xk wn wk))
  subst hkl
  have hy : y = (.held c, []) := by simpa [RV] using hv.symm
  have hat0 := hat .nil
  rw [hy] at hat0
  exact hMore xn xk c w1 cnt1 ⟨wn, wk, hlk, hat0, hrg1, hlt, hg1, hs1, hen⟩
theorem info43 : (Try.prog.info? 43).map (fun i => (i.zero, i.size, i.bytes)) = some (some (.agg #[(.int .i64 0), (.int .i64 0), (.slice none 0 0)]), 3, 40) := by kernel_rfl
theorem gb_set (w : World) (b i : Nat) (v : Value) : w.grownBy (w.setCell ⟨b, i, none⟩ v) (some b) := ⟨rfl, rfl, rfl, by simp, fun k _ hne => Below.heap_setCell w _ v k (fun e => hne (by rw [e]))⟩
def wfS (x : S47) : Prop := (Lit.int .i64 x.f0).wf = true ∧ (Lit.int .i64 x.f2.f0).wf = true
set_option maxRecDepth 100000 in
set_option maxHeartbeats 4000000 in
theorem build_walk (A0 : Option Addr) (c0 : Nat) (l0 : List S47) (w : World) (hr0 : Kd.C k47 w A0 l0.length l0) (hc0 : l0.length ≤ c0) (hl : l0.length ≤ 60) (hwf : ∀ i : Nat, i < l0.length → wfS (rd_T47 l0 (i : Int))) :
    Calls Try.prog 11 #[.slice A0 l0.length c0] w fun e w' => ∃ v1_ : Value, e = .returned (.agg #[.int .i64 (l0.length : Int), v1_]) ∧ Kd.S k43 43 w' w.heap.size (fun _ => True) v1_ (buildF l0 l0.length) ∧ Below w.heap.size w w' := by
  have hmm := @run_makeMap Try.prog
  have hu47 := Try.underlying47
  have hu45 := Try.underlying45
  have hu53 := Try.underlying53
  have hu27 := Try.underlying27
  have HR0 := Aside0.mk hr0
  clear hr0
  obtain ⟨i0, hi, hz0, hz1, hz2⟩ := info_parts info3
  obtain ⟨i1, hj, hy0, hy1, hy2⟩ := info_parts info43
  go_enter Try.func11, Try.ntmps11
  go_wp2
  go_loopg [13] l0.length (fun kq v13 w' => ∃ k : Nat, v13 = .int .i64 (k : Int) ∧ Aside0 (k ≤ l0.length ∧ kq + k = l0.length) ∧ Aside0 (w'.ownsGroups Try.prog 53 (w.heap.size + 2) 3 .i64 (w.heap.size + 1) k (GD l0 k)) ∧ Aside0 (Below w.heap.size w w') ∧ Aside0 (w.heap.size + 2 ≤ w'.heap.size) ∧ Aside0 (w'.heap[w.heap.size]? = some (.cells #[.int .i64 0, .slice none 0 0] 27 (0, 0))))
  case atStart =>
    refine ⟨0, rfl, ⟨Nat.zero_le _, rfl⟩, ⟨?_⟩, ⟨?_⟩, ⟨?_⟩, ⟨?_⟩⟩
    · have := World.ownsGroups_made (H := Unit) (w.alloc (.cells #[.int .i64 0, .slice none 0 0] 27)) Try.prog 53 3 .i64
      have hs : (w.alloc (.cells #[.int .i64 0, .slice none 0 0] 27)).heap.size = w.heap.size + 1 := by simp
      rw [hs] at this
      exact this
    · exact below_alloc (below_alloc (Below.refl _ _) _) _
    · simp
    · exact blk_alloc (blk_new w _) _
  case round =>
    obtain ⟨k, rfl, HK, HG, HB, HS, HC⟩ := hrel
    by_cases c : (k : Int) < (l0.length : Int)
    · have cb : decide ((k : Int) < (l0.length : Int)) = true := decide_eq_true c
      have p1 : (0 : Int) ≤ (k : Int) := by omega
      obtain ⟨ad, e1, hx0, hx1, hx2, hx3, hx4, hx5, hx6, hx7, hx8⟩ := at_T47 HR0.out (k : Int) p1 c
      cases e1
      replace hx0 := pw_cell_below HB.out hx0
      replace hx1 := pw_cell_below HB.out hx1
      replace hx2 := pw_cell_below HB.out hx2
      replace hx3 := pw_cell_below HB.out hx3
      replace hx4 := pw_cell_below HB.out hx4
      replace hx5 := pw_cell_below HB.out hx5
      replace hx6 := pw_cell_below HB.out hx6
      replace hx7 := pw_cell_below HB.out hx7
      replace hx8 := pw_cell_below HB.out hx8
      have q1 : (k : Int) < (l0.length : Int) := c
      have p1' := eq_true p1
      have q1' := eq_true q1
      simp only [Int.toNat_natCast] at hx0 hx1 hx2 hx3 hx4 hx5 hx6 hx7 hx8
      have hw := hwf k (by omega)
      have hG := HG.out
      have hstep := fun (w : World) (base : Nat) (e : TypeId) (v : Value) (zs : List Int) => GD_step (w := w) (base := base) (e := e) (v := v) (zs := zs) l0 k
      have hkey := key53 wr _ _ hw.1 hw.2
      generalize hrd : rd_T47 l0 (k : Int) = o at hx0 hx1 hx2 hx3 hx4 hx5 hx6 hx7 hx8 hw hstep hkey
      have hB := HB.out
      have hS := HS.out
      have hk := HK.out
      have key1 : ∀ (o1 o2 o3 : Obj), (((wr.alloc o1).alloc o2).alloc o3).ownsGroups Try.prog 53 (w.heap.size + 2) 3 .i64 (w.heap.size + 1) k (GD l0 k) := fun o1 o2 o3 =>
        groups_grown (groups_grown (groups_grown hG (World.grownBy_alloc _ _ _)) (World.grownBy_alloc _ _ _)) (World.grownBy_alloc _ _ _)
      go_wp2_with (first
        | ((with_reducible refine gate_dst (N := 29) rfl ?_); refine wpList_mapEntry_groups _ rfl (.tmp 24) (.tmp 25) 51 rfl 53 36 3 .i64 law53 Try.underlying51 zero36 (w.heap.size + 2) (w.heap.size + 1) k (GD l0 k) rfl (key1 _ _ _) (by unfold maxLen; omega) _ (keyL o.f0 o.f2.f0) rfl hkey ?_; intro v zs st w1 hat hoi hzl hgr1 hsz1 hback; have hcell : w1.cell? ⟨wr.heap.size + 1 + 1, 0, none⟩ = some (.int .i64 (k : Int)) := (by rw [World.cell?_of_block (hgr1.block _ (by simp) (by simp; omega))]; go_simp); have hb1 : w.heap.size + 2 ≤ w1.heap.size := (by rw [hsz1]; simp; omega))
        | ((with_reducible refine gate_builtin (b := .append) (xs := #[.tmp 26, .tmp 28]) rfl ?_); refine wpList_append_own_at _ rfl (.tmp 26) (.tmp 28) 36 rfl (w.heap.size + 2) 3 i0 (.int .i64 0) 1 8 Try.underlying36 hi hz0 hz1 hz2 rfl (by decide) _ _ _ rfl hoi.1 ⟨wr.heap.size + 1 + 1, 0, none⟩ 1 1 [.int .i64 (k : Int)] rfl rfl (fun j u hj => by cases j with | zero => (simp at hj; subst hj; exact hcell) | succ j => (simp at hj)) (ints_oneCell .i64 [(k : Int)]) (by unfold maxLen; omega) (by omega) hb1 ?_; intro v' w2 hown' hgrow hnil hloc)
        | ((with_reducible refine gate_entryStore (t := 51) rfl ?_); refine wpList_entryStore_back _ rfl (.tmp 24) (.tmp 31) (.tmp 30) 51 rfl hback rfl rfl rfl hgrow (hoi.appended hown' (WalkArith.wf_i64 (by omega))) (by simp; omega) (hloc.imp id (fun h => ⟨_, h, by first | exact Nat.le_refl _ | simp⟩)) ?_; intro w3 hown3 hgrow3))
      go_roundg (gk - 1)
      case measure => omega
      case rel =>
        have hwk : (Lit.int .i64 (k : Int)).wf = true := WalkArith.wf_i64 (by omega)
        have happ := hoi.appended hown' hwk
        have hgrow' : w1.grownBy w2 v.ownBlock := hgrow
        have hvlt : ∀ j, v.ownBlock = some j → w.heap.size + 2 ≤ j := fun j hj => (hoi.1.lt j hj).1
        have hwr : w.heap.size + 2 ≤ wr.heap.size := hS
        refine ⟨k + 1, by first | (rw [Int.natCast_add]; rfl) | (simp; done), ⟨by omega, by omega⟩, ⟨?_⟩, ⟨?_⟩, ⟨?_⟩, ⟨?_⟩⟩
        · rw [hstep w1 _ _ v zs hoi hat, ← happ.datum_pos (by simp)]
          exact hown3
        · exact ((((below_alloc (below_alloc (below_alloc hB _) _) _).grown hgr1 (by simp; omega) (fun j hj => by cases hj; omega)).grown hgrow' (by omega) (fun j hj => by have := hvlt j hj; omega)).grown hgrow3 (by have := hgrow'.size; omega) (fun j hj => by cases hj; omega))
        · have := hgrow'.size
          have := hgrow3.size
          omega
        · have e3 := hgrow3.block w.heap.size (by have := hgrow'.size; omega) (by simp)
          have e2 := hgrow'.block w.heap.size (by omega) (fun e => by have := hvlt _ e.symm; omega)
          have e1 := hgr1.block w.heap.size (by simp; omega) (by simp)
          rw [e3, e2, e1]
          exact blk_alloc (blk_alloc (blk_alloc HC.out _) _) _
    · have hkl : k = l0.length := by have := HK.out; omega
      subst hkl
      rename World => w5
      have cb : decide (((l0.length : Nat) : Int) < (l0.length : Int)) = false := decide_eq_false c
      have hB := HB.out
      have hS := HS.out
      have hC := HC.out
      have hG := HG.out
      clear HB HS HC HG HK
      obtain ⟨D2, hm, r1, r2, r4⟩ := groups_rows hG
      have es0 : (w5.alloc (Obj.cells #[Value.int .i64 (l0.length : Int), Value.slice none 0 0] 27)).heap.size = w5.heap.size + 1 := by simp
      have hm0 := hm.kept (World.grownBy_alloc w5 (Obj.cells #[Value.int .i64 (l0.length : Int), Value.slice none 0 0] 27) none) (by simp)
      go_wp2_with (first
        | (at_range; refine wpList_range_own _ rfl _ 51 rfl 53 36 (Go.Maps.Keyed.of_law law53) Try.underlying51 RV (w.heap.size + 1) l0.length D2 rfl hm0 ?_; intro w0 hrg0 hg0 hs0))
      try go_frame
      rw [es0] at hrg0 hs0
      have hbx0 : w0.heap[w5.heap.size]? = some (.cells #[.int .i64 (l0.length : Int), .slice none 0 0] 27 (0, 0)) := blk_grown (blk_new w5 _) hg0 (by simp)
      have hbe0 : Below w5.heap.size w5 w0 := (below_alloc (Below.refl _ w5) _).grown hg0 (by simp) (fun j hj => by cases hj)
      have hsz0 : Maps.size D2 ≤ l0.length := by
        obtain ⟨es, clock, since, seen, cc, _, _, h1, hD, _⟩ := hrg0
        rw [hD]
        simp [Maps.size, length_sorted]
        exact h1
      go_loopw [] (fun W => ∃ (left : Lit → Bool) (cnt : Nat) (ents : List Ent) (V : Value), Aside0 (W.ranges Try.prog 53 RV (w.heap.size + 1) (w5.heap.size + 1) l0.length D2 left cnt) ∧ Aside0 (EInv D2 left ents) ∧ Aside0 (ents.length + cnt ≤ l0.length) ∧
          Aside0 (W.ownsRow (w5.heap.size + 2) 43 3 V ents.length (ents.flatMap encE)) ∧ Aside0 (W.heap[w5.heap.size]? = some (.cells #[.int .i64 (l0.length : Int), V] 27 (0, 0))) ∧ Aside0 (Below w5.heap.size w5 W) ∧ Aside0 (w5.heap.size + 2 ≤ W.heap.size))
        (fun W => W.rangeLeft (w.heap.size + 1) (w5.heap.size + 1))
      case atStart =>
        exact ⟨_, _, [], .slice none 0 0, ⟨hrg0⟩, ⟨EInv.start D2⟩, ⟨by simpa using hsz0⟩, ⟨own_nil _ _ _ _⟩, ⟨hbx0⟩, ⟨hbe0⟩, ⟨by omega⟩⟩
      case round =>
        clear hbx0 hbe0 hsz0 hrg0 hg0 hs0
        obtain ⟨left, cnt, ents, V, HRG, HI, HL, HO, HBX, HBE, HSZ⟩ := hrel
        obtain ⟨AV, cV, rfl⟩ := own_slice HO.out
        go_wp2_with (first
          | (at_next; refine next_rows w5 _ rfl _ rfl (w.heap.size + 1) (w5.heap.size + 1) l0.length D2 left cnt rfl HRG.out ?_ ?_))
        · intro hl0
          have hlen : ents.length ≤ 60 := by have := HL.out; omega
          have hVb : ∀ j, (Value.slice AV ents.length cV).ownBlock = some j → w5.heap.size + 2 ≤ j := fun j hj => own_base HO.out j hj
          have BX1 := HBX.out
          obtain ⟨hcz0, hcz1⟩ := bc2 BX1
          obtain ⟨hfz0, hfz1⟩ := bf2 BX1
          have HBE1 := HBE.out
          have HSZ1 := HSZ.out
          go_wp2_with (first | (go_at_call 24; refine (sortF_any _ _ (.slice AV ents.length cV) ents HO.out (by omega) HI.out.apart).mono ?_; rintro e w7 ⟨rfl, d, hperm, hpw, hown7, hgr7⟩; have BX7 := blk_grown BX1 hgr7 (fun e => by have := hVb _ e.symm; omega); obtain ⟨hdz0, hdz1⟩ := bc2 BX7; have hC7 : w7.heap[w.heap.size]? = some (.cells #[.int .i64 0, .slice none 0 0] 27 (0, 0)) := (by rw [hgr7.block _ (by omega) (fun e => by have := hVb _ e.symm; omega), HBE1.block _ (by omega)]; exact hC); obtain ⟨hrz0, hrz1⟩ := bc2 hC7; obtain ⟨hrf0, hrf1⟩ := bf2 hC7))
          have hr7 : Kd.S k43 43 w7 w.heap.size (fun _ => True) (.slice AV ents.length cV) (buildF l0 l0.length) := by
            obtain ⟨h1, h2⟩ := ents_slots hwf r1 r2 HI.out hl0.out hperm hpw
            have hown8 : ∀ v zs, w5.ownsInts (w.heap.size + 2) 3 .i64 v zs → w7.ownsInts (w.heap.size + 2) 3 .i64 v zs := fun v zs ho => by
              have ho1 := ho.kept (grown_of_below HBE1) (by cases v.ownBlock <;> simp)
              exact ho1.kept hgr7 (own_type_ne ho1.1 HO.out (by decide))
            refine slots_S (base' := w.heap.size + 2) (by omega) (own_weaken hown7 (by omega)) h1 (fun j e s hj hs => ?_) (fun i j e e' hij hi hj => ?_)
            · obtain ⟨a1, a2, a3⟩ := h2 j e s hj hs
              exact ⟨a1, a2, hown8 _ _ a3⟩
            · have m1 := HI.out.mem e (hperm.mem_iff.1 (List.mem_of_getElem? hi))
              have m2 := HI.out.mem e' (hperm.mem_iff.1 (List.mem_of_getElem? hj))
              refine r4 _ _ _ _ _ _ m1.1 m1.2.1 m2.1 m2.2.1 ?_ m1.2.2.1 m2.2.2.1
              have hne : befK e.a e.c e'.a e'.c ∨ befK e'.a e'.c e.a e.c := by
                have hpi := List.pairwise_iff_getElem.1 hpw
                obtain ⟨hil, hie⟩ := List.getElem?_eq_some_iff.1 hi
                obtain ⟨hjl, hje⟩ := List.getElem?_eq_some_iff.1 hj
                rcases Nat.lt_or_gt_of_ne hij with h | h
                · have := hpi i j hil hjl h
                  rw [hie, hje] at this
                  exact .inl this
                · have := hpi j i hjl hil h
                  rw [hie, hje] at this
                  exact .inr this
              unfold befK at hne
              omega
          have hB7 : Below w.heap.size w w7 := ((hB.trans ⟨HBE1.os, HBE1.tape, HBE1.output, HBE1.size, fun k hk => HBE1.block k (by omega)⟩)).grown hgr7 (by omega) (fun j hj => by have := hVb _ hj; omega)
          refine bodyPost_ret (results_cell_row rfl _ _ w.heap.size 27 #[.int .i64 (l0.length : Int), .slice AV ents.length cV] (0, 0) _ rfl (pt2 hC7) Try.underlying27 rfl (by kernel_rfl)) rfl ?_
          refine ⟨_, rfl, ?_, below_set (below_set hB7 (Nat.le_refl _)) (Nat.le_refl _)⟩
          exact Kd.S_set (Kd.S_set hr7 hC7 (by decide) 0 _) (blk_set hC7 0 _) (by decide) 1 _
        · intro xn xk c w1 cnt1 hst
          obtain ⟨wn, wk, hlk, hat0, hrg1, hlt, hg1, hs1, hen⟩ := hst
          obtain ⟨zs, ho, _⟩ := r1 xn xk c wn wk hat0
          obtain ⟨Ac, cc, rfl⟩ := own_slice ho.1
          have HI1 : EInv D2 (fun z => left z && !z.sameKey (keyL xn xk)) (ents ++ [⟨xn, xk, Ac, zs.length, cc⟩]) := HI.out.step w5 ⟨xn, xk, Ac, zs.length, cc⟩ wn wk hlk hat0
          have hVb : ∀ j, (Value.slice AV ents.length cV).ownBlock = some j → w5.heap.size + 2 ≤ j := fun j hj => own_base HO.out j hj
          have hO1 : w1.ownsRow (w5.heap.size + 2) 43 3 (.slice AV ents.length cV) ents.length (ents.flatMap encE) := own_other HO.out hg1 (by
            cases hV : (Value.slice AV ents.length cV).ownBlock with
            | none => exact .inl rfl
            | some g => exact .inr (fun e => by have := hVb g hV; cases e; omega))
          have BX1 := blk_grown HBX.out hg1 (by simp)
          obtain ⟨hcz0, hcz1⟩ := bc2 BX1
          obtain ⟨hfz0, hfz1⟩ := bf2 BX1
          have HSZ1 := HSZ.out
          have HL1 := HL.out
          have HBE1 := HBE.out
          have hcy1 : (w1.alloc (Obj.cells #[Value.int .i64 xn, Value.int .i64 xk] 53)).cell? ⟨w5.heap.size, 1, none⟩ = some (.slice AV ents.length cV) := blk_cell (blk_alloc BX1 _) 1
          have hn3 : ((w1.alloc (Obj.cells #[Value.int .i64 xn, Value.int .i64 xk] 53)).alloc (Obj.cells #[Value.int .i64 xn, Value.int .i64 xk, Value.slice Ac zs.length cc] 43)).heap[wr.heap.size + 1]? = some (Obj.cells #[Value.int .i64 xn, Value.int .i64 xk, Value.slice Ac zs.length cc] 43) := by
            have := blk_new (w1.alloc (Obj.cells #[Value.int .i64 xn, Value.int .i64 xk] 53)) (Obj.cells #[Value.int .i64 xn, Value.int .i64 xk, Value.slice Ac zs.length cc] 43)
            rwa [show (w1.alloc (Obj.cells #[Value.int .i64 xn, Value.int .i64 xk] 53)).heap.size = wr.heap.size + 1 by simp [hs1]] at this
          have hnews : ∀ (j : Nat) u, (encE ⟨xn, xk, Ac, zs.length, cc⟩)[j]? = some u → ((w1.alloc (Obj.cells #[Value.int .i64 xn, Value.int .i64 xk] 53)).alloc (Obj.cells #[Value.int .i64 xn, Value.int .i64 xk, Value.slice Ac zs.length cc] 43)).cell? ((⟨wr.heap.size + 1, 0, none⟩ : Addr).add j) = some u := by
            intro j u hu
            rw [add_plain, blk_cell hn3, ← Array.getElem?_toList]
            exact hu
          have hone : ∀ u ∈ encE ⟨xn, xk, Ac, zs.length, cc⟩, u.oneCell' = true := by
            intro u hu
            simp [encE, Ent.v] at hu
            rcases hu with rfl | rfl | rfl <;> rfl
          have hbs : w5.heap.size + 2 ≤ ((w1.alloc (Obj.cells #[Value.int .i64 xn, Value.int .i64 xk] 53)).alloc (Obj.cells #[Value.int .i64 xn, Value.int .i64 xk, Value.slice Ac zs.length cc] 43)).heap.size := by simp; omega
          have hO3 := (hO1.alloc (Obj.cells #[Value.int .i64 xn, Value.int .i64 xk] 53)).alloc (Obj.cells #[Value.int .i64 xn, Value.int .i64 xk, Value.slice Ac zs.length cc] 43)
          have hml : ents.length + 1 ≤ maxLen := by unfold maxLen; omega
          have BX3 := blk_alloc (blk_alloc BX1 (Obj.cells #[Value.int .i64 xn, Value.int .i64 xk] 53)) (Obj.cells #[Value.int .i64 xn, Value.int .i64 xk, Value.slice Ac zs.length cc] 43)
          go_wp2_with (first
            | ((with_reducible refine gate_builtin (b := .append) (xs := #[.tmp 44, .tmp 51]) rfl ?_); go_loud (refine wpList_append_own_at _ rfl (.tmp 44) (.tmp 51) 25 rfl (w5.heap.size + 2) 43 i1 (.agg #[.int .i64 0, .int .i64 0, .slice none 0 0]) 3 40 Try.underlying25 hj hy0 hy1 hy2 rfl (by decide) _ _ _ rfl hO3 _ 1 1 (encE ⟨xn, xk, Ac, zs.length, cc⟩) rfl rfl hnews hone hml (by omega) hbs ?_); intro v' w2 hown' hgrow hnil hloc; obtain ⟨A2, c2, rfl⟩ := own_slice hown'; have BX2 := blk_grown BX3 hgrow (fun e => by have := hVb _ e.symm; omega); obtain ⟨hdz0, hdz1⟩ := bc2 BX2; obtain ⟨hdf0, hdf1⟩ := bf2 BX2))
          have hgl := hgrow.size
          have hw2 : w5.heap.size + 2 ≤ w2.heap.size := by omega
          have hx1 : w.heap.size + 1 < w5.heap.size := by omega
          have q1 := (hrg1.kept (World.grownBy_alloc w1 (Obj.cells #[Value.int .i64 xn, Value.int .i64 xk] 53) none) (by simp) (by simp)).kept (World.grownBy_alloc _ (Obj.cells #[Value.int .i64 xn, Value.int .i64 xk, Value.slice Ac zs.length cc] 43) none) (by simp) (by simp)
          have q2 := q1.kept hgrow (fun e => by have := hVb _ e.symm; omega) (fun e => by have := hVb _ e.symm; omega)
          have q3 := q2.kept (gb_set w2 w5.heap.size 1 (.slice A2 (ents.length + 1) c2)) (fun e => by have := Option.some.inj e; omega) (fun e => by have := Option.some.inj e; omega)
          go_roundw
          case rel =>
            refine ⟨_, cnt1, ents ++ [⟨xn, xk, Ac, zs.length, cc⟩], .slice A2 (ents.length + 1) c2, ⟨q3⟩, ⟨HI1⟩, ⟨by rw [List.length_append, List.length_singleton]; omega⟩, ⟨?_⟩, ⟨blk_put BX2 1 _ rfl⟩, ⟨?_⟩, ⟨?_⟩⟩
            · rw [List.length_append, List.length_singleton, List.flatMap_append, List.flatMap_singleton]
              exact own_setCell hown' (fun e => by have := own_base hown' _ e.symm; simp at this; omega) _
            · exact (((below_alloc (below_alloc (HBE1.grown hg1 (by omega) (fun j hj => by cases hj; omega)) _) _).grown hgrow (by omega) (fun j hj => by have := hVb _ hj; omega))).setCell (Nat.le_refl _) _
            · have : (w2.setCell ⟨w5.heap.size, 1, none⟩ (.slice A2 (ents.length + 1) c2)).heap.size = w2.heap.size := by simp
              omega
          case measure => rw [q3.left_eq, HRG.out.left_eq]; exact hlt
theorem evindex_Build.calls (A0 : Option Addr) (c0 : Nat) (l0 : List S47) (r1 : Int) (r2 : List S43) (w : World) (hr0 : Kd.C k47 w A0 l0.length l0) (hc0 : l0.length ≤ c0) (h : evindex_Build.f l0 = some (r1, r2)) :
    Calls Try.prog 11 #[.slice A0 l0.length c0] w fun e w' => ∃ v1_ : Value, e = .returned (.agg #[.int .i64 r1, v1_]) ∧ Kd.S k43 43 w' w.heap.size (fun _ => True) v1_ r2 ∧ Below w.heap.size w w' := by
  unfold evindex_Build.f at h
  by_cases c : l0.length ≤ 60 ∧ ∀ x ∈ l0, (Lit.int .i64 x.f0).wf = true ∧ (Lit.int .i64 x.f2.f0).wf = true
  · rw [if_pos c] at h
    obtain ⟨rfl, rfl⟩ : (l0.length : Int) = r1 ∧ buildF l0 l0.length = r2 := by simpa using h
    refine build_walk A0 c0 l0 w hr0 hc0 c.1 (fun i hi => ?_)
    have : rd_T47 l0 (i : Int) = l0[i] := by
      unfold rd_T47
      rw [Int.toNat_natCast, List.getD_eq_getElem?_getD, List.getElem?_eq_getElem hi]
      rfl
    rw [this]
    exact c.2 _ (List.getElem_mem hi)
  · rw [if_neg c] at h
    cases h
end Go.Proofs.Yteifekndhgkgcaa.H
