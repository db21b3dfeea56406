/- search.ends: the iterator over the places at which a match ends; no condition. -/
import Derived.Test.YtgdjiphljadlcaaK0
import Derived.Test.YtgdjiphljadlcaaK13
import Derived.RangeFuncBox
import Derived.RangeFuncLeaves
import Derived.RangeFuncCalls
import Derived.OwnWalkIn
import Derived.TacticsInMore
import Derived.LoopNIn
import Derived.LoopIn
import Derived.Maps.AppendAt
namespace Go.Proofs.Ytgdjiphljadlcaa.K
open Go.RowKit Go.Proofs.YtgdjiphljadlcaaW.PrintWords Go.Proofs.YtgdjiphljadlcaaW.PrintLast Go.Proofs.YtgdjiphljadlcaaW.PrintMore
attribute [local go_sem] Oper.semAt_some
/-- the places of the bools that are true -/
def idxT : List Bool → Nat → List Int
  | [], _ => []
  | b :: l, i => if b = true then (i : Int) :: idxT l (i + 1) else idxT l (i + 1)
theorem idxT_snoc (b : Bool) : ∀ (l : List Bool) (i : Nat), idxT (l ++ [b]) i = idxT l i ++ (if b = true then [((i + l.length : Nat) : Int)] else [])
  | [], i => by cases b <;> simp [idxT]
  | c :: l, i => by
    have ih := idxT_snoc b l (i + 1)
    have e : i + 1 + l.length = i + (c :: l).length := by rw [List.length_cons]; omega
    cases c <;> simp only [List.cons_append, idxT, if_true, Bool.false_eq_true, if_false, ih, e]
theorem idxT_len : ∀ (l : List Bool) (i : Nat), (idxT l i).length ≤ l.length
  | [], i => Nat.le_refl _
  | b :: l, i => by
    have := idxT_len l (i + 1)
    cases b <;> simp only [idxT, if_true, Bool.false_eq_true, if_false, List.length_cons] <;> omega
/-- what a round keeps: whatever cells are safe from it -/
def KpS (Safe : Nat → World → Prop) (W W' : World) : Prop := ∀ g cs t fr, W.heap[g]? = some (.cells cs t fr) → Safe g W → W'.heap[g]? = some (.cells cs t fr) ∧ Safe g W'
theorem cells_of {w : World} {a : Addr} {v : Value} (h : w.cell? a = some v) : ∃ cs t fr, w.heap[a.block]? = some (.cells cs t fr) ∧ a.spot = none := by
  have hsp := World.cell?_spot h
  unfold World.cell? at h
  split at h
  · rename_i cs t fr e
    exact ⟨cs, t, fr, e, hsp⟩
  · cases h
theorem cell_same {w w' : World} {a : Addr} (h : w'.heap[a.block]? = w.heap[a.block]?) : w'.cell? a = w.cell? a := by
  unfold World.cell?
  rw [h]
/-- a row of bools that is safe from the rounds -/
def RowSafe (Safe : Nat → World → Prop) (A : Option Addr) (row : List Bool) (w : World) : Prop :=
  0 < row.length → ∃ b off cs t fr, A = some ⟨b, off, none⟩ ∧ w.heap[b]? = some (.cells cs t fr) ∧ Safe b w ∧ ∀ j, j < row.length → w.cell? ⟨b, off + j, none⟩ = some (.bool (row.getD j false))
theorem RowSafe.keep {Safe : Nat → World → Prop} {A : Option Addr} {row : List Bool} {w w' : World} (h : RowSafe Safe A row w) (k : KpS Safe w w') : RowSafe Safe A row w' := fun hp => by
  obtain ⟨b, off, cs, t, fr, e, hh, hs, hc⟩ := h hp
  obtain ⟨hh', hs'⟩ := k b cs t fr hh hs
  exact ⟨b, off, cs, t, fr, e, hh', hs', fun j hj => (cell_same (by rw [hh', hh])).trans (hc j hj)⟩
theorem RowSafe.of_F {Safe : Nat → World → Prop} {A : Option Addr} {row : List Bool} {w : World} {n : Nat} (h : Kd.bool.F w (fun k_ => n ≤ k_) A row.length row) (hs : ∀ g, n ≤ g → Safe g w) : RowSafe Safe A row w := fun hp => by
  obtain ⟨ad, c, rfl, _, _, _, hok⟩ := Kd.F_get h false (0 : Int) (by omega) (by omega)
  have hC := (Kd.F_now h).2.2 hp
  obtain ⟨ad', e, hc⟩ := hC
  obtain rfl := Option.some.inj e
  have hcell : ∀ j, j < row.length → w.cell? (ad.add j) = some (.bool (row.getD j false)) := fun j hj => by
    obtain ⟨c', _, hk, hcc⟩ := hc j row[j] (List.getElem?_eq_getElem hj)
    have hk' : c' = [.bool row[j]] := hk
    subst hk'
    have := hcc 0 _ rfl
    rw [List.getD_eq_getElem?_getD, List.getElem?_eq_getElem hj, Option.getD_some]
    simpa [Kd.bool, Kd.scalar] using this
  have h0 := hcell 0 hp
  have h0' : w.cell? ad = some (.bool (row.getD 0 false)) := by simpa [Addr.add] using h0
  obtain ⟨cs, t, fr, hh, hsp⟩ := cells_of h0'
  obtain ⟨b, off, sp⟩ := ad
  have hsp' : sp = none := hsp
  subst hsp'
  refine ⟨b, off, cs, t, fr, rfl, hh, hs b (hok (by decide)), fun j hj => ?_⟩
  have := hcell j hj
  cases j with
  | zero => simpa [Addr.add] using this
  | succ j => simpa [Addr.add] using this
def lastRow (L : List (List Bool)) : List Bool := L.getD (L.length - 1) []
set_option maxRecDepth 100000 in
set_option maxHeartbeats 4000000 in
theorem ends1 (n : Nat) (hn : 1 ≤ n) (l Ba Bl : Nat) (k : Nat) (A0 A1 : Option Addr) (c0 c1 : Nat) (l0 : List S50) (l1 : List S46) (L : List (List Bool)) (hL : search_layers.f k l0 l1 = some L) (row : List Bool) (hrow : lastRow L = row)
    (Safe : Nat → World → Prop) (J Jx : List Int → World → Prop) (W : World)
    (hY : ∀ pre x W, J pre W → pre.length < (row).length → YieldAt Fence.wide (n - 1) Try.prog l #[.int .i64 x] W fun e W' =>
      (e = .returned (.bool true) ∧ J (pre ++ [x]) W' ∧ KpS Safe W W') ∨ (e = .returned (.bool false) ∧ Jx (pre ++ [x]) W'))
    (hJ : AbidesFrom W.heap.size J)
    (hBa : W.cell? ⟨Ba, 0, none⟩ = some (.slice A0 l0.length c0)) (hBl : W.cell? ⟨Bl, 0, none⟩ = some (.slice A1 l1.length c1))
    (hr0 : Kd.C k50 W A0 l0.length l0) (hc0 : l0.length ≤ c0) (hr1 : Kd.C k46 W A1 l1.length l1) (hc1 : l1.length ≤ c1)
    (hsafe : ∀ w1 g, Below W.heap.size W w1 → W.heap.size ≤ g → Safe g w1) (h0 : J [] W) :
    CallsIn Fence.wide n Try.prog 77 #[.func (.yield l) #[] #[], .pointer (some ⟨Ba, 0, none⟩), .pointer (some ⟨Bl, 0, none⟩)] W fun e W' => (∃ v, e = .returned v) ∧
      ((∃ ys, ys = idxT (row) 0 ∧ J ys W') ∨ (∃ pre, (∃ q, q < (row).length ∧ (row).getD q false = true ∧ pre = idxT ((row).take (q + 1)) 0) ∧ Jx pre W')) := by
  have hu31 := Try.underlying31


  refine callsIn_of_wp Try.func77 rfl trivial ?_ rfl
  simp only [Try.ntmps77, List.size_toArray, List.length_cons, List.length_nil, Nat.reduceAdd, Nat.reduceSub, Array.replicate_succ, Array.replicate_zero, List.push_toArray, List.append_toArray, List.nil_append, List.cons_append]
  have HR0 := Aside0.mk hr0
  have HR1 := Aside0.mk hr1
  have HL := Aside0.mk hL
  have HC0 := Aside0.mk hc0
  have HC1 := Aside0.mk hc1
  have HROW := Aside0.mk hrow
  clear hr0 hr1 hL hc0 hc1 hrow
  gi_wp2_with (refine ⟨trivial, ?_⟩; gi_at_call 63; refine (callsIn_wide.2 (search_layers.calls k A0 c0 l0 A1 c1 l1 L W HR0.out HC0.out HR1.out HC1.out HL.out)).mono ?_; rintro e w1 ⟨v0, rfl, hN, hb⟩; clear hu31)
  have hJ1 : J [] w1 := hJ [] W w1 none h0 (grown_of_below hb none) (fun r e => by cases e)
  obtain ⟨A, c, rfl, hlc, hC⟩ := Kd.N_reads hN
  have HN := Aside0.mk hN
  have HB := Aside0.mk hb
  have HJ1 := Aside0.mk hJ1
  have hmax := hC.2.1
  clear hN hb hJ1 hlc hC
  by_cases hz : L.length = 0
  · have hL0 : L = [] := List.eq_nil_of_length_eq_zero hz
    subst hL0
    clear hz
    gi_wp2
    go_simp
    gi_wp2
    refine bodyPost_ret (results_none rfl _ _ _) rfl ?_
    exact ⟨⟨_, rfl⟩, .inl ⟨_, by rw [← HROW.out]; rfl, HJ1.out⟩⟩
  · have hzi : ((L.length : Int) == 0) = false := by rw [beq_eq_false_iff_ne]; omega
    have hi0 : (0 : Int) ≤ (L.length : Int) - 1 := by omega
    have hi1 : (L.length : Int) - 1 < (L.length : Int) := by omega
    obtain ⟨ad, cs, hA, hcl, hFK, hcell, _⟩ := Kd.F_get (Kd.N_F HN.out) ([] : List Bool) ((L.length : Int) - 1) hi0 hi1
    subst hA
    have hlast : L.getD ((L.length : Int) - 1).toNat [] = lastRow L := by
      unfold lastRow
      congr 1
      omega
    rw [hlast, HROW.out] at hFK
    obtain ⟨A2, c2, rfl, hl2, hF2⟩ := Kd.FK_slice_open hFK
    have hcell0 := hcell 0 _ rfl
    simp only [show (Kd.slice 4 Kd.bool).sz = 1 from rfl, Nat.mul_one, Nat.add_zero] at hcell0
    rw [show ((L.length : Int) - 1).toNat = L.length - 1 by omega] at hcell0
    have HF2 := Aside0.mk hF2
    have hrm := (Kd.F_now HF2.out).2.1
    clear hz hcell hFK hF2 hlast hl2 hcl
    gi_wp2
    go_simp
    gi_wp2
    have HS := Aside0.mk (RowSafe.of_F (Safe := Safe) HF2.out (fun g hg => hsafe w1 g HB.out hg))
    clear HF2 HN hcell0 hsafe hJ h0
    gi_loopw [20] (fun i wr => ∃ q : Nat, q ≤ row.length ∧ i = .int .i64 q ∧ Aside0 (J (idxT (row.take q) 0) wr) ∧ Aside0 (RowSafe Safe A2 row wr)) (fun i _ => row.length - (intOf i).toNat)
    case atStart => exact ⟨0, Nat.zero_le _, rfl, HJ1, HS⟩
    case round =>
      obtain ⟨q, hq, rfl, HJq, HSq⟩ := hrel
      clear HJ1 HS
      by_cases hlt : q < row.length
      · obtain ⟨b, off, cs, t, fr, hA2, _, _, hcc⟩ := HSq.out (by omega)
        subst hA2
        have hcq := hcc q hlt
        clear hcc
        have hsn := idxT_snoc (row.getD q false) (row.take q) 0
        have hte : row.take (q + 1) = row.take q ++ [row.getD q false] := by
          rw [List.take_succ_eq_append_getElem hlt, List.getD_eq_getElem?_getD, List.getElem?_eq_getElem hlt, Option.getD_some]
        rw [← hte, List.length_take, Nat.min_eq_left hq, Nat.zero_add] at hsn
        have hpl : (idxT (row.take q) 0).length < row.length := by
          have h1 := idxT_len (row.take q) 0
          have h2 : (row.take q).length ≤ q := by rw [List.length_take]; omega
          omega
        obtain ⟨bv, hbv⟩ : ∃ bv, bv = row.getD q false := ⟨_, rfl⟩
        rw [← hbv] at hcq hsn
        have HSN := Aside0.mk hsn
        have HBV := Aside0.mk hbv
        clear hsn hte hbv
        cases bv
        · gi_wp2
          refine ⟨fun f hf => (by cases hf), ?_⟩
          gi_wp2
          go_roundw
          case rel => exact ⟨q + 1, by omega, by simp, ⟨by rw [HSN.out]; simpa using HJq.out⟩, HSq⟩
          case measure => simp [intOf]; omega
        · obtain ⟨fn, tmps, assign, body, hy, hR⟩ := hY _ (q : Int) wr HJq.out hpl
          gi_wp2
          refine hR.mono ?_
          rintro e W3 (⟨rfl, hJ3, hk3⟩ | ⟨rfl, hJx3⟩)
          · have HJ3 := Aside0.mk hJ3
            have HK3 := Aside0.mk hk3
            clear hJ3 hk3
            gi_wp2
            go_roundw
            case rel => exact ⟨q + 1, by omega, by simp, ⟨by rw [HSN.out]; exact HJ3.out⟩, ⟨HSq.out.keep HK3.out⟩⟩
            case measure => simp [intOf]; omega
          · have HJ3 := Aside0.mk hJx3
            clear hJx3
            gi_wp2
            refine bodyPost_ret (results_none rfl _ _ _) rfl ?_
            exact ⟨⟨_, rfl⟩, .inr ⟨_, ⟨q, hlt, HBV.out.symm, HSN.out.symm⟩, HJ3.out⟩⟩
      · obtain rfl : q = row.length := by omega
        gi_wp2
        go_end0
        refine ⟨⟨_, rfl⟩, .inl ⟨_, rfl, ?_⟩⟩
        have := HJq.out
        rw [List.take_length] at this
        exact this
end Go.Proofs.Ytgdjiphljadlcaa.K
