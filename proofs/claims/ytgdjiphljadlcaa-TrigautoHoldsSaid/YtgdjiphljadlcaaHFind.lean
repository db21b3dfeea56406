/- stackdef.Find: the number of the first node of a name, or -1, for any stack; no condition. -/
import Derived.Test.YtgdjiphljadlcaaH0
namespace Go.Proofs.Ytgdjiphljadlcaa.H
open Go.RowKit Go.Proofs.YtgdjiphljadlcaaW.PrintWords Go.Proofs.YtgdjiphljadlcaaW.PrintLast Go.Proofs.YtgdjiphljadlcaaW.PrintMore
theorem ret_int {k : IntKind} {a b : Int} (h : a = b) : Ending.returned (.int k a) = .returned (.int k b) := by rw [h]
/-- the first node of a name, from i on -/
def findN (a : ByteArray) : List S100 → Nat → Int
  | [], _ => -1
  | x :: l, i => if x.f0.toList = a.toList then i else findN a l (i + 1)
def stackdef_Find.f (_ : List S139) (l : List S100) (a : ByteArray) : Option Int := some (findN a l 0)
set_option maxHeartbeats 400000 in
set_option maxRecDepth 100000 in
theorem fn76 (s0 s1 a : ByteArray) (A2 A3 : Option Addr) (n2 c2 n3 c3 : Nat) (p : Addr) (w : World) (hp : w.cell? p = some (.string a)) :
    Calls Try.prog 76 #[.agg #[.string s0, .string s1, (.slice A2 n2 c2), (.slice A3 n3 c3)], .pointer (some p)] w fun e w' => e = .returned (.bool (s0.toList == a.toList)) ∧ Below w.heap.size w w' := by
  have hu := Try.underlying100
  have hp2 : (w.alloc (.cells #[.string s0, .string s1, .slice A2 n2 c2, .slice A3 n3 c3] 100)).cell? p = some (.string a) := pw_cell_below (below_alloc (Below.refl _ _) _) hp
  clear hp
  go_enter Try.func76, Try.ntmps76
  go_wp2
  go_ret
  exact ⟨rfl, below_alloc (Below.refl _ _) _⟩
set_option maxHeartbeats 400000 in
set_option maxRecDepth 100000 in
theorem fn75 (A : Option Addr) (c : Nat) (l : List S100) (a : ByteArray) (p : Addr) (w : World) (hr : Kd.C k100 w A l.length l) (hp : w.cell? p = some (.string a)) :
    Calls Try.prog 75 #[.slice A l.length c, .func (Fn.func 76) #[] #[.pointer (some p)]] w fun e w' => e = .returned (.int .i64 (findN a l 0)) ∧ Below w.heap.size w w' := by
  have HR := Aside0.mk hr
  have HP := Aside0.mk hp
  have HL := Aside0.mk hr.2.1
  clear hr hp
  have hu := Try.underlying100
  go_enter Try.func75, Try.ntmps75
  go_wp2
  go_loopw [8] (fun i wr => ∃ n : Nat, n ≤ l.length ∧ i = .int .i64 n ∧ Aside0 (findN a l 0 = findN a (l.drop n) n) ∧ Aside0 (Below w.heap.size w wr)) (fun i _ => l.length - (intOf i).toNat)
  case atStart => exact ⟨0, by omega, rfl, ⟨by rw [List.drop_zero]⟩, ⟨Below.refl _ _⟩⟩
  case round =>
    obtain ⟨n, hn, rfl, HF, HB⟩ := hrel
    have hl := HL.out
    by_cases hlt : n < l.length
    · obtain ⟨ad, A2, c2, A3, c3, e, hx0, hx1, hx2, hx3, _, _, _, _⟩ := at_T100 (Kd.C_below HR.out HB.out) (n : Int) (by omega) (by omega)
      have hp := pw_cell_below HB.out HP.out
      rw [Int.toNat_natCast] at hx0 hx1 hx2 hx3
      subst e
      have hd : l.drop n = rd_T100 l (n : Int) :: l.drop (n + 1) := by
        rw [List.drop_eq_getElem_cons hlt]
        congr 1
        simp only [rd_T100, Int.toNat_natCast]
        rw [List.getD_eq_getElem?_getD, List.getElem?_eq_getElem hlt, Option.getD_some]
      have HD := Aside0.mk hd
      clear hd hl
      go_wp2_with fail
      refine (fn76 _ _ a _ _ _ _ _ _ p wr hp).mono ?_
      rintro e w1 ⟨rfl, hb⟩
      have HB1 := Aside0.mk (below_then HB.out HB.out.size hb)
      clear hb HB hp hx0 hx1 hx2 hx3
      have hl := HL.out
      by_cases hs : (rd_T100 l (n : Int)).f0.toList = a.toList
      · have hsb : ((rd_T100 l (n : Int)).f0.toList == a.toList) = true := beq_iff_eq.2 hs
        have HS := Aside0.mk hs
        clear hs
        go_wp2
        go_ret
        have e0 : findN a l 0 = (n : Int) := by rw [HF.out, HD.out, findN, if_pos HS.out]
        exact ⟨ret_int e0.symm, HB1.out⟩
      · have hsb : ((rd_T100 l (n : Int)).f0.toList == a.toList) = false := beq_eq_false_iff_ne.2 hs
        have HS := Aside0.mk hs
        clear hs
        go_wp2
        go_roundw
        case rel => exact ⟨n + 1, by omega, by go_num, ⟨by rw [HF.out, HD.out, findN, if_neg HS.out]⟩, HB1⟩
        case measure => simp [intOf]; omega
    · obtain rfl : n = l.length := by omega
      go_wp2
      go_ret
      have e0 : findN a l 0 = -1 := by rw [HF.out, List.drop_length, findN]
      exact ⟨ret_int e0.symm, HB.out⟩
set_option maxHeartbeats 400000 in
set_option maxRecDepth 100000 in
theorem stackdef_Find.calls (A0_0 : Option Addr) (c0_0 : Nat) (l0_0 : List S139) (A0_1 : Option Addr) (c0_1 : Nat) (l0_1 : List S100) (a1 : ByteArray) (r : Int) (w : World) (_hr0_0 : Kd.C k139 w A0_0 l0_0.length l0_0) (_hc0_0 : l0_0.length ≤ c0_0) (hr0_1 : Kd.C k100 w A0_1 l0_1.length l0_1) (_hc0_1 : l0_1.length ≤ c0_1) (h : stackdef_Find.f l0_0 l0_1 a1 = some r) :
    Calls Try.prog 54 #[.agg #[.slice A0_0 l0_0.length c0_0, .slice A0_1 l0_1.length c0_1], .string a1] w fun e w' => e = .returned (.int .i64 r) ∧ Below w.heap.size w w' := by
  have hfr := Option.some.inj h
  subst hfr
  have HR := Aside0.mk hr0_1
  clear h hr0_1
  have hu := Try.underlying28
  go_enter Try.func54, Try.ntmps54
  go_wp2_with fail
  have hcell : ((w.alloc (.cells #[.slice A0_0 l0_0.length c0_0, .slice A0_1 l0_1.length c0_1] 28)).alloc (.cells #[.string a1] 9)).cell? ⟨w.heap.size + 1, 0, none⟩ = some (.string a1) := by
    simp
  refine (fn75 _ _ l0_1 a1 _ _ (Kd.C_alloc (Kd.C_alloc HR.out _) _) hcell).mono ?_
  rintro e w1 ⟨rfl, hb⟩
  have HB1 := Aside0.mk (below_then (below_alloc (below_alloc (Below.refl w.heap.size w) _) _) (by simp; omega) hb)
  clear hb hcell
  go_wp2
  go_ret
  exact ⟨rfl, HB1.out⟩
end Go.Proofs.Ytgdjiphljadlcaa.H
