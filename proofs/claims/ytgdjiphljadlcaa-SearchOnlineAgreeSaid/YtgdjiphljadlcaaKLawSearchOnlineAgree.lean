/- SearchOnlineAgree: for every input the law returns true, and each argument reads afterwards as it read before; no condition. -/
import Derived.Test.YtgdjiphljadlcaaRows
import Derived.Test.YtgdjiphljadlcaaK40
import Derived.Test.YtgdjiphljadlcaaKOp
import Derived.Test.YtgdjiphljadlcaaKLo
import Derived.WalkKit
import Derived.ProofKit
import Derived.OpenShut
import Derived.ShutString
import Derived.ChangeOld
import Derived.Below
import Derived.SizedLaws
namespace Go.Proofs.Ytgdjiphljadlcaa.searchOnlineAgree
open Go.ChangeShapes Go.WideShapes Go.ChangeAt Go.RowKit Go.Proofs.Ytgdjiphljadlcaa.K Go.Proofs.YtgdjiphljadlcaaW.PrintWords Go.Proofs.YtgdjiphljadlcaaW.PrintLast
theorem own : ownKnob Try.prog.godebug = none := by kernel_rfl
theorem laidOut : laidOutB Try.prog = true := by kernel_rfl
set_option maxRecDepth 100000 in
theorem lifted (os : Os) (started : os.Started) (H : Type) (enc : TypeId × Value → H) :
    ReturnsInHanded {} Try.checked os 15 .any (Rows.searchOnlineAgreeSpec.pre6 enc Try.prog Try.f15 Rows.searchOnlineAgreeRow.domain false) (Rows.searchOnlineAgreeSpec.post enc Try.prog Try.f15 false true false false) := by
  refine returnsInHanded_of_change_sized (C := Try.checked) own started (by kernel_rfl) Try.func15
    (ChangeSpec.witness6 (enc := enc) (C := Try.checked) false ⟨#[], #[.agg #[.slice none 0 0], .slice none 0 0], []⟩ 8 (by kernel_rfl) (by kernel_rfl) (by kernel_rfl) (by kernel_rfl)) ?_
  intro W base args ds gs before hval0 hW _ hsz0 _
  have hsz : (DataW.weightsEach Try.prog (Try.f15.params.toList ++ Rows.searchOnlineAgreeSpec.plain.varTypes Try.prog) (ds ++ gs)).all (· ≤ reachBytes) = true := hsz0
  have hval : ∀ (j : Nat) t v, Try.f15.params[j]? = some t → args[j]? = some v → Value.okWide Try.prog W .any base t v := hval0
  have hW' := hW
  obtain ⟨p, q, hA0, hV, rfl, _, _⟩ := hW
  have hA : DataW.TrodAll enc Try.prog W 0 (fun _ => true) true Try.f15.params.toList args.toList ds p := hA0
  rw [Try.params15] at hA hval hsz
  obtain ⟨v0, vs0, d0, ds0, p0, q0, hargs, rfl, rfl, h0, r0⟩ := trodAll_cons hA
  obtain ⟨v1, vs1, d1, ds1, p1, q1, rfl, rfl, rfl, h1, r1⟩ := trodAll_cons r0
  obtain ⟨rfl, rfl, rfl⟩ := trodAll_nil r1
  obtain rfl : args = #[v0, v1] := by cases args; simp_all
  obtain ⟨rfl, rfl⟩ := trodVars_none hV
  have k0 := h0
  have s0 := Opn.small_of hsz (j := 0) (t := 31) (d := d0) rfl rfl
  have lt0 : ∀ x ∈ p0, x.block < W.heap.size := by obtain ⟨m, hm⟩ := k0; exact DataW.trod_lt m _ _ _ hm
  obtain ⟨cs0, x0, rfl, hk0, ok0⟩ := Opn.open_struct Try.underlying31 op31 (hval 0 31 v0 rfl rfl) h0 s0
  obtain ⟨A0_0, c0_0, rfl, hc0_0, hr0_0⟩ := k31_open hk0
  have k1 := h1
  have s1 := Opn.small_of hsz (j := 1) (t := 51) (d := d1) rfl rfl
  have lt1 : ∀ x ∈ p1, x.block < W.heap.size := by obtain ⟨m, hm⟩ := k1; exact DataW.trod_lt m _ _ _ hm
  obtain ⟨A1, c1, x1, rfl, hr1, hc1, ok1⟩ := Opn.open_row Try.underlying51 (show Opn.Opens Try.prog 51 (Kd.slice 46 k46) (fun X1 : List (S46) => (X1.length ≤ 9223372036854775807 ∧ X1.length * 80 ≤ 140737488351232 ∧ ∀ z20_ ∈ X1, Ok46 z20_)) from (Opn.opens_mono (ok' := fun z_ : List (S46) => (z_.length ≤ 9223372036854775807 ∧ z_.length * 80 ≤ 140737488351232 ∧ ∀ z19_ ∈ z_, Ok46 z19_)) (Opn.opens_slice Try.underlying51 (by kernel_rfl) op46) (fun _ h => ⟨h.1, bytes46 ▸ h.2.1, h.2.2⟩))) (hval 1 51 v1 rfl rfl) h1 s1
  obtain ⟨k, h⟩ := online_pure x0.f0 x1 
  clear hA0 hval0 hsz0 hsz
  refine (signalbenchlaw47_SearchOnlineAgree.calls (k := k) (l0_0 := x0.f0) (l1 := x1) (r := true) (w := W) (hr0_0 := hr0_0) (hc0_0 := hc0_0) (hr1 := hr1) (hc1 := hc1) (h := h)).mono fun e W' ⟨he, bel0⟩ => ?_
  have bel : Below W.heap.size W W' := bel0
  subst he
  exact ⟨_, rfl, _, _, _, [], _, [], hW', trodAll_mk1 (shut_bool Try.underlying4 _), (trodAll_cons_mk (Below.trod laidOut (by kernel_rfl) (of_decide_eq_true (by kernel_rfl)) k0 bel lt0) (trodAll_cons_mk (Below.trod laidOut (by kernel_rfl) (of_decide_eq_true (by kernel_rfl)) k1 bel lt1) trodAll_mk0)), rfl, bel.frame _, fun h => by cases h⟩
theorem over : Rows.searchOnlineAgreeRow.holds Try.pinned (OpenSpec.ofChange Rows.searchOnlineAgreeSpec) :=
  OpenClaim.holds_of_wide 15 Try.f15 rfl rfl rfl rfl rfl rfl rfl ⟨rfl, rfl, rfl, rfl, rfl⟩ rfl rfl rfl rfl rfl (by kernel_rfl) Try.func15 (by kernel_rfl)
    (of_decide_eq_true (by kernel_rfl)) (by unfold Func.isWrapper; first | (rw [if_pos (by decide +kernel)]; kernel_rfl) | (rw [if_neg (by decide +kernel)]; exact ⟨rfl, rfl⟩))
    (fun os started H enc _ => lifted os started H enc)
theorem proved : Rows.SearchOnlineAgreeSaid := over
#print axioms proved
end Go.Proofs.Ytgdjiphljadlcaa.searchOnlineAgree
namespace Go.Proofs.Ytgdjiphljadlcaa
/-- The row, under a short name, for the claim. -/
theorem searchOnlineAgree_holds : Rows.SearchOnlineAgreeSaid := searchOnlineAgree.proved
end Go.Proofs.Ytgdjiphljadlcaa
