/- FeedSplits: for every input the law returns true, and each argument reads afterwards as it read before; no condition. -/
import Derived.Test.YtioedeglgljblaaRows
import Derived.Test.YtioedeglgljblaaH23
import Derived.Test.YtioedeglgljblaaHOp
import Derived.Test.YtioedeglgljblaaHLwSplits
import Derived.WalkKit
import Derived.ProofKit
import Derived.OpenShut
import Derived.ShutString
import Derived.ChangeOld
import Derived.Below
import Derived.SizedLaws
namespace Go.Proofs.Ytioedeglgljblaa.feedSplits
open Go.ChangeShapes Go.WideShapes Go.ChangeAt Go.RowKit Go.Proofs.Ytioedeglgljblaa.H Go.Proofs.YtioedeglgljblaaW.PrintWords Go.Proofs.YtioedeglgljblaaW.PrintLast
theorem own : ownKnob Try.prog.godebug = none := by kernel_rfl
theorem laidOut : laidOutB Try.prog = true := by kernel_rfl
set_option maxRecDepth 100000 in
theorem lifted (os : Os) (started : os.Started) (H : Type) (enc : TypeId × Value → H) :
    ReturnsInHanded {} Try.checked os 5 .any (Rows.feedSplitsSpec.pre6 enc Try.prog Try.f5 Rows.feedSplitsRow.domain false) (Rows.feedSplitsSpec.post enc Try.prog Try.f5 false true false false) := by
  refine returnsInHanded_of_change_sized (C := Try.checked) own started (by kernel_rfl) Try.func5
    (ChangeSpec.witness6 (enc := enc) (C := Try.checked) false ⟨#[], #[.slice none 0 0, .slice none 0 0], []⟩ 8 (by kernel_rfl) (by kernel_rfl) (by kernel_rfl) (by kernel_rfl)) ?_
  intro W base args ds gs before hval0 hW _ hsz0 _
  have hsz : (DataW.weightsEach Try.prog (Try.f5.params.toList ++ Rows.feedSplitsSpec.plain.varTypes Try.prog) (ds ++ gs)).all (· ≤ reachBytes) = true := hsz0
  have hval : ∀ (j : Nat) t v, Try.f5.params[j]? = some t → args[j]? = some v → Value.okWide Try.prog W .any base t v := hval0
  have hW' := hW
  obtain ⟨p, q, hA0, hV, rfl, _, _⟩ := hW
  have hA : DataW.TrodAll enc Try.prog W 0 (fun _ => true) true Try.f5.params.toList args.toList ds p := hA0
  rw [Try.params5] at hA hval hsz
  obtain ⟨v0, vs0, d0, ds0, p0, q0, hargs, rfl, rfl, h0, r0⟩ := trodAll_cons hA
  obtain ⟨v1, vs1, d1, ds1, p1, q1, rfl, rfl, rfl, h1, r1⟩ := trodAll_cons r0
  obtain ⟨rfl, rfl, rfl⟩ := trodAll_nil r1
  obtain rfl : args = #[v0, v1] := by cases args; simp_all
  obtain ⟨rfl, rfl⟩ := trodVars_none hV
  have k0 := h0
  have s0 := Opn.small_of hsz (j := 0) (t := 26) (d := d0) rfl rfl
  have lt0 : ∀ x ∈ p0, x.block < W.heap.size := by obtain ⟨m, hm⟩ := k0; exact DataW.trod_lt m _ _ _ hm
  obtain ⟨A0, c0, x0, rfl, hr0, hc0, ok0⟩ := Opn.open_row Try.underlying26 (show Opn.Opens Try.prog 26 (Kd.slice 48 k48) (fun X0 : List (S48) => (X0.length ≤ 9223372036854775807 ∧ X0.length * 64 ≤ 140737488351232 ∧ ∀ z11_ ∈ X0, Ok48 z11_)) from (Opn.opens_mono (ok' := fun z_ : List (S48) => (z_.length ≤ 9223372036854775807 ∧ z_.length * 64 ≤ 140737488351232 ∧ ∀ z9_ ∈ z_, Ok48 z9_)) (Opn.opens_slice Try.underlying26 (by kernel_rfl) op48) (fun _ h => ⟨h.1, bytes48 ▸ h.2.1, h.2.2⟩))) (hval 0 26 v0 rfl rfl) h0 s0
  have k1 := h1
  have s1 := Opn.small_of hsz (j := 1) (t := 35) (d := d1) rfl rfl
  have lt1 : ∀ x ∈ p1, x.block < W.heap.size := by obtain ⟨m, hm⟩ := k1; exact DataW.trod_lt m _ _ _ hm
  obtain ⟨A1, c1, x1, rfl, hr1, hc1, ok1⟩ := Opn.open_row Try.underlying35 (show Opn.Opens Try.prog 35 (Kd.slice 3 (Kd.int .i64)) (fun X1 : List Int => (X1.length ≤ 9223372036854775807 ∧ X1.length * 8 ≤ 140737488351232 ∧ ∀ z12_ ∈ X1, (Lit.int .i64 z12_).wf = true)) from (Opn.opens_mono (ok' := fun z_ : List Int => (z_.length ≤ 9223372036854775807 ∧ z_.length * 8 ≤ 140737488351232 ∧ ∀ z10_ ∈ z_, (Lit.int .i64 z10_).wf = true)) (Opn.opens_slice Try.underlying35 (by kernel_rfl) (Opn.opens_int Try.underlying3)) (fun _ h => ⟨h.1, bytes3 ▸ h.2.1, h.2.2⟩))) (hval 1 35 v1 rfl rfl) h1 s1
  obtain ⟨k, h⟩ := splits_pure x0 x1 
  clear hA0 hval0 hsz0 hsz
  refine (signalbenchlaw14_FeedSplits.calls (k := k) (l0 := x0) (l1 := x1) (r := true) (w := W) (hr0 := hr0) (hc0 := hc0) (hr1 := hr1) (hc1 := hc1) (h := h)).mono fun e W' ⟨he, bel0⟩ => ?_
  have bel : Below W.heap.size W W' := bel0
  subst he
  exact ⟨_, rfl, _, _, _, [], _, [], hW', trodAll_mk1 (shut_bool Try.underlying4 _), (trodAll_cons_mk (Below.trod laidOut (by kernel_rfl) (of_decide_eq_true (by kernel_rfl)) k0 bel lt0) (trodAll_cons_mk (Below.trod laidOut (by kernel_rfl) (of_decide_eq_true (by kernel_rfl)) k1 bel lt1) trodAll_mk0)), rfl, bel.frame _, fun h => by cases h⟩
theorem over : Rows.feedSplitsRow.holds Try.pinned (OpenSpec.ofChange Rows.feedSplitsSpec) :=
  OpenClaim.holds_of_wide 5 Try.f5 rfl rfl rfl rfl rfl rfl rfl ⟨rfl, rfl, rfl, rfl, rfl⟩ rfl rfl rfl rfl rfl (by kernel_rfl) Try.func5 (by kernel_rfl)
    (of_decide_eq_true (by kernel_rfl)) (by unfold Func.isWrapper; first | (rw [if_pos (by decide +kernel)]; kernel_rfl) | (rw [if_neg (by decide +kernel)]; exact ⟨rfl, rfl⟩))
    (fun os started H enc _ => lifted os started H enc)
theorem proved : Rows.FeedSplitsSaid := over
#print axioms proved
end Go.Proofs.Ytioedeglgljblaa.feedSplits
namespace Go.Proofs.Ytioedeglgljblaa
/-- The row, under a short name, for the claim. -/
theorem feedSplits_holds : Rows.FeedSplitsSaid := feedSplits.proved
end Go.Proofs.Ytioedeglgljblaa
