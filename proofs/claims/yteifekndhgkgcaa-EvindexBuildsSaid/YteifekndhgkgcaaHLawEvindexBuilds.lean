/- EvindexBuilds: for every input the law returns true, and each argument reads afterwards as it read before; no condition. -/
import Derived.Test.YteifekndhgkgcaaRows
import Derived.Test.YteifekndhgkgcaaH7
import Derived.Test.YteifekndhgkgcaaHOp
import Derived.Test.YteifekndhgkgcaaHLBuilds
import Derived.WalkKit
import Derived.ProofKit
import Derived.OpenShut
import Derived.ShutString
import Derived.ChangeOld
import Derived.Below
import Derived.SizedLaws
namespace Go.Proofs.Yteifekndhgkgcaa.evindexBuilds
open Go.ChangeShapes Go.WideShapes Go.ChangeAt Go.RowKit Go.Proofs.Yteifekndhgkgcaa.H Go.Proofs.YteifekndhgkgcaaW.PrintWords Go.Proofs.YteifekndhgkgcaaW.PrintLast
theorem own : ownKnob Try.prog.godebug = none := by kernel_rfl
theorem laidOut : laidOutB Try.prog = true := by kernel_rfl
set_option maxRecDepth 100000 in
theorem lifted (os : Os) (started : os.Started) (H : Type) (enc : TypeId × Value → H) :
    ReturnsInHanded {} Try.checked os 3 .any (Rows.evindexBuildsSpec.pre6 enc Try.prog Try.f3 Rows.evindexBuildsRow.domain false) (Rows.evindexBuildsSpec.post enc Try.prog Try.f3 false true false false) := by
  refine returnsInHanded_of_change_sized (C := Try.checked) own started (by kernel_rfl) Try.func3
    (ChangeSpec.witness6 (enc := enc) (C := Try.checked) false ⟨#[], #[.slice none 0 0], []⟩ 8 (by kernel_rfl) (by kernel_rfl) (by kernel_rfl) (by kernel_rfl)) ?_
  intro W base args ds gs before hval0 hW _ hsz0 _
  have hsz : (DataW.weightsEach Try.prog (Try.f3.params.toList ++ Rows.evindexBuildsSpec.plain.varTypes Try.prog) (ds ++ gs)).all (· ≤ reachBytes) = true := hsz0
  have hval : ∀ (j : Nat) t v, Try.f3.params[j]? = some t → args[j]? = some v → Value.okWide Try.prog W .any base t v := hval0
  have hW' := hW
  obtain ⟨p, q, hA0, hV, rfl, _, _⟩ := hW
  have hA : DataW.TrodAll enc Try.prog W 0 (fun _ => true) true Try.f3.params.toList args.toList ds p := hA0
  rw [Try.params3] at hA hval hsz
  obtain ⟨v0, vs0, d0, ds0, p0, q0, hargs, rfl, rfl, h0, r0⟩ := trodAll_cons hA
  obtain ⟨rfl, rfl, rfl⟩ := trodAll_nil r0
  obtain rfl : args = #[v0] := by cases args; simp_all
  obtain ⟨rfl, rfl⟩ := trodVars_none hV
  have k0 := h0
  have s0 := Opn.small_of hsz (j := 0) (t := 22) (d := d0) rfl rfl
  have lt0 : ∀ x ∈ p0, x.block < W.heap.size := by obtain ⟨m, hm⟩ := k0; exact DataW.trod_lt m _ _ _ hm
  obtain ⟨A0, c0, x0, rfl, hr0, hc0, ok0⟩ := Opn.open_row Try.underlying22 (show Opn.Opens Try.prog 22 (Kd.slice 47 k47) (fun X0 : List (S47) => (X0.length ≤ 9223372036854775807 ∧ X0.length * 80 ≤ 140737488351232 ∧ ∀ z2_ ∈ X0, Ok47 z2_)) from (Opn.opens_mono (ok' := fun z_ : List (S47) => (z_.length ≤ 9223372036854775807 ∧ z_.length * 80 ≤ 140737488351232 ∧ ∀ z1_ ∈ z_, Ok47 z1_)) (Opn.opens_slice Try.underlying22 (by kernel_rfl) op47) (fun _ h => ⟨h.1, bytes47 ▸ h.2.1, h.2.2⟩))) (hval 0 22 v0 rfl rfl) h0 s0
  obtain ⟨k, h⟩ := law_builds x0 ok0.2.2
  clear hA0 hval0 hsz0 hsz
  refine (signalbenchlaw46_EvindexBuilds.calls (k := k) (l0 := x0) (r := true) (w := W) (hr0 := hr0) (hc0 := hc0) (h := h)).mono fun e W' ⟨he, bel0⟩ => ?_
  have bel : Below W.heap.size W W' := bel0
  subst he
  exact ⟨_, rfl, _, _, _, [], _, [], hW', trodAll_mk1 (shut_bool Try.underlying4 _), (trodAll_cons_mk (Below.trod laidOut (by kernel_rfl) (of_decide_eq_true (by kernel_rfl)) k0 bel lt0) trodAll_mk0), rfl, bel.frame _, fun h => by cases h⟩
theorem over : Rows.evindexBuildsRow.holds Try.pinned (OpenSpec.ofChange Rows.evindexBuildsSpec) :=
  OpenClaim.holds_of_wide 3 Try.f3 rfl rfl rfl rfl rfl rfl rfl ⟨rfl, rfl, rfl, rfl, rfl⟩ rfl rfl rfl rfl rfl (by kernel_rfl) Try.func3 (by kernel_rfl)
    (of_decide_eq_true (by kernel_rfl)) (by unfold Func.isWrapper; first | (rw [if_pos (by decide +kernel)]; kernel_rfl) | (rw [if_neg (by decide +kernel)]; exact ⟨rfl, rfl⟩))
    (fun os started H enc _ => lifted os started H enc)
theorem proved : Rows.EvindexBuildsSaid := over
#print axioms proved
end Go.Proofs.Yteifekndhgkgcaa.evindexBuilds
namespace Go.Proofs.Yteifekndhgkgcaa
/-- The row, under a short name, for the claim. -/
theorem evindexBuilds_holds : Rows.EvindexBuildsSaid := evindexBuilds.proved
end Go.Proofs.Yteifekndhgkgcaa
