/- EvindexCandidates: for every input the law returns true, and each argument reads afterwards as it read before; no condition. -/
import Derived.Test.YteifekndhgkgcaaRows
import Derived.Test.YteifekndhgkgcaaH19
import Derived.Test.YteifekndhgkgcaaHOp
import Derived.Test.YteifekndhgkgcaaHLCandidates
import Derived.WalkKit
import Derived.ProofKit
import Derived.OpenShut
import Derived.ShutString
import Derived.ChangeOld
import Derived.Below
import Derived.SizedLaws
namespace Go.Proofs.Yteifekndhgkgcaa.evindexCandidates
open Go.ChangeShapes Go.WideShapes Go.ChangeAt Go.RowKit Go.Proofs.Yteifekndhgkgcaa.H Go.Proofs.YteifekndhgkgcaaW.PrintWords Go.Proofs.YteifekndhgkgcaaW.PrintLast
theorem own : ownKnob Try.prog.godebug = none := by kernel_rfl
theorem laidOut : laidOutB Try.prog = true := by kernel_rfl
set_option maxRecDepth 100000 in
theorem lifted (os : Os) (started : os.Started) (H : Type) (enc : TypeId × Value → H) :
    ReturnsInHanded {} Try.checked os 7 .any (Rows.evindexCandidatesSpec.pre6 enc Try.prog Try.f7 Rows.evindexCandidatesRow.domain false) (Rows.evindexCandidatesSpec.post enc Try.prog Try.f7 false true false false) := by
  refine returnsInHanded_of_change_sized (C := Try.checked) own started (by kernel_rfl) Try.func7
    (ChangeSpec.witness6 (enc := enc) (C := Try.checked) false ⟨#[], #[.slice none 0 0, .agg #[.int .i64 0, .int .i64 0, .int .i64 0, .int .i64 0, .int .i64 0]], []⟩ 8 (by kernel_rfl) (by kernel_rfl) (by kernel_rfl) (by kernel_rfl)) ?_
  intro W base args ds gs before hval0 hW _ hsz0 _
  have hsz : (DataW.weightsEach Try.prog (Try.f7.params.toList ++ Rows.evindexCandidatesSpec.plain.varTypes Try.prog) (ds ++ gs)).all (· ≤ reachBytes) = true := hsz0
  have hval : ∀ (j : Nat) t v, Try.f7.params[j]? = some t → args[j]? = some v → Value.okWide Try.prog W .any base t v := hval0
  have hW' := hW
  obtain ⟨p, q, hA0, hV, rfl, _, _⟩ := hW
  have hA : DataW.TrodAll enc Try.prog W 0 (fun _ => true) true Try.f7.params.toList args.toList ds p := hA0
  rw [Try.params7] at hA hval hsz
  obtain ⟨v0, vs0, d0, ds0, p0, q0, hargs, rfl, rfl, h0, r0⟩ := trodAll_cons hA
  obtain ⟨v1, vs1, d1, ds1, p1, q1, rfl, rfl, rfl, h1, r1⟩ := trodAll_cons r0
  obtain ⟨rfl, rfl, rfl⟩ := trodAll_nil r1
  obtain rfl : args = #[v0, v1] := by cases args; simp_all
  obtain ⟨rfl, rfl⟩ := trodVars_none hV
  have k0 := h0
  have s0 := Opn.small_of hsz (j := 0) (t := 22) (d := d0) rfl rfl
  have lt0 : ∀ x ∈ p0, x.block < W.heap.size := by obtain ⟨m, hm⟩ := k0; exact DataW.trod_lt m _ _ _ hm
  obtain ⟨A0, c0, x0, rfl, hr0, hc0, ok0⟩ := Opn.open_row Try.underlying22 (show Opn.Opens Try.prog 22 (Kd.slice 47 k47) (fun X0 : List (S47) => (X0.length ≤ 9223372036854775807 ∧ X0.length * 80 ≤ 140737488351232 ∧ ∀ z10_ ∈ X0, Ok47 z10_)) from (Opn.opens_mono (ok' := fun z_ : List (S47) => (z_.length ≤ 9223372036854775807 ∧ z_.length * 80 ≤ 140737488351232 ∧ ∀ z9_ ∈ z_, Ok47 z9_)) (Opn.opens_slice Try.underlying22 (by kernel_rfl) op47) (fun _ h => ⟨h.1, bytes47 ▸ h.2.1, h.2.2⟩))) (hval 0 22 v0 rfl rfl) h0 s0
  have k1 := h1
  have s1 := Opn.small_of hsz (j := 1) (t := 34) (d := d1) rfl rfl
  have lt1 : ∀ x ∈ p1, x.block < W.heap.size := by obtain ⟨m, hm⟩ := k1; exact DataW.trod_lt m _ _ _ hm
  obtain ⟨cs1, x1, rfl, hk1, ok1⟩ := Opn.open_struct Try.underlying34 op34 (hval 1 34 v1 rfl rfl) h1 s1
  obtain rfl := k34_open hk1
  obtain ⟨k, h⟩ := law_candidates x0 x1.f0 x1.f1 x1.f2 x1.f3 x1.f4 ok0.2.2
  clear hA0 hval0 hsz0 hsz
  refine (signalbenchlaw46_EvindexCandidates.calls (k := k) (l0 := x0) (a1_0 := x1.f0) (a1_1 := x1.f1) (a1_2 := x1.f2) (a1_3 := x1.f3) (a1_4 := x1.f4) (r := true) (w := W) (hr0 := hr0) (hc0 := hc0) (h := h)).mono fun e W' ⟨he, bel0⟩ => ?_
  have bel : Below W.heap.size W W' := bel0
  subst he
  exact ⟨_, rfl, _, _, _, [], _, [], hW', trodAll_mk1 (shut_bool Try.underlying4 _), (trodAll_cons_mk (Below.trod laidOut (by kernel_rfl) (of_decide_eq_true (by kernel_rfl)) k0 bel lt0) (trodAll_cons_mk (Below.trod laidOut (by kernel_rfl) (of_decide_eq_true (by kernel_rfl)) k1 bel lt1) trodAll_mk0)), rfl, bel.frame _, fun h => by cases h⟩
theorem over : Rows.evindexCandidatesRow.holds Try.pinned (OpenSpec.ofChange Rows.evindexCandidatesSpec) :=
  OpenClaim.holds_of_wide 7 Try.f7 rfl rfl rfl rfl rfl rfl rfl ⟨rfl, rfl, rfl, rfl, rfl⟩ rfl rfl rfl rfl rfl (by kernel_rfl) Try.func7 (by kernel_rfl)
    (of_decide_eq_true (by kernel_rfl)) (by unfold Func.isWrapper; first | (rw [if_pos (by decide +kernel)]; kernel_rfl) | (rw [if_neg (by decide +kernel)]; exact ⟨rfl, rfl⟩))
    (fun os started H enc _ => lifted os started H enc)
theorem proved : Rows.EvindexCandidatesSaid := over
#print axioms proved
end Go.Proofs.Yteifekndhgkgcaa.evindexCandidates
namespace Go.Proofs.Yteifekndhgkgcaa
/-- The row, under a short name, for the claim. -/
theorem evindexCandidates_holds : Rows.EvindexCandidatesSaid := evindexCandidates.proved
end Go.Proofs.Yteifekndhgkgcaa
