/- EvindexNext: for every input the law returns true, and each argument reads afterwards as it read before; no condition. -/
import Derived.Test.YteifekndhgkgcaaRows
import Derived.Test.YteifekndhgkgcaaHNxt
import Derived.Test.YteifekndhgkgcaaHOp
import Derived.Test.YteifekndhgkgcaaHLNext
import Derived.WalkKit
import Derived.ProofKit
import Derived.OpenShut
import Derived.ShutString
import Derived.ChangeOld
import Derived.Below
import Derived.SizedLaws
namespace Go.Proofs.Yteifekndhgkgcaa.evindexNext
open Go.ChangeShapes Go.WideShapes Go.ChangeAt Go.RowKit Go.Proofs.Yteifekndhgkgcaa.H Go.Proofs.YteifekndhgkgcaaW.PrintWords Go.Proofs.YteifekndhgkgcaaW.PrintLast
theorem own : ownKnob Try.prog.godebug = none := by kernel_rfl
theorem laidOut : laidOutB Try.prog = true := by kernel_rfl
set_option maxRecDepth 100000 in
theorem open_arr3 {W : World} {r : Reach} {b0 : Nat} {v : Value} (h : Value.okWide Try.prog W r b0 49 v) : ∃ a b c : Int, v = .agg #[.int .i64 a, .int .i64 b, .int .i64 c] := by
  simp only [Value.okWide, Try.underlying49] at h
  obtain ⟨cs, rfl, hs, ts, hts, _, hc⟩ := h
  have e : Try.prog.cellTypes Try.prog.depth 49 = some [3, 3, 3] := by kernel_rfl
  rw [e] at hts
  obtain rfl := Option.some.inj hts
  have hs3 : cs.size = 3 := hs.trans (by kernel_rfl)
  obtain ⟨l⟩ := cs
  match l, hs3 with
  | [x, y, z], _ =>
    have key : ∀ u v', Cell.okWide Try.prog W r b0 u v' → u = 3 → ∃ n, v' = .int .i64 n := fun u v' hu e => by
      subst e
      refine okWide_int (P := Try.prog) (w := W) (r := r) (base := b0) (t := 3) Try.underlying3 ?_
      simp only [Value.okWide, Try.underlying3]
      exact hu
    obtain ⟨u0, e0, h0⟩ := hc 0 x rfl
    obtain ⟨u1, e1, h1⟩ := hc 1 y rfl
    obtain ⟨u2, e2, h2⟩ := hc 2 z rfl
    obtain ⟨a, rfl⟩ := key _ _ h0 (Option.some.inj e0).symm
    obtain ⟨b, rfl⟩ := key _ _ h1 (Option.some.inj e1).symm
    obtain ⟨c, rfl⟩ := key _ _ h2 (Option.some.inj e2).symm
    exact ⟨a, b, c, rfl⟩
set_option maxRecDepth 100000 in
theorem lifted (os : Os) (started : os.Started) (H : Type) (enc : TypeId × Value → H) :
    ReturnsInHanded {} Try.checked os 8 .any (Rows.evindexNextSpec.pre6 enc Try.prog Try.f8 Rows.evindexNextRow.domain false) (Rows.evindexNextSpec.post enc Try.prog Try.f8 false true false false) := by
  refine returnsInHanded_of_change_sized (C := Try.checked) own started (by kernel_rfl) Try.func8
    (ChangeSpec.witness6 (enc := enc) (C := Try.checked) false ⟨#[], #[.slice none 0 0, .agg #[.int .i64 0, .int .i64 0, .int .i64 0]], []⟩ 8 (by kernel_rfl) (by kernel_rfl) (by kernel_rfl) (by kernel_rfl)) ?_
  intro W base args ds gs before hval0 hW _ hsz0 _
  have hsz : (DataW.weightsEach Try.prog (Try.f8.params.toList ++ Rows.evindexNextSpec.plain.varTypes Try.prog) (ds ++ gs)).all (· ≤ reachBytes) = true := hsz0
  have hval : ∀ (j : Nat) t v, Try.f8.params[j]? = some t → args[j]? = some v → Value.okWide Try.prog W .any base t v := hval0
  have hW' := hW
  obtain ⟨p, q, hA0, hV, rfl, _, _⟩ := hW
  have hA : DataW.TrodAll enc Try.prog W 0 (fun _ => true) true Try.f8.params.toList args.toList ds p := hA0
  rw [Try.params8] at hA hval hsz
  obtain ⟨v0, vs0, d0, ds0, p0, q0, hargs, rfl, rfl, h0, r0⟩ := trodAll_cons hA
  obtain ⟨v1, vs1, d1, ds1, p1, q1, rfl, rfl, rfl, h1, r1⟩ := trodAll_cons r0
  obtain ⟨rfl, rfl, rfl⟩ := trodAll_nil r1
  obtain rfl : args = #[v0, v1] := by cases args; simp_all
  obtain ⟨rfl, rfl⟩ := trodVars_none hV
  have k0 := h0
  have s0 := Opn.small_of hsz (j := 0) (t := 22) (d := d0) rfl rfl
  have lt0 : ∀ x ∈ p0, x.block < W.heap.size := by obtain ⟨m, hm⟩ := k0; exact DataW.trod_lt m _ _ _ hm
  obtain ⟨A0, c0, x0, rfl, hr0, hc0, ok0⟩ := Opn.open_row Try.underlying22 (show Opn.Opens Try.prog 22 (Kd.slice 47 k47) (fun X0 : List (S47) => (X0.length ≤ 9223372036854775807 ∧ X0.length * 80 ≤ 140737488351232 ∧ ∀ z10_ ∈ X0, Ok47 z10_)) from (Opn.opens_mono (ok' := fun z_ : List (S47) => (z_.length ≤ 9223372036854775807 ∧ z_.length * 80 ≤ 140737488351232 ∧ ∀ z9_ ∈ z_, Ok47 z9_)) (Opn.opens_slice Try.underlying22 (by kernel_rfl) op47) (fun _ h => ⟨h.1, bytes47 ▸ h.2.1, h.2.2⟩))) (hval 0 22 v0 rfl rfl) h0 s0
  have k1 := h1
  have lt1 : ∀ x ∈ p1, x.block < W.heap.size := by obtain ⟨m, hm⟩ := k1; exact DataW.trod_lt m _ _ _ hm
  obtain ⟨a1_0, a1_1, a1_2, rfl⟩ := open_arr3 (hval 1 49 v1 rfl rfl)
  obtain ⟨k, h⟩ := law_next x0 a1_0 a1_1 a1_2 ok0.2.2
  clear hA0 hval0 hsz0 hsz
  refine (signalbenchlaw46_EvindexNext.calls (k := k) (l0 := x0) (a1_0 := a1_0) (a1_1 := a1_1) (a1_2 := a1_2) (r := true) (w := W) (hr0 := hr0) (hc0 := hc0) (h := h)).mono fun e W' ⟨he, bel0⟩ => ?_
  have bel : Below W.heap.size W W' := bel0
  subst he
  exact ⟨_, rfl, _, _, _, [], _, [], hW', trodAll_mk1 (shut_bool Try.underlying4 _), (trodAll_cons_mk (Below.trod laidOut (by kernel_rfl) (of_decide_eq_true (by kernel_rfl)) k0 bel lt0) (trodAll_cons_mk (Below.trod laidOut (by kernel_rfl) (of_decide_eq_true (by kernel_rfl)) k1 bel lt1) trodAll_mk0)), rfl, bel.frame _, fun h => by cases h⟩
theorem over : Rows.evindexNextRow.holds Try.pinned (OpenSpec.ofChange Rows.evindexNextSpec) :=
  OpenClaim.holds_of_wide 8 Try.f8 rfl rfl rfl rfl rfl rfl rfl ⟨rfl, rfl, rfl, rfl, rfl⟩ rfl rfl rfl rfl rfl (by kernel_rfl) Try.func8 (by kernel_rfl)
    (of_decide_eq_true (by kernel_rfl)) (by unfold Func.isWrapper; first | (rw [if_pos (by decide +kernel)]; kernel_rfl) | (rw [if_neg (by decide +kernel)]; exact ⟨rfl, rfl⟩))
    (fun os started H enc _ => lifted os started H enc)
theorem proved : Rows.EvindexNextSaid := over
#print axioms proved
end Go.Proofs.Yteifekndhgkgcaa.evindexNext
namespace Go.Proofs.Yteifekndhgkgcaa
/-- The row, under a short name, for the claim. -/
theorem evindexNext_holds : Rows.EvindexNextSaid := evindexNext.proved
end Go.Proofs.Yteifekndhgkgcaa
