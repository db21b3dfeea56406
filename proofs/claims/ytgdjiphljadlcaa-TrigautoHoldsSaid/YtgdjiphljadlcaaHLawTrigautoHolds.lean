/- TrigautoHolds: for every input the law returns true, and each argument reads afterwards as it read before; no condition. -/
import Derived.Test.YtgdjiphljadlcaaRows
import Derived.Test.YtgdjiphljadlcaaH43
import Derived.Test.YtgdjiphljadlcaaHOp
import Derived.Test.YtgdjiphljadlcaaHQf
import Derived.WalkKit
import Derived.ProofKit
import Derived.OpenShut
import Derived.ShutString
import Derived.ChangeOld
import Derived.Below
import Derived.SizedLaws
namespace Go.Proofs.Ytgdjiphljadlcaa.trigautoHolds
open Go.ChangeShapes Go.WideShapes Go.ChangeAt Go.RowKit Go.Proofs.Ytgdjiphljadlcaa.H Go.Proofs.YtgdjiphljadlcaaW.PrintWords Go.Proofs.YtgdjiphljadlcaaW.PrintLast
theorem own : ownKnob Try.prog.godebug = none := by kernel_rfl
theorem laidOut : laidOutB Try.prog = true := by kernel_rfl
set_option maxRecDepth 100000 in
theorem lifted (os : Os) (started : os.Started) (H : Type) (enc : TypeId × Value → H) :
    ReturnsInHanded {} Try.checked os 14 .any (Rows.trigautoHoldsSpec.pre6 enc Try.prog Try.f14 Rows.trigautoHoldsRow.domain false) (Rows.trigautoHoldsSpec.post enc Try.prog Try.f14 false true false false) := by
  refine returnsInHanded_of_change_sized (C := Try.checked) own started (by kernel_rfl) Try.func14
    (ChangeSpec.witness6 (enc := enc) (C := Try.checked) false ⟨#[], #[.agg #[.string ByteArray.empty, .slice none 0 0], .agg #[.slice none 0 0, .slice none 0 0], .agg #[.int .i64 0, .int .i64 0, .int .i64 0, .int .i64 0, .int .i64 0, .int .i64 0, .int .i64 0, .string ByteArray.empty, .int .i64 0]], []⟩ 8 (by kernel_rfl) (by kernel_rfl) (by kernel_rfl) (by kernel_rfl)) ?_
  intro W base args ds gs before hval0 hW _ hsz0 _
  have hsz : (DataW.weightsEach Try.prog (Try.f14.params.toList ++ Rows.trigautoHoldsSpec.plain.varTypes Try.prog) (ds ++ gs)).all (· ≤ reachBytes) = true := hsz0
  have hval : ∀ (j : Nat) t v, Try.f14.params[j]? = some t → args[j]? = some v → Value.okWide Try.prog W .any base t v := hval0
  have hW' := hW
  obtain ⟨p, q, hA0, hV, rfl, _, _⟩ := hW
  have hA : DataW.TrodAll enc Try.prog W 0 (fun _ => true) true Try.f14.params.toList args.toList ds p := hA0
  rw [Try.params14] at hA hval hsz
  obtain ⟨v0, vs0, d0, ds0, p0, q0, hargs, rfl, rfl, h0, r0⟩ := trodAll_cons hA
  obtain ⟨v1, vs1, d1, ds1, p1, q1, rfl, rfl, rfl, h1, r1⟩ := trodAll_cons r0
  obtain ⟨v2, vs2, d2, ds2, p2, q2, rfl, rfl, rfl, h2, r2⟩ := trodAll_cons r1
  obtain ⟨rfl, rfl, rfl⟩ := trodAll_nil r2
  obtain rfl : args = #[v0, v1, v2] := by cases args; simp_all
  obtain ⟨rfl, rfl⟩ := trodVars_none hV
  have k0 := h0
  have s0 := Opn.small_of hsz (j := 0) (t := 24) (d := d0) rfl rfl
  have lt0 : ∀ x ∈ p0, x.block < W.heap.size := by obtain ⟨m, hm⟩ := k0; exact DataW.trod_lt m _ _ _ hm
  obtain ⟨cs0, x0, rfl, hk0, ok0⟩ := Opn.open_struct Try.underlying24 op24 (hval 0 24 v0 rfl rfl) h0 s0
  obtain ⟨A0_1, c0_1, rfl, hc0_1, hr0_1⟩ := k24_open hk0
  have k1 := h1
  have s1 := Opn.small_of hsz (j := 1) (t := 28) (d := d1) rfl rfl
  have lt1 : ∀ x ∈ p1, x.block < W.heap.size := by obtain ⟨m, hm⟩ := k1; exact DataW.trod_lt m _ _ _ hm
  obtain ⟨cs1, x1, rfl, hk1, ok1⟩ := Opn.open_struct Try.underlying28 op28 (hval 1 28 v1 rfl rfl) h1 s1
  obtain ⟨A1_0, c1_0, A1_1, c1_1, rfl, hc1_0, hr1_0, hc1_1, hr1_1⟩ := k28_open hk1
  have k2 := h2
  have s2 := Opn.small_of hsz (j := 2) (t := 46) (d := d2) rfl rfl
  have lt2 : ∀ x ∈ p2, x.block < W.heap.size := by obtain ⟨m, hm⟩ := k2; exact DataW.trod_lt m _ _ _ hm
  obtain ⟨cs2, x2, rfl, hk2, ok2⟩ := Opn.open_struct Try.underlying46 op46 (hval 2 46 v2 rfl rfl) h2 s2
  obtain rfl := k46_open hk2
  obtain ⟨k, h⟩ := tholds_pure2 x0.f0 x0.f1 x1.f0 x1.f1 x2.f0 x2.f1 x2.f2.f0 x2.f2.f1 x2.f2.f2 x2.f2.f3 x2.f2.f4 x2.f2.f5 x2.f2.f6 
  clear hA0 hval0 hsz0 hsz
  refine (signalbenchlaw44_TrigautoHolds.calls (k := k) (a0_0 := x0.f0) (l0_1 := x0.f1) (l1_0 := x1.f0) (l1_1 := x1.f1) (a2_0 := x2.f0) (a2_1 := x2.f1) (a2_2 := x2.f2.f0) (a2_3 := x2.f2.f1) (a2_4 := x2.f2.f2) (a2_5 := x2.f2.f3) (a2_6 := x2.f2.f4) (a2_7 := x2.f2.f5) (a2_8 := x2.f2.f6) (r := true) (w := W) (hr0_1 := hr0_1) (hc0_1 := hc0_1) (hr1_0 := hr1_0) (hc1_0 := hc1_0) (hr1_1 := hr1_1) (hc1_1 := hc1_1) (h := h)).mono fun e W' ⟨he, bel0⟩ => ?_
  have bel : Below W.heap.size W W' := bel0
  subst he
  exact ⟨_, rfl, _, _, _, [], _, [], hW', trodAll_mk1 (shut_bool Try.underlying4 _), (trodAll_cons_mk (Below.trod laidOut (by kernel_rfl) (of_decide_eq_true (by kernel_rfl)) k0 bel lt0) (trodAll_cons_mk (Below.trod laidOut (by kernel_rfl) (of_decide_eq_true (by kernel_rfl)) k1 bel lt1) (trodAll_cons_mk (Below.trod laidOut (by kernel_rfl) (of_decide_eq_true (by kernel_rfl)) k2 bel lt2) trodAll_mk0))), rfl, bel.frame _, fun h => by cases h⟩
theorem over : Rows.trigautoHoldsRow.holds Try.pinned (OpenSpec.ofChange Rows.trigautoHoldsSpec) :=
  OpenClaim.holds_of_wide 14 Try.f14 rfl rfl rfl rfl rfl rfl rfl ⟨rfl, rfl, rfl, rfl, rfl⟩ rfl rfl rfl rfl rfl (by kernel_rfl) Try.func14 (by kernel_rfl)
    (of_decide_eq_true (by kernel_rfl)) (by unfold Func.isWrapper; first | (rw [if_pos (by decide +kernel)]; kernel_rfl) | (rw [if_neg (by decide +kernel)]; exact ⟨rfl, rfl⟩))
    (fun os started H enc _ => lifted os started H enc)
theorem proved : Rows.TrigautoHoldsSaid := over
#print axioms proved
end Go.Proofs.Ytgdjiphljadlcaa.trigautoHolds
namespace Go.Proofs.Ytgdjiphljadlcaa
/-- The row, under a short name, for the claim. -/
theorem trigautoHolds_holds : Rows.TrigautoHoldsSaid := trigautoHolds.proved
end Go.Proofs.Ytgdjiphljadlcaa
