/- What the parameters' types read as, in the printed functions' own structures; no condition. -/
import Derived.Test.YtioedeglgljblaaH0
import Derived.Test.YtioedeglgljblaaOpens
namespace Go.Proofs.Ytioedeglgljblaa.H
open Go.RowKit Go.Proofs.YtioedeglgljblaaW.PrintWords Go.Proofs.YtioedeglgljblaaW.PrintLast
theorem bytes9 : Try.prog.bytesOf 9 = 16 := by kernel_rfl
def Ok46 (x : S46) : Prop := ((Lit.int .i64 x.f0).wf = true) ∧ ((Lit.int .i64 x.f1).wf = true)
theorem op46 : Opn.Opens Try.prog 46 k46 Ok46 := Opn.opens_mono (Opn.opens_iso (f := fun x : S46 => (x.f0, x.f1)) (Opn.opens_struct Try.underlying46 (by kernel_rfl) (Opn.opensF_cons rfl (by kernel_rfl) (Opn.opens_int Try.underlying3) (Opn.opensF_one rfl (by kernel_rfl) (Opn.opens_int Try.underlying3)))) (fun p => (⟨p.1, p.2⟩ : S46)) (fun _ => rfl)) (fun _ h => h)
theorem bytes46 : Try.prog.bytesOf 46 = 16 := by kernel_rfl
def Ok25 (x : S25) : Prop := ((x.f0.length ≤ 9223372036854775807 ∧ x.f0.length * 16 ≤ 140737488351232 ∧ ∀ z1_ ∈ x.f0, z1_.size ≤ 140737488351232)) ∧ ((x.f1.length ≤ 9223372036854775807 ∧ x.f1.length * 16 ≤ 140737488351232 ∧ ∀ z2_ ∈ x.f1, Ok46 z2_))
theorem op25 : Opn.Opens Try.prog 25 k25 Ok25 := Opn.opens_mono (Opn.opens_iso (f := fun x : S25 => (x.f0, x.f1)) (Opn.opens_struct Try.underlying25 (by kernel_rfl) (Opn.opensF_cons rfl (by kernel_rfl) (Opn.opens_mono (ok' := fun z_ : List ByteArray => (z_.length ≤ 9223372036854775807 ∧ z_.length * 16 ≤ 140737488351232 ∧ ∀ z4_ ∈ z_, z4_.size ≤ 140737488351232)) (Opn.opens_slice Try.underlying22 (by kernel_rfl) (Opn.opens_string Try.underlying9)) (fun _ h => ⟨h.1, bytes9 ▸ h.2.1, h.2.2⟩)) (Opn.opensF_one rfl (by kernel_rfl) (Opn.opens_mono (ok' := fun z_ : List (S46) => (z_.length ≤ 9223372036854775807 ∧ z_.length * 16 ≤ 140737488351232 ∧ ∀ z3_ ∈ z_, Ok46 z3_)) (Opn.opens_slice Try.underlying23 (by kernel_rfl) op46) (fun _ h => ⟨h.1, bytes46 ▸ h.2.1, h.2.2⟩))))) (fun p => (⟨p.1, p.2⟩ : S25)) (fun _ => rfl)) (fun _ h => h)
def Ok48 (x : S48) : Prop := ((Lit.int .i64 x.f0).wf = true) ∧ ((Lit.int .i64 x.f1).wf = true) ∧ ((Lit.int .i64 x.f2).wf = true) ∧ ((Lit.int .i64 x.f3).wf = true) ∧ ((Lit.int .i64 x.f4).wf = true) ∧ (x.f5.size ≤ 140737488351232) ∧ ((Lit.int .i64 x.f6).wf = true)
theorem op48 : Opn.Opens Try.prog 48 k48 Ok48 := Opn.opens_mono (Opn.opens_iso (f := fun x : S48 => (x.f0, x.f1, x.f2, x.f3, x.f4, x.f5, x.f6)) (Opn.opens_struct Try.underlying48 (by kernel_rfl) (Opn.opensF_cons rfl (by kernel_rfl) (Opn.opens_int Try.underlying3) (Opn.opensF_cons rfl (by kernel_rfl) (Opn.opens_int Try.underlying3) (Opn.opensF_cons rfl (by kernel_rfl) (Opn.opens_int Try.underlying3) (Opn.opensF_cons rfl (by kernel_rfl) (Opn.opens_int Try.underlying3) (Opn.opensF_cons rfl (by kernel_rfl) (Opn.opens_int Try.underlying3) (Opn.opensF_cons rfl (by kernel_rfl) (Opn.opens_string Try.underlying9) (Opn.opensF_one rfl (by kernel_rfl) (Opn.opens_int Try.underlying3))))))))) (fun p => (⟨p.1, p.2.1, p.2.2.1, p.2.2.2.1, p.2.2.2.2.1, p.2.2.2.2.2.1, p.2.2.2.2.2.2⟩ : S48)) (fun _ => rfl)) (fun _ h => h)
theorem bytes48 : Try.prog.bytesOf 48 = 64 := by kernel_rfl
theorem bytes3 : Try.prog.bytesOf 3 = 8 := by kernel_rfl
end Go.Proofs.Ytioedeglgljblaa.H
