/- What the parameters' types read as, in the printed functions' own structures; no condition. -/
import Derived.Test.YtejmegaalfblmaaH0
import Derived.Test.YtejmegaalfblmaaOpens
namespace Go.Proofs.Ytejmegaalfblmaa.H
open Go.RowKit Go.Proofs.YtejmegaalfblmaaW.PrintWords Go.Proofs.YtejmegaalfblmaaW.PrintLast
def Ok25 (x : S25) : Prop := ((Lit.int .i64 x.f0).wf = true) ∧ ((Lit.int .i64 x.f1).wf = true)
theorem op25 : Opn.Opens Try.prog 25 k25 Ok25 := Opn.opens_mono (Opn.opens_iso (f := fun x : S25 => (x.f0, x.f1)) (Opn.opens_struct Try.underlying25 (by kernel_rfl) (Opn.opensF_cons rfl (by kernel_rfl) (Opn.opens_int Try.underlying3) (Opn.opensF_one rfl (by kernel_rfl) (Opn.opens_int Try.underlying3)))) (fun p => (⟨p.1, p.2⟩ : S25)) (fun _ => rfl)) (fun _ h => h)
theorem bytes25 : Try.prog.bytesOf 25 = 16 := by kernel_rfl
end Go.Proofs.Ytejmegaalfblmaa.H
