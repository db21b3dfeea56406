/- What the parameters' types read as, in the printed functions' own structures; no condition. -/
import Derived.Test.YtbkncndagheijaaH0
import Derived.Test.YtbkncndagheijaaOpens
namespace Go.Proofs.Ytbkncndagheijaa.H
open Go.RowKit Go.Proofs.YtbkncndagheijaaW.PrintWords Go.Proofs.YtbkncndagheijaaW.PrintLast
theorem bytes9 : Try.prog.bytesOf 9 = 16 := by kernel_rfl
def Ok43 (x : S43) : Prop := ((Lit.int .i64 x.f0).wf = true) ∧ ((Lit.int .i64 x.f1).wf = true)
theorem op43 : Opn.Opens Try.prog 43 k43 Ok43 := Opn.opens_mono (Opn.opens_iso (f := fun x : S43 => (x.f0, x.f1)) (Opn.opens_struct Try.underlying43 (by kernel_rfl) (Opn.opensF_cons rfl (by kernel_rfl) (Opn.opens_int Try.underlying3) (Opn.opensF_one rfl (by kernel_rfl) (Opn.opens_int Try.underlying3)))) (fun p => (⟨p.1, p.2⟩ : S43)) (fun _ => rfl)) (fun _ h => h)
theorem bytes43 : Try.prog.bytesOf 43 = 16 := by kernel_rfl
theorem bytes3 : Try.prog.bytesOf 3 = 8 := by kernel_rfl
end Go.Proofs.Ytbkncndagheijaa.H
