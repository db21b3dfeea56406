/- The chapter's examples hold of the printed functions. -/
import Derived.Test.YtbkncndagheijaaHPe
namespace Go.Proofs.Ytbkncndagheijaa.H
open Go.RowKit Go.Proofs.YtbkncndagheijaaW.PrintWords Go.Proofs.YtbkncndagheijaaW.PrintLast Go.Proofs.Ytbkncndagheijaa.Lev
def exA : List ByteArray := [(⟨#[120]⟩ : ByteArray), (⟨#[121]⟩ : ByteArray), (⟨#[122]⟩ : ByteArray)]
def exB : List ByteArray := [(⟨#[121]⟩ : ByteArray), (⟨#[119]⟩ : ByteArray), (⟨#[122]⟩ : ByteArray)]
theorem Ls_exA : Ls exA = [[120], [121], [122]] := by decide +kernel
theorem Ls_exB : Ls exB = [[121], [119], [122]] := by decide +kernel
theorem ds_ex : ds exA exB = 2 := by
  unfold ds
  rw [Ls_exA, Ls_exB]
  simp [lev]
theorem pairs_ex : align_Pairs.f 60 exA exB = some ([⟨0, -1⟩, ⟨1, 0⟩, ⟨-1, 1⟩, ⟨2, 2⟩], 0) := by kernel_rfl
theorem check_ex : align_Check.f 60 exA exB [⟨0, -1⟩, ⟨1, 0⟩, ⟨-1, 1⟩, ⟨2, 2⟩] = some true := by kernel_rfl
theorem awake_ev : Ev (fun k => signalbenchlaw54_awake.f k) true := by
  refine Ev.of (fun k => signalbenchlaw54_awake.mono k) (k := 60) ?_
  have hd := dist_eq (a := exA) (b := exB) (by decide) (by decide)
  rw [ds_ex] at hd
  unfold signalbenchlaw54_awake.f
  rw [Option.bind_some, Option.bind_some]
  show (align_Distance.f exA exB).bind _ = _
  rw [hd, Option.bind_some]
  show (align_Pairs.f 60 exA exB).bind _ = _
  rw [pairs_ex, Option.bind_some]
  kernel_rfl
end Go.Proofs.Ytbkncndagheijaa.H
