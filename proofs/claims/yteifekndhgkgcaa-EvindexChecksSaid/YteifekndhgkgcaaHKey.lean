/- The key of a node and a kind; no condition beyond the numbers' kind. -/
import Derived.Test.YteifekndhgkgcaaH0
import Derived.Test.YteifekndhgkgcaaHEntry
import Derived.MapViews
import Derived.Lib.SmallJoins
import Derived.OpenShut
import Derived.ChangeSame
namespace Go.Proofs.Yteifekndhgkgcaa.H
open Go.ChangeShapes Go.WideShapes Go.MapKept Go.ChangeMaps Go.Maps Go.WideElems Go.Joins
open Go.WideMaps (KeyLaw)
theorem laidOut : laidOutB Try.prog = true := by kernel_rfl
theorem row53 : (53 : TypeId) < Try.prog.types.size := of_decide_eq_true (by kernel_rfl)
theorem wide53 : (match Try.prog.underlying 53 with | some (.array _ _) | some (.struct _) => true | _ => false) = true := by rw [Try.underlying53]
theorem deep53 : Try.prog.keyTypeAt (Try.prog.types.size + 1) 53 = true := by kernel_rfl
theorem law53 : KeyLaw Try.prog 53 := deep_law_laid laidOut (m := 2) (by omega) row53 (by kernel_rfl) wide53
theorem cells53 : Try.prog.cellsOf 53 = 2 := by kernel_rfl
theorem formed53 {c0 c1 : Value} : (Value.agg #[c0, c1]).formed Try.prog 53 = true := by simp [Value.formed, Try.underlying53, cells53]
theorem zero36 (w : World) : (zeroValue 36).run Try.prog w = .ok (.slice none 0 0) w := by kernel_rfl
/-- what the key of a node and a kind reads as -/
def keyL (n k : Int) : Lit := (DataW.agg [.lit (.int .i64 n), .lit (.int .i64 k)] : DataW Unit).asKey
theorem key53 (w : World) (n k : Int) (hn : (Lit.int .i64 n).wf = true) (hk : (Lit.int .i64 k).wf = true) : keyOf Try.prog 53 (.agg #[.int .i64 n, .int .i64 k]) = some (keyL n k) := by
  have h1 : DataW.Trod (H := Unit) (fun _ => ()) Try.prog w 0 (fun _ => true) true 53 (.agg #[.int .i64 n, .int .i64 k]) (.agg [.lit (.int .i64 n), .lit (.int .i64 k)]) ([] ++ []) :=
    shut_agg2 (y0 := (.lit (.int .i64 n), [])) (y1 := (.lit (.int .i64 k), [])) Try.underlying53 (by kernel_rfl) cells53 ⟨1, trod_int_mk 0 Try.underlying3 hn⟩ ⟨1, trod_int_mk 0 Try.underlying3 hk⟩
  exact (keyOf_asKey deep53 wide53 formed53 h1).1
theorem keyL_inj (w : World) (n k n' k' : Int) (hn : (Lit.int .i64 n).wf = true) (hk : (Lit.int .i64 k).wf = true) (hn' : (Lit.int .i64 n').wf = true) (hk' : (Lit.int .i64 k').wf = true) (h : keyL n k = keyL n' k') : n = n' ∧ k = k' := by
  have h1 := key53 w n k hn hk
  have h2 := key53 w n' k' hn' hk'
  rw [← h] at h2
  have := law53.inj h1 h2
  simpa using this
end Go.Proofs.Yteifekndhgkgcaa.H
