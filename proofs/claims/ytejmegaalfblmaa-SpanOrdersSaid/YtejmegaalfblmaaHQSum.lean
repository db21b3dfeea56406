/- How many ticks separate spans cover; no condition. -/
import Derived.Test.YtejmegaalfblmaaHQBase
namespace Go.Proofs.Ytejmegaalfblmaa.H
open Go.RowKit Go.Proofs.YtejmegaalfblmaaW.PrintWords Go.Proofs.YtejmegaalfblmaaW.PrintLast Go.Proofs.YtejmegaalfblmaaW.PrintMore
set_option linter.unusedSimpArgs false
def sumS : List S25 → Int
 | [] => 0
 | s :: l => (s.f1 - s.f0) + sumS l
theorem sumS_le : ∀ (l : List S25) (a : Int), Norm l → (∀ s ∈ l, a ≤ s.f0) → a ≤ 1099511627776 → 0 ≤ sumS l ∧ sumS l ≤ 1099511627776 - a
  | [], a, _, _, h => by simp [sumS]; omega
  | s :: l, a, hn, ha, h => by
    have hs := vld_iff.1 (hn.2 s List.mem_cons_self)
    have h1 := ha s List.mem_cons_self
    have := sumS_le l s.f1 (norm_tail hn) (fun u hu => by have := norm_head hn u hu; omega) (by omega)
    unfold sumS
    omega
theorem norm_bounds {l : List S25} (hn : Norm l) {s : S25} (hs : s ∈ l) : 0 ≤ s.f0 ∧ s.f0 < s.f1 ∧ s.f1 ≤ 1099511627776 := vld_iff.1 (hn.2 s hs)
theorem norm_drop {l : List S25} (hn : Norm l) (i : Nat) : Norm (l.drop i) := ⟨hn.1.sublist (List.drop_sublist i l), fun s hs => hn.2 s (List.mem_of_mem_drop hs)⟩
theorem sumS_pos {l : List S25} (hn : Norm l) : 0 ≤ sumS l ∧ sumS l ≤ 1099511627776 := by
  have := sumS_le l 0 hn (fun s hs => (norm_bounds hn hs).1) (by omega)
  omega
end Go.Proofs.Ytejmegaalfblmaa.H
