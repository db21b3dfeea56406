/- evindex.order as the prints take it; no condition. -/
import Derived.Test.YteifekndhgkgcaaHOrder
namespace Go.Proofs.Yteifekndhgkgcaa.H
open Go.RowKit Go.Proofs.YteifekndhgkgcaaW.PrintWords Go.Proofs.YteifekndhgkgcaaW.PrintLast Go.Proofs.YteifekndhgkgcaaW.PrintMore
attribute [local go_sem] max2_int min2_int max_two min_two max_three min_three max_four min_four
set_option linter.unusedVariables false
set_option linter.unusedSimpArgs false
def evindex_order.f (a b : Int) (_ : List Int) (c d : Int) (_ : List Int) : Option Int := some (ordI (a, b) (c, d))
theorem below_draw_grow (W : World) (n : Nat) (os : Array Obj) : Below W.heap.size W (Go.Sort.grow (W.drewN n) os) := by
  refine ⟨rfl, rfl, rfl, ?_, fun k hk => ?_⟩
  · unfold Go.Sort.grow
    simp only [Array.size_append]
    show W.heap.size ≤ W.heap.size + os.size
    omega
  · rw [Go.Sort.heap_grow_old _ _ (by exact hk)]
    rfl
theorem evindex_order.calls (a b : Int) (A0 : Option Addr) (c0 : Nat) (l0 : List Int) (c d : Int) (A1 : Option Addr) (c1 : Nat) (l1 : List Int) (r : Int) (w : World) (_ : (Kd.int .i64).C w A0 l0.length l0) (_ : l0.length ≤ c0) (_ : (Kd.int .i64).C w A1 l1.length l1) (_ : l1.length ≤ c1) (h : evindex_order.f a b l0 c d l1 = some r) :
    Calls Try.prog 25 #[.agg #[.int .i64 a, .int .i64 b, .slice A0 l0.length c0], .agg #[.int .i64 c, .int .i64 d, .slice A1 l1.length c1]] w fun e w' => e = .returned (.int .i64 r) ∧ Below w.heap.size w w' := by
  obtain rfl := Option.some.inj h
  exact (order25 (a, b) (c, d) _ _ w).mono fun e w' ⟨he, n, os, hw⟩ => ⟨he, by rw [hw]; exact below_draw_grow w n os⟩
end Go.Proofs.Yteifekndhgkgcaa.H
