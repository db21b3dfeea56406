/- The map of rows that evindex.Build fills, and the slots of the specification; no condition beyond the numbers' kind. -/
import Derived.Test.YteifekndhgkgcaaHKey
import Derived.Test.YteifekndhgkgcaaHPutF
import Derived.Maps.OwnRows
import Derived.Maps.Views
namespace Go.Proofs.Yteifekndhgkgcaa.H
open Go.RowKit Go.Proofs.YteifekndhgkgcaaW.PrintWords Go.Proofs.YteifekndhgkgcaaW.PrintLast Go.Proofs.YteifekndhgkgcaaW.PrintMore
open Go.ChangeShapes (lits)
open Go.Maps
def itemsD {H : Type} : DataW H → List (DataW H)
 | .slice es _ => es
 | _ => []
/-- the map behind k rounds -/
def GD (l : List S47) : Nat → DataW Unit
 | 0 => .map []
 | k + 1 => (GD l k).put (keyL (rd_T47 l (k : Int)).f0 (rd_T47 l (k : Int)).f2.f0) (.slice (itemsD ((GD l k).atKey (keyL (rd_T47 l (k : Int)).f0 (rd_T47 l (k : Int)).f2.f0) .nil) ++ [.lit (.int .i64 (k : Int))]) [])
theorem GD_step {w : World} {base : Nat} {e : TypeId} {v : Value} {zs : List Int} (l : List S47) (k : Nat) (ho : w.ownsInts base e .i64 v zs)
    (hat : (GD l k).atKey (keyL (rd_T47 l (k : Int)).f0 (rd_T47 l (k : Int)).f2.f0) .nil = rowDatum .i64 v zs) : GD l (k + 1) = (GD l k).put (keyL (rd_T47 l (k : Int)).f0 (rd_T47 l (k : Int)).f2.f0) (.slice (lits .i64 (zs ++ [(k : Int)])) []) := by
  rw [GD]
  simp only [hat]
  rcases ho.datum (H := Unit) with ⟨h1, rfl⟩ | h1 <;> rw [h1] <;> simp [itemsD, lits]
theorem keyL_lit (w : World) (a c : Int) (ha : (Lit.int .i64 a).wf = true) (hc : (Lit.int .i64 c).wf = true) : WideAt.IsKeyLit (keyL a c) := (Keyed.of_law law53).key (key53 w a c ha hc)
theorem items_lits (zs : List Int) : itemsD (DataW.slice (lits (H := Unit) .i64 zs) []) = lits .i64 zs := rfl
theorem GD_find (w : World) (l : List S47) : ∀ k, k ≤ l.length → (∀ i : Nat, i < l.length → (Lit.int .i64 (rd_T47 l (i : Int)).f0).wf = true ∧ (Lit.int .i64 (rd_T47 l (i : Int)).f2.f0).wf = true) →
    IsMap (GD l k) ∧ ∀ a c, (Lit.int .i64 a).wf = true → (Lit.int .i64 c).wf = true → ∀ zd, (GD l k).atKey (keyL a c) zd = match findF a c (buildF l k) with | none => zd | some zs => .slice (lits .i64 zs) []
  | 0, _, _ => ⟨⟨[], rfl⟩, fun a c _ _ zd => rfl⟩
  | k + 1, hk, hwf => by
    obtain ⟨im, ih⟩ := GD_find w l k (by omega) hwf
    obtain ⟨w1, w2⟩ := hwf k (by omega)
    have hl := keyL_lit w _ _ w1 w2
    have hi := ih _ _ w1 w2
    rw [GD]
    refine ⟨im.put _ _, fun a c ha hc zd => ?_⟩
    rw [buildF]
    by_cases e : (rd_T47 l (k : Int)).f0 = a ∧ (rd_T47 l (k : Int)).f2.f0 = c
    · obtain ⟨e1, e2⟩ := e
      rw [← e1, ← e2, atKey_put_same im hl, find_put_same _ _ _ _ (build_sorted l k), hi .nil]
      cases findF (rd_T47 l (k : Int)).f0 (rd_T47 l (k : Int)).f2.f0 (buildF l k) with
      | none => simp [itemsD, lits]
      | some zs => simp [itemsD, lits]
    · have hne : keyL a c ≠ keyL (rd_T47 l (k : Int)).f0 (rd_T47 l (k : Int)).f2.f0 := fun h => by
        have := keyL_inj w _ _ _ _ ha hc w1 w2 h
        exact e ⟨this.1.symm, this.2.symm⟩
      rw [atKey_put_other hne, find_put_other _ _ _ _ _ e]
      exact ih a c ha hc zd
end Go.Proofs.Yteifekndhgkgcaa.H
