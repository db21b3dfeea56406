/- What a map of rows holds, told by the values themselves; no condition. -/
import Derived.Test.YteifekndhgkgcaaHKey2
import Derived.Maps.Range
import Derived.Maps.OwnRows
namespace Go.Proofs.Yteifekndhgkgcaa.H
open Go.ChangeShapes Go.WideShapes Go.MapKept Go.ChangeMaps Go.Maps Go.WideElems Go.Joins
/-- an element read as itself -/
def RV (v : Value) : Option (DataW Value × List MemPlace) := some (.held v, [])
theorem groups_rows {w : World} {base b n : Nat} {D : DataW Unit} (h : w.ownsGroups Try.prog 53 base 3 .i64 b n D) :
    ∃ D2 : DataW Value, w.ownsMap Try.prog 53 RV b n D2 ∧
      (∀ a c v, (Lit.int .i64 a).wf = true → (Lit.int .i64 c).wf = true → D2.atKey (keyL a c) .nil = .held v → ∃ zs, w.ownsInts base 3 .i64 v zs ∧ zs.length ≤ n ∧ ∀ zd, D.atKey (keyL a c) zd = rowDatum .i64 v zs) ∧
      (∀ a c, (Lit.int .i64 a).wf = true → (Lit.int .i64 c).wf = true → (∀ v, D2.atKey (keyL a c) .nil ≠ .held v) → ∀ zd, D.atKey (keyL a c) zd = zd) ∧
      (∀ a c a' c' v v', (Lit.int .i64 a).wf = true → (Lit.int .i64 c).wf = true → (Lit.int .i64 a').wf = true → (Lit.int .i64 c').wf = true → (a ≠ a' ∨ c ≠ c') → D2.atKey (keyL a c) .nil = .held v → D2.atKey (keyL a' c') .nil = .held v' → v.ownBlock = none ∨ v.ownBlock ≠ v'.ownBlock) := by
  obtain ⟨es, clock, hb, F, hs, hD, hbb, hlen, hap⟩ := h
  have K := Keyed.of_law law53
  have F2 : Fit Try.prog 53 RV es clock := ⟨F.size, F.stamped, fun x hx => by
    obtain ⟨y, hy⟩ := F.reads x hx
    exact ⟨(y.1, .held x.val), by simp [WideElems.rd, WideElems.rd_key hy, RV]⟩⟩
  obtain ⟨_, _, s3'⟩ := F.stamped
  have s3 := List.pairwise_map.1 s3'
  have at2 : ∀ a c v, (Lit.int .i64 a).wf = true → (Lit.int .i64 c).wf = true → (DataW.map ((es.toList.map (rg Try.prog 53 RV)).foldr DataW.insert [])).atKey (keyL a c) .nil = .held v → ∃ e0, e0 ∈ es.toList ∧ e0.key = .agg #[.int .i64 a, .int .i64 c] ∧ e0.val = v := fun a c v ha hc hat => by
    rcases Maps.fit_look false K Try.underlying51 (zero36 w) hb F2 (key53 w a c ha hc) with ⟨_, _, g3⟩ | ⟨e0, y, g1, g2, _, g4, g5, _⟩
    · rw [g3] at hat
      cases hat
    · rw [g5] at hat
      have hy : y = (.held e0.val, []) := by simpa [RV] using g4.symm
      rw [hy] at hat
      exact ⟨e0, g1, g2, by simpa using hat⟩
  refine ⟨_, ⟨es, clock, hb, F2, hs, rfl⟩, fun a c v ha hc hat => ?_, fun a c ha hc hno zd => ?_, fun a c a' c' v v' ha hc ha' hc' hne h1 h2 => ?_⟩
  · obtain ⟨e0, m0, m1, rfl⟩ := at2 a c v ha hc hat
    rcases Maps.fit_look false K Try.underlying51 (zero36 w) hb F (key53 w a c ha hc) with ⟨_, g2, _⟩ | ⟨e1, y, g1, g2, _, g4, g5, _⟩
    · exact absurd m1 (g2 e0 m0)
    · have he : e1 = e0 := entry_eq_of_key s3 g1 m0 (g2.trans m1.symm)
      subst he
      obtain ⟨zs, ho, rfl⟩ := rowElem_inv g4
      exact ⟨zs, ho, hlen e1 m0 zs ho, fun zd => by rw [hD, g5]⟩
  · rcases Maps.fit_look false K Try.underlying51 (zero36 w) hb F (key53 w a c ha hc) with ⟨_, _, g3⟩ | ⟨e1, y, g1, g2, _, _, _, _⟩
    · rw [hD]
      exact g3 zd
    · rcases Maps.fit_look false K Try.underlying51 (zero36 w) hb F2 (key53 w a c ha hc) with ⟨_, q2, _⟩ | ⟨e2, y2, q1, q2, _, q4, q5, _⟩
      · exact absurd g2 (q2 e1 g1)
      · have hy : y2 = (.held e2.val, []) := by simpa [RV] using q4.symm
        exact absurd (by rw [q5, hy]) (hno e2.val)
  · obtain ⟨e0, m0, m1, rfl⟩ := at2 a c v ha hc h1
    obtain ⟨e1, n0, n1, rfl⟩ := at2 a' c' v' ha' hc' h2
    refine hap e0 m0 e1 n0 (fun e => ?_)
    rw [m1, n1] at e
    simp at e
    rcases hne with h | h
    · exact h e.1
    · exact h e.2
end Go.Proofs.Yteifekndhgkgcaa.H
