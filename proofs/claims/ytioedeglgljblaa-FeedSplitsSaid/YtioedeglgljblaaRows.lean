/-
  No cell of these rows narrows 'for every input' (looked for: loops, veiled, ifaces, maps, wideKeys, modest, calm, conditions, laid).
  DERIVED. THE GIVEN ROWS OF THIS SEAT. 6 by the template 'for every input the law returns true; each argument reads behind the call as it read before'; 0 by the template 'total and deterministic' (their statements: YtioedeglgljblaaTotals.lean).
  GIVEN WITH THE SEED: the statements are not yours to turn. If you find one false, say at which input.
  Laid BY PROGRAM, IN A SANDBOX (cutbox-rows.mjs): the forced cells as the released guide's own fill.sh prints them over the translation 94b18b5097477102… (all of the seat's roots in one cut). By AI agents, Wed Nov 11 2026. No macro, syntax, notation, axiom, sorry.
-/
import Derived.Test.YtioedeglgljblaaChecked
import GoSem.Claim
import GoSem.ClaimJoined
import GoSem.ClaimMapViews
import Derived.JoinedTies
import Derived.KernelRfl
namespace Go.Proofs.Ytioedeglgljblaa
/- THE CELL 'sum', in the pinned program and in every row, IS THE sha256 OF THE DUMP (.gsa) THAT YtioedeglgljblaaProg.lean LOADS. Nothing in Lean hashes anything: it is a label: what it is worth is what the hold of that sum in a sandbox is worth. -/
noncomputable def Try.pinned : Pinned := { name := "ytioedeglgljblaa", sum := "94b18b50974771024155dadb9a386f04fcd24bea56ee05312294eefbeb1f2ac0", checked := Try.checked }
namespace Rows
def none {H : Type} : Left H := { results := [], args := [] }

/-- 'signalbenchlaw14.FeedLevels': WHATEVER THE INPUT: true; the input reads as it did. -/
def feedLevelsSpec : ChangeSpec := { name := "feedLevels", fn := fun _ => fun
  | [d1, d2] => { results := [.lit (.bool true)], args := [d1, d2] }
  | _ => none }
def feedLevelsRow : OpenClaim := { program := "ytioedeglgljblaa", sum := "94b18b50974771024155dadb9a386f04fcd24bea56ee05312294eefbeb1f2ac0", func := "signalbench/signalbenchlaw14.FeedLevels", spec := "feedLevels", unfollowed := true, recurses := true, apart := false }
def FeedLevelsSaid : Prop := feedLevelsRow.holds Try.pinned (OpenSpec.ofChange feedLevelsSpec)

/-- ITS FALSE NEIGHBOUR: 'it returns false'. Refute it at one input. -/
def feedLevelsWrong : ChangeSpec := { name := "feedLevels", fn := fun _ => fun
  | [d1, d2] => { results := [.lit (.bool false)], args := [d1, d2] }
  | _ => none }
def FeedLevelsWrongFalsely : Prop := feedLevelsRow.holds Try.pinned (OpenSpec.ofChange feedLevelsWrong)

/-- 'signalbenchlaw14.FeedMerges': WHATEVER THE INPUT: true; the input reads as it did. -/
def feedMergesSpec : ChangeSpec := { name := "feedMerges", fn := fun _ => fun
  | [d] => { results := [.lit (.bool true)], args := [d] }
  | _ => none }
def feedMergesRow : OpenClaim := { program := "ytioedeglgljblaa", sum := "94b18b50974771024155dadb9a386f04fcd24bea56ee05312294eefbeb1f2ac0", func := "signalbench/signalbenchlaw14.FeedMerges", spec := "feedMerges", unfollowed := true, recurses := true, apart := false }
def FeedMergesSaid : Prop := feedMergesRow.holds Try.pinned (OpenSpec.ofChange feedMergesSpec)

/-- ITS FALSE NEIGHBOUR: 'it returns false'. Refute it at one input. -/
def feedMergesWrong : ChangeSpec := { name := "feedMerges", fn := fun _ => fun
  | [d] => { results := [.lit (.bool false)], args := [d] }
  | _ => none }
def FeedMergesWrongFalsely : Prop := feedMergesRow.holds Try.pinned (OpenSpec.ofChange feedMergesWrong)

/-- 'signalbenchlaw14.FeedSplits': WHATEVER THE INPUT: true; the input reads as it did. -/
def feedSplitsSpec : ChangeSpec := { name := "feedSplits", fn := fun _ => fun
  | [d1, d2] => { results := [.lit (.bool true)], args := [d1, d2] }
  | _ => none }
def feedSplitsRow : OpenClaim := { program := "ytioedeglgljblaa", sum := "94b18b50974771024155dadb9a386f04fcd24bea56ee05312294eefbeb1f2ac0", func := "signalbench/signalbenchlaw14.FeedSplits", spec := "feedSplits", unfollowed := true, recurses := true, apart := false }
def FeedSplitsSaid : Prop := feedSplitsRow.holds Try.pinned (OpenSpec.ofChange feedSplitsSpec)

/-- ITS FALSE NEIGHBOUR: 'it returns false'. Refute it at one input. -/
def feedSplitsWrong : ChangeSpec := { name := "feedSplits", fn := fun _ => fun
  | [d1, d2] => { results := [.lit (.bool false)], args := [d1, d2] }
  | _ => none }
def FeedSplitsWrongFalsely : Prop := feedSplitsRow.holds Try.pinned (OpenSpec.ofChange feedSplitsWrong)

/-- 'signalbenchlaw14.FeedRuns': WHATEVER THE INPUT: true; the input reads as it did. -/
def feedRunsSpec : ChangeSpec := { name := "feedRuns", fn := fun _ => fun
  | [d] => { results := [.lit (.bool true)], args := [d] }
  | _ => none }
def feedRunsRow : OpenClaim := { program := "ytioedeglgljblaa", sum := "94b18b50974771024155dadb9a386f04fcd24bea56ee05312294eefbeb1f2ac0", func := "signalbench/signalbenchlaw14.FeedRuns", spec := "feedRuns", unfollowed := true, recurses := true, apart := false }
def FeedRunsSaid : Prop := feedRunsRow.holds Try.pinned (OpenSpec.ofChange feedRunsSpec)

/-- ITS FALSE NEIGHBOUR: 'it returns false'. Refute it at one input. -/
def feedRunsWrong : ChangeSpec := { name := "feedRuns", fn := fun _ => fun
  | [d] => { results := [.lit (.bool false)], args := [d] }
  | _ => none }
def FeedRunsWrongFalsely : Prop := feedRunsRow.holds Try.pinned (OpenSpec.ofChange feedRunsWrong)

/-- 'signalbenchlaw14.FeedRoundTrips': WHATEVER THE INPUT: true; the input reads as it did. -/
def feedRoundTripsSpec : ChangeSpec := { name := "feedRoundTrips", fn := fun _ => fun
  | [d1, d2] => { results := [.lit (.bool true)], args := [d1, d2] }
  | _ => none }
def feedRoundTripsRow : OpenClaim := { program := "ytioedeglgljblaa", sum := "94b18b50974771024155dadb9a386f04fcd24bea56ee05312294eefbeb1f2ac0", func := "signalbench/signalbenchlaw14.FeedRoundTrips", spec := "feedRoundTrips", unfollowed := true, recurses := true, apart := false }
def FeedRoundTripsSaid : Prop := feedRoundTripsRow.holds Try.pinned (OpenSpec.ofChange feedRoundTripsSpec)

/-- ITS FALSE NEIGHBOUR: 'it returns false'. Refute it at one input. -/
def feedRoundTripsWrong : ChangeSpec := { name := "feedRoundTrips", fn := fun _ => fun
  | [d1, d2] => { results := [.lit (.bool false)], args := [d1, d2] }
  | _ => none }
def FeedRoundTripsWrongFalsely : Prop := feedRoundTripsRow.holds Try.pinned (OpenSpec.ofChange feedRoundTripsWrong)

/-- 'signalbenchlaw14.FeedSelects': WHATEVER THE INPUT: true; the input reads as it did. -/
def feedSelectsSpec : ChangeSpec := { name := "feedSelects", fn := fun _ => fun
  | [d1, d2, d3] => { results := [.lit (.bool true)], args := [d1, d2, d3] }
  | _ => none }
def feedSelectsRow : OpenClaim := { program := "ytioedeglgljblaa", sum := "94b18b50974771024155dadb9a386f04fcd24bea56ee05312294eefbeb1f2ac0", func := "signalbench/signalbenchlaw14.FeedSelects", spec := "feedSelects", unfollowed := true, recurses := true, apart := false }
def FeedSelectsSaid : Prop := feedSelectsRow.holds Try.pinned (OpenSpec.ofChange feedSelectsSpec)

/-- ITS FALSE NEIGHBOUR: 'it returns false'. Refute it at one input. -/
def feedSelectsWrong : ChangeSpec := { name := "feedSelects", fn := fun _ => fun
  | [d1, d2, d3] => { results := [.lit (.bool false)], args := [d1, d2, d3] }
  | _ => none }
def FeedSelectsWrongFalsely : Prop := feedSelectsRow.holds Try.pinned (OpenSpec.ofChange feedSelectsWrong)

/- THE SECOND FORM. 'bulk': how many values and letters a reading holds, each counted each time it is reached (what is shared counts as often as it is met; a slice's spare places count too). A statement '..UptoSaid' is the law's where the arguments, and the package variables that the reading takes, are together of bulk at most 1048576: NARROWER than '..Said'. Prove '..Said' where nothing that the law and all that it calls make is longer than what came in: it says more and counts as full. Else prove '..UptoSaid'. A law counts once. -/
mutual
def uptoBulk {H : Type} : DataW H → Nat
  | .lit (.string bytes) => bytes.length + 1
  | .lit _ => 1
  | .nil => 1
  | .ptr d => uptoBulk d + 1
  | .slice elems spare => uptoBulkAll elems + uptoBulkAll spare + 1
  | .agg parts => uptoBulkAll parts + 1
  | .iface _ d => uptoBulk d + 1
  | .map entries => uptoBulkEntries entries + 1
  | .held _ => 1
def uptoBulkAll {H : Type} : List (DataW H) → Nat
  | [] => 0
  | d :: r => uptoBulk d + uptoBulkAll r
def uptoBulkEntries {H : Type} : List (Lit × DataW H) → Nat
  | [] => 0
  | x :: r => uptoBulkEntry x + uptoBulkEntries r
def uptoBulkEntry {H : Type} : Lit × DataW H → Nat
  | (.string bytes, d) => bytes.length + uptoBulk d + 1
  | (_, d) => uptoBulk d + 1
 end
def uptoSmall : (H : Type) → List (DataW H) → Bool := fun _ ds => decide (uptoBulkAll ds ≤ 1048576)
def OpenSpec.upto (s : _root_.Go.ChangeSpec) : _root_.Go.OpenSpec := { _root_.Go.OpenSpec.ofChange s with cond := some uptoSmall }

/-- 'signalbenchlaw14.FeedLevels', WHERE WHAT IT READS IS OF BULK AT MOST 1048576: true; the input reads as it did. -/
def feedLevelsUptoRow : OpenClaim := { program := "ytioedeglgljblaa", sum := "94b18b50974771024155dadb9a386f04fcd24bea56ee05312294eefbeb1f2ac0", func := "signalbench/signalbenchlaw14.FeedLevels", spec := "feedLevels", unfollowed := true, recurses := true, apart := false, narrowed := true }
def FeedLevelsUptoSaid : Prop := feedLevelsUptoRow.holds Try.pinned (OpenSpec.upto feedLevelsSpec)

/-- 'signalbenchlaw14.FeedMerges', WHERE WHAT IT READS IS OF BULK AT MOST 1048576: true; the input reads as it did. -/
def feedMergesUptoRow : OpenClaim := { program := "ytioedeglgljblaa", sum := "94b18b50974771024155dadb9a386f04fcd24bea56ee05312294eefbeb1f2ac0", func := "signalbench/signalbenchlaw14.FeedMerges", spec := "feedMerges", unfollowed := true, recurses := true, apart := false, narrowed := true }
def FeedMergesUptoSaid : Prop := feedMergesUptoRow.holds Try.pinned (OpenSpec.upto feedMergesSpec)

/-- 'signalbenchlaw14.FeedSplits', WHERE WHAT IT READS IS OF BULK AT MOST 1048576: true; the input reads as it did. -/
def feedSplitsUptoRow : OpenClaim := { program := "ytioedeglgljblaa", sum := "94b18b50974771024155dadb9a386f04fcd24bea56ee05312294eefbeb1f2ac0", func := "signalbench/signalbenchlaw14.FeedSplits", spec := "feedSplits", unfollowed := true, recurses := true, apart := false, narrowed := true }
def FeedSplitsUptoSaid : Prop := feedSplitsUptoRow.holds Try.pinned (OpenSpec.upto feedSplitsSpec)

/-- 'signalbenchlaw14.FeedRuns', WHERE WHAT IT READS IS OF BULK AT MOST 1048576: true; the input reads as it did. -/
def feedRunsUptoRow : OpenClaim := { program := "ytioedeglgljblaa", sum := "94b18b50974771024155dadb9a386f04fcd24bea56ee05312294eefbeb1f2ac0", func := "signalbench/signalbenchlaw14.FeedRuns", spec := "feedRuns", unfollowed := true, recurses := true, apart := false, narrowed := true }
def FeedRunsUptoSaid : Prop := feedRunsUptoRow.holds Try.pinned (OpenSpec.upto feedRunsSpec)

/-- 'signalbenchlaw14.FeedRoundTrips', WHERE WHAT IT READS IS OF BULK AT MOST 1048576: true; the input reads as it did. -/
def feedRoundTripsUptoRow : OpenClaim := { program := "ytioedeglgljblaa", sum := "94b18b50974771024155dadb9a386f04fcd24bea56ee05312294eefbeb1f2ac0", func := "signalbench/signalbenchlaw14.FeedRoundTrips", spec := "feedRoundTrips", unfollowed := true, recurses := true, apart := false, narrowed := true }
def FeedRoundTripsUptoSaid : Prop := feedRoundTripsUptoRow.holds Try.pinned (OpenSpec.upto feedRoundTripsSpec)

/-- 'signalbenchlaw14.FeedSelects', WHERE WHAT IT READS IS OF BULK AT MOST 1048576: true; the input reads as it did. -/
def feedSelectsUptoRow : OpenClaim := { program := "ytioedeglgljblaa", sum := "94b18b50974771024155dadb9a386f04fcd24bea56ee05312294eefbeb1f2ac0", func := "signalbench/signalbenchlaw14.FeedSelects", spec := "feedSelects", unfollowed := true, recurses := true, apart := false, narrowed := true }
def FeedSelectsUptoSaid : Prop := feedSelectsUptoRow.holds Try.pinned (OpenSpec.upto feedSelectsSpec)

end Rows
end Go.Proofs.Ytioedeglgljblaa
