/-
  No cell of these rows narrows 'for every input' (looked for: loops, veiled, ifaces, maps, wideKeys, modest, calm, conditions, laid).
  DERIVED. THE GIVEN ROWS OF THIS SEAT. 6 by the template 'for every input the law returns true; each argument reads behind the call as it read before'; 0 by the template 'total and deterministic' (their statements: YteifekndhgkgcaaTotals.lean).
  GIVEN WITH THE SEED: the statements are not yours to turn. If you find one false, say at which input.
  Laid BY PROGRAM, IN A SANDBOX (cutbox-rows.mjs): the forced cells as the released guide's own fill.sh prints them over the translation bf51ff854cd5924e… (all of the seat's roots in one cut). By AI agents, Wed Nov 11 2026. No macro, syntax, notation, axiom, sorry.
-/
import Derived.Test.YteifekndhgkgcaaChecked
import GoSem.Claim
import GoSem.ClaimJoined
import GoSem.ClaimMapViews
import Derived.JoinedTies
import Derived.KernelRfl
namespace Go.Proofs.Yteifekndhgkgcaa
/- THE CELL 'sum', in the pinned program and in every row, IS THE sha256 OF THE DUMP (.gsa) THAT YteifekndhgkgcaaProg.lean LOADS. Nothing in Lean hashes anything: it is a label: what it is worth is what the hold of that sum in a sandbox is worth. -/
noncomputable def Try.pinned : Pinned := { name := "yteifekndhgkgcaa", sum := "bf51ff854cd5924ebf371645f72159393838e85b6b6d94d468544adc5d852c5f", checked := Try.checked }
namespace Rows
def none {H : Type} : Left H := { results := [], args := [] }

/-- 'signalbenchlaw46.EvindexBuilds': WHATEVER THE INPUT: true; the input reads as it did. -/
def evindexBuildsSpec : ChangeSpec := { name := "evindexBuilds", fn := fun _ => fun
  | [d] => { results := [.lit (.bool true)], args := [d] }
  | _ => none }
def evindexBuildsRow : OpenClaim := { program := "yteifekndhgkgcaa", sum := "bf51ff854cd5924ebf371645f72159393838e85b6b6d94d468544adc5d852c5f", func := "signalbench/signalbenchlaw46.EvindexBuilds", spec := "evindexBuilds", unfollowed := true, recurses := true, plainKeys := false, apart := false }
def EvindexBuildsSaid : Prop := evindexBuildsRow.holds Try.pinned (OpenSpec.ofChange evindexBuildsSpec)

/-- ITS FALSE NEIGHBOUR: 'it returns false'. Refute it at one input. -/
def evindexBuildsWrong : ChangeSpec := { name := "evindexBuilds", fn := fun _ => fun
  | [d] => { results := [.lit (.bool false)], args := [d] }
  | _ => none }
def EvindexBuildsWrongFalsely : Prop := evindexBuildsRow.holds Try.pinned (OpenSpec.ofChange evindexBuildsWrong)

/-- 'signalbenchlaw46.EvindexChecks': WHATEVER THE INPUT: true; the input reads as it did. -/
def evindexChecksSpec : ChangeSpec := { name := "evindexChecks", fn := fun _ => fun
  | [d] => { results := [.lit (.bool true)], args := [d] }
  | _ => none }
def evindexChecksRow : OpenClaim := { program := "yteifekndhgkgcaa", sum := "bf51ff854cd5924ebf371645f72159393838e85b6b6d94d468544adc5d852c5f", func := "signalbench/signalbenchlaw46.EvindexChecks", spec := "evindexChecks", unfollowed := true, recurses := true, plainKeys := false, apart := false }
def EvindexChecksSaid : Prop := evindexChecksRow.holds Try.pinned (OpenSpec.ofChange evindexChecksSpec)

/-- ITS FALSE NEIGHBOUR: 'it returns false'. Refute it at one input. -/
def evindexChecksWrong : ChangeSpec := { name := "evindexChecks", fn := fun _ => fun
  | [d] => { results := [.lit (.bool false)], args := [d] }
  | _ => none }
def EvindexChecksWrongFalsely : Prop := evindexChecksRow.holds Try.pinned (OpenSpec.ofChange evindexChecksWrong)

/-- 'signalbenchlaw46.EvindexLooks': WHATEVER THE INPUT: true; the input reads as it did. -/
def evindexLooksSpec : ChangeSpec := { name := "evindexLooks", fn := fun _ => fun
  | [d1, d2, d3] => { results := [.lit (.bool true)], args := [d1, d2, d3] }
  | _ => none }
def evindexLooksRow : OpenClaim := { program := "yteifekndhgkgcaa", sum := "bf51ff854cd5924ebf371645f72159393838e85b6b6d94d468544adc5d852c5f", func := "signalbench/signalbenchlaw46.EvindexLooks", spec := "evindexLooks", unfollowed := true, recurses := true, plainKeys := false, apart := false }
def EvindexLooksSaid : Prop := evindexLooksRow.holds Try.pinned (OpenSpec.ofChange evindexLooksSpec)

/-- ITS FALSE NEIGHBOUR: 'it returns false'. Refute it at one input. -/
def evindexLooksWrong : ChangeSpec := { name := "evindexLooks", fn := fun _ => fun
  | [d1, d2, d3] => { results := [.lit (.bool false)], args := [d1, d2, d3] }
  | _ => none }
def EvindexLooksWrongFalsely : Prop := evindexLooksRow.holds Try.pinned (OpenSpec.ofChange evindexLooksWrong)

/-- 'signalbenchlaw46.EvindexComplete': WHATEVER THE INPUT: true; the input reads as it did. -/
def evindexCompleteSpec : ChangeSpec := { name := "evindexComplete", fn := fun _ => fun
  | [d] => { results := [.lit (.bool true)], args := [d] }
  | _ => none }
def evindexCompleteRow : OpenClaim := { program := "yteifekndhgkgcaa", sum := "bf51ff854cd5924ebf371645f72159393838e85b6b6d94d468544adc5d852c5f", func := "signalbench/signalbenchlaw46.EvindexComplete", spec := "evindexComplete", unfollowed := true, recurses := true, plainKeys := false, apart := false }
def EvindexCompleteSaid : Prop := evindexCompleteRow.holds Try.pinned (OpenSpec.ofChange evindexCompleteSpec)

/-- ITS FALSE NEIGHBOUR: 'it returns false'. Refute it at one input. -/
def evindexCompleteWrong : ChangeSpec := { name := "evindexComplete", fn := fun _ => fun
  | [d] => { results := [.lit (.bool false)], args := [d] }
  | _ => none }
def EvindexCompleteWrongFalsely : Prop := evindexCompleteRow.holds Try.pinned (OpenSpec.ofChange evindexCompleteWrong)

/-- 'signalbenchlaw46.EvindexCandidates': WHATEVER THE INPUT: true; the input reads as it did. -/
def evindexCandidatesSpec : ChangeSpec := { name := "evindexCandidates", fn := fun _ => fun
  | [d1, d2] => { results := [.lit (.bool true)], args := [d1, d2] }
  | _ => none }
def evindexCandidatesRow : OpenClaim := { program := "yteifekndhgkgcaa", sum := "bf51ff854cd5924ebf371645f72159393838e85b6b6d94d468544adc5d852c5f", func := "signalbench/signalbenchlaw46.EvindexCandidates", spec := "evindexCandidates", unfollowed := true, recurses := true, plainKeys := false, apart := false }
def EvindexCandidatesSaid : Prop := evindexCandidatesRow.holds Try.pinned (OpenSpec.ofChange evindexCandidatesSpec)

/-- ITS FALSE NEIGHBOUR: 'it returns false'. Refute it at one input. -/
def evindexCandidatesWrong : ChangeSpec := { name := "evindexCandidates", fn := fun _ => fun
  | [d1, d2] => { results := [.lit (.bool false)], args := [d1, d2] }
  | _ => none }
def EvindexCandidatesWrongFalsely : Prop := evindexCandidatesRow.holds Try.pinned (OpenSpec.ofChange evindexCandidatesWrong)

/-- 'signalbenchlaw46.EvindexNext': WHATEVER THE INPUT: true; the input reads as it did. -/
def evindexNextSpec : ChangeSpec := { name := "evindexNext", fn := fun _ => fun
  | [d1, d2] => { results := [.lit (.bool true)], args := [d1, d2] }
  | _ => none }
def evindexNextRow : OpenClaim := { program := "yteifekndhgkgcaa", sum := "bf51ff854cd5924ebf371645f72159393838e85b6b6d94d468544adc5d852c5f", func := "signalbench/signalbenchlaw46.EvindexNext", spec := "evindexNext", unfollowed := true, recurses := true, plainKeys := false, apart := false }
def EvindexNextSaid : Prop := evindexNextRow.holds Try.pinned (OpenSpec.ofChange evindexNextSpec)

/-- ITS FALSE NEIGHBOUR: 'it returns false'. Refute it at one input. -/
def evindexNextWrong : ChangeSpec := { name := "evindexNext", fn := fun _ => fun
  | [d1, d2] => { results := [.lit (.bool false)], args := [d1, d2] }
  | _ => none }
def EvindexNextWrongFalsely : Prop := evindexNextRow.holds Try.pinned (OpenSpec.ofChange evindexNextWrong)

/- THE SECOND FORM. 'bulk': how many values and letters a reading holds, each counted each time it is reached (what is shared counts as often as it is met; a slice's spare places count too). A statement '..UptoSaid' is the law's where the arguments, and the package variables that the reading takes, are together of bulk at most 1048576: NARROWER than '..Said'. Prove '..Said' where nothing that the law and all that it calls make is longer than what came in: it says more and counts as full. Else prove '..UptoSaid'. A law counts once. -/
mutual
def uptoBulk {H : Type} : DataW H → Nat
  | .lit (.string bytes) => bytes.length + 1
  | .lit _ => 1
  | .nil => 1
  | .ptr d => uptoBulk d + 1
  | .slice elems spare => uptoBulkAll elems + uptoBulkAll spare + 1
  | .agg parts => uptoBulkAll parts + 1
  | .iface _ d => uptoBulk d + 1
  | .map entries => uptoBulkEntries entries + 1
  | .held _ => 1
def uptoBulkAll {H : Type} : List (DataW H) → Nat
  | [] => 0
  | d :: r => uptoBulk d + uptoBulkAll r
def uptoBulkEntries {H : Type} : List (Lit × DataW H) → Nat
  | [] => 0
  | x :: r => uptoBulkEntry x + uptoBulkEntries r
def uptoBulkEntry {H : Type} : Lit × DataW H → Nat
  | (.string bytes, d) => bytes.length + uptoBulk d + 1
  | (_, d) => uptoBulk d + 1
 end
def uptoSmall : (H : Type) → List (DataW H) → Bool := fun _ ds => decide (uptoBulkAll ds ≤ 1048576)
def OpenSpec.upto (s : _root_.Go.ChangeSpec) : _root_.Go.OpenSpec := { _root_.Go.OpenSpec.ofChange s with cond := some uptoSmall }

/-- 'signalbenchlaw46.EvindexBuilds', WHERE WHAT IT READS IS OF BULK AT MOST 1048576: true; the input reads as it did. -/
def evindexBuildsUptoRow : OpenClaim := { program := "yteifekndhgkgcaa", sum := "bf51ff854cd5924ebf371645f72159393838e85b6b6d94d468544adc5d852c5f", func := "signalbench/signalbenchlaw46.EvindexBuilds", spec := "evindexBuilds", unfollowed := true, recurses := true, plainKeys := false, apart := false, narrowed := true }
def EvindexBuildsUptoSaid : Prop := evindexBuildsUptoRow.holds Try.pinned (OpenSpec.upto evindexBuildsSpec)

/-- 'signalbenchlaw46.EvindexChecks', WHERE WHAT IT READS IS OF BULK AT MOST 1048576: true; the input reads as it did. -/
def evindexChecksUptoRow : OpenClaim := { program := "yteifekndhgkgcaa", sum := "bf51ff854cd5924ebf371645f72159393838e85b6b6d94d468544adc5d852c5f", func := "signalbench/signalbenchlaw46.EvindexChecks", spec := "evindexChecks", unfollowed := true, recurses := true, plainKeys := false, apart := false, narrowed := true }
def EvindexChecksUptoSaid : Prop := evindexChecksUptoRow.holds Try.pinned (OpenSpec.upto evindexChecksSpec)

/-- 'signalbenchlaw46.EvindexLooks', WHERE WHAT IT READS IS OF BULK AT MOST 1048576: true; the input reads as it did. -/
def evindexLooksUptoRow : OpenClaim := { program := "yteifekndhgkgcaa", sum := "bf51ff854cd5924ebf371645f72159393838e85b6b6d94d468544adc5d852c5f", func := "signalbench/signalbenchlaw46.EvindexLooks", spec := "evindexLooks", unfollowed := true, recurses := true, plainKeys := false, apart := false, narrowed := true }
def EvindexLooksUptoSaid : Prop := evindexLooksUptoRow.holds Try.pinned (OpenSpec.upto evindexLooksSpec)

/-- 'signalbenchlaw46.EvindexComplete', WHERE WHAT IT READS IS OF BULK AT MOST 1048576: true; the input reads as it did. -/
def evindexCompleteUptoRow : OpenClaim := { program := "yteifekndhgkgcaa", sum := "bf51ff854cd5924ebf371645f72159393838e85b6b6d94d468544adc5d852c5f", func := "signalbench/signalbenchlaw46.EvindexComplete", spec := "evindexComplete", unfollowed := true, recurses := true, plainKeys := false, apart := false, narrowed := true }
def EvindexCompleteUptoSaid : Prop := evindexCompleteUptoRow.holds Try.pinned (OpenSpec.upto evindexCompleteSpec)

/-- 'signalbenchlaw46.EvindexCandidates', WHERE WHAT IT READS IS OF BULK AT MOST 1048576: true; the input reads as it did. -/
def evindexCandidatesUptoRow : OpenClaim := { program := "yteifekndhgkgcaa", sum := "bf51ff854cd5924ebf371645f72159393838e85b6b6d94d468544adc5d852c5f", func := "signalbench/signalbenchlaw46.EvindexCandidates", spec := "evindexCandidates", unfollowed := true, recurses := true, plainKeys := false, apart := false, narrowed := true }
def EvindexCandidatesUptoSaid : Prop := evindexCandidatesUptoRow.holds Try.pinned (OpenSpec.upto evindexCandidatesSpec)

/-- 'signalbenchlaw46.EvindexNext', WHERE WHAT IT READS IS OF BULK AT MOST 1048576: true; the input reads as it did. -/
def evindexNextUptoRow : OpenClaim := { program := "yteifekndhgkgcaa", sum := "bf51ff854cd5924ebf371645f72159393838e85b6b6d94d468544adc5d852c5f", func := "signalbench/signalbenchlaw46.EvindexNext", spec := "evindexNext", unfollowed := true, recurses := true, plainKeys := false, apart := false, narrowed := true }
def EvindexNextUptoSaid : Prop := evindexNextUptoRow.holds Try.pinned (OpenSpec.upto evindexNextSpec)

end Rows
end Go.Proofs.Yteifekndhgkgcaa
