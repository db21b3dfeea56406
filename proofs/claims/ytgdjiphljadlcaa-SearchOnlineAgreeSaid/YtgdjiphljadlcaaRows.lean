/-
  No cell of these rows narrows 'for every input' (looked for: loops, veiled, ifaces, maps, wideKeys, modest, calm, conditions, laid).
  DERIVED. THE GIVEN ROWS OF THIS SEAT. 13 by the template 'for every input the law returns true; each argument reads behind the call as it read before'; 0 by the template 'total and deterministic' (their statements: YtgdjiphljadlcaaTotals.lean).
  GIVEN WITH THE SEED: the statements are not yours to turn. If you find one false, say at which input.
  Laid BY PROGRAM, IN A SANDBOX (cutbox-rows.mjs): the forced cells as the released guide's own fill.sh prints them over the translation e9c8e7a0f04dc4b7… (all of the seat's roots in one cut). By AI agents, Wed Nov 11 2026. No macro, syntax, notation, axiom, sorry.
-/
import Derived.Test.YtgdjiphljadlcaaChecked
import GoSem.Claim
import GoSem.ClaimJoined
import GoSem.ClaimMapViews
import Derived.JoinedTies
import Derived.KernelRfl
namespace Go.Proofs.Ytgdjiphljadlcaa
/- THE CELL 'sum', in the pinned program and in every row, IS THE sha256 OF THE DUMP (.gsa) THAT YtgdjiphljadlcaaProg.lean LOADS. Nothing in Lean hashes anything: it is a label: what it is worth is what the hold of that sum in a sandbox is worth. -/
noncomputable def Try.pinned : Pinned := { name := "ytgdjiphljadlcaa", sum := "e9c8e7a0f04dc4b70f372326595d022942732954443ce971fb2321203e318da2", checked := Try.checked }
namespace Rows
def none {H : Type} : Left H := { results := [], args := [] }

/-- 'signalbenchlaw44.TrigautoCompiles': WHATEVER THE INPUT: true; the input reads as it did. -/
def trigautoCompilesSpec : ChangeSpec := { name := "trigautoCompiles", fn := fun _ => fun
  | [d1, d2] => { results := [.lit (.bool true)], args := [d1, d2] }
  | _ => none }
def trigautoCompilesRow : OpenClaim := { program := "ytgdjiphljadlcaa", sum := "e9c8e7a0f04dc4b70f372326595d022942732954443ce971fb2321203e318da2", func := "signalbench/signalbenchlaw44.TrigautoCompiles", spec := "trigautoCompiles", unfollowed := true, recurses := true, apart := false }
def TrigautoCompilesSaid : Prop := trigautoCompilesRow.holds Try.pinned (OpenSpec.ofChange trigautoCompilesSpec)

/-- ITS FALSE NEIGHBOUR: 'it returns false'. Refute it at one input. -/
def trigautoCompilesWrong : ChangeSpec := { name := "trigautoCompiles", fn := fun _ => fun
  | [d1, d2] => { results := [.lit (.bool false)], args := [d1, d2] }
  | _ => none }
def TrigautoCompilesWrongFalsely : Prop := trigautoCompilesRow.holds Try.pinned (OpenSpec.ofChange trigautoCompilesWrong)

/-- 'signalbenchlaw44.TrigautoChecks': WHATEVER THE INPUT: true; the input reads as it did. -/
def trigautoChecksSpec : ChangeSpec := { name := "trigautoChecks", fn := fun _ => fun
  | [d] => { results := [.lit (.bool true)], args := [d] }
  | _ => none }
def trigautoChecksRow : OpenClaim := { program := "ytgdjiphljadlcaa", sum := "e9c8e7a0f04dc4b70f372326595d022942732954443ce971fb2321203e318da2", func := "signalbench/signalbenchlaw44.TrigautoChecks", spec := "trigautoChecks", unfollowed := true, recurses := true, apart := false }
def TrigautoChecksSaid : Prop := trigautoChecksRow.holds Try.pinned (OpenSpec.ofChange trigautoChecksSpec)

/-- ITS FALSE NEIGHBOUR: 'it returns false'. Refute it at one input. -/
def trigautoChecksWrong : ChangeSpec := { name := "trigautoChecks", fn := fun _ => fun
  | [d] => { results := [.lit (.bool false)], args := [d] }
  | _ => none }
def TrigautoChecksWrongFalsely : Prop := trigautoChecksRow.holds Try.pinned (OpenSpec.ofChange trigautoChecksWrong)

/-- 'signalbenchlaw44.TrigautoConds': WHATEVER THE INPUT: true; the input reads as it did. -/
def trigautoCondsSpec : ChangeSpec := { name := "trigautoConds", fn := fun _ => fun
  | [d1, d2] => { results := [.lit (.bool true)], args := [d1, d2] }
  | _ => none }
def trigautoCondsRow : OpenClaim := { program := "ytgdjiphljadlcaa", sum := "e9c8e7a0f04dc4b70f372326595d022942732954443ce971fb2321203e318da2", func := "signalbench/signalbenchlaw44.TrigautoConds", spec := "trigautoConds", unfollowed := true, recurses := true, apart := false }
def TrigautoCondsSaid : Prop := trigautoCondsRow.holds Try.pinned (OpenSpec.ofChange trigautoCondsSpec)

/-- ITS FALSE NEIGHBOUR: 'it returns false'. Refute it at one input. -/
def trigautoCondsWrong : ChangeSpec := { name := "trigautoConds", fn := fun _ => fun
  | [d1, d2] => { results := [.lit (.bool false)], args := [d1, d2] }
  | _ => none }
def TrigautoCondsWrongFalsely : Prop := trigautoCondsRow.holds Try.pinned (OpenSpec.ofChange trigautoCondsWrong)

/-- 'signalbenchlaw44.TrigautoValid': WHATEVER THE INPUT: true; the input reads as it did. -/
def trigautoValidSpec : ChangeSpec := { name := "trigautoValid", fn := fun _ => fun
  | [d1, d2] => { results := [.lit (.bool true)], args := [d1, d2] }
  | _ => none }
def trigautoValidRow : OpenClaim := { program := "ytgdjiphljadlcaa", sum := "e9c8e7a0f04dc4b70f372326595d022942732954443ce971fb2321203e318da2", func := "signalbench/signalbenchlaw44.TrigautoValid", spec := "trigautoValid", unfollowed := true, recurses := true, apart := false }
def TrigautoValidSaid : Prop := trigautoValidRow.holds Try.pinned (OpenSpec.ofChange trigautoValidSpec)

/-- ITS FALSE NEIGHBOUR: 'it returns false'. Refute it at one input. -/
def trigautoValidWrong : ChangeSpec := { name := "trigautoValid", fn := fun _ => fun
  | [d1, d2] => { results := [.lit (.bool false)], args := [d1, d2] }
  | _ => none }
def TrigautoValidWrongFalsely : Prop := trigautoValidRow.holds Try.pinned (OpenSpec.ofChange trigautoValidWrong)

/-- 'signalbenchlaw44.TrigautoCompares': WHATEVER THE INPUT: true; the input reads as it did. -/
def trigautoComparesSpec : ChangeSpec := { name := "trigautoCompares", fn := fun _ => fun
  | [d1, d2] => { results := [.lit (.bool true)], args := [d1, d2] }
  | _ => none }
def trigautoComparesRow : OpenClaim := { program := "ytgdjiphljadlcaa", sum := "e9c8e7a0f04dc4b70f372326595d022942732954443ce971fb2321203e318da2", func := "signalbench/signalbenchlaw44.TrigautoCompares", spec := "trigautoCompares", unfollowed := true, recurses := true, apart := false }
def TrigautoComparesSaid : Prop := trigautoComparesRow.holds Try.pinned (OpenSpec.ofChange trigautoComparesSpec)

/-- ITS FALSE NEIGHBOUR: 'it returns false'. Refute it at one input. -/
def trigautoComparesWrong : ChangeSpec := { name := "trigautoCompares", fn := fun _ => fun
  | [d1, d2] => { results := [.lit (.bool false)], args := [d1, d2] }
  | _ => none }
def TrigautoComparesWrongFalsely : Prop := trigautoComparesRow.holds Try.pinned (OpenSpec.ofChange trigautoComparesWrong)

/-- 'signalbenchlaw47.SearchMatches': WHATEVER THE INPUT: true; the input reads as it did. -/
def searchMatchesSpec : ChangeSpec := { name := "searchMatches", fn := fun _ => fun
  | [d1, d2, d3] => { results := [.lit (.bool true)], args := [d1, d2, d3] }
  | _ => none }
def searchMatchesRow : OpenClaim := { program := "ytgdjiphljadlcaa", sum := "e9c8e7a0f04dc4b70f372326595d022942732954443ce971fb2321203e318da2", func := "signalbench/signalbenchlaw47.SearchMatches", spec := "searchMatches", unfollowed := true, recurses := true, apart := false }
def SearchMatchesSaid : Prop := searchMatchesRow.holds Try.pinned (OpenSpec.ofChange searchMatchesSpec)

/-- ITS FALSE NEIGHBOUR: 'it returns false'. Refute it at one input. -/
def searchMatchesWrong : ChangeSpec := { name := "searchMatches", fn := fun _ => fun
  | [d1, d2, d3] => { results := [.lit (.bool false)], args := [d1, d2, d3] }
  | _ => none }
def SearchMatchesWrongFalsely : Prop := searchMatchesRow.holds Try.pinned (OpenSpec.ofChange searchMatchesWrong)

/-- 'signalbenchlaw47.SearchFinds': WHATEVER THE INPUT: true; the input reads as it did. -/
def searchFindsSpec : ChangeSpec := { name := "searchFinds", fn := fun _ => fun
  | [d1, d2, d3] => { results := [.lit (.bool true)], args := [d1, d2, d3] }
  | _ => none }
def searchFindsRow : OpenClaim := { program := "ytgdjiphljadlcaa", sum := "e9c8e7a0f04dc4b70f372326595d022942732954443ce971fb2321203e318da2", func := "signalbench/signalbenchlaw47.SearchFinds", spec := "searchFinds", unfollowed := true, recurses := true, apart := false }
def SearchFindsSaid : Prop := searchFindsRow.holds Try.pinned (OpenSpec.ofChange searchFindsSpec)

/-- ITS FALSE NEIGHBOUR: 'it returns false'. Refute it at one input. -/
def searchFindsWrong : ChangeSpec := { name := "searchFinds", fn := fun _ => fun
  | [d1, d2, d3] => { results := [.lit (.bool false)], args := [d1, d2, d3] }
  | _ => none }
def SearchFindsWrongFalsely : Prop := searchFindsRow.holds Try.pinned (OpenSpec.ofChange searchFindsWrong)

/-- 'signalbenchlaw47.SearchTraces': WHATEVER THE INPUT: true; the input reads as it did. -/
def searchTracesSpec : ChangeSpec := { name := "searchTraces", fn := fun _ => fun
  | [d1, d2, d3] => { results := [.lit (.bool true)], args := [d1, d2, d3] }
  | _ => none }
def searchTracesRow : OpenClaim := { program := "ytgdjiphljadlcaa", sum := "e9c8e7a0f04dc4b70f372326595d022942732954443ce971fb2321203e318da2", func := "signalbench/signalbenchlaw47.SearchTraces", spec := "searchTraces", unfollowed := true, recurses := true, apart := false }
def SearchTracesSaid : Prop := searchTracesRow.holds Try.pinned (OpenSpec.ofChange searchTracesSpec)

/-- ITS FALSE NEIGHBOUR: 'it returns false'. Refute it at one input. -/
def searchTracesWrong : ChangeSpec := { name := "searchTraces", fn := fun _ => fun
  | [d1, d2, d3] => { results := [.lit (.bool false)], args := [d1, d2, d3] }
  | _ => none }
def SearchTracesWrongFalsely : Prop := searchTracesRow.holds Try.pinned (OpenSpec.ofChange searchTracesWrong)

/-- 'signalbenchlaw47.SearchSound': WHATEVER THE INPUT: true; the input reads as it did. -/
def searchSoundSpec : ChangeSpec := { name := "searchSound", fn := fun _ => fun
  | [d1, d2, d3] => { results := [.lit (.bool true)], args := [d1, d2, d3] }
  | _ => none }
def searchSoundRow : OpenClaim := { program := "ytgdjiphljadlcaa", sum := "e9c8e7a0f04dc4b70f372326595d022942732954443ce971fb2321203e318da2", func := "signalbench/signalbenchlaw47.SearchSound", spec := "searchSound", unfollowed := true, recurses := true, apart := false }
def SearchSoundSaid : Prop := searchSoundRow.holds Try.pinned (OpenSpec.ofChange searchSoundSpec)

/-- ITS FALSE NEIGHBOUR: 'it returns false'. Refute it at one input. -/
def searchSoundWrong : ChangeSpec := { name := "searchSound", fn := fun _ => fun
  | [d1, d2, d3] => { results := [.lit (.bool false)], args := [d1, d2, d3] }
  | _ => none }
def SearchSoundWrongFalsely : Prop := searchSoundRow.holds Try.pinned (OpenSpec.ofChange searchSoundWrong)

/-- 'signalbenchlaw47.SearchComplete': WHATEVER THE INPUT: true; the input reads as it did. -/
def searchCompleteSpec : ChangeSpec := { name := "searchComplete", fn := fun _ => fun
  | [d1, d2, d3] => { results := [.lit (.bool true)], args := [d1, d2, d3] }
  | _ => none }
def searchCompleteRow : OpenClaim := { program := "ytgdjiphljadlcaa", sum := "e9c8e7a0f04dc4b70f372326595d022942732954443ce971fb2321203e318da2", func := "signalbench/signalbenchlaw47.SearchComplete", spec := "searchComplete", unfollowed := true, recurses := true, apart := false }
def SearchCompleteSaid : Prop := searchCompleteRow.holds Try.pinned (OpenSpec.ofChange searchCompleteSpec)

/-- ITS FALSE NEIGHBOUR: 'it returns false'. Refute it at one input. -/
def searchCompleteWrong : ChangeSpec := { name := "searchComplete", fn := fun _ => fun
  | [d1, d2, d3] => { results := [.lit (.bool false)], args := [d1, d2, d3] }
  | _ => none }
def SearchCompleteWrongFalsely : Prop := searchCompleteRow.holds Try.pinned (OpenSpec.ofChange searchCompleteWrong)

/-- 'signalbenchlaw47.SearchPrefixes': WHATEVER THE INPUT: true; the input reads as it did. -/
def searchPrefixesSpec : ChangeSpec := { name := "searchPrefixes", fn := fun _ => fun
  | [d1, d2, d3] => { results := [.lit (.bool true)], args := [d1, d2, d3] }
  | _ => none }
def searchPrefixesRow : OpenClaim := { program := "ytgdjiphljadlcaa", sum := "e9c8e7a0f04dc4b70f372326595d022942732954443ce971fb2321203e318da2", func := "signalbench/signalbenchlaw47.SearchPrefixes", spec := "searchPrefixes", unfollowed := true, recurses := true, apart := false }
def SearchPrefixesSaid : Prop := searchPrefixesRow.holds Try.pinned (OpenSpec.ofChange searchPrefixesSpec)

/-- ITS FALSE NEIGHBOUR: 'it returns false'. Refute it at one input. -/
def searchPrefixesWrong : ChangeSpec := { name := "searchPrefixes", fn := fun _ => fun
  | [d1, d2, d3] => { results := [.lit (.bool false)], args := [d1, d2, d3] }
  | _ => none }
def SearchPrefixesWrongFalsely : Prop := searchPrefixesRow.holds Try.pinned (OpenSpec.ofChange searchPrefixesWrong)

/-- 'signalbenchlaw44.TrigautoHolds': WHATEVER THE INPUT: true; the input reads as it did. -/
def trigautoHoldsSpec : ChangeSpec := { name := "trigautoHolds", fn := fun _ => fun
  | [d1, d2, d3] => { results := [.lit (.bool true)], args := [d1, d2, d3] }
  | _ => none }
def trigautoHoldsRow : OpenClaim := { program := "ytgdjiphljadlcaa", sum := "e9c8e7a0f04dc4b70f372326595d022942732954443ce971fb2321203e318da2", func := "signalbench/signalbenchlaw44.TrigautoHolds", spec := "trigautoHolds", unfollowed := true, recurses := true, apart := false }
def TrigautoHoldsSaid : Prop := trigautoHoldsRow.holds Try.pinned (OpenSpec.ofChange trigautoHoldsSpec)

/-- ITS FALSE NEIGHBOUR: 'it returns false'. Refute it at one input. -/
def trigautoHoldsWrong : ChangeSpec := { name := "trigautoHolds", fn := fun _ => fun
  | [d1, d2, d3] => { results := [.lit (.bool false)], args := [d1, d2, d3] }
  | _ => none }
def TrigautoHoldsWrongFalsely : Prop := trigautoHoldsRow.holds Try.pinned (OpenSpec.ofChange trigautoHoldsWrong)

/-- 'signalbenchlaw47.SearchOnlineAgree': WHATEVER THE INPUT: true; the input reads as it did. -/
def searchOnlineAgreeSpec : ChangeSpec := { name := "searchOnlineAgree", fn := fun _ => fun
  | [d1, d2] => { results := [.lit (.bool true)], args := [d1, d2] }
  | _ => none }
def searchOnlineAgreeRow : OpenClaim := { program := "ytgdjiphljadlcaa", sum := "e9c8e7a0f04dc4b70f372326595d022942732954443ce971fb2321203e318da2", func := "signalbench/signalbenchlaw47.SearchOnlineAgree", spec := "searchOnlineAgree", unfollowed := true, recurses := true, apart := false }
def SearchOnlineAgreeSaid : Prop := searchOnlineAgreeRow.holds Try.pinned (OpenSpec.ofChange searchOnlineAgreeSpec)

/-- ITS FALSE NEIGHBOUR: 'it returns false'. Refute it at one input. -/
def searchOnlineAgreeWrong : ChangeSpec := { name := "searchOnlineAgree", fn := fun _ => fun
  | [d1, d2] => { results := [.lit (.bool false)], args := [d1, d2] }
  | _ => none }
def SearchOnlineAgreeWrongFalsely : Prop := searchOnlineAgreeRow.holds Try.pinned (OpenSpec.ofChange searchOnlineAgreeWrong)

/- THE SECOND FORM. 'bulk': how many values and letters a reading holds, each counted each time it is reached (what is shared counts as often as it is met; a slice's spare places count too). A statement '..UptoSaid' is the law's where the arguments, and the package variables that the reading takes, are together of bulk at most 1048576: NARROWER than '..Said'. Prove '..Said' where nothing that the law and all that it calls make is longer than what came in: it says more and counts as full. Else prove '..UptoSaid'. A law counts once. -/
mutual
def uptoBulk {H : Type} : DataW H → Nat
  | .lit (.string bytes) => bytes.length + 1
  | .lit _ => 1
  | .nil => 1
  | .ptr d => uptoBulk d + 1
  | .slice elems spare => uptoBulkAll elems + uptoBulkAll spare + 1
  | .agg parts => uptoBulkAll parts + 1
  | .iface _ d => uptoBulk d + 1
  | .map entries => uptoBulkEntries entries + 1
  | .held _ => 1
def uptoBulkAll {H : Type} : List (DataW H) → Nat
  | [] => 0
  | d :: r => uptoBulk d + uptoBulkAll r
def uptoBulkEntries {H : Type} : List (Lit × DataW H) → Nat
  | [] => 0
  | x :: r => uptoBulkEntry x + uptoBulkEntries r
def uptoBulkEntry {H : Type} : Lit × DataW H → Nat
  | (.string bytes, d) => bytes.length + uptoBulk d + 1
  | (_, d) => uptoBulk d + 1
 end
def uptoSmall : (H : Type) → List (DataW H) → Bool := fun _ ds => decide (uptoBulkAll ds ≤ 1048576)
def OpenSpec.upto (s : _root_.Go.ChangeSpec) : _root_.Go.OpenSpec := { _root_.Go.OpenSpec.ofChange s with cond := some uptoSmall }

/-- 'signalbenchlaw44.TrigautoCompiles', WHERE WHAT IT READS IS OF BULK AT MOST 1048576: true; the input reads as it did. -/
def trigautoCompilesUptoRow : OpenClaim := { program := "ytgdjiphljadlcaa", sum := "e9c8e7a0f04dc4b70f372326595d022942732954443ce971fb2321203e318da2", func := "signalbench/signalbenchlaw44.TrigautoCompiles", spec := "trigautoCompiles", unfollowed := true, recurses := true, apart := false, narrowed := true }
def TrigautoCompilesUptoSaid : Prop := trigautoCompilesUptoRow.holds Try.pinned (OpenSpec.upto trigautoCompilesSpec)

/-- 'signalbenchlaw44.TrigautoChecks', WHERE WHAT IT READS IS OF BULK AT MOST 1048576: true; the input reads as it did. -/
def trigautoChecksUptoRow : OpenClaim := { program := "ytgdjiphljadlcaa", sum := "e9c8e7a0f04dc4b70f372326595d022942732954443ce971fb2321203e318da2", func := "signalbench/signalbenchlaw44.TrigautoChecks", spec := "trigautoChecks", unfollowed := true, recurses := true, apart := false, narrowed := true }
def TrigautoChecksUptoSaid : Prop := trigautoChecksUptoRow.holds Try.pinned (OpenSpec.upto trigautoChecksSpec)

/-- 'signalbenchlaw44.TrigautoConds', WHERE WHAT IT READS IS OF BULK AT MOST 1048576: true; the input reads as it did. -/
def trigautoCondsUptoRow : OpenClaim := { program := "ytgdjiphljadlcaa", sum := "e9c8e7a0f04dc4b70f372326595d022942732954443ce971fb2321203e318da2", func := "signalbench/signalbenchlaw44.TrigautoConds", spec := "trigautoConds", unfollowed := true, recurses := true, apart := false, narrowed := true }
def TrigautoCondsUptoSaid : Prop := trigautoCondsUptoRow.holds Try.pinned (OpenSpec.upto trigautoCondsSpec)

/-- 'signalbenchlaw44.TrigautoValid', WHERE WHAT IT READS IS OF BULK AT MOST 1048576: true; the input reads as it did. -/
def trigautoValidUptoRow : OpenClaim := { program := "ytgdjiphljadlcaa", sum := "e9c8e7a0f04dc4b70f372326595d022942732954443ce971fb2321203e318da2", func := "signalbench/signalbenchlaw44.TrigautoValid", spec := "trigautoValid", unfollowed := true, recurses := true, apart := false, narrowed := true }
def TrigautoValidUptoSaid : Prop := trigautoValidUptoRow.holds Try.pinned (OpenSpec.upto trigautoValidSpec)

/-- 'signalbenchlaw44.TrigautoCompares', WHERE WHAT IT READS IS OF BULK AT MOST 1048576: true; the input reads as it did. -/
def trigautoComparesUptoRow : OpenClaim := { program := "ytgdjiphljadlcaa", sum := "e9c8e7a0f04dc4b70f372326595d022942732954443ce971fb2321203e318da2", func := "signalbench/signalbenchlaw44.TrigautoCompares", spec := "trigautoCompares", unfollowed := true, recurses := true, apart := false, narrowed := true }
def TrigautoComparesUptoSaid : Prop := trigautoComparesUptoRow.holds Try.pinned (OpenSpec.upto trigautoComparesSpec)

/-- 'signalbenchlaw47.SearchMatches', WHERE WHAT IT READS IS OF BULK AT MOST 1048576: true; the input reads as it did. -/
def searchMatchesUptoRow : OpenClaim := { program := "ytgdjiphljadlcaa", sum := "e9c8e7a0f04dc4b70f372326595d022942732954443ce971fb2321203e318da2", func := "signalbench/signalbenchlaw47.SearchMatches", spec := "searchMatches", unfollowed := true, recurses := true, apart := false, narrowed := true }
def SearchMatchesUptoSaid : Prop := searchMatchesUptoRow.holds Try.pinned (OpenSpec.upto searchMatchesSpec)

/-- 'signalbenchlaw47.SearchFinds', WHERE WHAT IT READS IS OF BULK AT MOST 1048576: true; the input reads as it did. -/
def searchFindsUptoRow : OpenClaim := { program := "ytgdjiphljadlcaa", sum := "e9c8e7a0f04dc4b70f372326595d022942732954443ce971fb2321203e318da2", func := "signalbench/signalbenchlaw47.SearchFinds", spec := "searchFinds", unfollowed := true, recurses := true, apart := false, narrowed := true }
def SearchFindsUptoSaid : Prop := searchFindsUptoRow.holds Try.pinned (OpenSpec.upto searchFindsSpec)

/-- 'signalbenchlaw47.SearchTraces', WHERE WHAT IT READS IS OF BULK AT MOST 1048576: true; the input reads as it did. -/
def searchTracesUptoRow : OpenClaim := { program := "ytgdjiphljadlcaa", sum := "e9c8e7a0f04dc4b70f372326595d022942732954443ce971fb2321203e318da2", func := "signalbench/signalbenchlaw47.SearchTraces", spec := "searchTraces", unfollowed := true, recurses := true, apart := false, narrowed := true }
def SearchTracesUptoSaid : Prop := searchTracesUptoRow.holds Try.pinned (OpenSpec.upto searchTracesSpec)

/-- 'signalbenchlaw47.SearchSound', WHERE WHAT IT READS IS OF BULK AT MOST 1048576: true; the input reads as it did. -/
def searchSoundUptoRow : OpenClaim := { program := "ytgdjiphljadlcaa", sum := "e9c8e7a0f04dc4b70f372326595d022942732954443ce971fb2321203e318da2", func := "signalbench/signalbenchlaw47.SearchSound", spec := "searchSound", unfollowed := true, recurses := true, apart := false, narrowed := true }
def SearchSoundUptoSaid : Prop := searchSoundUptoRow.holds Try.pinned (OpenSpec.upto searchSoundSpec)

/-- 'signalbenchlaw47.SearchComplete', WHERE WHAT IT READS IS OF BULK AT MOST 1048576: true; the input reads as it did. -/
def searchCompleteUptoRow : OpenClaim := { program := "ytgdjiphljadlcaa", sum := "e9c8e7a0f04dc4b70f372326595d022942732954443ce971fb2321203e318da2", func := "signalbench/signalbenchlaw47.SearchComplete", spec := "searchComplete", unfollowed := true, recurses := true, apart := false, narrowed := true }
def SearchCompleteUptoSaid : Prop := searchCompleteUptoRow.holds Try.pinned (OpenSpec.upto searchCompleteSpec)

/-- 'signalbenchlaw47.SearchPrefixes', WHERE WHAT IT READS IS OF BULK AT MOST 1048576: true; the input reads as it did. -/
def searchPrefixesUptoRow : OpenClaim := { program := "ytgdjiphljadlcaa", sum := "e9c8e7a0f04dc4b70f372326595d022942732954443ce971fb2321203e318da2", func := "signalbench/signalbenchlaw47.SearchPrefixes", spec := "searchPrefixes", unfollowed := true, recurses := true, apart := false, narrowed := true }
def SearchPrefixesUptoSaid : Prop := searchPrefixesUptoRow.holds Try.pinned (OpenSpec.upto searchPrefixesSpec)

/-- 'signalbenchlaw44.TrigautoHolds', WHERE WHAT IT READS IS OF BULK AT MOST 1048576: true; the input reads as it did. -/
def trigautoHoldsUptoRow : OpenClaim := { program := "ytgdjiphljadlcaa", sum := "e9c8e7a0f04dc4b70f372326595d022942732954443ce971fb2321203e318da2", func := "signalbench/signalbenchlaw44.TrigautoHolds", spec := "trigautoHolds", unfollowed := true, recurses := true, apart := false, narrowed := true }
def TrigautoHoldsUptoSaid : Prop := trigautoHoldsUptoRow.holds Try.pinned (OpenSpec.upto trigautoHoldsSpec)

/-- 'signalbenchlaw47.SearchOnlineAgree', WHERE WHAT IT READS IS OF BULK AT MOST 1048576: true; the input reads as it did. -/
def searchOnlineAgreeUptoRow : OpenClaim := { program := "ytgdjiphljadlcaa", sum := "e9c8e7a0f04dc4b70f372326595d022942732954443ce971fb2321203e318da2", func := "signalbench/signalbenchlaw47.SearchOnlineAgree", spec := "searchOnlineAgree", unfollowed := true, recurses := true, apart := false, narrowed := true }
def SearchOnlineAgreeUptoSaid : Prop := searchOnlineAgreeUptoRow.holds Try.pinned (OpenSpec.upto searchOnlineAgreeSpec)

end Rows
end Go.Proofs.Ytgdjiphljadlcaa
