/-
  No cell of these rows narrows 'for every input' (looked for: loops, veiled, ifaces, maps, wideKeys, modest, calm, conditions, laid).
  DERIVED. THE GIVEN ROWS OF THIS SEAT. 6 by the template 'for every input the law returns true; each argument reads behind the call as it read before'; 0 by the template 'total and deterministic' (their statements: YtbkncndagheijaaTotals.lean).
  GIVEN WITH THE SEED: the statements are not yours to turn. If you find one false, say at which input.
  Laid BY PROGRAM, IN A SANDBOX (cutbox-rows.mjs): the forced cells as the released guide's own fill.sh prints them over the translation 13513f49f1322ea8… (all of the seat's roots in one cut). By AI agents, Wed Nov 11 2026. No macro, syntax, notation, axiom, sorry.
-/
import Derived.Test.YtbkncndagheijaaChecked
import GoSem.Claim
import GoSem.ClaimJoined
import GoSem.ClaimMapViews
import Derived.JoinedTies
import Derived.KernelRfl
namespace Go.Proofs.Ytbkncndagheijaa
/- THE CELL 'sum', in the pinned program and in every row, IS THE sha256 OF THE DUMP (.gsa) THAT YtbkncndagheijaaProg.lean LOADS. Nothing in Lean hashes anything: it is a label: what it is worth is what the hold of that sum in a sandbox is worth. -/
noncomputable def Try.pinned : Pinned := { name := "ytbkncndagheijaa", sum := "13513f49f1322ea8f47ffd60ccb43fddd2fb4ddb5879c76a1ea73467367d20d9", checked := Try.checked }
namespace Rows
def none {H : Type} : Left H := { results := [], args := [] }

/-- 'signalbenchlaw54.AlignPairs': WHATEVER THE INPUT: true; the input reads as it did. -/
def alignPairsSpec : ChangeSpec := { name := "alignPairs", fn := fun _ => fun
  | [d1, d2] => { results := [.lit (.bool true)], args := [d1, d2] }
  | _ => none }
def alignPairsRow : OpenClaim := { program := "ytbkncndagheijaa", sum := "13513f49f1322ea8f47ffd60ccb43fddd2fb4ddb5879c76a1ea73467367d20d9", func := "signalbench/signalbenchlaw54.AlignPairs", spec := "alignPairs", apart := false }
def AlignPairsSaid : Prop := alignPairsRow.holds Try.pinned (OpenSpec.ofChange alignPairsSpec)

/-- ITS FALSE NEIGHBOUR: 'it returns false'. Refute it at one input. -/
def alignPairsWrong : ChangeSpec := { name := "alignPairs", fn := fun _ => fun
  | [d1, d2] => { results := [.lit (.bool false)], args := [d1, d2] }
  | _ => none }
def AlignPairsWrongFalsely : Prop := alignPairsRow.holds Try.pinned (OpenSpec.ofChange alignPairsWrong)

/-- 'signalbenchlaw54.AlignChecks': WHATEVER THE INPUT: true; the input reads as it did. -/
def alignChecksSpec : ChangeSpec := { name := "alignChecks", fn := fun _ => fun
  | [d1, d2, d3] => { results := [.lit (.bool true)], args := [d1, d2, d3] }
  | _ => none }
def alignChecksRow : OpenClaim := { program := "ytbkncndagheijaa", sum := "13513f49f1322ea8f47ffd60ccb43fddd2fb4ddb5879c76a1ea73467367d20d9", func := "signalbench/signalbenchlaw54.AlignChecks", spec := "alignChecks", apart := false }
def AlignChecksSaid : Prop := alignChecksRow.holds Try.pinned (OpenSpec.ofChange alignChecksSpec)

/-- ITS FALSE NEIGHBOUR: 'it returns false'. Refute it at one input. -/
def alignChecksWrong : ChangeSpec := { name := "alignChecks", fn := fun _ => fun
  | [d1, d2, d3] => { results := [.lit (.bool false)], args := [d1, d2, d3] }
  | _ => none }
def AlignChecksWrongFalsely : Prop := alignChecksRow.holds Try.pinned (OpenSpec.ofChange alignChecksWrong)

/-- 'signalbenchlaw54.AlignOffsets': WHATEVER THE INPUT: true; the input reads as it did. -/
def alignOffsetsSpec : ChangeSpec := { name := "alignOffsets", fn := fun _ => fun
  | [d1, d2] => { results := [.lit (.bool true)], args := [d1, d2] }
  | _ => none }
def alignOffsetsRow : OpenClaim := { program := "ytbkncndagheijaa", sum := "13513f49f1322ea8f47ffd60ccb43fddd2fb4ddb5879c76a1ea73467367d20d9", func := "signalbench/signalbenchlaw54.AlignOffsets", spec := "alignOffsets", apart := false }
def AlignOffsetsSaid : Prop := alignOffsetsRow.holds Try.pinned (OpenSpec.ofChange alignOffsetsSpec)

/-- ITS FALSE NEIGHBOUR: 'it returns false'. Refute it at one input. -/
def alignOffsetsWrong : ChangeSpec := { name := "alignOffsets", fn := fun _ => fun
  | [d1, d2] => { results := [.lit (.bool false)], args := [d1, d2] }
  | _ => none }
def AlignOffsetsWrongFalsely : Prop := alignOffsetsRow.holds Try.pinned (OpenSpec.ofChange alignOffsetsWrong)

/-- 'signalbenchlaw54.AlignShortest': WHATEVER THE INPUT: true; the input reads as it did. -/
def alignShortestSpec : ChangeSpec := { name := "alignShortest", fn := fun _ => fun
  | [d1, d2, d3] => { results := [.lit (.bool true)], args := [d1, d2, d3] }
  | _ => none }
def alignShortestRow : OpenClaim := { program := "ytbkncndagheijaa", sum := "13513f49f1322ea8f47ffd60ccb43fddd2fb4ddb5879c76a1ea73467367d20d9", func := "signalbench/signalbenchlaw54.AlignShortest", spec := "alignShortest", apart := false }
def AlignShortestSaid : Prop := alignShortestRow.holds Try.pinned (OpenSpec.ofChange alignShortestSpec)

/-- ITS FALSE NEIGHBOUR: 'it returns false'. Refute it at one input. -/
def alignShortestWrong : ChangeSpec := { name := "alignShortest", fn := fun _ => fun
  | [d1, d2, d3] => { results := [.lit (.bool false)], args := [d1, d2, d3] }
  | _ => none }
def AlignShortestWrongFalsely : Prop := alignShortestRow.holds Try.pinned (OpenSpec.ofChange alignShortestWrong)

/-- 'signalbenchlaw54.AlignMetric': WHATEVER THE INPUT: true; the input reads as it did. -/
def alignMetricSpec : ChangeSpec := { name := "alignMetric", fn := fun _ => fun
  | [d1, d2, d3] => { results := [.lit (.bool true)], args := [d1, d2, d3] }
  | _ => none }
def alignMetricRow : OpenClaim := { program := "ytbkncndagheijaa", sum := "13513f49f1322ea8f47ffd60ccb43fddd2fb4ddb5879c76a1ea73467367d20d9", func := "signalbench/signalbenchlaw54.AlignMetric", spec := "alignMetric", apart := false }
def AlignMetricSaid : Prop := alignMetricRow.holds Try.pinned (OpenSpec.ofChange alignMetricSpec)

/-- ITS FALSE NEIGHBOUR: 'it returns false'. Refute it at one input. -/
def alignMetricWrong : ChangeSpec := { name := "alignMetric", fn := fun _ => fun
  | [d1, d2, d3] => { results := [.lit (.bool false)], args := [d1, d2, d3] }
  | _ => none }
def AlignMetricWrongFalsely : Prop := alignMetricRow.holds Try.pinned (OpenSpec.ofChange alignMetricWrong)

/-- 'signalbenchlaw54.AlignLimits': WHATEVER THE INPUT: true; the input reads as it did. -/
def alignLimitsSpec : ChangeSpec := { name := "alignLimits", fn := fun _ => fun
  | [d] => { results := [.lit (.bool true)], args := [d] }
  | _ => none }
def alignLimitsRow : OpenClaim := { program := "ytbkncndagheijaa", sum := "13513f49f1322ea8f47ffd60ccb43fddd2fb4ddb5879c76a1ea73467367d20d9", func := "signalbench/signalbenchlaw54.AlignLimits", spec := "alignLimits", apart := false }
def AlignLimitsSaid : Prop := alignLimitsRow.holds Try.pinned (OpenSpec.ofChange alignLimitsSpec)

/-- ITS FALSE NEIGHBOUR: 'it returns false'. Refute it at one input. -/
def alignLimitsWrong : ChangeSpec := { name := "alignLimits", fn := fun _ => fun
  | [d] => { results := [.lit (.bool false)], args := [d] }
  | _ => none }
def AlignLimitsWrongFalsely : Prop := alignLimitsRow.holds Try.pinned (OpenSpec.ofChange alignLimitsWrong)

/- THE SECOND FORM. 'bulk': how many values and letters a reading holds, each counted each time it is reached (what is shared counts as often as it is met; a slice's spare places count too). A statement '..UptoSaid' is the law's where the arguments, and the package variables that the reading takes, are together of bulk at most 1048576: NARROWER than '..Said'. Prove '..Said' where nothing that the law and all that it calls make is longer than what came in: it says more and counts as full. Else prove '..UptoSaid'. A law counts once. -/
mutual
def uptoBulk {H : Type} : DataW H → Nat
  | .lit (.string bytes) => bytes.length + 1
  | .lit _ => 1
  | .nil => 1
  | .ptr d => uptoBulk d + 1
  | .slice elems spare => uptoBulkAll elems + uptoBulkAll spare + 1
  | .agg parts => uptoBulkAll parts + 1
  | .iface _ d => uptoBulk d + 1
  | .map entries => uptoBulkEntries entries + 1
  | .held _ => 1
def uptoBulkAll {H : Type} : List (DataW H) → Nat
  | [] => 0
  | d :: r => uptoBulk d + uptoBulkAll r
def uptoBulkEntries {H : Type} : List (Lit × DataW H) → Nat
  | [] => 0
  | x :: r => uptoBulkEntry x + uptoBulkEntries r
def uptoBulkEntry {H : Type} : Lit × DataW H → Nat
  | (.string bytes, d) => bytes.length + uptoBulk d + 1
  | (_, d) => uptoBulk d + 1
 end
def uptoSmall : (H : Type) → List (DataW H) → Bool := fun _ ds => decide (uptoBulkAll ds ≤ 1048576)
def OpenSpec.upto (s : _root_.Go.ChangeSpec) : _root_.Go.OpenSpec := { _root_.Go.OpenSpec.ofChange s with cond := some uptoSmall }

/-- 'signalbenchlaw54.AlignPairs', WHERE WHAT IT READS IS OF BULK AT MOST 1048576: true; the input reads as it did. -/
def alignPairsUptoRow : OpenClaim := { program := "ytbkncndagheijaa", sum := "13513f49f1322ea8f47ffd60ccb43fddd2fb4ddb5879c76a1ea73467367d20d9", func := "signalbench/signalbenchlaw54.AlignPairs", spec := "alignPairs", apart := false, narrowed := true }
def AlignPairsUptoSaid : Prop := alignPairsUptoRow.holds Try.pinned (OpenSpec.upto alignPairsSpec)

/-- 'signalbenchlaw54.AlignChecks', WHERE WHAT IT READS IS OF BULK AT MOST 1048576: true; the input reads as it did. -/
def alignChecksUptoRow : OpenClaim := { program := "ytbkncndagheijaa", sum := "13513f49f1322ea8f47ffd60ccb43fddd2fb4ddb5879c76a1ea73467367d20d9", func := "signalbench/signalbenchlaw54.AlignChecks", spec := "alignChecks", apart := false, narrowed := true }
def AlignChecksUptoSaid : Prop := alignChecksUptoRow.holds Try.pinned (OpenSpec.upto alignChecksSpec)

/-- 'signalbenchlaw54.AlignOffsets', WHERE WHAT IT READS IS OF BULK AT MOST 1048576: true; the input reads as it did. -/
def alignOffsetsUptoRow : OpenClaim := { program := "ytbkncndagheijaa", sum := "13513f49f1322ea8f47ffd60ccb43fddd2fb4ddb5879c76a1ea73467367d20d9", func := "signalbench/signalbenchlaw54.AlignOffsets", spec := "alignOffsets", apart := false, narrowed := true }
def AlignOffsetsUptoSaid : Prop := alignOffsetsUptoRow.holds Try.pinned (OpenSpec.upto alignOffsetsSpec)

/-- 'signalbenchlaw54.AlignShortest', WHERE WHAT IT READS IS OF BULK AT MOST 1048576: true; the input reads as it did. -/
def alignShortestUptoRow : OpenClaim := { program := "ytbkncndagheijaa", sum := "13513f49f1322ea8f47ffd60ccb43fddd2fb4ddb5879c76a1ea73467367d20d9", func := "signalbench/signalbenchlaw54.AlignShortest", spec := "alignShortest", apart := false, narrowed := true }
def AlignShortestUptoSaid : Prop := alignShortestUptoRow.holds Try.pinned (OpenSpec.upto alignShortestSpec)

/-- 'signalbenchlaw54.AlignMetric', WHERE WHAT IT READS IS OF BULK AT MOST 1048576: true; the input reads as it did. -/
def alignMetricUptoRow : OpenClaim := { program := "ytbkncndagheijaa", sum := "13513f49f1322ea8f47ffd60ccb43fddd2fb4ddb5879c76a1ea73467367d20d9", func := "signalbench/signalbenchlaw54.AlignMetric", spec := "alignMetric", apart := false, narrowed := true }
def AlignMetricUptoSaid : Prop := alignMetricUptoRow.holds Try.pinned (OpenSpec.upto alignMetricSpec)

/-- 'signalbenchlaw54.AlignLimits', WHERE WHAT IT READS IS OF BULK AT MOST 1048576: true; the input reads as it did. -/
def alignLimitsUptoRow : OpenClaim := { program := "ytbkncndagheijaa", sum := "13513f49f1322ea8f47ffd60ccb43fddd2fb4ddb5879c76a1ea73467367d20d9", func := "signalbench/signalbenchlaw54.AlignLimits", spec := "alignLimits", apart := false, narrowed := true }
def AlignLimitsUptoSaid : Prop := alignLimitsUptoRow.holds Try.pinned (OpenSpec.upto alignLimitsSpec)

end Rows
end Go.Proofs.Ytbkncndagheijaa
