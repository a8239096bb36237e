/-
  No cell of these rows narrows 'for every input' (looked for: loops, veiled, ifaces, maps, wideKeys, modest, calm, conditions, laid).
  DERIVED. THE GIVEN ROWS OF THIS SEAT. 12 by the template 'for every input the law returns true; each argument reads behind the call as it read before'; 0 by the template 'total and deterministic' (their statements: YtcegfkmelcjdhaaTotals.lean).
  GIVEN WITH THE SEED: the statements are not yours to turn. If you find one false, say at which input.
  Laid BY PROGRAM, IN A SANDBOX (cutbox-rows.mjs): the forced cells as the released guide's own fill.sh prints them over the translation 9b9f24d4de3b1da4… (all of the seat's roots in one cut). By AI agents, Wed Nov 11 2026. No macro, syntax, notation, axiom, sorry.
-/
import Derived.Test.YtcegfkmelcjdhaaChecked
import GoSem.Claim
import GoSem.ClaimJoined
import GoSem.ClaimMapViews
import Derived.JoinedTies
import Derived.KernelRfl
namespace Go.Proofs.Ytcegfkmelcjdhaa
/- THE CELL 'sum', in the pinned program and in every row, IS THE sha256 OF THE DUMP (.gsa) THAT YtcegfkmelcjdhaaProg.lean LOADS. Nothing in Lean hashes anything: it is a label: what it is worth is what the hold of that sum in a sandbox is worth. -/
noncomputable def Try.pinned : Pinned := { name := "ytcegfkmelcjdhaa", sum := "9b9f24d4de3b1da4b1be5249867e9ec63954c2009b7f7eb122b35800ee02c8ed", checked := Try.checked }
namespace Rows
def none {H : Type} : Left H := { results := [], args := [] }

/-- 'stepwelllaw21.ActTensors': WHATEVER THE INPUT: true; the input reads as it did. -/
def actTensorsSpec : ChangeSpec := { name := "actTensors", fn := fun _ => fun
  | [d1, d2] => { results := [.lit (.bool true)], args := [d1, d2] }
  | _ => none }
def actTensorsRow : OpenClaim := { program := "ytcegfkmelcjdhaa", sum := "9b9f24d4de3b1da4b1be5249867e9ec63954c2009b7f7eb122b35800ee02c8ed", func := "stepwell/stepwelllaw21.ActTensors", spec := "actTensors", apart := false }
def ActTensorsSaid : Prop := actTensorsRow.holds Try.pinned (OpenSpec.ofChange actTensorsSpec)

/-- ITS FALSE NEIGHBOUR: 'it returns false'. Refute it at one input. -/
def actTensorsWrong : ChangeSpec := { name := "actTensors", fn := fun _ => fun
  | [d1, d2] => { results := [.lit (.bool false)], args := [d1, d2] }
  | _ => none }
def ActTensorsWrongFalsely : Prop := actTensorsRow.holds Try.pinned (OpenSpec.ofChange actTensorsWrong)

/-- 'stepwelllaw10.ConvSums': WHATEVER THE INPUT: true; the input reads as it did. -/
def convSumsSpec : ChangeSpec := { name := "convSums", fn := fun _ => fun
  | [d1, d2] => { results := [.lit (.bool true)], args := [d1, d2] }
  | _ => none }
def convSumsRow : OpenClaim := { program := "ytcegfkmelcjdhaa", sum := "9b9f24d4de3b1da4b1be5249867e9ec63954c2009b7f7eb122b35800ee02c8ed", func := "stepwell/stepwelllaw10.ConvSums", spec := "convSums", apart := false }
def ConvSumsSaid : Prop := convSumsRow.holds Try.pinned (OpenSpec.ofChange convSumsSpec)

/-- ITS FALSE NEIGHBOUR: 'it returns false'. Refute it at one input. -/
def convSumsWrong : ChangeSpec := { name := "convSums", fn := fun _ => fun
  | [d1, d2] => { results := [.lit (.bool false)], args := [d1, d2] }
  | _ => none }
def ConvSumsWrongFalsely : Prop := convSumsRow.holds Try.pinned (OpenSpec.ofChange convSumsWrong)

/-- 'stepwelllaw10.ConvBias': WHATEVER THE INPUT: true; the input reads as it did. -/
def convBiasSpec : ChangeSpec := { name := "convBias", fn := fun _ => fun
  | [d1, d2, d3, d4] => { results := [.lit (.bool true)], args := [d1, d2, d3, d4] }
  | _ => none }
def convBiasRow : OpenClaim := { program := "ytcegfkmelcjdhaa", sum := "9b9f24d4de3b1da4b1be5249867e9ec63954c2009b7f7eb122b35800ee02c8ed", func := "stepwell/stepwelllaw10.ConvBias", spec := "convBias", apart := false }
def ConvBiasSaid : Prop := convBiasRow.holds Try.pinned (OpenSpec.ofChange convBiasSpec)

/-- ITS FALSE NEIGHBOUR: 'it returns false'. Refute it at one input. -/
def convBiasWrong : ChangeSpec := { name := "convBias", fn := fun _ => fun
  | [d1, d2, d3, d4] => { results := [.lit (.bool false)], args := [d1, d2, d3, d4] }
  | _ => none }
def ConvBiasWrongFalsely : Prop := convBiasRow.holds Try.pinned (OpenSpec.ofChange convBiasWrong)

/-- 'stepwelllaw10.ConvMoves': WHATEVER THE INPUT: true; the input reads as it did. -/
def convMovesSpec : ChangeSpec := { name := "convMoves", fn := fun _ => fun
  | [d1, d2] => { results := [.lit (.bool true)], args := [d1, d2] }
  | _ => none }
def convMovesRow : OpenClaim := { program := "ytcegfkmelcjdhaa", sum := "9b9f24d4de3b1da4b1be5249867e9ec63954c2009b7f7eb122b35800ee02c8ed", func := "stepwell/stepwelllaw10.ConvMoves", spec := "convMoves", apart := false }
def ConvMovesSaid : Prop := convMovesRow.holds Try.pinned (OpenSpec.ofChange convMovesSpec)

/-- ITS FALSE NEIGHBOUR: 'it returns false'. Refute it at one input. -/
def convMovesWrong : ChangeSpec := { name := "convMoves", fn := fun _ => fun
  | [d1, d2] => { results := [.lit (.bool false)], args := [d1, d2] }
  | _ => none }
def ConvMovesWrongFalsely : Prop := convMovesRow.holds Try.pinned (OpenSpec.ofChange convMovesWrong)

/-- 'stepwelllaw17.DepthSums': WHATEVER THE INPUT: true; the input reads as it did. -/
def depthSumsSpec : ChangeSpec := { name := "depthSums", fn := fun _ => fun
  | [d1, d2] => { results := [.lit (.bool true)], args := [d1, d2] }
  | _ => none }
def depthSumsRow : OpenClaim := { program := "ytcegfkmelcjdhaa", sum := "9b9f24d4de3b1da4b1be5249867e9ec63954c2009b7f7eb122b35800ee02c8ed", func := "stepwell/stepwelllaw17.DepthSums", spec := "depthSums", apart := false }
def DepthSumsSaid : Prop := depthSumsRow.holds Try.pinned (OpenSpec.ofChange depthSumsSpec)

/-- ITS FALSE NEIGHBOUR: 'it returns false'. Refute it at one input. -/
def depthSumsWrong : ChangeSpec := { name := "depthSums", fn := fun _ => fun
  | [d1, d2] => { results := [.lit (.bool false)], args := [d1, d2] }
  | _ => none }
def DepthSumsWrongFalsely : Prop := depthSumsRow.holds Try.pinned (OpenSpec.ofChange depthSumsWrong)

/-- 'stepwelllaw17.DepthWide': WHATEVER THE INPUT: true; the input reads as it did. -/
def depthWideSpec : ChangeSpec := { name := "depthWide", fn := fun _ => fun
  | [d1, d2, d3] => { results := [.lit (.bool true)], args := [d1, d2, d3] }
  | _ => none }
def depthWideRow : OpenClaim := { program := "ytcegfkmelcjdhaa", sum := "9b9f24d4de3b1da4b1be5249867e9ec63954c2009b7f7eb122b35800ee02c8ed", func := "stepwell/stepwelllaw17.DepthWide", spec := "depthWide", apart := false }
def DepthWideSaid : Prop := depthWideRow.holds Try.pinned (OpenSpec.ofChange depthWideSpec)

/-- ITS FALSE NEIGHBOUR: 'it returns false'. Refute it at one input. -/
def depthWideWrong : ChangeSpec := { name := "depthWide", fn := fun _ => fun
  | [d1, d2, d3] => { results := [.lit (.bool false)], args := [d1, d2, d3] }
  | _ => none }
def DepthWideWrongFalsely : Prop := depthWideRow.holds Try.pinned (OpenSpec.ofChange depthWideWrong)

/-- 'stepwelllaw24.SpanSums': WHATEVER THE INPUT: true; the input reads as it did. -/
def spanSumsSpec : ChangeSpec := { name := "spanSums", fn := fun _ => fun
  | [d1, d2] => { results := [.lit (.bool true)], args := [d1, d2] }
  | _ => none }
def spanSumsRow : OpenClaim := { program := "ytcegfkmelcjdhaa", sum := "9b9f24d4de3b1da4b1be5249867e9ec63954c2009b7f7eb122b35800ee02c8ed", func := "stepwell/stepwelllaw24.SpanSums", spec := "spanSums", apart := false }
def SpanSumsSaid : Prop := spanSumsRow.holds Try.pinned (OpenSpec.ofChange spanSumsSpec)

/-- ITS FALSE NEIGHBOUR: 'it returns false'. Refute it at one input. -/
def spanSumsWrong : ChangeSpec := { name := "spanSums", fn := fun _ => fun
  | [d1, d2] => { results := [.lit (.bool false)], args := [d1, d2] }
  | _ => none }
def SpanSumsWrongFalsely : Prop := spanSumsRow.holds Try.pinned (OpenSpec.ofChange spanSumsWrong)

/-- 'stepwelllaw25.KindsCheck': WHATEVER THE INPUT: true; the input reads as it did. -/
def kindsCheckSpec : ChangeSpec := { name := "kindsCheck", fn := fun _ => fun
  | [d1, d2] => { results := [.lit (.bool true)], args := [d1, d2] }
  | _ => none }
def kindsCheckRow : OpenClaim := { program := "ytcegfkmelcjdhaa", sum := "9b9f24d4de3b1da4b1be5249867e9ec63954c2009b7f7eb122b35800ee02c8ed", func := "stepwell/stepwelllaw25.KindsCheck", spec := "kindsCheck", apart := false }
def KindsCheckSaid : Prop := kindsCheckRow.holds Try.pinned (OpenSpec.ofChange kindsCheckSpec)

/-- ITS FALSE NEIGHBOUR: 'it returns false'. Refute it at one input. -/
def kindsCheckWrong : ChangeSpec := { name := "kindsCheck", fn := fun _ => fun
  | [d1, d2] => { results := [.lit (.bool false)], args := [d1, d2] }
  | _ => none }
def KindsCheckWrongFalsely : Prop := kindsCheckRow.holds Try.pinned (OpenSpec.ofChange kindsCheckWrong)

/-- 'stepwelllaw25.KindsShape': WHATEVER THE INPUT: true; the input reads as it did. -/
def kindsShapeSpec : ChangeSpec := { name := "kindsShape", fn := fun _ => fun
  | [d1, d2, d3] => { results := [.lit (.bool true)], args := [d1, d2, d3] }
  | _ => none }
def kindsShapeRow : OpenClaim := { program := "ytcegfkmelcjdhaa", sum := "9b9f24d4de3b1da4b1be5249867e9ec63954c2009b7f7eb122b35800ee02c8ed", func := "stepwell/stepwelllaw25.KindsShape", spec := "kindsShape", apart := false }
def KindsShapeSaid : Prop := kindsShapeRow.holds Try.pinned (OpenSpec.ofChange kindsShapeSpec)

/-- ITS FALSE NEIGHBOUR: 'it returns false'. Refute it at one input. -/
def kindsShapeWrong : ChangeSpec := { name := "kindsShape", fn := fun _ => fun
  | [d1, d2, d3] => { results := [.lit (.bool false)], args := [d1, d2, d3] }
  | _ => none }
def KindsShapeWrongFalsely : Prop := kindsShapeRow.holds Try.pinned (OpenSpec.ofChange kindsShapeWrong)

/-- 'stepwelllaw25.KindsPlain': WHATEVER THE INPUT: true; the input reads as it did. -/
def kindsPlainSpec : ChangeSpec := { name := "kindsPlain", fn := fun _ => fun
  | [d] => { results := [.lit (.bool true)], args := [d] }
  | _ => none }
def kindsPlainRow : OpenClaim := { program := "ytcegfkmelcjdhaa", sum := "9b9f24d4de3b1da4b1be5249867e9ec63954c2009b7f7eb122b35800ee02c8ed", func := "stepwell/stepwelllaw25.KindsPlain", spec := "kindsPlain", apart := false }
def KindsPlainSaid : Prop := kindsPlainRow.holds Try.pinned (OpenSpec.ofChange kindsPlainSpec)

/-- ITS FALSE NEIGHBOUR: 'it returns false'. Refute it at one input. -/
def kindsPlainWrong : ChangeSpec := { name := "kindsPlain", fn := fun _ => fun
  | [d] => { results := [.lit (.bool false)], args := [d] }
  | _ => none }
def KindsPlainWrongFalsely : Prop := kindsPlainRow.holds Try.pinned (OpenSpec.ofChange kindsPlainWrong)

/-- 'stepwelllaw32.GuardHeads': WHATEVER THE INPUT: true; the input reads as it did. -/
def guardHeadsSpec : ChangeSpec := { name := "guardHeads", fn := fun _ => fun
  | [d1, d2, d3] => { results := [.lit (.bool true)], args := [d1, d2, d3] }
  | _ => none }
def guardHeadsRow : OpenClaim := { program := "ytcegfkmelcjdhaa", sum := "9b9f24d4de3b1da4b1be5249867e9ec63954c2009b7f7eb122b35800ee02c8ed", func := "stepwell/stepwelllaw32.GuardHeads", spec := "guardHeads", apart := false }
def GuardHeadsSaid : Prop := guardHeadsRow.holds Try.pinned (OpenSpec.ofChange guardHeadsSpec)

/-- ITS FALSE NEIGHBOUR: 'it returns false'. Refute it at one input. -/
def guardHeadsWrong : ChangeSpec := { name := "guardHeads", fn := fun _ => fun
  | [d1, d2, d3] => { results := [.lit (.bool false)], args := [d1, d2, d3] }
  | _ => none }
def GuardHeadsWrongFalsely : Prop := guardHeadsRow.holds Try.pinned (OpenSpec.ofChange guardHeadsWrong)

/-- 'stepwelllaw51.PruneUsed': WHATEVER THE INPUT: true; the input reads as it did. -/
def pruneUsedSpec : ChangeSpec := { name := "pruneUsed", fn := fun _ => fun
  | [d] => { results := [.lit (.bool true)], args := [d] }
  | _ => none }
def pruneUsedRow : OpenClaim := { program := "ytcegfkmelcjdhaa", sum := "9b9f24d4de3b1da4b1be5249867e9ec63954c2009b7f7eb122b35800ee02c8ed", func := "stepwell/stepwelllaw51.PruneUsed", spec := "pruneUsed", recurses := true, apart := false }
def PruneUsedSaid : Prop := pruneUsedRow.holds Try.pinned (OpenSpec.ofChange pruneUsedSpec)

/-- ITS FALSE NEIGHBOUR: 'it returns false'. Refute it at one input. -/
def pruneUsedWrong : ChangeSpec := { name := "pruneUsed", fn := fun _ => fun
  | [d] => { results := [.lit (.bool false)], args := [d] }
  | _ => none }
def PruneUsedWrongFalsely : Prop := pruneUsedRow.holds Try.pinned (OpenSpec.ofChange pruneUsedWrong)

/- THE SECOND FORM. 'bulk': how many values and letters a reading holds, each counted each time it is reached (what is shared counts as often as it is met; a slice's spare places count too). A statement '..UptoSaid' is the law's where the arguments, and the package variables that the reading takes, are together of bulk at most 1048576: NARROWER than '..Said'. Prove '..Said' where nothing that the law and all that it calls make is longer than what came in: it says more and counts as full. Else prove '..UptoSaid'. A law counts once. -/
mutual
def uptoBulk {H : Type} : DataW H → Nat
  | .lit (.string bytes) => bytes.length + 1
  | .lit _ => 1
  | .nil => 1
  | .ptr d => uptoBulk d + 1
  | .slice elems spare => uptoBulkAll elems + uptoBulkAll spare + 1
  | .agg parts => uptoBulkAll parts + 1
  | .iface _ d => uptoBulk d + 1
  | .map entries => uptoBulkEntries entries + 1
  | .held _ => 1
def uptoBulkAll {H : Type} : List (DataW H) → Nat
  | [] => 0
  | d :: r => uptoBulk d + uptoBulkAll r
def uptoBulkEntries {H : Type} : List (Lit × DataW H) → Nat
  | [] => 0
  | x :: r => uptoBulkEntry x + uptoBulkEntries r
def uptoBulkEntry {H : Type} : Lit × DataW H → Nat
  | (.string bytes, d) => bytes.length + uptoBulk d + 1
  | (_, d) => uptoBulk d + 1
 end
def uptoSmall : (H : Type) → List (DataW H) → Bool := fun _ ds => decide (uptoBulkAll ds ≤ 1048576)
def OpenSpec.upto (s : _root_.Go.ChangeSpec) : _root_.Go.OpenSpec := { _root_.Go.OpenSpec.ofChange s with cond := some uptoSmall }

/-- 'stepwelllaw21.ActTensors', WHERE WHAT IT READS IS OF BULK AT MOST 1048576: true; the input reads as it did. -/
def actTensorsUptoRow : OpenClaim := { program := "ytcegfkmelcjdhaa", sum := "9b9f24d4de3b1da4b1be5249867e9ec63954c2009b7f7eb122b35800ee02c8ed", func := "stepwell/stepwelllaw21.ActTensors", spec := "actTensors", apart := false, narrowed := true }
def ActTensorsUptoSaid : Prop := actTensorsUptoRow.holds Try.pinned (OpenSpec.upto actTensorsSpec)

/-- 'stepwelllaw10.ConvSums', WHERE WHAT IT READS IS OF BULK AT MOST 1048576: true; the input reads as it did. -/
def convSumsUptoRow : OpenClaim := { program := "ytcegfkmelcjdhaa", sum := "9b9f24d4de3b1da4b1be5249867e9ec63954c2009b7f7eb122b35800ee02c8ed", func := "stepwell/stepwelllaw10.ConvSums", spec := "convSums", apart := false, narrowed := true }
def ConvSumsUptoSaid : Prop := convSumsUptoRow.holds Try.pinned (OpenSpec.upto convSumsSpec)

/-- 'stepwelllaw10.ConvBias', WHERE WHAT IT READS IS OF BULK AT MOST 1048576: true; the input reads as it did. -/
def convBiasUptoRow : OpenClaim := { program := "ytcegfkmelcjdhaa", sum := "9b9f24d4de3b1da4b1be5249867e9ec63954c2009b7f7eb122b35800ee02c8ed", func := "stepwell/stepwelllaw10.ConvBias", spec := "convBias", apart := false, narrowed := true }
def ConvBiasUptoSaid : Prop := convBiasUptoRow.holds Try.pinned (OpenSpec.upto convBiasSpec)

/-- 'stepwelllaw10.ConvMoves', WHERE WHAT IT READS IS OF BULK AT MOST 1048576: true; the input reads as it did. -/
def convMovesUptoRow : OpenClaim := { program := "ytcegfkmelcjdhaa", sum := "9b9f24d4de3b1da4b1be5249867e9ec63954c2009b7f7eb122b35800ee02c8ed", func := "stepwell/stepwelllaw10.ConvMoves", spec := "convMoves", apart := false, narrowed := true }
def ConvMovesUptoSaid : Prop := convMovesUptoRow.holds Try.pinned (OpenSpec.upto convMovesSpec)

/-- 'stepwelllaw17.DepthSums', WHERE WHAT IT READS IS OF BULK AT MOST 1048576: true; the input reads as it did. -/
def depthSumsUptoRow : OpenClaim := { program := "ytcegfkmelcjdhaa", sum := "9b9f24d4de3b1da4b1be5249867e9ec63954c2009b7f7eb122b35800ee02c8ed", func := "stepwell/stepwelllaw17.DepthSums", spec := "depthSums", apart := false, narrowed := true }
def DepthSumsUptoSaid : Prop := depthSumsUptoRow.holds Try.pinned (OpenSpec.upto depthSumsSpec)

/-- 'stepwelllaw17.DepthWide', WHERE WHAT IT READS IS OF BULK AT MOST 1048576: true; the input reads as it did. -/
def depthWideUptoRow : OpenClaim := { program := "ytcegfkmelcjdhaa", sum := "9b9f24d4de3b1da4b1be5249867e9ec63954c2009b7f7eb122b35800ee02c8ed", func := "stepwell/stepwelllaw17.DepthWide", spec := "depthWide", apart := false, narrowed := true }
def DepthWideUptoSaid : Prop := depthWideUptoRow.holds Try.pinned (OpenSpec.upto depthWideSpec)

/-- 'stepwelllaw24.SpanSums', WHERE WHAT IT READS IS OF BULK AT MOST 1048576: true; the input reads as it did. -/
def spanSumsUptoRow : OpenClaim := { program := "ytcegfkmelcjdhaa", sum := "9b9f24d4de3b1da4b1be5249867e9ec63954c2009b7f7eb122b35800ee02c8ed", func := "stepwell/stepwelllaw24.SpanSums", spec := "spanSums", apart := false, narrowed := true }
def SpanSumsUptoSaid : Prop := spanSumsUptoRow.holds Try.pinned (OpenSpec.upto spanSumsSpec)

/-- 'stepwelllaw25.KindsCheck', WHERE WHAT IT READS IS OF BULK AT MOST 1048576: true; the input reads as it did. -/
def kindsCheckUptoRow : OpenClaim := { program := "ytcegfkmelcjdhaa", sum := "9b9f24d4de3b1da4b1be5249867e9ec63954c2009b7f7eb122b35800ee02c8ed", func := "stepwell/stepwelllaw25.KindsCheck", spec := "kindsCheck", apart := false, narrowed := true }
def KindsCheckUptoSaid : Prop := kindsCheckUptoRow.holds Try.pinned (OpenSpec.upto kindsCheckSpec)

/-- 'stepwelllaw25.KindsShape', WHERE WHAT IT READS IS OF BULK AT MOST 1048576: true; the input reads as it did. -/
def kindsShapeUptoRow : OpenClaim := { program := "ytcegfkmelcjdhaa", sum := "9b9f24d4de3b1da4b1be5249867e9ec63954c2009b7f7eb122b35800ee02c8ed", func := "stepwell/stepwelllaw25.KindsShape", spec := "kindsShape", apart := false, narrowed := true }
def KindsShapeUptoSaid : Prop := kindsShapeUptoRow.holds Try.pinned (OpenSpec.upto kindsShapeSpec)

/-- 'stepwelllaw25.KindsPlain', WHERE WHAT IT READS IS OF BULK AT MOST 1048576: true; the input reads as it did. -/
def kindsPlainUptoRow : OpenClaim := { program := "ytcegfkmelcjdhaa", sum := "9b9f24d4de3b1da4b1be5249867e9ec63954c2009b7f7eb122b35800ee02c8ed", func := "stepwell/stepwelllaw25.KindsPlain", spec := "kindsPlain", apart := false, narrowed := true }
def KindsPlainUptoSaid : Prop := kindsPlainUptoRow.holds Try.pinned (OpenSpec.upto kindsPlainSpec)

/-- 'stepwelllaw32.GuardHeads', WHERE WHAT IT READS IS OF BULK AT MOST 1048576: true; the input reads as it did. -/
def guardHeadsUptoRow : OpenClaim := { program := "ytcegfkmelcjdhaa", sum := "9b9f24d4de3b1da4b1be5249867e9ec63954c2009b7f7eb122b35800ee02c8ed", func := "stepwell/stepwelllaw32.GuardHeads", spec := "guardHeads", apart := false, narrowed := true }
def GuardHeadsUptoSaid : Prop := guardHeadsUptoRow.holds Try.pinned (OpenSpec.upto guardHeadsSpec)

/-- 'stepwelllaw51.PruneUsed', WHERE WHAT IT READS IS OF BULK AT MOST 1048576: true; the input reads as it did. -/
def pruneUsedUptoRow : OpenClaim := { program := "ytcegfkmelcjdhaa", sum := "9b9f24d4de3b1da4b1be5249867e9ec63954c2009b7f7eb122b35800ee02c8ed", func := "stepwell/stepwelllaw51.PruneUsed", spec := "pruneUsed", recurses := true, apart := false, narrowed := true }
def PruneUsedUptoSaid : Prop := pruneUsedUptoRow.holds Try.pinned (OpenSpec.upto pruneUsedSpec)

end Rows
end Go.Proofs.Ytcegfkmelcjdhaa
