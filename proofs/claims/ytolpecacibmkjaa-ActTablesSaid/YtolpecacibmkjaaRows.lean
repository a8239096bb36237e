/-
  No cell of these rows narrows 'for every input' (looked for: loops, veiled, ifaces, maps, wideKeys, modest, calm, conditions, laid).
  DERIVED. THE GIVEN ROWS OF THIS SEAT. 12 by the template 'for every input the law returns true; each argument reads behind the call as it read before'; 0 by the template 'total and deterministic' (their statements: YtolpecacibmkjaaTotals.lean).
  GIVEN WITH THE SEED: the statements are not yours to turn. If you find one false, say at which input.
  Laid BY PROGRAM, IN A SANDBOX (cutbox-rows.mjs): the forced cells as the released guide's own fill.sh prints them over the translation dbb4baac932c3bc4… (all of the seat's roots in one cut). By AI agents, Wed Nov 11 2026. No macro, syntax, notation, axiom, sorry.
-/
import Derived.Test.YtolpecacibmkjaaChecked
import GoSem.Claim
import GoSem.ClaimJoined
import GoSem.ClaimMapViews
import Derived.JoinedTies
import Derived.KernelRfl
namespace Go.Proofs.Ytolpecacibmkjaa
/- THE CELL 'sum', in the pinned program and in every row, IS THE sha256 OF THE DUMP (.gsa) THAT YtolpecacibmkjaaProg.lean LOADS. Nothing in Lean hashes anything: it is a label: what it is worth is what the hold of that sum in a sandbox is worth. -/
noncomputable def Try.pinned : Pinned := { name := "ytolpecacibmkjaa", sum := "dbb4baac932c3bc41c901384c76881a8d5af292b31686f71297e3f7a00421ab2", checked := Try.checked }
namespace Rows
def none {H : Type} : Left H := { results := [], args := [] }

/-- 'stepwelllaw02.FixRounds': WHATEVER THE INPUT: true; the input reads as it did. -/
def fixRoundsSpec : ChangeSpec := { name := "fixRounds", fn := fun _ => fun
  | [d1, d2, d3, d4] => { results := [.lit (.bool true)], args := [d1, d2, d3, d4] }
  | _ => none }
def fixRoundsRow : OpenClaim := { program := "ytolpecacibmkjaa", sum := "dbb4baac932c3bc41c901384c76881a8d5af292b31686f71297e3f7a00421ab2", func := "stepwell/stepwelllaw02.FixRounds", spec := "fixRounds", apart := false }
def FixRoundsSaid : Prop := fixRoundsRow.holds Try.pinned (OpenSpec.ofChange fixRoundsSpec)

/-- ITS FALSE NEIGHBOUR: 'it returns false'. Refute it at one input. -/
def fixRoundsWrong : ChangeSpec := { name := "fixRounds", fn := fun _ => fun
  | [d1, d2, d3, d4] => { results := [.lit (.bool false)], args := [d1, d2, d3, d4] }
  | _ => none }
def FixRoundsWrongFalsely : Prop := fixRoundsRow.holds Try.pinned (OpenSpec.ofChange fixRoundsWrong)

/-- 'stepwelllaw02.FixRises': WHATEVER THE INPUT: true; the input reads as it did. -/
def fixRisesSpec : ChangeSpec := { name := "fixRises", fn := fun _ => fun
  | [d1, d2, d3] => { results := [.lit (.bool true)], args := [d1, d2, d3] }
  | _ => none }
def fixRisesRow : OpenClaim := { program := "ytolpecacibmkjaa", sum := "dbb4baac932c3bc41c901384c76881a8d5af292b31686f71297e3f7a00421ab2", func := "stepwell/stepwelllaw02.FixRises", spec := "fixRises", apart := false }
def FixRisesSaid : Prop := fixRisesRow.holds Try.pinned (OpenSpec.ofChange fixRisesSpec)

/-- ITS FALSE NEIGHBOUR: 'it returns false'. Refute it at one input. -/
def fixRisesWrong : ChangeSpec := { name := "fixRises", fn := fun _ => fun
  | [d1, d2, d3] => { results := [.lit (.bool false)], args := [d1, d2, d3] }
  | _ => none }
def FixRisesWrongFalsely : Prop := fixRisesRow.holds Try.pinned (OpenSpec.ofChange fixRisesWrong)

/-- 'stepwelllaw02.FixNear': WHATEVER THE INPUT: true; the input reads as it did. -/
def fixNearSpec : ChangeSpec := { name := "fixNear", fn := fun _ => fun
  | [d1, d2, d3] => { results := [.lit (.bool true)], args := [d1, d2, d3] }
  | _ => none }
def fixNearRow : OpenClaim := { program := "ytolpecacibmkjaa", sum := "dbb4baac932c3bc41c901384c76881a8d5af292b31686f71297e3f7a00421ab2", func := "stepwell/stepwelllaw02.FixNear", spec := "fixNear", apart := false }
def FixNearSaid : Prop := fixNearRow.holds Try.pinned (OpenSpec.ofChange fixNearSpec)

/-- ITS FALSE NEIGHBOUR: 'it returns false'. Refute it at one input. -/
def fixNearWrong : ChangeSpec := { name := "fixNear", fn := fun _ => fun
  | [d1, d2, d3] => { results := [.lit (.bool false)], args := [d1, d2, d3] }
  | _ => none }
def FixNearWrongFalsely : Prop := fixNearRow.holds Try.pinned (OpenSpec.ofChange fixNearWrong)

/-- 'stepwelllaw02.FixPuts': WHATEVER THE INPUT: true; the input reads as it did. -/
def fixPutsSpec : ChangeSpec := { name := "fixPuts", fn := fun _ => fun
  | [d1, d2, d3, d4] => { results := [.lit (.bool true)], args := [d1, d2, d3, d4] }
  | _ => none }
def fixPutsRow : OpenClaim := { program := "ytolpecacibmkjaa", sum := "dbb4baac932c3bc41c901384c76881a8d5af292b31686f71297e3f7a00421ab2", func := "stepwell/stepwelllaw02.FixPuts", spec := "fixPuts", apart := false }
def FixPutsSaid : Prop := fixPutsRow.holds Try.pinned (OpenSpec.ofChange fixPutsSpec)

/-- ITS FALSE NEIGHBOUR: 'it returns false'. Refute it at one input. -/
def fixPutsWrong : ChangeSpec := { name := "fixPuts", fn := fun _ => fun
  | [d1, d2, d3, d4] => { results := [.lit (.bool false)], args := [d1, d2, d3, d4] }
  | _ => none }
def FixPutsWrongFalsely : Prop := fixPutsRow.holds Try.pinned (OpenSpec.ofChange fixPutsWrong)

/-- 'stepwelllaw24.SpanReached': WHATEVER THE INPUT: true; the input reads as it did. -/
def spanReachedSpec : ChangeSpec := { name := "spanReached", fn := fun _ => fun
  | [d1, d2, d3, d4, d5, d6] => { results := [.lit (.bool true)], args := [d1, d2, d3, d4, d5, d6] }
  | _ => none }
def spanReachedRow : OpenClaim := { program := "ytolpecacibmkjaa", sum := "dbb4baac932c3bc41c901384c76881a8d5af292b31686f71297e3f7a00421ab2", func := "stepwell/stepwelllaw24.SpanReached", spec := "spanReached", apart := false }
def SpanReachedSaid : Prop := spanReachedRow.holds Try.pinned (OpenSpec.ofChange spanReachedSpec)

/-- ITS FALSE NEIGHBOUR: 'it returns false'. Refute it at one input. -/
def spanReachedWrong : ChangeSpec := { name := "spanReached", fn := fun _ => fun
  | [d1, d2, d3, d4, d5, d6] => { results := [.lit (.bool false)], args := [d1, d2, d3, d4, d5, d6] }
  | _ => none }
def SpanReachedWrongFalsely : Prop := spanReachedRow.holds Try.pinned (OpenSpec.ofChange spanReachedWrong)

/-- 'stepwelllaw24.SpanBoth': WHATEVER THE INPUT: true; the input reads as it did. -/
def spanBothSpec : ChangeSpec := { name := "spanBoth", fn := fun _ => fun
  | [d] => { results := [.lit (.bool true)], args := [d] }
  | _ => none }
def spanBothRow : OpenClaim := { program := "ytolpecacibmkjaa", sum := "dbb4baac932c3bc41c901384c76881a8d5af292b31686f71297e3f7a00421ab2", func := "stepwell/stepwelllaw24.SpanBoth", spec := "spanBoth", apart := false }
def SpanBothSaid : Prop := spanBothRow.holds Try.pinned (OpenSpec.ofChange spanBothSpec)

/-- ITS FALSE NEIGHBOUR: 'it returns false'. Refute it at one input. -/
def spanBothWrong : ChangeSpec := { name := "spanBoth", fn := fun _ => fun
  | [d] => { results := [.lit (.bool false)], args := [d] }
  | _ => none }
def SpanBothWrongFalsely : Prop := spanBothRow.holds Try.pinned (OpenSpec.ofChange spanBothWrong)

/-- 'stepwelllaw24.SpanRows': WHATEVER THE INPUT: true; the input reads as it did. -/
def spanRowsSpec : ChangeSpec := { name := "spanRows", fn := fun _ => fun
  | [d1, d2, d3, d4, d5] => { results := [.lit (.bool true)], args := [d1, d2, d3, d4, d5] }
  | _ => none }
def spanRowsRow : OpenClaim := { program := "ytolpecacibmkjaa", sum := "dbb4baac932c3bc41c901384c76881a8d5af292b31686f71297e3f7a00421ab2", func := "stepwell/stepwelllaw24.SpanRows", spec := "spanRows", apart := false }
def SpanRowsSaid : Prop := spanRowsRow.holds Try.pinned (OpenSpec.ofChange spanRowsSpec)

/-- ITS FALSE NEIGHBOUR: 'it returns false'. Refute it at one input. -/
def spanRowsWrong : ChangeSpec := { name := "spanRows", fn := fun _ => fun
  | [d1, d2, d3, d4, d5] => { results := [.lit (.bool false)], args := [d1, d2, d3, d4, d5] }
  | _ => none }
def SpanRowsWrongFalsely : Prop := spanRowsRow.holds Try.pinned (OpenSpec.ofChange spanRowsWrong)

/-- 'stepwelllaw20.JoinRises': WHATEVER THE INPUT: true; the input reads as it did. -/
def joinRisesSpec : ChangeSpec := { name := "joinRises", fn := fun _ => fun
  | [d1, d2, d3, d4] => { results := [.lit (.bool true)], args := [d1, d2, d3, d4] }
  | _ => none }
def joinRisesRow : OpenClaim := { program := "ytolpecacibmkjaa", sum := "dbb4baac932c3bc41c901384c76881a8d5af292b31686f71297e3f7a00421ab2", func := "stepwell/stepwelllaw20.JoinRises", spec := "joinRises", apart := false }
def JoinRisesSaid : Prop := joinRisesRow.holds Try.pinned (OpenSpec.ofChange joinRisesSpec)

/-- ITS FALSE NEIGHBOUR: 'it returns false'. Refute it at one input. -/
def joinRisesWrong : ChangeSpec := { name := "joinRises", fn := fun _ => fun
  | [d1, d2, d3, d4] => { results := [.lit (.bool false)], args := [d1, d2, d3, d4] }
  | _ => none }
def JoinRisesWrongFalsely : Prop := joinRisesRow.holds Try.pinned (OpenSpec.ofChange joinRisesWrong)

/-- 'stepwelllaw21.ActPuts': WHATEVER THE INPUT: true; the input reads as it did. -/
def actPutsSpec : ChangeSpec := { name := "actPuts", fn := fun _ => fun
  | [d1, d2] => { results := [.lit (.bool true)], args := [d1, d2] }
  | _ => none }
def actPutsRow : OpenClaim := { program := "ytolpecacibmkjaa", sum := "dbb4baac932c3bc41c901384c76881a8d5af292b31686f71297e3f7a00421ab2", func := "stepwell/stepwelllaw21.ActPuts", spec := "actPuts", apart := false }
def ActPutsSaid : Prop := actPutsRow.holds Try.pinned (OpenSpec.ofChange actPutsSpec)

/-- ITS FALSE NEIGHBOUR: 'it returns false'. Refute it at one input. -/
def actPutsWrong : ChangeSpec := { name := "actPuts", fn := fun _ => fun
  | [d1, d2] => { results := [.lit (.bool false)], args := [d1, d2] }
  | _ => none }
def ActPutsWrongFalsely : Prop := actPutsRow.holds Try.pinned (OpenSpec.ofChange actPutsWrong)

/-- 'stepwelllaw21.ActTables': WHATEVER THE INPUT: true; the input reads as it did. -/
def actTablesSpec : ChangeSpec := { name := "actTables", fn := fun _ => fun
  | [d1, d2, d3, d4] => { results := [.lit (.bool true)], args := [d1, d2, d3, d4] }
  | _ => none }
def actTablesRow : OpenClaim := { program := "ytolpecacibmkjaa", sum := "dbb4baac932c3bc41c901384c76881a8d5af292b31686f71297e3f7a00421ab2", func := "stepwell/stepwelllaw21.ActTables", spec := "actTables", apart := false }
def ActTablesSaid : Prop := actTablesRow.holds Try.pinned (OpenSpec.ofChange actTablesSpec)

/-- ITS FALSE NEIGHBOUR: 'it returns false'. Refute it at one input. -/
def actTablesWrong : ChangeSpec := { name := "actTables", fn := fun _ => fun
  | [d1, d2, d3, d4] => { results := [.lit (.bool false)], args := [d1, d2, d3, d4] }
  | _ => none }
def ActTablesWrongFalsely : Prop := actTablesRow.holds Try.pinned (OpenSpec.ofChange actTablesWrong)

/-- 'stepwelllaw20.JoinTensors': WHATEVER THE INPUT: true; the input reads as it did. -/
def joinTensorsSpec : ChangeSpec := { name := "joinTensors", fn := fun _ => fun
  | [d1, d2, d3, d4, d5] => { results := [.lit (.bool true)], args := [d1, d2, d3, d4, d5] }
  | _ => none }
def joinTensorsRow : OpenClaim := { program := "ytolpecacibmkjaa", sum := "dbb4baac932c3bc41c901384c76881a8d5af292b31686f71297e3f7a00421ab2", func := "stepwell/stepwelllaw20.JoinTensors", spec := "joinTensors", unfollowed := true, recurses := true, apart := false }
def JoinTensorsSaid : Prop := joinTensorsRow.holds Try.pinned (OpenSpec.ofChange joinTensorsSpec)

/-- ITS FALSE NEIGHBOUR: 'it returns false'. Refute it at one input. -/
def joinTensorsWrong : ChangeSpec := { name := "joinTensors", fn := fun _ => fun
  | [d1, d2, d3, d4, d5] => { results := [.lit (.bool false)], args := [d1, d2, d3, d4, d5] }
  | _ => none }
def JoinTensorsWrongFalsely : Prop := joinTensorsRow.holds Try.pinned (OpenSpec.ofChange joinTensorsWrong)

/-- 'stepwelllaw20.JoinTurned': WHATEVER THE INPUT: true; the input reads as it did. -/
def joinTurnedSpec : ChangeSpec := { name := "joinTurned", fn := fun _ => fun
  | [d1, d2, d3] => { results := [.lit (.bool true)], args := [d1, d2, d3] }
  | _ => none }
def joinTurnedRow : OpenClaim := { program := "ytolpecacibmkjaa", sum := "dbb4baac932c3bc41c901384c76881a8d5af292b31686f71297e3f7a00421ab2", func := "stepwell/stepwelllaw20.JoinTurned", spec := "joinTurned", unfollowed := true, recurses := true, apart := false }
def JoinTurnedSaid : Prop := joinTurnedRow.holds Try.pinned (OpenSpec.ofChange joinTurnedSpec)

/-- ITS FALSE NEIGHBOUR: 'it returns false'. Refute it at one input. -/
def joinTurnedWrong : ChangeSpec := { name := "joinTurned", fn := fun _ => fun
  | [d1, d2, d3] => { results := [.lit (.bool false)], args := [d1, d2, d3] }
  | _ => none }
def JoinTurnedWrongFalsely : Prop := joinTurnedRow.holds Try.pinned (OpenSpec.ofChange joinTurnedWrong)

/- THE SECOND FORM. 'bulk': how many values and letters a reading holds, each counted each time it is reached (what is shared counts as often as it is met; a slice's spare places count too). A statement '..UptoSaid' is the law's where the arguments, and the package variables that the reading takes, are together of bulk at most 1048576: NARROWER than '..Said'. Prove '..Said' where nothing that the law and all that it calls make is longer than what came in: it says more and counts as full. Else prove '..UptoSaid'. A law counts once. -/
mutual
def uptoBulk {H : Type} : DataW H → Nat
  | .lit (.string bytes) => bytes.length + 1
  | .lit _ => 1
  | .nil => 1
  | .ptr d => uptoBulk d + 1
  | .slice elems spare => uptoBulkAll elems + uptoBulkAll spare + 1
  | .agg parts => uptoBulkAll parts + 1
  | .iface _ d => uptoBulk d + 1
  | .map entries => uptoBulkEntries entries + 1
  | .held _ => 1
def uptoBulkAll {H : Type} : List (DataW H) → Nat
  | [] => 0
  | d :: r => uptoBulk d + uptoBulkAll r
def uptoBulkEntries {H : Type} : List (Lit × DataW H) → Nat
  | [] => 0
  | x :: r => uptoBulkEntry x + uptoBulkEntries r
def uptoBulkEntry {H : Type} : Lit × DataW H → Nat
  | (.string bytes, d) => bytes.length + uptoBulk d + 1
  | (_, d) => uptoBulk d + 1
 end
def uptoSmall : (H : Type) → List (DataW H) → Bool := fun _ ds => decide (uptoBulkAll ds ≤ 1048576)
def OpenSpec.upto (s : _root_.Go.ChangeSpec) : _root_.Go.OpenSpec := { _root_.Go.OpenSpec.ofChange s with cond := some uptoSmall }

/-- 'stepwelllaw02.FixRounds', WHERE WHAT IT READS IS OF BULK AT MOST 1048576: true; the input reads as it did. -/
def fixRoundsUptoRow : OpenClaim := { program := "ytolpecacibmkjaa", sum := "dbb4baac932c3bc41c901384c76881a8d5af292b31686f71297e3f7a00421ab2", func := "stepwell/stepwelllaw02.FixRounds", spec := "fixRounds", apart := false, narrowed := true }
def FixRoundsUptoSaid : Prop := fixRoundsUptoRow.holds Try.pinned (OpenSpec.upto fixRoundsSpec)

/-- 'stepwelllaw02.FixRises', WHERE WHAT IT READS IS OF BULK AT MOST 1048576: true; the input reads as it did. -/
def fixRisesUptoRow : OpenClaim := { program := "ytolpecacibmkjaa", sum := "dbb4baac932c3bc41c901384c76881a8d5af292b31686f71297e3f7a00421ab2", func := "stepwell/stepwelllaw02.FixRises", spec := "fixRises", apart := false, narrowed := true }
def FixRisesUptoSaid : Prop := fixRisesUptoRow.holds Try.pinned (OpenSpec.upto fixRisesSpec)

/-- 'stepwelllaw02.FixNear', WHERE WHAT IT READS IS OF BULK AT MOST 1048576: true; the input reads as it did. -/
def fixNearUptoRow : OpenClaim := { program := "ytolpecacibmkjaa", sum := "dbb4baac932c3bc41c901384c76881a8d5af292b31686f71297e3f7a00421ab2", func := "stepwell/stepwelllaw02.FixNear", spec := "fixNear", apart := false, narrowed := true }
def FixNearUptoSaid : Prop := fixNearUptoRow.holds Try.pinned (OpenSpec.upto fixNearSpec)

/-- 'stepwelllaw02.FixPuts', WHERE WHAT IT READS IS OF BULK AT MOST 1048576: true; the input reads as it did. -/
def fixPutsUptoRow : OpenClaim := { program := "ytolpecacibmkjaa", sum := "dbb4baac932c3bc41c901384c76881a8d5af292b31686f71297e3f7a00421ab2", func := "stepwell/stepwelllaw02.FixPuts", spec := "fixPuts", apart := false, narrowed := true }
def FixPutsUptoSaid : Prop := fixPutsUptoRow.holds Try.pinned (OpenSpec.upto fixPutsSpec)

/-- 'stepwelllaw24.SpanReached', WHERE WHAT IT READS IS OF BULK AT MOST 1048576: true; the input reads as it did. -/
def spanReachedUptoRow : OpenClaim := { program := "ytolpecacibmkjaa", sum := "dbb4baac932c3bc41c901384c76881a8d5af292b31686f71297e3f7a00421ab2", func := "stepwell/stepwelllaw24.SpanReached", spec := "spanReached", apart := false, narrowed := true }
def SpanReachedUptoSaid : Prop := spanReachedUptoRow.holds Try.pinned (OpenSpec.upto spanReachedSpec)

/-- 'stepwelllaw24.SpanBoth', WHERE WHAT IT READS IS OF BULK AT MOST 1048576: true; the input reads as it did. -/
def spanBothUptoRow : OpenClaim := { program := "ytolpecacibmkjaa", sum := "dbb4baac932c3bc41c901384c76881a8d5af292b31686f71297e3f7a00421ab2", func := "stepwell/stepwelllaw24.SpanBoth", spec := "spanBoth", apart := false, narrowed := true }
def SpanBothUptoSaid : Prop := spanBothUptoRow.holds Try.pinned (OpenSpec.upto spanBothSpec)

/-- 'stepwelllaw24.SpanRows', WHERE WHAT IT READS IS OF BULK AT MOST 1048576: true; the input reads as it did. -/
def spanRowsUptoRow : OpenClaim := { program := "ytolpecacibmkjaa", sum := "dbb4baac932c3bc41c901384c76881a8d5af292b31686f71297e3f7a00421ab2", func := "stepwell/stepwelllaw24.SpanRows", spec := "spanRows", apart := false, narrowed := true }
def SpanRowsUptoSaid : Prop := spanRowsUptoRow.holds Try.pinned (OpenSpec.upto spanRowsSpec)

/-- 'stepwelllaw20.JoinRises', WHERE WHAT IT READS IS OF BULK AT MOST 1048576: true; the input reads as it did. -/
def joinRisesUptoRow : OpenClaim := { program := "ytolpecacibmkjaa", sum := "dbb4baac932c3bc41c901384c76881a8d5af292b31686f71297e3f7a00421ab2", func := "stepwell/stepwelllaw20.JoinRises", spec := "joinRises", apart := false, narrowed := true }
def JoinRisesUptoSaid : Prop := joinRisesUptoRow.holds Try.pinned (OpenSpec.upto joinRisesSpec)

/-- 'stepwelllaw21.ActPuts', WHERE WHAT IT READS IS OF BULK AT MOST 1048576: true; the input reads as it did. -/
def actPutsUptoRow : OpenClaim := { program := "ytolpecacibmkjaa", sum := "dbb4baac932c3bc41c901384c76881a8d5af292b31686f71297e3f7a00421ab2", func := "stepwell/stepwelllaw21.ActPuts", spec := "actPuts", apart := false, narrowed := true }
def ActPutsUptoSaid : Prop := actPutsUptoRow.holds Try.pinned (OpenSpec.upto actPutsSpec)

/-- 'stepwelllaw21.ActTables', WHERE WHAT IT READS IS OF BULK AT MOST 1048576: true; the input reads as it did. -/
def actTablesUptoRow : OpenClaim := { program := "ytolpecacibmkjaa", sum := "dbb4baac932c3bc41c901384c76881a8d5af292b31686f71297e3f7a00421ab2", func := "stepwell/stepwelllaw21.ActTables", spec := "actTables", apart := false, narrowed := true }
def ActTablesUptoSaid : Prop := actTablesUptoRow.holds Try.pinned (OpenSpec.upto actTablesSpec)

/-- 'stepwelllaw20.JoinTensors', WHERE WHAT IT READS IS OF BULK AT MOST 1048576: true; the input reads as it did. -/
def joinTensorsUptoRow : OpenClaim := { program := "ytolpecacibmkjaa", sum := "dbb4baac932c3bc41c901384c76881a8d5af292b31686f71297e3f7a00421ab2", func := "stepwell/stepwelllaw20.JoinTensors", spec := "joinTensors", unfollowed := true, recurses := true, apart := false, narrowed := true }
def JoinTensorsUptoSaid : Prop := joinTensorsUptoRow.holds Try.pinned (OpenSpec.upto joinTensorsSpec)

/-- 'stepwelllaw20.JoinTurned', WHERE WHAT IT READS IS OF BULK AT MOST 1048576: true; the input reads as it did. -/
def joinTurnedUptoRow : OpenClaim := { program := "ytolpecacibmkjaa", sum := "dbb4baac932c3bc41c901384c76881a8d5af292b31686f71297e3f7a00421ab2", func := "stepwell/stepwelllaw20.JoinTurned", spec := "joinTurned", unfollowed := true, recurses := true, apart := false, narrowed := true }
def JoinTurnedUptoSaid : Prop := joinTurnedUptoRow.holds Try.pinned (OpenSpec.upto joinTurnedSpec)

end Rows
end Go.Proofs.Ytolpecacibmkjaa
