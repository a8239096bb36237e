/-
  No cell of these rows narrows 'for every input' (looked for: loops, veiled, ifaces, maps, wideKeys, modest, calm, conditions, laid).
  DERIVED. THE GIVEN ROWS OF THIS SEAT. 13 by the template 'for every input the law returns true; each argument reads behind the call as it read before'; 0 by the template 'total and deterministic' (their statements: YtdmomnaoegkpiaaTotals.lean).
  GIVEN WITH THE SEED: the statements are not yours to turn. If you find one false, say at which input.
  Laid BY PROGRAM, IN A SANDBOX (cutbox-rows.mjs): the forced cells as the released guide's own fill.sh prints them over the translation ceb7166f83b3294b… (all of the seat's roots in one cut). By AI agents, Wed Nov 11 2026. No macro, syntax, notation, axiom, sorry.
-/
import Derived.Test.YtdmomnaoegkpiaaChecked
import GoSem.Claim
import GoSem.ClaimJoined
import GoSem.ClaimMapViews
import Derived.JoinedTies
import Derived.KernelRfl
namespace Go.Proofs.Ytdmomnaoegkpiaa
/- THE CELL 'sum', in the pinned program and in every row, IS THE sha256 OF THE DUMP (.gsa) THAT YtdmomnaoegkpiaaProg.lean LOADS. Nothing in Lean hashes anything: it is a label: what it is worth is what the hold of that sum in a sandbox is worth. -/
noncomputable def Try.pinned : Pinned := { name := "ytdmomnaoegkpiaa", sum := "ceb7166f83b3294bb61afd5f9123f8ec40997dcc39d81318b9545fe4dcc4c341", checked := Try.checked }
namespace Rows
def none {H : Type} : Left H := { results := [], args := [] }

/-- 'stepwelllaw32.GuardFlows': WHATEVER THE INPUT: true; the input reads as it did. -/
def guardFlowsSpec : ChangeSpec := { name := "guardFlows", fn := fun _ => fun
  | [d1, d2, d3, d4] => { results := [.lit (.bool true)], args := [d1, d2, d3, d4] }
  | _ => none }
def guardFlowsRow : OpenClaim := { program := "ytdmomnaoegkpiaa", sum := "ceb7166f83b3294bb61afd5f9123f8ec40997dcc39d81318b9545fe4dcc4c341", func := "stepwell/stepwelllaw32.GuardFlows", spec := "guardFlows", apart := false }
def GuardFlowsSaid : Prop := guardFlowsRow.holds Try.pinned (OpenSpec.ofChange guardFlowsSpec)

/-- ITS FALSE NEIGHBOUR: 'it returns false'. Refute it at one input. -/
def guardFlowsWrong : ChangeSpec := { name := "guardFlows", fn := fun _ => fun
  | [d1, d2, d3, d4] => { results := [.lit (.bool false)], args := [d1, d2, d3, d4] }
  | _ => none }
def GuardFlowsWrongFalsely : Prop := guardFlowsRow.holds Try.pinned (OpenSpec.ofChange guardFlowsWrong)

/-- 'stepwelllaw32.GuardHolds': WHATEVER THE INPUT: true; the input reads as it did. -/
def guardHoldsSpec : ChangeSpec := { name := "guardHolds", fn := fun _ => fun
  | [d1, d2] => { results := [.lit (.bool true)], args := [d1, d2] }
  | _ => none }
def guardHoldsRow : OpenClaim := { program := "ytdmomnaoegkpiaa", sum := "ceb7166f83b3294bb61afd5f9123f8ec40997dcc39d81318b9545fe4dcc4c341", func := "stepwell/stepwelllaw32.GuardHolds", spec := "guardHolds", apart := false }
def GuardHoldsSaid : Prop := guardHoldsRow.holds Try.pinned (OpenSpec.ofChange guardHoldsSpec)

/-- ITS FALSE NEIGHBOUR: 'it returns false'. Refute it at one input. -/
def guardHoldsWrong : ChangeSpec := { name := "guardHolds", fn := fun _ => fun
  | [d1, d2] => { results := [.lit (.bool false)], args := [d1, d2] }
  | _ => none }
def GuardHoldsWrongFalsely : Prop := guardHoldsRow.holds Try.pinned (OpenSpec.ofChange guardHoldsWrong)

/-- 'stepwelllaw31.CostMore': WHATEVER THE INPUT: true; the input reads as it did. -/
def costMoreSpec : ChangeSpec := { name := "costMore", fn := fun _ => fun
  | [d1, d2, d3] => { results := [.lit (.bool true)], args := [d1, d2, d3] }
  | _ => none }
def costMoreRow : OpenClaim := { program := "ytdmomnaoegkpiaa", sum := "ceb7166f83b3294bb61afd5f9123f8ec40997dcc39d81318b9545fe4dcc4c341", func := "stepwell/stepwelllaw31.CostMore", spec := "costMore", apart := false }
def CostMoreSaid : Prop := costMoreRow.holds Try.pinned (OpenSpec.ofChange costMoreSpec)

/-- ITS FALSE NEIGHBOUR: 'it returns false'. Refute it at one input. -/
def costMoreWrong : ChangeSpec := { name := "costMore", fn := fun _ => fun
  | [d1, d2, d3] => { results := [.lit (.bool false)], args := [d1, d2, d3] }
  | _ => none }
def CostMoreWrongFalsely : Prop := costMoreRow.holds Try.pinned (OpenSpec.ofChange costMoreWrong)

/-- 'stepwelllaw31.CostBlocks': WHATEVER THE INPUT: true; the input reads as it did. -/
def costBlocksSpec : ChangeSpec := { name := "costBlocks", fn := fun _ => fun
  | [d1, d2, d3, d4] => { results := [.lit (.bool true)], args := [d1, d2, d3, d4] }
  | _ => none }
def costBlocksRow : OpenClaim := { program := "ytdmomnaoegkpiaa", sum := "ceb7166f83b3294bb61afd5f9123f8ec40997dcc39d81318b9545fe4dcc4c341", func := "stepwell/stepwelllaw31.CostBlocks", spec := "costBlocks", apart := false }
def CostBlocksSaid : Prop := costBlocksRow.holds Try.pinned (OpenSpec.ofChange costBlocksSpec)

/-- ITS FALSE NEIGHBOUR: 'it returns false'. Refute it at one input. -/
def costBlocksWrong : ChangeSpec := { name := "costBlocks", fn := fun _ => fun
  | [d1, d2, d3, d4] => { results := [.lit (.bool false)], args := [d1, d2, d3, d4] }
  | _ => none }
def CostBlocksWrongFalsely : Prop := costBlocksRow.holds Try.pinned (OpenSpec.ofChange costBlocksWrong)

/-- 'stepwelllaw31.CostTables': WHATEVER THE INPUT: true; the input reads as it did. -/
def costTablesSpec : ChangeSpec := { name := "costTables", fn := fun _ => fun
  | [d1, d2] => { results := [.lit (.bool true)], args := [d1, d2] }
  | _ => none }
def costTablesRow : OpenClaim := { program := "ytdmomnaoegkpiaa", sum := "ceb7166f83b3294bb61afd5f9123f8ec40997dcc39d81318b9545fe4dcc4c341", func := "stepwell/stepwelllaw31.CostTables", spec := "costTables", unfollowed := true, recurses := true, apart := false }
def CostTablesSaid : Prop := costTablesRow.holds Try.pinned (OpenSpec.ofChange costTablesSpec)

/-- ITS FALSE NEIGHBOUR: 'it returns false'. Refute it at one input. -/
def costTablesWrong : ChangeSpec := { name := "costTables", fn := fun _ => fun
  | [d1, d2] => { results := [.lit (.bool false)], args := [d1, d2] }
  | _ => none }
def CostTablesWrongFalsely : Prop := costTablesRow.holds Try.pinned (OpenSpec.ofChange costTablesWrong)

/-- 'stepwelllaw33.ValidBundles': WHATEVER THE INPUT: true; the input reads as it did. -/
def validBundlesSpec : ChangeSpec := { name := "validBundles", fn := fun _ => fun
  | [d] => { results := [.lit (.bool true)], args := [d] }
  | _ => none }
def validBundlesRow : OpenClaim := { program := "ytdmomnaoegkpiaa", sum := "ceb7166f83b3294bb61afd5f9123f8ec40997dcc39d81318b9545fe4dcc4c341", func := "stepwell/stepwelllaw33.ValidBundles", spec := "validBundles", apart := false }
def ValidBundlesSaid : Prop := validBundlesRow.holds Try.pinned (OpenSpec.ofChange validBundlesSpec)

/-- ITS FALSE NEIGHBOUR: 'it returns false'. Refute it at one input. -/
def validBundlesWrong : ChangeSpec := { name := "validBundles", fn := fun _ => fun
  | [d] => { results := [.lit (.bool false)], args := [d] }
  | _ => none }
def ValidBundlesWrongFalsely : Prop := validBundlesRow.holds Try.pinned (OpenSpec.ofChange validBundlesWrong)

/-- 'stepwelllaw33.ValidBlocks': WHATEVER THE INPUT: true; the input reads as it did. -/
def validBlocksSpec : ChangeSpec := { name := "validBlocks", fn := fun _ => fun
  | [d1, d2, d3, d4] => { results := [.lit (.bool true)], args := [d1, d2, d3, d4] }
  | _ => none }
def validBlocksRow : OpenClaim := { program := "ytdmomnaoegkpiaa", sum := "ceb7166f83b3294bb61afd5f9123f8ec40997dcc39d81318b9545fe4dcc4c341", func := "stepwell/stepwelllaw33.ValidBlocks", spec := "validBlocks", apart := false }
def ValidBlocksSaid : Prop := validBlocksRow.holds Try.pinned (OpenSpec.ofChange validBlocksSpec)

/-- ITS FALSE NEIGHBOUR: 'it returns false'. Refute it at one input. -/
def validBlocksWrong : ChangeSpec := { name := "validBlocks", fn := fun _ => fun
  | [d1, d2, d3, d4] => { results := [.lit (.bool false)], args := [d1, d2, d3, d4] }
  | _ => none }
def ValidBlocksWrongFalsely : Prop := validBlocksRow.holds Try.pinned (OpenSpec.ofChange validBlocksWrong)

/-- 'stepwelllaw33.ValidParts': WHATEVER THE INPUT: true; the input reads as it did. -/
def validPartsSpec : ChangeSpec := { name := "validParts", fn := fun _ => fun
  | [d] => { results := [.lit (.bool true)], args := [d] }
  | _ => none }
def validPartsRow : OpenClaim := { program := "ytdmomnaoegkpiaa", sum := "ceb7166f83b3294bb61afd5f9123f8ec40997dcc39d81318b9545fe4dcc4c341", func := "stepwell/stepwelllaw33.ValidParts", spec := "validParts", apart := false }
def ValidPartsSaid : Prop := validPartsRow.holds Try.pinned (OpenSpec.ofChange validPartsSpec)

/-- ITS FALSE NEIGHBOUR: 'it returns false'. Refute it at one input. -/
def validPartsWrong : ChangeSpec := { name := "validParts", fn := fun _ => fun
  | [d] => { results := [.lit (.bool false)], args := [d] }
  | _ => none }
def ValidPartsWrongFalsely : Prop := validPartsRow.holds Try.pinned (OpenSpec.ofChange validPartsWrong)

/-- 'stepwelllaw51.PruneUsed': WHATEVER THE INPUT: true; the input reads as it did. -/
def pruneUsedSpec : ChangeSpec := { name := "pruneUsed", fn := fun _ => fun
  | [d] => { results := [.lit (.bool true)], args := [d] }
  | _ => none }
def pruneUsedRow : OpenClaim := { program := "ytdmomnaoegkpiaa", sum := "ceb7166f83b3294bb61afd5f9123f8ec40997dcc39d81318b9545fe4dcc4c341", func := "stepwell/stepwelllaw51.PruneUsed", spec := "pruneUsed", recurses := true, apart := false }
def PruneUsedSaid : Prop := pruneUsedRow.holds Try.pinned (OpenSpec.ofChange pruneUsedSpec)

/-- ITS FALSE NEIGHBOUR: 'it returns false'. Refute it at one input. -/
def pruneUsedWrong : ChangeSpec := { name := "pruneUsed", fn := fun _ => fun
  | [d] => { results := [.lit (.bool false)], args := [d] }
  | _ => none }
def PruneUsedWrongFalsely : Prop := pruneUsedRow.holds Try.pinned (OpenSpec.ofChange pruneUsedWrong)

/-- 'stepwelllaw51.PruneSame': WHATEVER THE INPUT: true; the input reads as it did. -/
def pruneSameSpec : ChangeSpec := { name := "pruneSame", fn := fun _ => fun
  | [d1, d2] => { results := [.lit (.bool true)], args := [d1, d2] }
  | _ => none }
def pruneSameRow : OpenClaim := { program := "ytdmomnaoegkpiaa", sum := "ceb7166f83b3294bb61afd5f9123f8ec40997dcc39d81318b9545fe4dcc4c341", func := "stepwell/stepwelllaw51.PruneSame", spec := "pruneSame", apart := false }
def PruneSameSaid : Prop := pruneSameRow.holds Try.pinned (OpenSpec.ofChange pruneSameSpec)

/-- ITS FALSE NEIGHBOUR: 'it returns false'. Refute it at one input. -/
def pruneSameWrong : ChangeSpec := { name := "pruneSame", fn := fun _ => fun
  | [d1, d2] => { results := [.lit (.bool false)], args := [d1, d2] }
  | _ => none }
def PruneSameWrongFalsely : Prop := pruneSameRow.holds Try.pinned (OpenSpec.ofChange pruneSameWrong)

/-- 'stepwelllaw52.FuseBlocks': WHATEVER THE INPUT: true; the input reads as it did. -/
def fuseBlocksSpec : ChangeSpec := { name := "fuseBlocks", fn := fun _ => fun
  | [d1, d2] => { results := [.lit (.bool true)], args := [d1, d2] }
  | _ => none }
def fuseBlocksRow : OpenClaim := { program := "ytdmomnaoegkpiaa", sum := "ceb7166f83b3294bb61afd5f9123f8ec40997dcc39d81318b9545fe4dcc4c341", func := "stepwell/stepwelllaw52.FuseBlocks", spec := "fuseBlocks", unfollowed := true, recurses := true, apart := false }
def FuseBlocksSaid : Prop := fuseBlocksRow.holds Try.pinned (OpenSpec.ofChange fuseBlocksSpec)

/-- ITS FALSE NEIGHBOUR: 'it returns false'. Refute it at one input. -/
def fuseBlocksWrong : ChangeSpec := { name := "fuseBlocks", fn := fun _ => fun
  | [d1, d2] => { results := [.lit (.bool false)], args := [d1, d2] }
  | _ => none }
def FuseBlocksWrongFalsely : Prop := fuseBlocksRow.holds Try.pinned (OpenSpec.ofChange fuseBlocksWrong)

/-- 'stepwelllaw20.JoinTensors': WHATEVER THE INPUT: true; the input reads as it did. -/
def joinTensorsSpec : ChangeSpec := { name := "joinTensors", fn := fun _ => fun
  | [d1, d2, d3, d4, d5] => { results := [.lit (.bool true)], args := [d1, d2, d3, d4, d5] }
  | _ => none }
def joinTensorsRow : OpenClaim := { program := "ytdmomnaoegkpiaa", sum := "ceb7166f83b3294bb61afd5f9123f8ec40997dcc39d81318b9545fe4dcc4c341", func := "stepwell/stepwelllaw20.JoinTensors", spec := "joinTensors", unfollowed := true, recurses := true, apart := false }
def JoinTensorsSaid : Prop := joinTensorsRow.holds Try.pinned (OpenSpec.ofChange joinTensorsSpec)

/-- ITS FALSE NEIGHBOUR: 'it returns false'. Refute it at one input. -/
def joinTensorsWrong : ChangeSpec := { name := "joinTensors", fn := fun _ => fun
  | [d1, d2, d3, d4, d5] => { results := [.lit (.bool false)], args := [d1, d2, d3, d4, d5] }
  | _ => none }
def JoinTensorsWrongFalsely : Prop := joinTensorsRow.holds Try.pinned (OpenSpec.ofChange joinTensorsWrong)

/-- 'stepwelllaw20.JoinTurned': WHATEVER THE INPUT: true; the input reads as it did. -/
def joinTurnedSpec : ChangeSpec := { name := "joinTurned", fn := fun _ => fun
  | [d1, d2, d3] => { results := [.lit (.bool true)], args := [d1, d2, d3] }
  | _ => none }
def joinTurnedRow : OpenClaim := { program := "ytdmomnaoegkpiaa", sum := "ceb7166f83b3294bb61afd5f9123f8ec40997dcc39d81318b9545fe4dcc4c341", func := "stepwell/stepwelllaw20.JoinTurned", spec := "joinTurned", unfollowed := true, recurses := true, apart := false }
def JoinTurnedSaid : Prop := joinTurnedRow.holds Try.pinned (OpenSpec.ofChange joinTurnedSpec)

/-- ITS FALSE NEIGHBOUR: 'it returns false'. Refute it at one input. -/
def joinTurnedWrong : ChangeSpec := { name := "joinTurned", fn := fun _ => fun
  | [d1, d2, d3] => { results := [.lit (.bool false)], args := [d1, d2, d3] }
  | _ => none }
def JoinTurnedWrongFalsely : Prop := joinTurnedRow.holds Try.pinned (OpenSpec.ofChange joinTurnedWrong)

/- THE SECOND FORM. 'bulk': how many values and letters a reading holds, each counted each time it is reached (what is shared counts as often as it is met; a slice's spare places count too). A statement '..UptoSaid' is the law's where the arguments, and the package variables that the reading takes, are together of bulk at most 1048576: NARROWER than '..Said'. Prove '..Said' where nothing that the law and all that it calls make is longer than what came in: it says more and counts as full. Else prove '..UptoSaid'. A law counts once. -/
mutual
def uptoBulk {H : Type} : DataW H → Nat
  | .lit (.string bytes) => bytes.length + 1
  | .lit _ => 1
  | .nil => 1
  | .ptr d => uptoBulk d + 1
  | .slice elems spare => uptoBulkAll elems + uptoBulkAll spare + 1
  | .agg parts => uptoBulkAll parts + 1
  | .iface _ d => uptoBulk d + 1
  | .map entries => uptoBulkEntries entries + 1
  | .held _ => 1
def uptoBulkAll {H : Type} : List (DataW H) → Nat
  | [] => 0
  | d :: r => uptoBulk d + uptoBulkAll r
def uptoBulkEntries {H : Type} : List (Lit × DataW H) → Nat
  | [] => 0
  | x :: r => uptoBulkEntry x + uptoBulkEntries r
def uptoBulkEntry {H : Type} : Lit × DataW H → Nat
  | (.string bytes, d) => bytes.length + uptoBulk d + 1
  | (_, d) => uptoBulk d + 1
 end
def uptoSmall : (H : Type) → List (DataW H) → Bool := fun _ ds => decide (uptoBulkAll ds ≤ 1048576)
def OpenSpec.upto (s : _root_.Go.ChangeSpec) : _root_.Go.OpenSpec := { _root_.Go.OpenSpec.ofChange s with cond := some uptoSmall }

/-- 'stepwelllaw32.GuardFlows', WHERE WHAT IT READS IS OF BULK AT MOST 1048576: true; the input reads as it did. -/
def guardFlowsUptoRow : OpenClaim := { program := "ytdmomnaoegkpiaa", sum := "ceb7166f83b3294bb61afd5f9123f8ec40997dcc39d81318b9545fe4dcc4c341", func := "stepwell/stepwelllaw32.GuardFlows", spec := "guardFlows", apart := false, narrowed := true }
def GuardFlowsUptoSaid : Prop := guardFlowsUptoRow.holds Try.pinned (OpenSpec.upto guardFlowsSpec)

/-- 'stepwelllaw32.GuardHolds', WHERE WHAT IT READS IS OF BULK AT MOST 1048576: true; the input reads as it did. -/
def guardHoldsUptoRow : OpenClaim := { program := "ytdmomnaoegkpiaa", sum := "ceb7166f83b3294bb61afd5f9123f8ec40997dcc39d81318b9545fe4dcc4c341", func := "stepwell/stepwelllaw32.GuardHolds", spec := "guardHolds", apart := false, narrowed := true }
def GuardHoldsUptoSaid : Prop := guardHoldsUptoRow.holds Try.pinned (OpenSpec.upto guardHoldsSpec)

/-- 'stepwelllaw31.CostMore', WHERE WHAT IT READS IS OF BULK AT MOST 1048576: true; the input reads as it did. -/
def costMoreUptoRow : OpenClaim := { program := "ytdmomnaoegkpiaa", sum := "ceb7166f83b3294bb61afd5f9123f8ec40997dcc39d81318b9545fe4dcc4c341", func := "stepwell/stepwelllaw31.CostMore", spec := "costMore", apart := false, narrowed := true }
def CostMoreUptoSaid : Prop := costMoreUptoRow.holds Try.pinned (OpenSpec.upto costMoreSpec)

/-- 'stepwelllaw31.CostBlocks', WHERE WHAT IT READS IS OF BULK AT MOST 1048576: true; the input reads as it did. -/
def costBlocksUptoRow : OpenClaim := { program := "ytdmomnaoegkpiaa", sum := "ceb7166f83b3294bb61afd5f9123f8ec40997dcc39d81318b9545fe4dcc4c341", func := "stepwell/stepwelllaw31.CostBlocks", spec := "costBlocks", apart := false, narrowed := true }
def CostBlocksUptoSaid : Prop := costBlocksUptoRow.holds Try.pinned (OpenSpec.upto costBlocksSpec)

/-- 'stepwelllaw31.CostTables', WHERE WHAT IT READS IS OF BULK AT MOST 1048576: true; the input reads as it did. -/
def costTablesUptoRow : OpenClaim := { program := "ytdmomnaoegkpiaa", sum := "ceb7166f83b3294bb61afd5f9123f8ec40997dcc39d81318b9545fe4dcc4c341", func := "stepwell/stepwelllaw31.CostTables", spec := "costTables", unfollowed := true, recurses := true, apart := false, narrowed := true }
def CostTablesUptoSaid : Prop := costTablesUptoRow.holds Try.pinned (OpenSpec.upto costTablesSpec)

/-- 'stepwelllaw33.ValidBundles', WHERE WHAT IT READS IS OF BULK AT MOST 1048576: true; the input reads as it did. -/
def validBundlesUptoRow : OpenClaim := { program := "ytdmomnaoegkpiaa", sum := "ceb7166f83b3294bb61afd5f9123f8ec40997dcc39d81318b9545fe4dcc4c341", func := "stepwell/stepwelllaw33.ValidBundles", spec := "validBundles", apart := false, narrowed := true }
def ValidBundlesUptoSaid : Prop := validBundlesUptoRow.holds Try.pinned (OpenSpec.upto validBundlesSpec)

/-- 'stepwelllaw33.ValidBlocks', WHERE WHAT IT READS IS OF BULK AT MOST 1048576: true; the input reads as it did. -/
def validBlocksUptoRow : OpenClaim := { program := "ytdmomnaoegkpiaa", sum := "ceb7166f83b3294bb61afd5f9123f8ec40997dcc39d81318b9545fe4dcc4c341", func := "stepwell/stepwelllaw33.ValidBlocks", spec := "validBlocks", apart := false, narrowed := true }
def ValidBlocksUptoSaid : Prop := validBlocksUptoRow.holds Try.pinned (OpenSpec.upto validBlocksSpec)

/-- 'stepwelllaw33.ValidParts', WHERE WHAT IT READS IS OF BULK AT MOST 1048576: true; the input reads as it did. -/
def validPartsUptoRow : OpenClaim := { program := "ytdmomnaoegkpiaa", sum := "ceb7166f83b3294bb61afd5f9123f8ec40997dcc39d81318b9545fe4dcc4c341", func := "stepwell/stepwelllaw33.ValidParts", spec := "validParts", apart := false, narrowed := true }
def ValidPartsUptoSaid : Prop := validPartsUptoRow.holds Try.pinned (OpenSpec.upto validPartsSpec)

/-- 'stepwelllaw51.PruneUsed', WHERE WHAT IT READS IS OF BULK AT MOST 1048576: true; the input reads as it did. -/
def pruneUsedUptoRow : OpenClaim := { program := "ytdmomnaoegkpiaa", sum := "ceb7166f83b3294bb61afd5f9123f8ec40997dcc39d81318b9545fe4dcc4c341", func := "stepwell/stepwelllaw51.PruneUsed", spec := "pruneUsed", recurses := true, apart := false, narrowed := true }
def PruneUsedUptoSaid : Prop := pruneUsedUptoRow.holds Try.pinned (OpenSpec.upto pruneUsedSpec)

/-- 'stepwelllaw51.PruneSame', WHERE WHAT IT READS IS OF BULK AT MOST 1048576: true; the input reads as it did. -/
def pruneSameUptoRow : OpenClaim := { program := "ytdmomnaoegkpiaa", sum := "ceb7166f83b3294bb61afd5f9123f8ec40997dcc39d81318b9545fe4dcc4c341", func := "stepwell/stepwelllaw51.PruneSame", spec := "pruneSame", apart := false, narrowed := true }
def PruneSameUptoSaid : Prop := pruneSameUptoRow.holds Try.pinned (OpenSpec.upto pruneSameSpec)

/-- 'stepwelllaw52.FuseBlocks', WHERE WHAT IT READS IS OF BULK AT MOST 1048576: true; the input reads as it did. -/
def fuseBlocksUptoRow : OpenClaim := { program := "ytdmomnaoegkpiaa", sum := "ceb7166f83b3294bb61afd5f9123f8ec40997dcc39d81318b9545fe4dcc4c341", func := "stepwell/stepwelllaw52.FuseBlocks", spec := "fuseBlocks", unfollowed := true, recurses := true, apart := false, narrowed := true }
def FuseBlocksUptoSaid : Prop := fuseBlocksUptoRow.holds Try.pinned (OpenSpec.upto fuseBlocksSpec)

/-- 'stepwelllaw20.JoinTensors', WHERE WHAT IT READS IS OF BULK AT MOST 1048576: true; the input reads as it did. -/
def joinTensorsUptoRow : OpenClaim := { program := "ytdmomnaoegkpiaa", sum := "ceb7166f83b3294bb61afd5f9123f8ec40997dcc39d81318b9545fe4dcc4c341", func := "stepwell/stepwelllaw20.JoinTensors", spec := "joinTensors", unfollowed := true, recurses := true, apart := false, narrowed := true }
def JoinTensorsUptoSaid : Prop := joinTensorsUptoRow.holds Try.pinned (OpenSpec.upto joinTensorsSpec)

/-- 'stepwelllaw20.JoinTurned', WHERE WHAT IT READS IS OF BULK AT MOST 1048576: true; the input reads as it did. -/
def joinTurnedUptoRow : OpenClaim := { program := "ytdmomnaoegkpiaa", sum := "ceb7166f83b3294bb61afd5f9123f8ec40997dcc39d81318b9545fe4dcc4c341", func := "stepwell/stepwelllaw20.JoinTurned", spec := "joinTurned", unfollowed := true, recurses := true, apart := false, narrowed := true }
def JoinTurnedUptoSaid : Prop := joinTurnedUptoRow.holds Try.pinned (OpenSpec.upto joinTurnedSpec)

end Rows
end Go.Proofs.Ytdmomnaoegkpiaa
