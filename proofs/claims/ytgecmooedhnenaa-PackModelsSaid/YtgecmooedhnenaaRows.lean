/-
  No cell of these rows narrows 'for every input' (looked for: loops, veiled, ifaces, maps, wideKeys, modest, calm, conditions, laid).
  DERIVED. THE GIVEN ROWS OF THIS SEAT. 10 by the template 'for every input the law returns true; each argument reads behind the call as it read before'; 0 by the template 'total and deterministic' (their statements: YtgecmooedhnenaaTotals.lean).
  GIVEN WITH THE SEED: the statements are not yours to turn. If you find one false, say at which input.
  Laid BY PROGRAM, IN A SANDBOX (cutbox-rows.mjs): the forced cells as the released guide's own fill.sh prints them over the translation bfa000ac26d1f468… (all of the seat's roots in one cut). By AI agents, Wed Nov 11 2026. No macro, syntax, notation, axiom, sorry.
-/
import Derived.Test.YtgecmooedhnenaaChecked
import GoSem.Claim
import GoSem.ClaimJoined
import GoSem.ClaimMapViews
import Derived.JoinedTies
import Derived.KernelRfl
namespace Go.Proofs.Ytgecmooedhnenaa
/- THE CELL 'sum', in the pinned program and in every row, IS THE sha256 OF THE DUMP (.gsa) THAT YtgecmooedhnenaaProg.lean LOADS. Nothing in Lean hashes anything: it is a label: what it is worth is what the hold of that sum in a sandbox is worth. -/
noncomputable def Try.pinned : Pinned := { name := "ytgecmooedhnenaa", sum := "bfa000ac26d1f468a22a477e4104d415b1cbbdf2ba4b1603f2e0320ceecbb208", checked := Try.checked }
namespace Rows
def none {H : Type} : Left H := { results := [], args := [] }

/-- 'stepwelllaw32.GuardHolds': WHATEVER THE INPUT: true; the input reads as it did. -/
def guardHoldsSpec : ChangeSpec := { name := "guardHolds", fn := fun _ => fun
  | [d1, d2] => { results := [.lit (.bool true)], args := [d1, d2] }
  | _ => none }
def guardHoldsRow : OpenClaim := { program := "ytgecmooedhnenaa", sum := "bfa000ac26d1f468a22a477e4104d415b1cbbdf2ba4b1603f2e0320ceecbb208", func := "stepwell/stepwelllaw32.GuardHolds", spec := "guardHolds", apart := false }
def GuardHoldsSaid : Prop := guardHoldsRow.holds Try.pinned (OpenSpec.ofChange guardHoldsSpec)

/-- ITS FALSE NEIGHBOUR: 'it returns false'. Refute it at one input. -/
def guardHoldsWrong : ChangeSpec := { name := "guardHolds", fn := fun _ => fun
  | [d1, d2] => { results := [.lit (.bool false)], args := [d1, d2] }
  | _ => none }
def GuardHoldsWrongFalsely : Prop := guardHoldsRow.holds Try.pinned (OpenSpec.ofChange guardHoldsWrong)

/-- 'stepwelllaw51.PruneUsed': WHATEVER THE INPUT: true; the input reads as it did. -/
def pruneUsedSpec : ChangeSpec := { name := "pruneUsed", fn := fun _ => fun
  | [d] => { results := [.lit (.bool true)], args := [d] }
  | _ => none }
def pruneUsedRow : OpenClaim := { program := "ytgecmooedhnenaa", sum := "bfa000ac26d1f468a22a477e4104d415b1cbbdf2ba4b1603f2e0320ceecbb208", func := "stepwell/stepwelllaw51.PruneUsed", spec := "pruneUsed", recurses := true, apart := false }
def PruneUsedSaid : Prop := pruneUsedRow.holds Try.pinned (OpenSpec.ofChange pruneUsedSpec)

/-- ITS FALSE NEIGHBOUR: 'it returns false'. Refute it at one input. -/
def pruneUsedWrong : ChangeSpec := { name := "pruneUsed", fn := fun _ => fun
  | [d] => { results := [.lit (.bool false)], args := [d] }
  | _ => none }
def PruneUsedWrongFalsely : Prop := pruneUsedRow.holds Try.pinned (OpenSpec.ofChange pruneUsedWrong)

/-- 'stepwelllaw51.PruneSame': WHATEVER THE INPUT: true; the input reads as it did. -/
def pruneSameSpec : ChangeSpec := { name := "pruneSame", fn := fun _ => fun
  | [d1, d2] => { results := [.lit (.bool true)], args := [d1, d2] }
  | _ => none }
def pruneSameRow : OpenClaim := { program := "ytgecmooedhnenaa", sum := "bfa000ac26d1f468a22a477e4104d415b1cbbdf2ba4b1603f2e0320ceecbb208", func := "stepwell/stepwelllaw51.PruneSame", spec := "pruneSame", apart := false }
def PruneSameSaid : Prop := pruneSameRow.holds Try.pinned (OpenSpec.ofChange pruneSameSpec)

/-- ITS FALSE NEIGHBOUR: 'it returns false'. Refute it at one input. -/
def pruneSameWrong : ChangeSpec := { name := "pruneSame", fn := fun _ => fun
  | [d1, d2] => { results := [.lit (.bool false)], args := [d1, d2] }
  | _ => none }
def PruneSameWrongFalsely : Prop := pruneSameRow.holds Try.pinned (OpenSpec.ofChange pruneSameWrong)

/-- 'stepwelllaw52.FuseBlocks': WHATEVER THE INPUT: true; the input reads as it did. -/
def fuseBlocksSpec : ChangeSpec := { name := "fuseBlocks", fn := fun _ => fun
  | [d1, d2] => { results := [.lit (.bool true)], args := [d1, d2] }
  | _ => none }
def fuseBlocksRow : OpenClaim := { program := "ytgecmooedhnenaa", sum := "bfa000ac26d1f468a22a477e4104d415b1cbbdf2ba4b1603f2e0320ceecbb208", func := "stepwell/stepwelllaw52.FuseBlocks", spec := "fuseBlocks", unfollowed := true, recurses := true, apart := false }
def FuseBlocksSaid : Prop := fuseBlocksRow.holds Try.pinned (OpenSpec.ofChange fuseBlocksSpec)

/-- ITS FALSE NEIGHBOUR: 'it returns false'. Refute it at one input. -/
def fuseBlocksWrong : ChangeSpec := { name := "fuseBlocks", fn := fun _ => fun
  | [d1, d2] => { results := [.lit (.bool false)], args := [d1, d2] }
  | _ => none }
def FuseBlocksWrongFalsely : Prop := fuseBlocksRow.holds Try.pinned (OpenSpec.ofChange fuseBlocksWrong)

/-- 'stepwelllaw20.JoinTensors': WHATEVER THE INPUT: true; the input reads as it did. -/
def joinTensorsSpec : ChangeSpec := { name := "joinTensors", fn := fun _ => fun
  | [d1, d2, d3, d4, d5] => { results := [.lit (.bool true)], args := [d1, d2, d3, d4, d5] }
  | _ => none }
def joinTensorsRow : OpenClaim := { program := "ytgecmooedhnenaa", sum := "bfa000ac26d1f468a22a477e4104d415b1cbbdf2ba4b1603f2e0320ceecbb208", func := "stepwell/stepwelllaw20.JoinTensors", spec := "joinTensors", unfollowed := true, recurses := true, apart := false }
def JoinTensorsSaid : Prop := joinTensorsRow.holds Try.pinned (OpenSpec.ofChange joinTensorsSpec)

/-- ITS FALSE NEIGHBOUR: 'it returns false'. Refute it at one input. -/
def joinTensorsWrong : ChangeSpec := { name := "joinTensors", fn := fun _ => fun
  | [d1, d2, d3, d4, d5] => { results := [.lit (.bool false)], args := [d1, d2, d3, d4, d5] }
  | _ => none }
def JoinTensorsWrongFalsely : Prop := joinTensorsRow.holds Try.pinned (OpenSpec.ofChange joinTensorsWrong)

/-- 'stepwelllaw20.JoinTurned': WHATEVER THE INPUT: true; the input reads as it did. -/
def joinTurnedSpec : ChangeSpec := { name := "joinTurned", fn := fun _ => fun
  | [d1, d2, d3] => { results := [.lit (.bool true)], args := [d1, d2, d3] }
  | _ => none }
def joinTurnedRow : OpenClaim := { program := "ytgecmooedhnenaa", sum := "bfa000ac26d1f468a22a477e4104d415b1cbbdf2ba4b1603f2e0320ceecbb208", func := "stepwell/stepwelllaw20.JoinTurned", spec := "joinTurned", unfollowed := true, recurses := true, apart := false }
def JoinTurnedSaid : Prop := joinTurnedRow.holds Try.pinned (OpenSpec.ofChange joinTurnedSpec)

/-- ITS FALSE NEIGHBOUR: 'it returns false'. Refute it at one input. -/
def joinTurnedWrong : ChangeSpec := { name := "joinTurned", fn := fun _ => fun
  | [d1, d2, d3] => { results := [.lit (.bool false)], args := [d1, d2, d3] }
  | _ => none }
def JoinTurnedWrongFalsely : Prop := joinTurnedRow.holds Try.pinned (OpenSpec.ofChange joinTurnedWrong)

/-- 'stepwelllaw34.PackNodes': WHATEVER THE INPUT: true; the input reads as it did. -/
def packNodesSpec : ChangeSpec := { name := "packNodes", fn := fun _ => fun
  | [d1, d2] => { results := [.lit (.bool true)], args := [d1, d2] }
  | _ => none }
def packNodesRow : OpenClaim := { program := "ytgecmooedhnenaa", sum := "bfa000ac26d1f468a22a477e4104d415b1cbbdf2ba4b1603f2e0320ceecbb208", func := "stepwell/stepwelllaw34.PackNodes", spec := "packNodes", unfollowed := true, recurses := true, apart := false }
def PackNodesSaid : Prop := packNodesRow.holds Try.pinned (OpenSpec.ofChange packNodesSpec)

/-- ITS FALSE NEIGHBOUR: 'it returns false'. Refute it at one input. -/
def packNodesWrong : ChangeSpec := { name := "packNodes", fn := fun _ => fun
  | [d1, d2] => { results := [.lit (.bool false)], args := [d1, d2] }
  | _ => none }
def PackNodesWrongFalsely : Prop := packNodesRow.holds Try.pinned (OpenSpec.ofChange packNodesWrong)

/-- 'stepwelllaw34.PackBlocks': WHATEVER THE INPUT: true; the input reads as it did. -/
def packBlocksSpec : ChangeSpec := { name := "packBlocks", fn := fun _ => fun
  | [d1, d2] => { results := [.lit (.bool true)], args := [d1, d2] }
  | _ => none }
def packBlocksRow : OpenClaim := { program := "ytgecmooedhnenaa", sum := "bfa000ac26d1f468a22a477e4104d415b1cbbdf2ba4b1603f2e0320ceecbb208", func := "stepwell/stepwelllaw34.PackBlocks", spec := "packBlocks", unfollowed := true, recurses := true, apart := false }
def PackBlocksSaid : Prop := packBlocksRow.holds Try.pinned (OpenSpec.ofChange packBlocksSpec)

/-- ITS FALSE NEIGHBOUR: 'it returns false'. Refute it at one input. -/
def packBlocksWrong : ChangeSpec := { name := "packBlocks", fn := fun _ => fun
  | [d1, d2] => { results := [.lit (.bool false)], args := [d1, d2] }
  | _ => none }
def PackBlocksWrongFalsely : Prop := packBlocksRow.holds Try.pinned (OpenSpec.ofChange packBlocksWrong)

/-- 'stepwelllaw34.PackModels': WHATEVER THE INPUT: true; the input reads as it did. -/
def packModelsSpec : ChangeSpec := { name := "packModels", fn := fun _ => fun
  | [d1, d2] => { results := [.lit (.bool true)], args := [d1, d2] }
  | _ => none }
def packModelsRow : OpenClaim := { program := "ytgecmooedhnenaa", sum := "bfa000ac26d1f468a22a477e4104d415b1cbbdf2ba4b1603f2e0320ceecbb208", func := "stepwell/stepwelllaw34.PackModels", spec := "packModels", unfollowed := true, recurses := true, apart := false }
def PackModelsSaid : Prop := packModelsRow.holds Try.pinned (OpenSpec.ofChange packModelsSpec)

/-- ITS FALSE NEIGHBOUR: 'it returns false'. Refute it at one input. -/
def packModelsWrong : ChangeSpec := { name := "packModels", fn := fun _ => fun
  | [d1, d2] => { results := [.lit (.bool false)], args := [d1, d2] }
  | _ => none }
def PackModelsWrongFalsely : Prop := packModelsRow.holds Try.pinned (OpenSpec.ofChange packModelsWrong)

/-- 'stepwelllaw49.CraftBundles': WHATEVER THE INPUT: true; the input reads as it did. -/
def craftBundlesSpec : ChangeSpec := { name := "craftBundles", fn := fun _ => fun
  | [d] => { results := [.lit (.bool true)], args := [d] }
  | _ => none }
def craftBundlesRow : OpenClaim := { program := "ytgecmooedhnenaa", sum := "bfa000ac26d1f468a22a477e4104d415b1cbbdf2ba4b1603f2e0320ceecbb208", func := "stepwell/stepwelllaw49.CraftBundles", spec := "craftBundles", unfollowed := true, recurses := true, apart := false }
def CraftBundlesSaid : Prop := craftBundlesRow.holds Try.pinned (OpenSpec.ofChange craftBundlesSpec)

/-- ITS FALSE NEIGHBOUR: 'it returns false'. Refute it at one input. -/
def craftBundlesWrong : ChangeSpec := { name := "craftBundles", fn := fun _ => fun
  | [d] => { results := [.lit (.bool false)], args := [d] }
  | _ => none }
def CraftBundlesWrongFalsely : Prop := craftBundlesRow.holds Try.pinned (OpenSpec.ofChange craftBundlesWrong)

/- THE SECOND FORM. 'bulk': how many values and letters a reading holds, each counted each time it is reached (what is shared counts as often as it is met; a slice's spare places count too). A statement '..UptoSaid' is the law's where the arguments, and the package variables that the reading takes, are together of bulk at most 1048576: NARROWER than '..Said'. Prove '..Said' where nothing that the law and all that it calls make is longer than what came in: it says more and counts as full. Else prove '..UptoSaid'. A law counts once. -/
mutual
def uptoBulk {H : Type} : DataW H → Nat
  | .lit (.string bytes) => bytes.length + 1
  | .lit _ => 1
  | .nil => 1
  | .ptr d => uptoBulk d + 1
  | .slice elems spare => uptoBulkAll elems + uptoBulkAll spare + 1
  | .agg parts => uptoBulkAll parts + 1
  | .iface _ d => uptoBulk d + 1
  | .map entries => uptoBulkEntries entries + 1
  | .held _ => 1
def uptoBulkAll {H : Type} : List (DataW H) → Nat
  | [] => 0
  | d :: r => uptoBulk d + uptoBulkAll r
def uptoBulkEntries {H : Type} : List (Lit × DataW H) → Nat
  | [] => 0
  | x :: r => uptoBulkEntry x + uptoBulkEntries r
def uptoBulkEntry {H : Type} : Lit × DataW H → Nat
  | (.string bytes, d) => bytes.length + uptoBulk d + 1
  | (_, d) => uptoBulk d + 1
 end
def uptoSmall : (H : Type) → List (DataW H) → Bool := fun _ ds => decide (uptoBulkAll ds ≤ 1048576)
def OpenSpec.upto (s : _root_.Go.ChangeSpec) : _root_.Go.OpenSpec := { _root_.Go.OpenSpec.ofChange s with cond := some uptoSmall }

/-- 'stepwelllaw32.GuardHolds', WHERE WHAT IT READS IS OF BULK AT MOST 1048576: true; the input reads as it did. -/
def guardHoldsUptoRow : OpenClaim := { program := "ytgecmooedhnenaa", sum := "bfa000ac26d1f468a22a477e4104d415b1cbbdf2ba4b1603f2e0320ceecbb208", func := "stepwell/stepwelllaw32.GuardHolds", spec := "guardHolds", apart := false, narrowed := true }
def GuardHoldsUptoSaid : Prop := guardHoldsUptoRow.holds Try.pinned (OpenSpec.upto guardHoldsSpec)

/-- 'stepwelllaw51.PruneUsed', WHERE WHAT IT READS IS OF BULK AT MOST 1048576: true; the input reads as it did. -/
def pruneUsedUptoRow : OpenClaim := { program := "ytgecmooedhnenaa", sum := "bfa000ac26d1f468a22a477e4104d415b1cbbdf2ba4b1603f2e0320ceecbb208", func := "stepwell/stepwelllaw51.PruneUsed", spec := "pruneUsed", recurses := true, apart := false, narrowed := true }
def PruneUsedUptoSaid : Prop := pruneUsedUptoRow.holds Try.pinned (OpenSpec.upto pruneUsedSpec)

/-- 'stepwelllaw51.PruneSame', WHERE WHAT IT READS IS OF BULK AT MOST 1048576: true; the input reads as it did. -/
def pruneSameUptoRow : OpenClaim := { program := "ytgecmooedhnenaa", sum := "bfa000ac26d1f468a22a477e4104d415b1cbbdf2ba4b1603f2e0320ceecbb208", func := "stepwell/stepwelllaw51.PruneSame", spec := "pruneSame", apart := false, narrowed := true }
def PruneSameUptoSaid : Prop := pruneSameUptoRow.holds Try.pinned (OpenSpec.upto pruneSameSpec)

/-- 'stepwelllaw52.FuseBlocks', WHERE WHAT IT READS IS OF BULK AT MOST 1048576: true; the input reads as it did. -/
def fuseBlocksUptoRow : OpenClaim := { program := "ytgecmooedhnenaa", sum := "bfa000ac26d1f468a22a477e4104d415b1cbbdf2ba4b1603f2e0320ceecbb208", func := "stepwell/stepwelllaw52.FuseBlocks", spec := "fuseBlocks", unfollowed := true, recurses := true, apart := false, narrowed := true }
def FuseBlocksUptoSaid : Prop := fuseBlocksUptoRow.holds Try.pinned (OpenSpec.upto fuseBlocksSpec)

/-- 'stepwelllaw20.JoinTensors', WHERE WHAT IT READS IS OF BULK AT MOST 1048576: true; the input reads as it did. -/
def joinTensorsUptoRow : OpenClaim := { program := "ytgecmooedhnenaa", sum := "bfa000ac26d1f468a22a477e4104d415b1cbbdf2ba4b1603f2e0320ceecbb208", func := "stepwell/stepwelllaw20.JoinTensors", spec := "joinTensors", unfollowed := true, recurses := true, apart := false, narrowed := true }
def JoinTensorsUptoSaid : Prop := joinTensorsUptoRow.holds Try.pinned (OpenSpec.upto joinTensorsSpec)

/-- 'stepwelllaw20.JoinTurned', WHERE WHAT IT READS IS OF BULK AT MOST 1048576: true; the input reads as it did. -/
def joinTurnedUptoRow : OpenClaim := { program := "ytgecmooedhnenaa", sum := "bfa000ac26d1f468a22a477e4104d415b1cbbdf2ba4b1603f2e0320ceecbb208", func := "stepwell/stepwelllaw20.JoinTurned", spec := "joinTurned", unfollowed := true, recurses := true, apart := false, narrowed := true }
def JoinTurnedUptoSaid : Prop := joinTurnedUptoRow.holds Try.pinned (OpenSpec.upto joinTurnedSpec)

/-- 'stepwelllaw34.PackNodes', WHERE WHAT IT READS IS OF BULK AT MOST 1048576: true; the input reads as it did. -/
def packNodesUptoRow : OpenClaim := { program := "ytgecmooedhnenaa", sum := "bfa000ac26d1f468a22a477e4104d415b1cbbdf2ba4b1603f2e0320ceecbb208", func := "stepwell/stepwelllaw34.PackNodes", spec := "packNodes", unfollowed := true, recurses := true, apart := false, narrowed := true }
def PackNodesUptoSaid : Prop := packNodesUptoRow.holds Try.pinned (OpenSpec.upto packNodesSpec)

/-- 'stepwelllaw34.PackBlocks', WHERE WHAT IT READS IS OF BULK AT MOST 1048576: true; the input reads as it did. -/
def packBlocksUptoRow : OpenClaim := { program := "ytgecmooedhnenaa", sum := "bfa000ac26d1f468a22a477e4104d415b1cbbdf2ba4b1603f2e0320ceecbb208", func := "stepwell/stepwelllaw34.PackBlocks", spec := "packBlocks", unfollowed := true, recurses := true, apart := false, narrowed := true }
def PackBlocksUptoSaid : Prop := packBlocksUptoRow.holds Try.pinned (OpenSpec.upto packBlocksSpec)

/-- 'stepwelllaw34.PackModels', WHERE WHAT IT READS IS OF BULK AT MOST 1048576: true; the input reads as it did. -/
def packModelsUptoRow : OpenClaim := { program := "ytgecmooedhnenaa", sum := "bfa000ac26d1f468a22a477e4104d415b1cbbdf2ba4b1603f2e0320ceecbb208", func := "stepwell/stepwelllaw34.PackModels", spec := "packModels", unfollowed := true, recurses := true, apart := false, narrowed := true }
def PackModelsUptoSaid : Prop := packModelsUptoRow.holds Try.pinned (OpenSpec.upto packModelsSpec)

/-- 'stepwelllaw49.CraftBundles', WHERE WHAT IT READS IS OF BULK AT MOST 1048576: true; the input reads as it did. -/
def craftBundlesUptoRow : OpenClaim := { program := "ytgecmooedhnenaa", sum := "bfa000ac26d1f468a22a477e4104d415b1cbbdf2ba4b1603f2e0320ceecbb208", func := "stepwell/stepwelllaw49.CraftBundles", spec := "craftBundles", unfollowed := true, recurses := true, apart := false, narrowed := true }
def CraftBundlesUptoSaid : Prop := craftBundlesUptoRow.holds Try.pinned (OpenSpec.upto craftBundlesSpec)

end Rows
end Go.Proofs.Ytgecmooedhnenaa
