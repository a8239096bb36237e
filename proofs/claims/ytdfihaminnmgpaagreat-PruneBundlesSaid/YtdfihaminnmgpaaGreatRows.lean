/-
  No cell of these rows narrows 'for every input' (looked for: loops, veiled, ifaces, maps, wideKeys, modest, calm, conditions, laid).
  DERIVED. THE GIVEN ROWS OF THIS SEAT. 4 by the template 'for every input the law returns true; each argument reads behind the call as it read before'; 0 by the template 'total and deterministic' (their statements: YtdfihaminnmgpaaGreatTotals.lean).
  GIVEN WITH THE SEED: the statements are not yours to turn. If you find one false, say at which input.
  Laid BY PROGRAM, IN A SANDBOX (cutbox-rows.mjs): the forced cells as the released guide's own fill.sh prints them over the translation 31b2b8591f168ec6… (all of the seat's roots in one cut). By AI agents, Wed Nov 11 2026. No macro, syntax, notation, axiom, sorry.
-/
import Derived.Test.YtdfihaminnmgpaaGreatChecked
import GoSem.Claim
import GoSem.ClaimJoined
import GoSem.ClaimMapViews
import Derived.JoinedTies
import Derived.KernelRfl
namespace Go.Proofs.YtdfihaminnmgpaaGreat
/- THE CELL 'sum', in the pinned program and in every row, IS THE sha256 OF THE DUMP (.gsa) THAT YtdfihaminnmgpaaGreatProg.lean LOADS. Nothing in Lean hashes anything: it is a label: what it is worth is what the hold of that sum in a sandbox is worth. -/
noncomputable def Tryz.pinned : Pinned := { name := "ytdfihaminnmgpaagreat", sum := "31b2b8591f168ec6a310141e9ce73eb6222a14d161ef68c9da3ca83995236f81", checked := Tryz.checked }
namespace Rows
def none {H : Type} : Left H := { results := [], args := [] }

/-- 'stepwelllaw35.BundleBack': WHATEVER THE INPUT: true; the input reads as it did. -/
def bundleBackSpec : ChangeSpec := { name := "bundleBack", fn := fun _ => fun
  | [d1, d2] => { results := [.lit (.bool true)], args := [d1, d2] }
  | _ => none }
def bundleBackRow : OpenClaim := { program := "ytdfihaminnmgpaagreat", sum := "31b2b8591f168ec6a310141e9ce73eb6222a14d161ef68c9da3ca83995236f81", func := "stepwell/stepwelllaw35.BundleBack", spec := "bundleBack", unfollowed := true, recurses := true, apart := false }
def BundleBackSaid : Prop := bundleBackRow.holds Tryz.pinned (OpenSpec.ofChange bundleBackSpec)

/-- ITS FALSE NEIGHBOUR: 'it returns false'. Refute it at one input. -/
def bundleBackWrong : ChangeSpec := { name := "bundleBack", fn := fun _ => fun
  | [d1, d2] => { results := [.lit (.bool false)], args := [d1, d2] }
  | _ => none }
def BundleBackWrongFalsely : Prop := bundleBackRow.holds Tryz.pinned (OpenSpec.ofChange bundleBackWrong)

/-- 'stepwelllaw35.BundleDecodes': WHATEVER THE INPUT: true; the input reads as it did. -/
def bundleDecodesSpec : ChangeSpec := { name := "bundleDecodes", fn := fun _ => fun
  | [d] => { results := [.lit (.bool true)], args := [d] }
  | _ => none }
def bundleDecodesRow : OpenClaim := { program := "ytdfihaminnmgpaagreat", sum := "31b2b8591f168ec6a310141e9ce73eb6222a14d161ef68c9da3ca83995236f81", func := "stepwell/stepwelllaw35.BundleDecodes", spec := "bundleDecodes", unfollowed := true, recurses := true, apart := false }
def BundleDecodesSaid : Prop := bundleDecodesRow.holds Tryz.pinned (OpenSpec.ofChange bundleDecodesSpec)

/-- ITS FALSE NEIGHBOUR: 'it returns false'. Refute it at one input. -/
def bundleDecodesWrong : ChangeSpec := { name := "bundleDecodes", fn := fun _ => fun
  | [d] => { results := [.lit (.bool false)], args := [d] }
  | _ => none }
def BundleDecodesWrongFalsely : Prop := bundleDecodesRow.holds Tryz.pinned (OpenSpec.ofChange bundleDecodesWrong)

/-- 'stepwelllaw35.BundleCopies': WHATEVER THE INPUT: true; the input reads as it did. -/
def bundleCopiesSpec : ChangeSpec := { name := "bundleCopies", fn := fun _ => fun
  | [d] => { results := [.lit (.bool true)], args := [d] }
  | _ => none }
def bundleCopiesRow : OpenClaim := { program := "ytdfihaminnmgpaagreat", sum := "31b2b8591f168ec6a310141e9ce73eb6222a14d161ef68c9da3ca83995236f81", func := "stepwell/stepwelllaw35.BundleCopies", spec := "bundleCopies", unfollowed := true, recurses := true, apart := false }
def BundleCopiesSaid : Prop := bundleCopiesRow.holds Tryz.pinned (OpenSpec.ofChange bundleCopiesSpec)

/-- ITS FALSE NEIGHBOUR: 'it returns false'. Refute it at one input. -/
def bundleCopiesWrong : ChangeSpec := { name := "bundleCopies", fn := fun _ => fun
  | [d] => { results := [.lit (.bool false)], args := [d] }
  | _ => none }
def BundleCopiesWrongFalsely : Prop := bundleCopiesRow.holds Tryz.pinned (OpenSpec.ofChange bundleCopiesWrong)

/-- 'stepwelllaw51.PruneBundles': WHATEVER THE INPUT: true; the input reads as it did. -/
def pruneBundlesSpec : ChangeSpec := { name := "pruneBundles", fn := fun _ => fun
  | [d1, d2] => { results := [.lit (.bool true)], args := [d1, d2] }
  | _ => none }
def pruneBundlesRow : OpenClaim := { program := "ytdfihaminnmgpaagreat", sum := "31b2b8591f168ec6a310141e9ce73eb6222a14d161ef68c9da3ca83995236f81", func := "stepwell/stepwelllaw51.PruneBundles", spec := "pruneBundles", apart := false }
def PruneBundlesSaid : Prop := pruneBundlesRow.holds Tryz.pinned (OpenSpec.ofChange pruneBundlesSpec)

/-- ITS FALSE NEIGHBOUR: 'it returns false'. Refute it at one input. -/
def pruneBundlesWrong : ChangeSpec := { name := "pruneBundles", fn := fun _ => fun
  | [d1, d2] => { results := [.lit (.bool false)], args := [d1, d2] }
  | _ => none }
def PruneBundlesWrongFalsely : Prop := pruneBundlesRow.holds Tryz.pinned (OpenSpec.ofChange pruneBundlesWrong)

/- THE SECOND FORM. 'bulk': how many values and letters a reading holds, each counted each time it is reached (what is shared counts as often as it is met; a slice's spare places count too). A statement '..UptoSaid' is the law's where the arguments, and the package variables that the reading takes, are together of bulk at most 1048576: NARROWER than '..Said'. Prove '..Said' where nothing that the law and all that it calls make is longer than what came in: it says more and counts as full. Else prove '..UptoSaid'. A law counts once. -/
mutual
def uptoBulk {H : Type} : DataW H → Nat
  | .lit (.string bytes) => bytes.length + 1
  | .lit _ => 1
  | .nil => 1
  | .ptr d => uptoBulk d + 1
  | .slice elems spare => uptoBulkAll elems + uptoBulkAll spare + 1
  | .agg parts => uptoBulkAll parts + 1
  | .iface _ d => uptoBulk d + 1
  | .map entries => uptoBulkEntries entries + 1
  | .held _ => 1
def uptoBulkAll {H : Type} : List (DataW H) → Nat
  | [] => 0
  | d :: r => uptoBulk d + uptoBulkAll r
def uptoBulkEntries {H : Type} : List (Lit × DataW H) → Nat
  | [] => 0
  | x :: r => uptoBulkEntry x + uptoBulkEntries r
def uptoBulkEntry {H : Type} : Lit × DataW H → Nat
  | (.string bytes, d) => bytes.length + uptoBulk d + 1
  | (_, d) => uptoBulk d + 1
 end
def uptoSmall : (H : Type) → List (DataW H) → Bool := fun _ ds => decide (uptoBulkAll ds ≤ 1048576)
def OpenSpec.upto (s : _root_.Go.ChangeSpec) : _root_.Go.OpenSpec := { _root_.Go.OpenSpec.ofChange s with cond := some uptoSmall }

/-- 'stepwelllaw35.BundleBack', WHERE WHAT IT READS IS OF BULK AT MOST 1048576: true; the input reads as it did. -/
def bundleBackUptoRow : OpenClaim := { program := "ytdfihaminnmgpaagreat", sum := "31b2b8591f168ec6a310141e9ce73eb6222a14d161ef68c9da3ca83995236f81", func := "stepwell/stepwelllaw35.BundleBack", spec := "bundleBack", unfollowed := true, recurses := true, apart := false, narrowed := true }
def BundleBackUptoSaid : Prop := bundleBackUptoRow.holds Tryz.pinned (OpenSpec.upto bundleBackSpec)

/-- 'stepwelllaw35.BundleDecodes', WHERE WHAT IT READS IS OF BULK AT MOST 1048576: true; the input reads as it did. -/
def bundleDecodesUptoRow : OpenClaim := { program := "ytdfihaminnmgpaagreat", sum := "31b2b8591f168ec6a310141e9ce73eb6222a14d161ef68c9da3ca83995236f81", func := "stepwell/stepwelllaw35.BundleDecodes", spec := "bundleDecodes", unfollowed := true, recurses := true, apart := false, narrowed := true }
def BundleDecodesUptoSaid : Prop := bundleDecodesUptoRow.holds Tryz.pinned (OpenSpec.upto bundleDecodesSpec)

/-- 'stepwelllaw35.BundleCopies', WHERE WHAT IT READS IS OF BULK AT MOST 1048576: true; the input reads as it did. -/
def bundleCopiesUptoRow : OpenClaim := { program := "ytdfihaminnmgpaagreat", sum := "31b2b8591f168ec6a310141e9ce73eb6222a14d161ef68c9da3ca83995236f81", func := "stepwell/stepwelllaw35.BundleCopies", spec := "bundleCopies", unfollowed := true, recurses := true, apart := false, narrowed := true }
def BundleCopiesUptoSaid : Prop := bundleCopiesUptoRow.holds Tryz.pinned (OpenSpec.upto bundleCopiesSpec)

/-- 'stepwelllaw51.PruneBundles', WHERE WHAT IT READS IS OF BULK AT MOST 1048576: true; the input reads as it did. -/
def pruneBundlesUptoRow : OpenClaim := { program := "ytdfihaminnmgpaagreat", sum := "31b2b8591f168ec6a310141e9ce73eb6222a14d161ef68c9da3ca83995236f81", func := "stepwell/stepwelllaw51.PruneBundles", spec := "pruneBundles", apart := false, narrowed := true }
def PruneBundlesUptoSaid : Prop := pruneBundlesUptoRow.holds Tryz.pinned (OpenSpec.upto pruneBundlesSpec)

end Rows
end Go.Proofs.YtdfihaminnmgpaaGreat
