/- CraftBundles: for every input the law returns true, and each argument reads afterwards as before. No condition. -/
import Derived.Test.YtdfihaminnmgpaaRows
import Derived.WalkKit
import Derived.ProofKit
import Derived.OpenShut
import Derived.ShutString
import Derived.ChangeOld
import Derived.Below
import Derived.Test.YtdfihaminnmgpaaCraftBundlesG6
set_option maxRecDepth 100000
set_option maxHeartbeats 2000000
set_option linter.unusedVariables false
set_option linter.unusedSimpArgs false
set_option linter.unnecessarySimpa false
namespace Go.Proofs.Ytdfihaminnmgpaa.craftBundles
open Go.ChangeShapes Go.WideShapes Go.ChangeAt Go.RowKit
open Go.ChangeMaps (open_string shut_string)
set_option maxRecDepth 10000
theorem own:ownKnob Try.prog.godebug=none:=by kernel_rfl
theorem laidOut:laidOutB Try.prog=true:=by kernel_rfl
theorem c22:Try.prog.cellsOf 22=1:=by kernel_rfl
theorem rd22 {H:Type} {enc:TypeId×Value→H} {w:World}:Rdr enc Try.prog w 22 Int (fun n:Int=>[AV.lit (Value.int .u64 n)]) (fun n:Int=>0≤n∧n≤18446744073709551615):=Rdr.int Try.underlying22 c22 fun n h=>wf_u64 h
theorem walk (w:World) (v0:Value) (d0:Int) (o0:(fun n:Int=>0≤n∧n≤18446744073709551615) d0) (e0:Rel (fun _=>none) (fun _=>False) w (AV.lit (Value.int .u64 d0)) v0) :
    Calls Try.prog 3 #[v0] w fun e w'=>e=.returned (.bool true)∧Below w.heap.size w w' :=
  law_of (craftBundles_v d0) (.cons e0 (.nil w))
theorem lifted (os:Os) (started:os.Started) (H:Type) (enc:TypeId×Value→H) :
    ReturnsInHanded {} Try.checked os 3 .any (Rows.craftBundlesSpec.pre6 enc Try.prog Try.f3 Rows.craftBundlesRow.domain false) (Rows.craftBundlesSpec.post enc Try.prog Try.f3 false true false false):=by
  refine returnsInHanded_of_change (C:=Try.checked) own started (by kernel_rfl) Try.func3
    (ChangeSpec.witness6 (enc:=enc) (C:=Try.checked) false ⟨#[],#[.int .u64 0],[]⟩ 8 (by kernel_rfl) (by kernel_rfl) (by kernel_rfl) (by kernel_rfl)) ?_
  intro W base args ds gs before hval0 hW hcnd _
  have hval:∀ (j:Nat) t v,Try.f3.params[j]? = some t→args[j]? = some v→Value.okWide Try.prog W .any base t v:=hval0
  have hW':=hW
  obtain ⟨p,q,hA0,hV,rfl,hfz,hnd⟩:=hW
  have hA:DataW.TrodAll enc Try.prog W 0 (fun _=>true) true Try.f3.params.toList args.toList ds p:=hA0
  rw [Try.params3] at hA hval
  obtain ⟨v0,vs0,dd0,ds0,p0,q0,hargs,rfl,rfl,h0,r0⟩:=trodAll_cons hA
  obtain ⟨rfl,rfl,rfl⟩:=trodAll_nil r0
  obtain rfl:args = #[v0]:=by cases args;simp_all
  obtain ⟨rfl,rfl⟩:=trodVars_none hV
  have k0:=h0
  have lt0:∀ x∈p0,x.block<W.heap.size:=by obtain ⟨m,hm⟩:=k0;exact DataW.trod_lt m _ _ _ hm
  obtain ⟨d0,o0,e0⟩:=Rdr.oneV (a:=(fun n:Int=>AV.lit (Value.int .u64 n))) (rd22 (enc:=enc) (w:=W)) (by obtain ⟨_,rfl⟩:=okWide_int Try.underlying22 (hval 0 22 v0 rfl rfl);rfl) c22 h0
  clear hA0 hval0
  refine (walk W v0 d0 o0 e0).mono fun e W' ⟨he,bel⟩=>?_
  subst he
  exact ⟨_,rfl,_,_,_,[],_,[],hW',trodAll_mk1 (shut_bool Try.underlying4 _),(trodAll_cons_mk (Below.trod laidOut (by kernel_rfl) (of_decide_eq_true (by kernel_rfl)) k0 bel lt0) trodAll_mk0),rfl,bel.frame _,fun h=>by cases h⟩
theorem over:Rows.craftBundlesRow.holds Try.pinned (OpenSpec.ofChange Rows.craftBundlesSpec) :=
  OpenClaim.holds_of_wide 3 Try.f3 rfl rfl rfl rfl rfl rfl rfl ⟨rfl,rfl,rfl,rfl,rfl⟩ rfl rfl rfl rfl rfl (by kernel_rfl) Try.func3 (by kernel_rfl)
    (of_decide_eq_true (by kernel_rfl)) (by unfold Func.isWrapper;first | (rw [if_pos (by decide +kernel)];kernel_rfl) | (rw [if_neg (by decide +kernel)];exact ⟨rfl,rfl⟩))
    (fun os started H enc _=>lifted os started H enc)
theorem proved:Rows.CraftBundlesSaid:=over
#print axioms proved
end Go.Proofs.Ytdfihaminnmgpaa.craftBundles
