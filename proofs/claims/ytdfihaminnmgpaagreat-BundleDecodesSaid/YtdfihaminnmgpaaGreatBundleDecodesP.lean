/- BundleDecodes: for every input the law returns true, and each argument reads afterwards as before. No condition. -/
import Derived.Test.YtdfihaminnmgpaaGreatRows
import Derived.WalkKit
import Derived.ProofKit
import Derived.OpenShut
import Derived.ShutString
import Derived.ChangeOld
import Derived.Below
import Derived.Test.YtdfihaminnmgpaaGreatBundleDecodesG6
set_option maxRecDepth 100000
set_option maxHeartbeats 2000000
set_option linter.unusedVariables false
set_option linter.unusedSimpArgs false
set_option linter.unnecessarySimpa false
namespace Go.Proofs.YtdfihaminnmgpaaGreat.bundleDecodes
open Go.ChangeShapes Go.WideShapes Go.ChangeAt Go.RowKit
open Go.ChangeMaps (open_string shut_string)
set_option maxRecDepth 10000
theorem own:ownKnob Tryz.prog.godebug=none:=by kernel_rfl
theorem laidOut:laidOutB Tryz.prog=true:=by kernel_rfl
theorem c5:Tryz.prog.cellsOf 5=1:=by kernel_rfl
theorem rd5 {H:Type} {enc:TypeId×Value→H} {w:World}:Rdr enc Tryz.prog w 5 Int (fun n:Int=>[AV.lit (Value.int .u8 n)]) (fun n:Int=>0≤n∧n≤255):=Rdr.int Tryz.underlying5 c5 fun n h=>wf_u8 h
theorem c27:Tryz.prog.cellsOf 27=1:=by kernel_rfl
theorem rd27 {H:Type} {enc:TypeId×Value→H} {w:World}:Rdr enc Tryz.prog w 27 (List Int) (fun l:List Int=>[AV.sl 1 (l.map (fun n:Int=>[AV.lit (Value.int .u8 n)]))]) (fun l:List Int=>∀ d∈l,(fun n:Int=>0≤n∧n≤255) d):=Rdr.slice Tryz.underlying27 c27 c5 x_ rd5
theorem walk (w:World) (v0:Value) (d0:(List Int)) (o0:(fun l:List Int=>∀ d∈l,(fun n:Int=>0≤n∧n≤255) d) d0) (e0:Rel (fun _=>none) (fun _=>False) w (.sl 1 (d0.map (fun n:Int=>[AV.lit (Value.int .u8 n)]))) v0) :
    Calls Tryz.prog 4 #[v0] w fun e w'=>e=.returned (.bool true)∧Below w.heap.size w w' :=
  law_of (bundleDecodes_v d0 o0) (.cons e0 (.nil w))
theorem lifted (os:Os) (started:os.Started) (H:Type) (enc:TypeId×Value→H) :
    ReturnsInHanded {} Tryz.checked os 4 .any (Rows.bundleDecodesSpec.pre6 enc Tryz.prog Tryz.f4 Rows.bundleDecodesRow.domain false) (Rows.bundleDecodesSpec.post enc Tryz.prog Tryz.f4 false true false false):=by
  refine returnsInHanded_of_change (C:=Tryz.checked) own started w_ Tryz.func4
    (ChangeSpec.witness6 (enc:=enc) (C:=Tryz.checked) false ⟨#[],#[.slice none 0 0],[]⟩ 8 w_ w_ w_ w_) ?_
  intro W base args ds gs before hval0 hW hcnd _
  have hval:∀ (j:Nat) t v,Tryz.f4.params[j]? = some t→args[j]? = some v→Value.okWide Tryz.prog W .any base t v:=hval0
  have hW':=hW
  obtain ⟨p,q,hA0,hV,rfl,hfz,hnd⟩:=hW
  have hA:DataW.TrodAll enc Tryz.prog W 0 (fun _=>true) true Tryz.f4.params.toList args.toList ds p:=hA0
  rw [Tryz.params4] at hA hval
  obtain ⟨v0,vs0,dd0,ds0,p0,q0,hargs,rfl,rfl,h0,r0⟩:=trodAll_cons hA
  obtain ⟨rfl,rfl,rfl⟩:=trodAll_nil r0
  obtain rfl:args = #[v0]:=by cases args;simp_all
  obtain ⟨rfl,rfl⟩:=trodVars_none hV
  have k0:=h0
  have lt0:∀ x∈p0,x.block<W.heap.size:=by obtain ⟨m,hm⟩:=k0;exact DataW.trod_lt m _ _ _ hm
  obtain ⟨d0,o0,e0⟩:=Rdr.oneV (a:=(fun l:List Int=>AV.sl 1 (l.map (fun n:Int=>[AV.lit (Value.int .u8 n)])))) (rd27 (enc:=enc) (w:=W)) (by obtain ⟨_,_,_,rfl⟩:=okWide_slice Tryz.underlying27 (hval 0 27 v0 rfl rfl);rfl) c27 h0
  clear hA0 hval0
  refine (walk W v0 d0 o0 e0).mono fun e W' ⟨he,bel⟩=>?_
  subst he
  exact ⟨_,rfl,_,_,_,[],_,[],hW',trodAll_mk1 (shut_bool Tryz.underlying4 _),(trodAll_cons_mk (Below.trod laidOut w_ (of_decide_eq_true w_) k0 bel lt0) trodAll_mk0),rfl,bel.frame _,fun h=>by cases h⟩
theorem over:Rows.bundleDecodesRow.holds Tryz.pinned (OpenSpec.ofChange Rows.bundleDecodesSpec) :=
  OpenClaim.holds_of_wide 4 Tryz.f4 rfl rfl rfl rfl rfl rfl rfl ⟨rfl,rfl,rfl,rfl,rfl⟩ rfl rfl rfl rfl rfl w_ Tryz.func4 w_
    (of_decide_eq_true w_) (by unfold Func.isWrapper;first | (rw [if_pos (by decide +kernel)];kernel_rfl) | (rw [if_neg (by decide +kernel)];exact ⟨rfl,rfl⟩))
    (fun os started H enc _=>lifted os started H enc)
theorem proved:Rows.BundleDecodesSaid:=over
#print axioms proved
end Go.Proofs.YtdfihaminnmgpaaGreat.bundleDecodes
