/- FuseSame: for every input the law returns true, and each argument reads afterwards as before. No condition. -/
import Derived.Test.YtgecmooedhnenaaGreatRows
import Derived.WalkKit
import Derived.ProofKit
import Derived.OpenShut
import Derived.ShutString
import Derived.ChangeOld
import Derived.Below
import Derived.Test.YtgecmooedhnenaaGreatFuseSameG8
set_option maxRecDepth 100000
set_option maxHeartbeats 2000000
set_option linter.unusedVariables false
set_option linter.unusedSimpArgs false
set_option linter.unnecessarySimpa false
namespace Go.Proofs.YtgecmooedhnenaaGreat.fuseSame
open Go.ChangeShapes Go.WideShapes Go.ChangeAt Go.RowKit
open Go.ChangeMaps (open_string shut_string)
set_option maxRecDepth 10000
theorem own:ownKnob Tryz.prog.godebug=none:=by kernel_rfl
theorem laidOut:laidOutB Tryz.prog=true:=by kernel_rfl
theorem c3:Tryz.prog.cellsOf 3=1:=by kernel_rfl
theorem rd3 {H:Type} {enc:TypeId×Value→H} {w:World}:Rdr enc Tryz.prog w 3 Int (fun n:Int=>[AV.lit (Value.int .i64 n)]) In64:=Rdr.int Tryz.underlying3 c3 fun n h=>wf_i64 h
theorem c38:Tryz.prog.cellsOf 38=1:=by kernel_rfl
theorem rd38 {H:Type} {enc:TypeId×Value→H} {w:World}:Rdr enc Tryz.prog w 38 Int (fun n:Int=>[AV.lit (Value.int .i8 n)]) In8:=Rdr.int Tryz.underlying38 c38 fun n h=>wf_i8 h
theorem c25:Tryz.prog.cellsOf 25=1:=by kernel_rfl
theorem rd25 {H:Type} {enc:TypeId×Value→H} {w:World}:Rdr enc Tryz.prog w 25 (List Int) (fun l:List Int=>[AV.sl 1 (l.map (fun n:Int=>[AV.lit (Value.int .i8 n)]))]) (fun l:List Int=>∀ d∈l,In8 d):=Rdr.slice Tryz.underlying25 c25 c38 (by decide) rd38
theorem c21:Tryz.prog.cellsOf 21=1:=by kernel_rfl
theorem rd21 {H:Type} {enc:TypeId×Value→H} {w:World}:Rdr enc Tryz.prog w 21 Int (fun n:Int=>[AV.lit (Value.int .i32 n)]) In32:=Rdr.int Tryz.underlying21 c21 fun n h=>wf_i32 h
theorem c59:Tryz.prog.cellsOf 59=1:=by kernel_rfl
theorem rd59 {H:Type} {enc:TypeId×Value→H} {w:World}:Rdr enc Tryz.prog w 59 (List Int) (fun l:List Int=>[AV.sl 1 (l.map (fun n:Int=>[AV.lit (Value.int .i32 n)]))]) (fun l:List Int=>∀ d∈l,In32 d):=Rdr.slice Tryz.underlying59 c59 c21 (by decide) rd21
abbrev D80_2:Type:=Int×Unit
abbrev av80_2:D80_2→List AV:=fun d=>(fun n:Int=>[AV.lit (Value.int .i8 n)]) d.1++(fun _:Unit=>([]:List AV)) d.2
abbrev ok80_2:D80_2→Prop:=fun d=>In8 d.1∧(fun _:Unit=>True) d.2
abbrev D80_1:Type:=Int×D80_2
abbrev av80_1:D80_1→List AV:=fun d=>(fun n:Int=>[AV.lit (Value.int .i64 n)]) d.1++av80_2 d.2
abbrev ok80_1:D80_1→Prop:=fun d=>In64 d.1∧ok80_2 d.2
abbrev D80_0:Type:=Int×D80_1
abbrev av80_0:D80_0→List AV:=fun d=>(fun n:Int=>[AV.lit (Value.int .i32 n)]) d.1++av80_1 d.2
abbrev ok80_0:D80_0→Prop:=fun d=>In32 d.1∧ok80_1 d.2
theorem c80:Tryz.prog.cellsOf 80=3:=by kernel_rfl
theorem rp80 {H:Type} {enc:TypeId×Value→H} {w:World}:Rdr enc Tryz.prog w 80 D80_0 av80_0 ok80_0:=Rdr.struct Tryz.underlying80 c80 (RdrF.cons (off:=0) (n:=3) (c:=1) (av:=(fun n:Int=>[AV.lit (Value.int .i32 n)])) (av':=av80_1) (ok:=In32) (ok':=ok80_1) rfl c21 (by decide) rd21 (RdrF.cons (off:=1) (n:=3) (c:=1) (av:=(fun n:Int=>[AV.lit (Value.int .i64 n)])) (av':=av80_2) (ok:=In64) (ok':=ok80_2) rfl c3 (by decide) rd3 (RdrF.cons (off:=2) (n:=3) (c:=1) (av:=(fun n:Int=>[AV.lit (Value.int .i8 n)])) (av':=(fun _:Unit=>([]:List AV))) (ok:=In8) (ok':=(fun _:Unit=>True)) rfl c38 (by decide) rd38 (RdrF.nil (n:=3) (off:=3) (by decide)))))
abbrev D82_14:Type:=Int×Unit
abbrev av82_14:D82_14→List AV:=fun d=>(fun n:Int=>[AV.lit (Value.int .i8 n)]) d.1++(fun _:Unit=>([]:List AV)) d.2
abbrev ok82_14:D82_14→Prop:=fun d=>In8 d.1∧(fun _:Unit=>True) d.2
abbrev D82_13:Type:=Int×D82_14
abbrev av82_13:D82_13→List AV:=fun d=>(fun n:Int=>[AV.lit (Value.int .i8 n)]) d.1++av82_14 d.2
abbrev ok82_13:D82_13→Prop:=fun d=>In8 d.1∧ok82_14 d.2
abbrev D82_12:Type:=D80_0×D82_13
abbrev av82_12:D82_12→List AV:=fun d=>av80_0 d.1++av82_13 d.2
abbrev ok82_12:D82_12→Prop:=fun d=>ok80_0 d.1∧ok82_13 d.2
abbrev D82_11:Type:=D80_0×D82_12
abbrev av82_11:D82_11→List AV:=fun d=>av80_0 d.1++av82_12 d.2
abbrev ok82_11:D82_11→Prop:=fun d=>ok80_0 d.1∧ok82_12 d.2
abbrev D82_10:Type:=(List Int)×D82_11
abbrev av82_10:D82_10→List AV:=fun d=>(fun l:List Int=>[AV.sl 1 (l.map (fun n:Int=>[AV.lit (Value.int .i32 n)]))]) d.1++av82_11 d.2
abbrev ok82_10:D82_10→Prop:=fun d=>(fun l:List Int=>∀ d∈l,In32 d) d.1∧ok82_11 d.2
abbrev D82_9:Type:=(List Int)×D82_10
abbrev av82_9:D82_9→List AV:=fun d=>(fun l:List Int=>[AV.sl 1 (l.map (fun n:Int=>[AV.lit (Value.int .i8 n)]))]) d.1++av82_10 d.2
abbrev ok82_9:D82_9→Prop:=fun d=>(fun l:List Int=>∀ d∈l,In8 d) d.1∧ok82_10 d.2
abbrev D82_8:Type:=Int×D82_9
abbrev av82_8:D82_8→List AV:=fun d=>(fun n:Int=>[AV.lit (Value.int .i8 n)]) d.1++av82_9 d.2
abbrev ok82_8:D82_8→Prop:=fun d=>In8 d.1∧ok82_9 d.2
abbrev D82_7:Type:=Int×D82_8
abbrev av82_7:D82_7→List AV:=fun d=>(fun n:Int=>[AV.lit (Value.int .i8 n)]) d.1++av82_8 d.2
abbrev ok82_7:D82_7→Prop:=fun d=>In8 d.1∧ok82_8 d.2
abbrev D82_6:Type:=Int×D82_7
abbrev av82_6:D82_6→List AV:=fun d=>(fun n:Int=>[AV.lit (Value.int .i64 n)]) d.1++av82_7 d.2
abbrev ok82_6:D82_6→Prop:=fun d=>In64 d.1∧ok82_7 d.2
abbrev D82_5:Type:=Int×D82_6
abbrev av82_5:D82_5→List AV:=fun d=>(fun n:Int=>[AV.lit (Value.int .i64 n)]) d.1++av82_6 d.2
abbrev ok82_5:D82_5→Prop:=fun d=>In64 d.1∧ok82_6 d.2
abbrev D82_4:Type:=Int×D82_5
abbrev av82_4:D82_4→List AV:=fun d=>(fun n:Int=>[AV.lit (Value.int .i64 n)]) d.1++av82_5 d.2
abbrev ok82_4:D82_4→Prop:=fun d=>In64 d.1∧ok82_5 d.2
abbrev D82_3:Type:=Int×D82_4
abbrev av82_3:D82_3→List AV:=fun d=>(fun n:Int=>[AV.lit (Value.int .i64 n)]) d.1++av82_4 d.2
abbrev ok82_3:D82_3→Prop:=fun d=>In64 d.1∧ok82_4 d.2
abbrev D82_2:Type:=Int×D82_3
abbrev av82_2:D82_2→List AV:=fun d=>(fun n:Int=>[AV.lit (Value.int .i64 n)]) d.1++av82_3 d.2
abbrev ok82_2:D82_2→Prop:=fun d=>In64 d.1∧ok82_3 d.2
abbrev D82_1:Type:=Int×D82_2
abbrev av82_1:D82_1→List AV:=fun d=>(fun n:Int=>[AV.lit (Value.int .i64 n)]) d.1++av82_2 d.2
abbrev ok82_1:D82_1→Prop:=fun d=>In64 d.1∧ok82_2 d.2
abbrev D82_0:Type:=Int×D82_1
abbrev av82_0:D82_0→List AV:=fun d=>(fun n:Int=>[AV.lit (Value.int .i64 n)]) d.1++av82_1 d.2
abbrev ok82_0:D82_0→Prop:=fun d=>In64 d.1∧ok82_1 d.2
theorem c82:Tryz.prog.cellsOf 82=19:=by kernel_rfl
theorem rp82 {H:Type} {enc:TypeId×Value→H} {w:World}:Rdr enc Tryz.prog w 82 D82_0 av82_0 ok82_0:=Rdr.struct Tryz.underlying82 c82 (RdrF.cons (off:=0) (n:=19) (c:=1) (av:=(fun n:Int=>[AV.lit (Value.int .i64 n)])) (av':=av82_1) (ok:=In64) (ok':=ok82_1) rfl c3 (by decide) rd3 (RdrF.cons (off:=1) (n:=19) (c:=1) (av:=(fun n:Int=>[AV.lit (Value.int .i64 n)])) (av':=av82_2) (ok:=In64) (ok':=ok82_2) rfl c3 (by decide) rd3 (RdrF.cons (off:=2) (n:=19) (c:=1) (av:=(fun n:Int=>[AV.lit (Value.int .i64 n)])) (av':=av82_3) (ok:=In64) (ok':=ok82_3) rfl c3 (by decide) rd3 (RdrF.cons (off:=3) (n:=19) (c:=1) (av:=(fun n:Int=>[AV.lit (Value.int .i64 n)])) (av':=av82_4) (ok:=In64) (ok':=ok82_4) rfl c3 (by decide) rd3 (RdrF.cons (off:=4) (n:=19) (c:=1) (av:=(fun n:Int=>[AV.lit (Value.int .i64 n)])) (av':=av82_5) (ok:=In64) (ok':=ok82_5) rfl c3 (by decide) rd3 (RdrF.cons (off:=5) (n:=19) (c:=1) (av:=(fun n:Int=>[AV.lit (Value.int .i64 n)])) (av':=av82_6) (ok:=In64) (ok':=ok82_6) rfl c3 (by decide) rd3 (RdrF.cons (off:=6) (n:=19) (c:=1) (av:=(fun n:Int=>[AV.lit (Value.int .i64 n)])) (av':=av82_7) (ok:=In64) (ok':=ok82_7) rfl c3 (by decide) rd3 (RdrF.cons (off:=7) (n:=19) (c:=1) (av:=(fun n:Int=>[AV.lit (Value.int .i8 n)])) (av':=av82_8) (ok:=In8) (ok':=ok82_8) rfl c38 (by decide) rd38 (RdrF.cons (off:=8) (n:=19) (c:=1) (av:=(fun n:Int=>[AV.lit (Value.int .i8 n)])) (av':=av82_9) (ok:=In8) (ok':=ok82_9) rfl c38 (by decide) rd38 (RdrF.cons (off:=9) (n:=19) (c:=1) (av:=(fun l:List Int=>[AV.sl 1 (l.map (fun n:Int=>[AV.lit (Value.int .i8 n)]))])) (av':=av82_10) (ok:=(fun l:List Int=>∀ d∈l,In8 d)) (ok':=ok82_10) rfl c25 (by decide) rd25 (RdrF.cons (off:=10) (n:=19) (c:=1) (av:=(fun l:List Int=>[AV.sl 1 (l.map (fun n:Int=>[AV.lit (Value.int .i32 n)]))])) (av':=av82_11) (ok:=(fun l:List Int=>∀ d∈l,In32 d)) (ok':=ok82_11) rfl c59 (by decide) rd59 (RdrF.cons (off:=11) (n:=19) (c:=3) (av:=av80_0) (av':=av82_12) (ok:=ok80_0) (ok':=ok82_12) rfl c80 (by decide) rp80 (RdrF.cons (off:=14) (n:=19) (c:=3) (av:=av80_0) (av':=av82_13) (ok:=ok80_0) (ok':=ok82_13) rfl c80 (by decide) rp80 (RdrF.cons (off:=17) (n:=19) (c:=1) (av:=(fun n:Int=>[AV.lit (Value.int .i8 n)])) (av':=av82_14) (ok:=In8) (ok':=ok82_14) rfl c38 (by decide) rd38 (RdrF.cons (off:=18) (n:=19) (c:=1) (av:=(fun n:Int=>[AV.lit (Value.int .i8 n)])) (av':=(fun _:Unit=>([]:List AV))) (ok:=In8) (ok':=(fun _:Unit=>True)) rfl c38 (by decide) rd38 (RdrF.nil (n:=19) (off:=19) (by decide)))))))))))))))))
theorem rd82 {H:Type} {enc:TypeId×Value→H} {w:World}:Rdr enc Tryz.prog w 82 Nod nodC Nod.Ok:=rp82.map (fun ⟨x0,x1,x2,x3,x4,x5,x6,x7,x8,x9,x10,⟨x11,x12,x13,_⟩,⟨x14,x15,x16,_⟩,x17,x18,_⟩=>⟨x0,x1,x2,x3,x4,x5,x6,x7,x8,x9,x10,x11,x12,x13,x14,x15,x16,x17,x18⟩) (fun ⟨x0,x1,x2,x3,x4,x5,x6,x7,x8,x9,x10,⟨x11,x12,x13,_⟩,⟨x14,x15,x16,_⟩,x17,x18,_⟩=>rfl) (fun ⟨x0,x1,x2,x3,x4,x5,x6,x7,x8,x9,x10,⟨x11,x12,x13,_⟩,⟨x14,x15,x16,_⟩,x17,x18,_⟩ ⟨h0,h1,h2,h3,h4,h5,h6,h7,h8,h9,h10,⟨h11,h12,h13,_⟩,⟨h14,h15,h16,_⟩,h17,h18,_⟩=>⟨h0,h1,h2,h3,h4,h5,h6,h7,h8,h9,h10,h11,h12,h13,h14,h15,h16,h17,h18⟩)
theorem c22:Tryz.prog.cellsOf 22=1:=by kernel_rfl
theorem rd22 {H:Type} {enc:TypeId×Value→H} {w:World}:Rdr enc Tryz.prog w 22 (List Nod) (fun l:List Nod=>[AV.sl 19 (l.map nodC)]) (fun l:List Nod=>∀ d∈l,Nod.Ok d):=Rdr.slice Tryz.underlying22 c22 c82 (by decide) rd82
abbrev D24_2:Type:=Int×Unit
abbrev av24_2:D24_2→List AV:=fun d=>(fun n:Int=>[AV.lit (Value.int .i64 n)]) d.1++(fun _:Unit=>([]:List AV)) d.2
abbrev ok24_2:D24_2→Prop:=fun d=>In64 d.1∧(fun _:Unit=>True) d.2
abbrev D24_1:Type:=Int×D24_2
abbrev av24_1:D24_1→List AV:=fun d=>(fun n:Int=>[AV.lit (Value.int .i64 n)]) d.1++av24_2 d.2
abbrev ok24_1:D24_1→Prop:=fun d=>In64 d.1∧ok24_2 d.2
abbrev D24_0:Type:=Int×D24_1
abbrev av24_0:D24_0→List AV:=fun d=>(fun n:Int=>[AV.lit (Value.int .i64 n)]) d.1++av24_1 d.2
abbrev ok24_0:D24_0→Prop:=fun d=>In64 d.1∧ok24_1 d.2
theorem c24:Tryz.prog.cellsOf 24=3:=by kernel_rfl
theorem rp24 {H:Type} {enc:TypeId×Value→H} {w:World}:Rdr enc Tryz.prog w 24 D24_0 av24_0 ok24_0:=Rdr.struct Tryz.underlying24 c24 (RdrF.cons (off:=0) (n:=3) (c:=1) (av:=(fun n:Int=>[AV.lit (Value.int .i64 n)])) (av':=av24_1) (ok:=In64) (ok':=ok24_1) rfl c3 (by decide) rd3 (RdrF.cons (off:=1) (n:=3) (c:=1) (av:=(fun n:Int=>[AV.lit (Value.int .i64 n)])) (av':=av24_2) (ok:=In64) (ok':=ok24_2) rfl c3 (by decide) rd3 (RdrF.cons (off:=2) (n:=3) (c:=1) (av:=(fun n:Int=>[AV.lit (Value.int .i64 n)])) (av':=(fun _:Unit=>([]:List AV))) (ok:=In64) (ok':=(fun _:Unit=>True)) rfl c3 (by decide) rd3 (RdrF.nil (n:=3) (off:=3) (by decide)))))
abbrev D27_1:Type:=(List Int)×Unit
abbrev av27_1:D27_1→List AV:=fun d=>(fun l:List Int=>[AV.sl 1 (l.map (fun n:Int=>[AV.lit (Value.int .i8 n)]))]) d.1++(fun _:Unit=>([]:List AV)) d.2
abbrev ok27_1:D27_1→Prop:=fun d=>(fun l:List Int=>∀ d∈l,In8 d) d.1∧(fun _:Unit=>True) d.2
abbrev D27_0:Type:=D24_0×D27_1
abbrev av27_0:D27_0→List AV:=fun d=>av24_0 d.1++av27_1 d.2
abbrev ok27_0:D27_0→Prop:=fun d=>ok24_0 d.1∧ok27_1 d.2
theorem c27:Tryz.prog.cellsOf 27=4:=by kernel_rfl
theorem rp27 {H:Type} {enc:TypeId×Value→H} {w:World}:Rdr enc Tryz.prog w 27 D27_0 av27_0 ok27_0:=Rdr.struct Tryz.underlying27 c27 (RdrF.cons (off:=0) (n:=4) (c:=3) (av:=av24_0) (av':=av27_1) (ok:=ok24_0) (ok':=ok27_1) rfl c24 (by decide) rp24 (RdrF.cons (off:=3) (n:=4) (c:=1) (av:=(fun l:List Int=>[AV.sl 1 (l.map (fun n:Int=>[AV.lit (Value.int .i8 n)]))])) (av':=(fun _:Unit=>([]:List AV))) (ok:=(fun l:List Int=>∀ d∈l,In8 d)) (ok':=(fun _:Unit=>True)) rfl c25 (by decide) rd25 (RdrF.nil (n:=4) (off:=4) (by decide))))
theorem rd27 {H:Type} {enc:TypeId×Value→H} {w:World}:Rdr enc Tryz.prog w 27 Ten tnC Ten.Ok:=rp27.map (fun ⟨⟨x0,x1,x2,_⟩,x3,_⟩=>⟨x0,x1,x2,x3⟩) (fun ⟨⟨x0,x1,x2,_⟩,x3,_⟩=>rfl) (fun ⟨⟨x0,x1,x2,_⟩,x3,_⟩ ⟨⟨h0,h1,h2,_⟩,h3,_⟩=>⟨h0,h1,h2,h3⟩)
theorem walk (w:World) (v0:Value) (d0:(List Nod)) (v1:Value) (d1:Ten) (o0:(fun l:List Nod=>∀ d∈l,Nod.Ok d) d0) (e0:Rel (fun _=>none) (fun _=>False) w (.sl 19 (d0.map nodC)) v0) (o1:Ten.Ok d1) (e1:Rel (fun _=>none) (fun _=>False) w (.agg (tnC d1)) v1) :
    Calls Tryz.prog 3 #[v0,v1] w fun e w'=>e=.returned (.bool true)∧Below w.heap.size w w' :=
  law_of (fuseSame_v d0 d1 o0 o1) (.cons e0 (.cons e1 (.nil w)))
theorem lifted (os:Os) (started:os.Started) (H:Type) (enc:TypeId×Value→H) :
    ReturnsInHanded {} Tryz.checked os 3 .any (Rows.fuseSameSpec.pre6 enc Tryz.prog Tryz.f3 Rows.fuseSameRow.domain false) (Rows.fuseSameSpec.post enc Tryz.prog Tryz.f3 false true false false):=by
  refine returnsInHanded_of_change (C:=Tryz.checked) own started (by kernel_rfl) Tryz.func3
    (ChangeSpec.witness6 (enc:=enc) (C:=Tryz.checked) false ⟨#[],#[.slice none 0 0,.agg #[.int .i64 0,.int .i64 0,.int .i64 0,.slice none 0 0]],[]⟩ 8 (by kernel_rfl) (by kernel_rfl) (by kernel_rfl) (by kernel_rfl)) ?_
  intro W base args ds gs before hval0 hW hcnd _
  have hval:∀ (j:Nat) t v,Tryz.f3.params[j]? = some t→args[j]? = some v→Value.okWide Tryz.prog W .any base t v:=hval0
  have hW':=hW
  obtain ⟨p,q,hA0,hV,rfl,hfz,hnd⟩:=hW
  have hA:DataW.TrodAll enc Tryz.prog W 0 (fun _=>true) true Tryz.f3.params.toList args.toList ds p:=hA0
  rw [Tryz.params3] at hA hval
  obtain ⟨v0,vs0,dd0,ds0,p0,q0,hargs,rfl,rfl,h0,r0⟩:=trodAll_cons hA
  obtain ⟨v1,vs1,dd1,ds1,p1,q1,rfl,rfl,rfl,h1,r1⟩:=trodAll_cons r0
  obtain ⟨rfl,rfl,rfl⟩:=trodAll_nil r1
  obtain rfl:args = #[v0,v1]:=by cases args;simp_all
  obtain ⟨rfl,rfl⟩:=trodVars_none hV
  have k0:=h0
  have lt0:∀ x∈p0,x.block<W.heap.size:=by obtain ⟨m,hm⟩:=k0;exact DataW.trod_lt m _ _ _ hm
  obtain ⟨d0,o0,e0⟩:=Rdr.oneV (a:=(fun l:List Nod=>AV.sl 19 (l.map nodC))) (rd22 (enc:=enc) (w:=W)) (by obtain ⟨_,_,_,rfl⟩:=okWide_slice Tryz.underlying22 (hval 0 22 v0 rfl rfl);rfl) c22 h0
  have k1:=h1
  have lt1:∀ x∈p1,x.block<W.heap.size:=by obtain ⟨m,hm⟩:=k1;exact DataW.trod_lt m _ _ _ hm
  obtain ⟨d1,o1,e1⟩:=(rd27 (enc:=enc) (w:=W)).aggV Tryz.underlying27 (hval 1 27 v1 rfl rfl) h1
  clear hA0 hval0
  refine (walk W v0 d0 v1 d1 o0 e0 o1 e1).mono fun e W' ⟨he,bel⟩=>?_
  subst he
  exact ⟨_,rfl,_,_,_,[],_,[],hW',trodAll_mk1 (shut_bool Tryz.underlying4 _),(trodAll_cons_mk (Below.trod laidOut (by kernel_rfl) (of_decide_eq_true (by kernel_rfl)) k0 bel lt0) (trodAll_cons_mk (Below.trod laidOut (by kernel_rfl) (of_decide_eq_true (by kernel_rfl)) k1 bel lt1) trodAll_mk0)),rfl,bel.frame _,fun h=>by cases h⟩
theorem over:Rows.fuseSameRow.holds Tryz.pinned (OpenSpec.ofChange Rows.fuseSameSpec) :=
  OpenClaim.holds_of_wide 3 Tryz.f3 rfl rfl rfl rfl rfl rfl rfl ⟨rfl,rfl,rfl,rfl,rfl⟩ rfl rfl rfl rfl rfl (by kernel_rfl) Tryz.func3 (by kernel_rfl)
    (of_decide_eq_true (by kernel_rfl)) (by unfold Func.isWrapper;first | (rw [if_pos (by decide +kernel)];kernel_rfl) | (rw [if_neg (by decide +kernel)];exact ⟨rfl,rfl⟩))
    (fun os started H enc _=>lifted os started H enc)
theorem proved:Rows.FuseSameSaid:=over
#print axioms proved
end Go.Proofs.YtgecmooedhnenaaGreat.fuseSame
