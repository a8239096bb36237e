/- PackModels: for every input the law returns true, and each argument reads afterwards as before. No condition. -/
import Derived.Test.YtgecmooedhnenaaRows
import Derived.WalkKit
import Derived.ProofKit
import Derived.OpenShut
import Derived.ShutString
import Derived.ChangeOld
import Derived.Below
import Derived.Test.YtgecmooedhnenaaPackModelsG8
set_option maxRecDepth 100000
set_option maxHeartbeats 2000000
set_option linter.unusedVariables false
set_option linter.unusedSimpArgs false
set_option linter.unnecessarySimpa false
namespace Go.Proofs.Ytgecmooedhnenaa.packModels
open Go.ChangeShapes Go.WideShapes Go.ChangeAt Go.RowKit
open Go.ChangeMaps (open_string shut_string)
set_option maxRecDepth 10000
theorem own:ownKnob Try.prog.godebug=none:=by kernel_rfl
theorem laidOut:laidOutB Try.prog=true:=by kernel_rfl
theorem c3:Try.prog.cellsOf 3=1:=by kernel_rfl
theorem rd3 {H:Type} {enc:TypeId×Value→H} {w:World}:Rdr enc Try.prog w 3 Int (fun n:Int=>[AV.lit (Value.int .i64 n)]) In64:=Rdr.int Try.underlying3 c3 fun n h=>wf_i64 h
theorem c30:Try.prog.cellsOf 30=1:=by kernel_rfl
theorem rd30 {H:Type} {enc:TypeId×Value→H} {w:World}:Rdr enc Try.prog w 30 Int (fun n:Int=>[AV.lit (Value.int .i8 n)]) In8:=Rdr.int Try.underlying30 c30 fun n h=>wf_i8 h
theorem c25:Try.prog.cellsOf 25=1:=by kernel_rfl
theorem rd25 {H:Type} {enc:TypeId×Value→H} {w:World}:Rdr enc Try.prog w 25 (List Int) (fun l:List Int=>[AV.sl 1 (l.map (fun n:Int=>[AV.lit (Value.int .i8 n)]))]) (fun l:List Int=>∀ d∈l,In8 d):=Rdr.slice Try.underlying25 c25 c30 (by decide) rd30
theorem c21:Try.prog.cellsOf 21=1:=by kernel_rfl
theorem rd21 {H:Type} {enc:TypeId×Value→H} {w:World}:Rdr enc Try.prog w 21 Int (fun n:Int=>[AV.lit (Value.int .i32 n)]) In32:=Rdr.int Try.underlying21 c21 fun n h=>wf_i32 h
theorem c43:Try.prog.cellsOf 43=1:=by kernel_rfl
theorem rd43 {H:Type} {enc:TypeId×Value→H} {w:World}:Rdr enc Try.prog w 43 (List Int) (fun l:List Int=>[AV.sl 1 (l.map (fun n:Int=>[AV.lit (Value.int .i32 n)]))]) (fun l:List Int=>∀ d∈l,In32 d):=Rdr.slice Try.underlying43 c43 c21 (by decide) rd21
abbrev D45_2:Type:=Int×Unit
abbrev av45_2:D45_2→List AV:=fun d=>(fun n:Int=>[AV.lit (Value.int .i8 n)]) d.1++(fun _:Unit=>([]:List AV)) d.2
abbrev ok45_2:D45_2→Prop:=fun d=>In8 d.1∧(fun _:Unit=>True) d.2
abbrev D45_1:Type:=Int×D45_2
abbrev av45_1:D45_1→List AV:=fun d=>(fun n:Int=>[AV.lit (Value.int .i64 n)]) d.1++av45_2 d.2
abbrev ok45_1:D45_1→Prop:=fun d=>In64 d.1∧ok45_2 d.2
abbrev D45_0:Type:=Int×D45_1
abbrev av45_0:D45_0→List AV:=fun d=>(fun n:Int=>[AV.lit (Value.int .i32 n)]) d.1++av45_1 d.2
abbrev ok45_0:D45_0→Prop:=fun d=>In32 d.1∧ok45_1 d.2
theorem c45:Try.prog.cellsOf 45=3:=by kernel_rfl
theorem rp45 {H:Type} {enc:TypeId×Value→H} {w:World}:Rdr enc Try.prog w 45 D45_0 av45_0 ok45_0:=Rdr.struct Try.underlying45 c45 (RdrF.cons (off:=0) (n:=3) (c:=1) (av:=(fun n:Int=>[AV.lit (Value.int .i32 n)])) (av':=av45_1) (ok:=In32) (ok':=ok45_1) rfl c21 (by decide) rd21 (RdrF.cons (off:=1) (n:=3) (c:=1) (av:=(fun n:Int=>[AV.lit (Value.int .i64 n)])) (av':=av45_2) (ok:=In64) (ok':=ok45_2) rfl c3 (by decide) rd3 (RdrF.cons (off:=2) (n:=3) (c:=1) (av:=(fun n:Int=>[AV.lit (Value.int .i8 n)])) (av':=(fun _:Unit=>([]:List AV))) (ok:=In8) (ok':=(fun _:Unit=>True)) rfl c30 (by decide) rd30 (RdrF.nil (n:=3) (off:=3) (by decide)))))
abbrev D47_14:Type:=Int×Unit
abbrev av47_14:D47_14→List AV:=fun d=>(fun n:Int=>[AV.lit (Value.int .i8 n)]) d.1++(fun _:Unit=>([]:List AV)) d.2
abbrev ok47_14:D47_14→Prop:=fun d=>In8 d.1∧(fun _:Unit=>True) d.2
abbrev D47_13:Type:=Int×D47_14
abbrev av47_13:D47_13→List AV:=fun d=>(fun n:Int=>[AV.lit (Value.int .i8 n)]) d.1++av47_14 d.2
abbrev ok47_13:D47_13→Prop:=fun d=>In8 d.1∧ok47_14 d.2
abbrev D47_12:Type:=D45_0×D47_13
abbrev av47_12:D47_12→List AV:=fun d=>av45_0 d.1++av47_13 d.2
abbrev ok47_12:D47_12→Prop:=fun d=>ok45_0 d.1∧ok47_13 d.2
abbrev D47_11:Type:=D45_0×D47_12
abbrev av47_11:D47_11→List AV:=fun d=>av45_0 d.1++av47_12 d.2
abbrev ok47_11:D47_11→Prop:=fun d=>ok45_0 d.1∧ok47_12 d.2
abbrev D47_10:Type:=(List Int)×D47_11
abbrev av47_10:D47_10→List AV:=fun d=>(fun l:List Int=>[AV.sl 1 (l.map (fun n:Int=>[AV.lit (Value.int .i32 n)]))]) d.1++av47_11 d.2
abbrev ok47_10:D47_10→Prop:=fun d=>(fun l:List Int=>∀ d∈l,In32 d) d.1∧ok47_11 d.2
abbrev D47_9:Type:=(List Int)×D47_10
abbrev av47_9:D47_9→List AV:=fun d=>(fun l:List Int=>[AV.sl 1 (l.map (fun n:Int=>[AV.lit (Value.int .i8 n)]))]) d.1++av47_10 d.2
abbrev ok47_9:D47_9→Prop:=fun d=>(fun l:List Int=>∀ d∈l,In8 d) d.1∧ok47_10 d.2
abbrev D47_8:Type:=Int×D47_9
abbrev av47_8:D47_8→List AV:=fun d=>(fun n:Int=>[AV.lit (Value.int .i8 n)]) d.1++av47_9 d.2
abbrev ok47_8:D47_8→Prop:=fun d=>In8 d.1∧ok47_9 d.2
abbrev D47_7:Type:=Int×D47_8
abbrev av47_7:D47_7→List AV:=fun d=>(fun n:Int=>[AV.lit (Value.int .i8 n)]) d.1++av47_8 d.2
abbrev ok47_7:D47_7→Prop:=fun d=>In8 d.1∧ok47_8 d.2
abbrev D47_6:Type:=Int×D47_7
abbrev av47_6:D47_6→List AV:=fun d=>(fun n:Int=>[AV.lit (Value.int .i64 n)]) d.1++av47_7 d.2
abbrev ok47_6:D47_6→Prop:=fun d=>In64 d.1∧ok47_7 d.2
abbrev D47_5:Type:=Int×D47_6
abbrev av47_5:D47_5→List AV:=fun d=>(fun n:Int=>[AV.lit (Value.int .i64 n)]) d.1++av47_6 d.2
abbrev ok47_5:D47_5→Prop:=fun d=>In64 d.1∧ok47_6 d.2
abbrev D47_4:Type:=Int×D47_5
abbrev av47_4:D47_4→List AV:=fun d=>(fun n:Int=>[AV.lit (Value.int .i64 n)]) d.1++av47_5 d.2
abbrev ok47_4:D47_4→Prop:=fun d=>In64 d.1∧ok47_5 d.2
abbrev D47_3:Type:=Int×D47_4
abbrev av47_3:D47_3→List AV:=fun d=>(fun n:Int=>[AV.lit (Value.int .i64 n)]) d.1++av47_4 d.2
abbrev ok47_3:D47_3→Prop:=fun d=>In64 d.1∧ok47_4 d.2
abbrev D47_2:Type:=Int×D47_3
abbrev av47_2:D47_2→List AV:=fun d=>(fun n:Int=>[AV.lit (Value.int .i64 n)]) d.1++av47_3 d.2
abbrev ok47_2:D47_2→Prop:=fun d=>In64 d.1∧ok47_3 d.2
abbrev D47_1:Type:=Int×D47_2
abbrev av47_1:D47_1→List AV:=fun d=>(fun n:Int=>[AV.lit (Value.int .i64 n)]) d.1++av47_2 d.2
abbrev ok47_1:D47_1→Prop:=fun d=>In64 d.1∧ok47_2 d.2
abbrev D47_0:Type:=Int×D47_1
abbrev av47_0:D47_0→List AV:=fun d=>(fun n:Int=>[AV.lit (Value.int .i64 n)]) d.1++av47_1 d.2
abbrev ok47_0:D47_0→Prop:=fun d=>In64 d.1∧ok47_1 d.2
theorem c47:Try.prog.cellsOf 47=19:=by kernel_rfl
theorem rp47 {H:Type} {enc:TypeId×Value→H} {w:World}:Rdr enc Try.prog w 47 D47_0 av47_0 ok47_0:=Rdr.struct Try.underlying47 c47 (RdrF.cons (off:=0) (n:=19) (c:=1) (av:=(fun n:Int=>[AV.lit (Value.int .i64 n)])) (av':=av47_1) (ok:=In64) (ok':=ok47_1) rfl c3 (by decide) rd3 (RdrF.cons (off:=1) (n:=19) (c:=1) (av:=(fun n:Int=>[AV.lit (Value.int .i64 n)])) (av':=av47_2) (ok:=In64) (ok':=ok47_2) rfl c3 (by decide) rd3 (RdrF.cons (off:=2) (n:=19) (c:=1) (av:=(fun n:Int=>[AV.lit (Value.int .i64 n)])) (av':=av47_3) (ok:=In64) (ok':=ok47_3) rfl c3 (by decide) rd3 (RdrF.cons (off:=3) (n:=19) (c:=1) (av:=(fun n:Int=>[AV.lit (Value.int .i64 n)])) (av':=av47_4) (ok:=In64) (ok':=ok47_4) rfl c3 (by decide) rd3 (RdrF.cons (off:=4) (n:=19) (c:=1) (av:=(fun n:Int=>[AV.lit (Value.int .i64 n)])) (av':=av47_5) (ok:=In64) (ok':=ok47_5) rfl c3 (by decide) rd3 (RdrF.cons (off:=5) (n:=19) (c:=1) (av:=(fun n:Int=>[AV.lit (Value.int .i64 n)])) (av':=av47_6) (ok:=In64) (ok':=ok47_6) rfl c3 (by decide) rd3 (RdrF.cons (off:=6) (n:=19) (c:=1) (av:=(fun n:Int=>[AV.lit (Value.int .i64 n)])) (av':=av47_7) (ok:=In64) (ok':=ok47_7) rfl c3 (by decide) rd3 (RdrF.cons (off:=7) (n:=19) (c:=1) (av:=(fun n:Int=>[AV.lit (Value.int .i8 n)])) (av':=av47_8) (ok:=In8) (ok':=ok47_8) rfl c30 (by decide) rd30 (RdrF.cons (off:=8) (n:=19) (c:=1) (av:=(fun n:Int=>[AV.lit (Value.int .i8 n)])) (av':=av47_9) (ok:=In8) (ok':=ok47_9) rfl c30 (by decide) rd30 (RdrF.cons (off:=9) (n:=19) (c:=1) (av:=(fun l:List Int=>[AV.sl 1 (l.map (fun n:Int=>[AV.lit (Value.int .i8 n)]))])) (av':=av47_10) (ok:=(fun l:List Int=>∀ d∈l,In8 d)) (ok':=ok47_10) rfl c25 (by decide) rd25 (RdrF.cons (off:=10) (n:=19) (c:=1) (av:=(fun l:List Int=>[AV.sl 1 (l.map (fun n:Int=>[AV.lit (Value.int .i32 n)]))])) (av':=av47_11) (ok:=(fun l:List Int=>∀ d∈l,In32 d)) (ok':=ok47_11) rfl c43 (by decide) rd43 (RdrF.cons (off:=11) (n:=19) (c:=3) (av:=av45_0) (av':=av47_12) (ok:=ok45_0) (ok':=ok47_12) rfl c45 (by decide) rp45 (RdrF.cons (off:=14) (n:=19) (c:=3) (av:=av45_0) (av':=av47_13) (ok:=ok45_0) (ok':=ok47_13) rfl c45 (by decide) rp45 (RdrF.cons (off:=17) (n:=19) (c:=1) (av:=(fun n:Int=>[AV.lit (Value.int .i8 n)])) (av':=av47_14) (ok:=In8) (ok':=ok47_14) rfl c30 (by decide) rd30 (RdrF.cons (off:=18) (n:=19) (c:=1) (av:=(fun n:Int=>[AV.lit (Value.int .i8 n)])) (av':=(fun _:Unit=>([]:List AV))) (ok:=In8) (ok':=(fun _:Unit=>True)) rfl c30 (by decide) rd30 (RdrF.nil (n:=19) (off:=19) (by decide)))))))))))))))))
theorem rd47 {H:Type} {enc:TypeId×Value→H} {w:World}:Rdr enc Try.prog w 47 Nod nodC Nod.Ok:=rp47.map (fun ⟨x0,x1,x2,x3,x4,x5,x6,x7,x8,x9,x10,⟨x11,x12,x13,_⟩,⟨x14,x15,x16,_⟩,x17,x18,_⟩=>⟨x0,x1,x2,x3,x4,x5,x6,x7,x8,x9,x10,x11,x12,x13,x14,x15,x16,x17,x18⟩) (fun ⟨x0,x1,x2,x3,x4,x5,x6,x7,x8,x9,x10,⟨x11,x12,x13,_⟩,⟨x14,x15,x16,_⟩,x17,x18,_⟩=>rfl) (fun ⟨x0,x1,x2,x3,x4,x5,x6,x7,x8,x9,x10,⟨x11,x12,x13,_⟩,⟨x14,x15,x16,_⟩,x17,x18,_⟩ ⟨h0,h1,h2,h3,h4,h5,h6,h7,h8,h9,h10,⟨h11,h12,h13,_⟩,⟨h14,h15,h16,_⟩,h17,h18,_⟩=>⟨h0,h1,h2,h3,h4,h5,h6,h7,h8,h9,h10,h11,h12,h13,h14,h15,h16,h17,h18⟩)
theorem c22:Try.prog.cellsOf 22=1:=by kernel_rfl
theorem rd22 {H:Type} {enc:TypeId×Value→H} {w:World}:Rdr enc Try.prog w 22 (List Nod) (fun l:List Nod=>[AV.sl 19 (l.map nodC)]) (fun l:List Nod=>∀ d∈l,Nod.Ok d):=Rdr.slice Try.underlying22 c22 c47 (by decide) rd47
theorem c4:Try.prog.cellsOf 4=1:=by kernel_rfl
theorem rd4 {H:Type} {enc:TypeId×Value→H} {w:World}:Rdr enc Try.prog w 4 Bool (fun b:Bool=>[AV.lit (Value.bool b)]) (fun _:Bool=>True):=Rdr.bool Try.underlying4 c4
abbrev D83_2:Type:=Int×Unit
abbrev av83_2:D83_2→List AV:=fun d=>(fun n:Int=>[AV.lit (Value.int .i32 n)]) d.1++(fun _:Unit=>([]:List AV)) d.2
abbrev ok83_2:D83_2→Prop:=fun d=>In32 d.1∧(fun _:Unit=>True) d.2
abbrev D83_1:Type:=(List Int)×D83_2
abbrev av83_1:D83_1→List AV:=fun d=>(fun l:List Int=>[AV.sl 1 (l.map (fun n:Int=>[AV.lit (Value.int .i32 n)]))]) d.1++av83_2 d.2
abbrev ok83_1:D83_1→Prop:=fun d=>(fun l:List Int=>∀ d∈l,In32 d) d.1∧ok83_2 d.2
abbrev D83_0:Type:=(List Int)×D83_1
abbrev av83_0:D83_0→List AV:=fun d=>(fun l:List Int=>[AV.sl 1 (l.map (fun n:Int=>[AV.lit (Value.int .i8 n)]))]) d.1++av83_1 d.2
abbrev ok83_0:D83_0→Prop:=fun d=>(fun l:List Int=>∀ d∈l,In8 d) d.1∧ok83_1 d.2
theorem c83:Try.prog.cellsOf 83=3:=by kernel_rfl
theorem rp83 {H:Type} {enc:TypeId×Value→H} {w:World}:Rdr enc Try.prog w 83 D83_0 av83_0 ok83_0:=Rdr.struct Try.underlying83 c83 (RdrF.cons (off:=0) (n:=3) (c:=1) (av:=(fun l:List Int=>[AV.sl 1 (l.map (fun n:Int=>[AV.lit (Value.int .i8 n)]))])) (av':=av83_1) (ok:=(fun l:List Int=>∀ d∈l,In8 d)) (ok':=ok83_1) rfl c25 (by decide) rd25 (RdrF.cons (off:=1) (n:=3) (c:=1) (av:=(fun l:List Int=>[AV.sl 1 (l.map (fun n:Int=>[AV.lit (Value.int .i32 n)]))])) (av':=av83_2) (ok:=(fun l:List Int=>∀ d∈l,In32 d)) (ok':=ok83_2) rfl c43 (by decide) rd43 (RdrF.cons (off:=2) (n:=3) (c:=1) (av:=(fun n:Int=>[AV.lit (Value.int .i32 n)])) (av':=(fun _:Unit=>([]:List AV))) (ok:=In32) (ok':=(fun _:Unit=>True)) rfl c21 (by decide) rd21 (RdrF.nil (n:=3) (off:=3) (by decide)))))
abbrev D85_2:Type:=D83_0×Unit
abbrev av85_2:D85_2→List AV:=fun d=>av83_0 d.1++(fun _:Unit=>([]:List AV)) d.2
abbrev ok85_2:D85_2→Prop:=fun d=>ok83_0 d.1∧(fun _:Unit=>True) d.2
abbrev D85_1:Type:=Bool×D85_2
abbrev av85_1:D85_1→List AV:=fun d=>(fun b:Bool=>[AV.lit (Value.bool b)]) d.1++av85_2 d.2
abbrev ok85_1:D85_1→Prop:=fun d=>(fun _:Bool=>True) d.1∧ok85_2 d.2
abbrev D85_0:Type:=(List Nod)×D85_1
abbrev av85_0:D85_0→List AV:=fun d=>(fun l:List Nod=>[AV.sl 19 (l.map nodC)]) d.1++av85_1 d.2
abbrev ok85_0:D85_0→Prop:=fun d=>(fun l:List Nod=>∀ d∈l,Nod.Ok d) d.1∧ok85_1 d.2
theorem c85:Try.prog.cellsOf 85=5:=by kernel_rfl
theorem rp85 {H:Type} {enc:TypeId×Value→H} {w:World}:Rdr enc Try.prog w 85 D85_0 av85_0 ok85_0:=Rdr.struct Try.underlying85 c85 (RdrF.cons (off:=0) (n:=5) (c:=1) (av:=(fun l:List Nod=>[AV.sl 19 (l.map nodC)])) (av':=av85_1) (ok:=(fun l:List Nod=>∀ d∈l,Nod.Ok d)) (ok':=ok85_1) rfl c22 (by decide) rd22 (RdrF.cons (off:=1) (n:=5) (c:=1) (av:=(fun b:Bool=>[AV.lit (Value.bool b)])) (av':=av85_2) (ok:=(fun _:Bool=>True)) (ok':=ok85_2) rfl c4 (by decide) rd4 (RdrF.cons (off:=2) (n:=5) (c:=3) (av:=av83_0) (av':=(fun _:Unit=>([]:List AV))) (ok:=ok83_0) (ok':=(fun _:Unit=>True)) rfl c83 (by decide) rp83 (RdrF.nil (n:=5) (off:=5) (by decide)))))
theorem rd85 {H:Type} {enc:TypeId×Value→H} {w:World}:Rdr enc Try.prog w 85 Blc blcC Blc.Ok:=rp85.map (fun ⟨x0,x1,⟨x2,x3,x4,_⟩,_⟩=>⟨x0,x1,x2,x3,x4⟩) (fun ⟨x0,x1,⟨x2,x3,x4,_⟩,_⟩=>rfl) (fun ⟨x0,x1,⟨x2,x3,x4,_⟩,_⟩ ⟨h0,_,⟨h2,h3,h4,_⟩,_⟩=>⟨h0,h2,h3,h4⟩)
theorem c87:Try.prog.cellsOf 87=1:=by kernel_rfl
theorem rd87 {H:Type} {enc:TypeId×Value→H} {w:World}:Rdr enc Try.prog w 87 (List Blc) (fun l:List Blc=>[AV.sl 5 (l.map blcC)]) (fun l:List Blc=>∀ d∈l,Blc.Ok d):=Rdr.slice Try.underlying87 c87 c85 (by decide) rd85
abbrev D89_0:Type:=(List Blc)×Unit
abbrev av89_0:D89_0→List AV:=fun d=>(fun l:List Blc=>[AV.sl 5 (l.map blcC)]) d.1++(fun _:Unit=>([]:List AV)) d.2
abbrev ok89_0:D89_0→Prop:=fun d=>(fun l:List Blc=>∀ d∈l,Blc.Ok d) d.1∧(fun _:Unit=>True) d.2
theorem c89:Try.prog.cellsOf 89=1:=by kernel_rfl
theorem rp89 {H:Type} {enc:TypeId×Value→H} {w:World}:Rdr enc Try.prog w 89 D89_0 av89_0 ok89_0:=Rdr.struct Try.underlying89 c89 (RdrF.cons (off:=0) (n:=1) (c:=1) (av:=(fun l:List Blc=>[AV.sl 5 (l.map blcC)])) (av':=(fun _:Unit=>([]:List AV))) (ok:=(fun l:List Blc=>∀ d∈l,Blc.Ok d)) (ok':=(fun _:Unit=>True)) rfl c87 (by decide) rd87 (RdrF.nil (n:=1) (off:=1) (by decide)))
theorem rd89 {H:Type} {enc:TypeId×Value→H} {w:World}:Rdr enc Try.prog w 89 Mdl mdlC Mdl.Ok:=rp89.map (fun ⟨x0,_⟩=>⟨x0⟩) (fun ⟨x0,_⟩=>rfl) (fun ⟨x0,_⟩ ⟨h0,_⟩=>⟨h0⟩)
theorem c5:Try.prog.cellsOf 5=1:=by kernel_rfl
theorem rd5 {H:Type} {enc:TypeId×Value→H} {w:World}:Rdr enc Try.prog w 5 Int (fun n:Int=>[AV.lit (Value.int .u8 n)]) (fun n:Int=>0≤n∧n≤255):=Rdr.int Try.underlying5 c5 fun n h=>wf_u8 h
theorem c64:Try.prog.cellsOf 64=1:=by kernel_rfl
theorem rd64 {H:Type} {enc:TypeId×Value→H} {w:World}:Rdr enc Try.prog w 64 (List Int) (fun l:List Int=>[AV.sl 1 (l.map (fun n:Int=>[AV.lit (Value.int .u8 n)]))]) (fun l:List Int=>∀ d∈l,(fun n:Int=>0≤n∧n≤255) d):=Rdr.slice Try.underlying64 c64 c5 (by decide) rd5
theorem walk (w:World) (v0:Value) (d0:Mdl) (v1:Value) (d1:(List Int)) (o0:Mdl.Ok d0) (e0:Rel (fun _=>none) (fun _=>False) w (.agg (mdlC d0)) v0) (o1:(fun l:List Int=>∀ d∈l,(fun n:Int=>0≤n∧n≤255) d) d1) (e1:Rel (fun _=>none) (fun _=>False) w (.sl 1 (d1.map (fun n:Int=>[AV.lit (Value.int .u8 n)]))) v1) :
    Calls Try.prog 11 #[v0,v1] w fun e w'=>e=.returned (.bool true)∧Below w.heap.size w w' :=
  law_of (packModels_v d0 d1 o0 o1) (.cons e0 (.cons e1 (.nil w)))
theorem lifted (os:Os) (started:os.Started) (H:Type) (enc:TypeId×Value→H) :
    ReturnsInHanded {} Try.checked os 11 .any (Rows.packModelsSpec.pre6 enc Try.prog Try.f11 Rows.packModelsRow.domain false) (Rows.packModelsSpec.post enc Try.prog Try.f11 false true false false):=by
  refine returnsInHanded_of_change (C:=Try.checked) own started (by kernel_rfl) Try.func11
    (ChangeSpec.witness6 (enc:=enc) (C:=Try.checked) false ⟨#[],#[.agg #[.slice none 0 0],.slice none 0 0],[]⟩ 8 (by kernel_rfl) (by kernel_rfl) (by kernel_rfl) (by kernel_rfl)) ?_
  intro W base args ds gs before hval0 hW hcnd _
  have hval:∀ (j:Nat) t v,Try.f11.params[j]? = some t→args[j]? = some v→Value.okWide Try.prog W .any base t v:=hval0
  have hW':=hW
  obtain ⟨p,q,hA0,hV,rfl,hfz,hnd⟩:=hW
  have hA:DataW.TrodAll enc Try.prog W 0 (fun _=>true) true Try.f11.params.toList args.toList ds p:=hA0
  rw [Try.params11] at hA hval
  obtain ⟨v0,vs0,dd0,ds0,p0,q0,hargs,rfl,rfl,h0,r0⟩:=trodAll_cons hA
  obtain ⟨v1,vs1,dd1,ds1,p1,q1,rfl,rfl,rfl,h1,r1⟩:=trodAll_cons r0
  obtain ⟨rfl,rfl,rfl⟩:=trodAll_nil r1
  obtain rfl:args = #[v0,v1]:=by cases args;simp_all
  obtain ⟨rfl,rfl⟩:=trodVars_none hV
  have k0:=h0
  have lt0:∀ x∈p0,x.block<W.heap.size:=by obtain ⟨m,hm⟩:=k0;exact DataW.trod_lt m _ _ _ hm
  obtain ⟨d0,o0,e0⟩:=(rd89 (enc:=enc) (w:=W)).aggV Try.underlying89 (hval 0 89 v0 rfl rfl) h0
  have k1:=h1
  have lt1:∀ x∈p1,x.block<W.heap.size:=by obtain ⟨m,hm⟩:=k1;exact DataW.trod_lt m _ _ _ hm
  obtain ⟨d1,o1,e1⟩:=Rdr.oneV (a:=(fun l:List Int=>AV.sl 1 (l.map (fun n:Int=>[AV.lit (Value.int .u8 n)])))) (rd64 (enc:=enc) (w:=W)) (by obtain ⟨_,_,_,rfl⟩:=okWide_slice Try.underlying64 (hval 1 64 v1 rfl rfl);rfl) c64 h1
  clear hA0 hval0
  refine (walk W v0 d0 v1 d1 o0 e0 o1 e1).mono fun e W' ⟨he,bel⟩=>?_
  subst he
  exact ⟨_,rfl,_,_,_,[],_,[],hW',trodAll_mk1 (shut_bool Try.underlying4 _),(trodAll_cons_mk (Below.trod laidOut (by kernel_rfl) (of_decide_eq_true (by kernel_rfl)) k0 bel lt0) (trodAll_cons_mk (Below.trod laidOut (by kernel_rfl) (of_decide_eq_true (by kernel_rfl)) k1 bel lt1) trodAll_mk0)),rfl,bel.frame _,fun h=>by cases h⟩
theorem over:Rows.packModelsRow.holds Try.pinned (OpenSpec.ofChange Rows.packModelsSpec) :=
  OpenClaim.holds_of_wide 11 Try.f11 rfl rfl rfl rfl rfl rfl rfl ⟨rfl,rfl,rfl,rfl,rfl⟩ rfl rfl rfl rfl rfl (by kernel_rfl) Try.func11 (by kernel_rfl)
    (of_decide_eq_true (by kernel_rfl)) (by unfold Func.isWrapper;first | (rw [if_pos (by decide +kernel)];kernel_rfl) | (rw [if_neg (by decide +kernel)];exact ⟨rfl,rfl⟩))
    (fun os started H enc _=>lifted os started H enc)
theorem proved:Rows.PackModelsSaid:=over
#print axioms proved
end Go.Proofs.Ytgecmooedhnenaa.packModels
