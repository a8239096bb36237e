/- PruneBundles: for every input the law returns true, and each argument reads afterwards as before. No condition. -/
import Derived.Test.YtdfihaminnmgpaaGreatRows
import Derived.WalkKit
import Derived.ProofKit
import Derived.OpenShut
import Derived.ShutString
import Derived.ChangeOld
import Derived.Below
import Derived.Test.YtdfihaminnmgpaaGreatPruneBundlesG9
set_option maxRecDepth 100000
set_option maxHeartbeats 2000000
set_option linter.unusedVariables false
set_option linter.unusedSimpArgs false
set_option linter.unnecessarySimpa false
namespace Go.Proofs.YtdfihaminnmgpaaGreat.pruneBundles
open Go.ChangeShapes Go.WideShapes Go.ChangeAt Go.RowKit
open Go.ChangeMaps (open_string shut_string)
set_option maxRecDepth 10000
theorem own:ownKnob Tryz.prog.godebug=none:=by kernel_rfl
theorem laidOut:laidOutB Tryz.prog=true:=by kernel_rfl
theorem c3:Tryz.prog.cellsOf 3=1:=by kernel_rfl
theorem rd3 {H:Type} {enc:TypeId×Value→H} {w:World}:Rdr enc Tryz.prog w 3 Int (fun n:Int=>[AV.lit (Value.int .i64 n)]) In64:=Rdr.int Tryz.underlying3 c3 fun n h=>wf_i64 h
abbrev D23_2:Type:=Int×Unit
abbrev av23_2:D23_2→List AV:=fun d=>(fun n:Int=>[AV.lit (Value.int .i64 n)]) d.1++(fun _:Unit=>([]:List AV)) d.2
abbrev ok23_2:D23_2→Prop:=fun d=>In64 d.1∧(fun _:Unit=>True) d.2
abbrev D23_1:Type:=Int×D23_2
abbrev av23_1:D23_1→List AV:=fun d=>(fun n:Int=>[AV.lit (Value.int .i64 n)]) d.1++av23_2 d.2
abbrev ok23_1:D23_1→Prop:=fun d=>In64 d.1∧ok23_2 d.2
abbrev D23_0:Type:=Int×D23_1
abbrev av23_0:D23_0→List AV:=fun d=>(fun n:Int=>[AV.lit (Value.int .i64 n)]) d.1++av23_1 d.2
abbrev ok23_0:D23_0→Prop:=fun d=>In64 d.1∧ok23_1 d.2
theorem c23:Tryz.prog.cellsOf 23=3:=by kernel_rfl
theorem rp23 {H:Type} {enc:TypeId×Value→H} {w:World}:Rdr enc Tryz.prog w 23 D23_0 av23_0 ok23_0:=Rdr.struct Tryz.underlying23 c23 (RdrF.cons (off:=0) (n:=3) (c:=1) (av:=(fun n:Int=>[AV.lit (Value.int .i64 n)])) (av':=av23_1) (ok:=In64) (ok':=ok23_1) rfl c3 (by decide) rd3 (RdrF.cons (off:=1) (n:=3) (c:=1) (av:=(fun n:Int=>[AV.lit (Value.int .i64 n)])) (av':=av23_2) (ok:=In64) (ok':=ok23_2) rfl c3 (by decide) rd3 (RdrF.cons (off:=2) (n:=3) (c:=1) (av:=(fun n:Int=>[AV.lit (Value.int .i64 n)])) (av':=(fun _:Unit=>([]:List AV))) (ok:=In64) (ok':=(fun _:Unit=>True)) rfl c3 (by decide) rd3 (RdrF.nil (n:=3) (off:=3) (by decide)))))
theorem c52:Tryz.prog.cellsOf 52=1:=by kernel_rfl
theorem rd52 {H:Type} {enc:TypeId×Value→H} {w:World}:Rdr enc Tryz.prog w 52 Int (fun n:Int=>[AV.lit (Value.int .i8 n)]) In8:=Rdr.int Tryz.underlying52 c52 fun n h=>wf_i8 h
theorem c45:Tryz.prog.cellsOf 45=1:=by kernel_rfl
theorem rd45 {H:Type} {enc:TypeId×Value→H} {w:World}:Rdr enc Tryz.prog w 45 (List Int) (fun l:List Int=>[AV.sl 1 (l.map (fun n:Int=>[AV.lit (Value.int .i8 n)]))]) (fun l:List Int=>∀ d∈l,In8 d):=Rdr.slice Tryz.underlying45 c45 c52 (by decide) rd52
theorem c21:Tryz.prog.cellsOf 21=1:=by kernel_rfl
theorem rd21 {H:Type} {enc:TypeId×Value→H} {w:World}:Rdr enc Tryz.prog w 21 Int (fun n:Int=>[AV.lit (Value.int .i32 n)]) In32:=Rdr.int Tryz.underlying21 c21 fun n h=>wf_i32 h
theorem c46:Tryz.prog.cellsOf 46=1:=by kernel_rfl
theorem rd46 {H:Type} {enc:TypeId×Value→H} {w:World}:Rdr enc Tryz.prog w 46 (List Int) (fun l:List Int=>[AV.sl 1 (l.map (fun n:Int=>[AV.lit (Value.int .i32 n)]))]) (fun l:List Int=>∀ d∈l,In32 d):=Rdr.slice Tryz.underlying46 c46 c21 (by decide) rd21
abbrev D54_2:Type:=Int×Unit
abbrev av54_2:D54_2→List AV:=fun d=>(fun n:Int=>[AV.lit (Value.int .i8 n)]) d.1++(fun _:Unit=>([]:List AV)) d.2
abbrev ok54_2:D54_2→Prop:=fun d=>In8 d.1∧(fun _:Unit=>True) d.2
abbrev D54_1:Type:=Int×D54_2
abbrev av54_1:D54_1→List AV:=fun d=>(fun n:Int=>[AV.lit (Value.int .i64 n)]) d.1++av54_2 d.2
abbrev ok54_1:D54_1→Prop:=fun d=>In64 d.1∧ok54_2 d.2
abbrev D54_0:Type:=Int×D54_1
abbrev av54_0:D54_0→List AV:=fun d=>(fun n:Int=>[AV.lit (Value.int .i32 n)]) d.1++av54_1 d.2
abbrev ok54_0:D54_0→Prop:=fun d=>In32 d.1∧ok54_1 d.2
theorem c54:Tryz.prog.cellsOf 54=3:=by kernel_rfl
theorem rp54 {H:Type} {enc:TypeId×Value→H} {w:World}:Rdr enc Tryz.prog w 54 D54_0 av54_0 ok54_0:=Rdr.struct Tryz.underlying54 c54 (RdrF.cons (off:=0) (n:=3) (c:=1) (av:=(fun n:Int=>[AV.lit (Value.int .i32 n)])) (av':=av54_1) (ok:=In32) (ok':=ok54_1) rfl c21 (by decide) rd21 (RdrF.cons (off:=1) (n:=3) (c:=1) (av:=(fun n:Int=>[AV.lit (Value.int .i64 n)])) (av':=av54_2) (ok:=In64) (ok':=ok54_2) rfl c3 (by decide) rd3 (RdrF.cons (off:=2) (n:=3) (c:=1) (av:=(fun n:Int=>[AV.lit (Value.int .i8 n)])) (av':=(fun _:Unit=>([]:List AV))) (ok:=In8) (ok':=(fun _:Unit=>True)) rfl c52 (by decide) rd52 (RdrF.nil (n:=3) (off:=3) (by decide)))))
abbrev D56_14:Type:=Int×Unit
abbrev av56_14:D56_14→List AV:=fun d=>(fun n:Int=>[AV.lit (Value.int .i8 n)]) d.1++(fun _:Unit=>([]:List AV)) d.2
abbrev ok56_14:D56_14→Prop:=fun d=>In8 d.1∧(fun _:Unit=>True) d.2
abbrev D56_13:Type:=Int×D56_14
abbrev av56_13:D56_13→List AV:=fun d=>(fun n:Int=>[AV.lit (Value.int .i8 n)]) d.1++av56_14 d.2
abbrev ok56_13:D56_13→Prop:=fun d=>In8 d.1∧ok56_14 d.2
abbrev D56_12:Type:=D54_0×D56_13
abbrev av56_12:D56_12→List AV:=fun d=>av54_0 d.1++av56_13 d.2
abbrev ok56_12:D56_12→Prop:=fun d=>ok54_0 d.1∧ok56_13 d.2
abbrev D56_11:Type:=D54_0×D56_12
abbrev av56_11:D56_11→List AV:=fun d=>av54_0 d.1++av56_12 d.2
abbrev ok56_11:D56_11→Prop:=fun d=>ok54_0 d.1∧ok56_12 d.2
abbrev D56_10:Type:=(List Int)×D56_11
abbrev av56_10:D56_10→List AV:=fun d=>(fun l:List Int=>[AV.sl 1 (l.map (fun n:Int=>[AV.lit (Value.int .i32 n)]))]) d.1++av56_11 d.2
abbrev ok56_10:D56_10→Prop:=fun d=>(fun l:List Int=>∀ d∈l,In32 d) d.1∧ok56_11 d.2
abbrev D56_9:Type:=(List Int)×D56_10
abbrev av56_9:D56_9→List AV:=fun d=>(fun l:List Int=>[AV.sl 1 (l.map (fun n:Int=>[AV.lit (Value.int .i8 n)]))]) d.1++av56_10 d.2
abbrev ok56_9:D56_9→Prop:=fun d=>(fun l:List Int=>∀ d∈l,In8 d) d.1∧ok56_10 d.2
abbrev D56_8:Type:=Int×D56_9
abbrev av56_8:D56_8→List AV:=fun d=>(fun n:Int=>[AV.lit (Value.int .i8 n)]) d.1++av56_9 d.2
abbrev ok56_8:D56_8→Prop:=fun d=>In8 d.1∧ok56_9 d.2
abbrev D56_7:Type:=Int×D56_8
abbrev av56_7:D56_7→List AV:=fun d=>(fun n:Int=>[AV.lit (Value.int .i8 n)]) d.1++av56_8 d.2
abbrev ok56_7:D56_7→Prop:=fun d=>In8 d.1∧ok56_8 d.2
abbrev D56_6:Type:=Int×D56_7
abbrev av56_6:D56_6→List AV:=fun d=>(fun n:Int=>[AV.lit (Value.int .i64 n)]) d.1++av56_7 d.2
abbrev ok56_6:D56_6→Prop:=fun d=>In64 d.1∧ok56_7 d.2
abbrev D56_5:Type:=Int×D56_6
abbrev av56_5:D56_5→List AV:=fun d=>(fun n:Int=>[AV.lit (Value.int .i64 n)]) d.1++av56_6 d.2
abbrev ok56_5:D56_5→Prop:=fun d=>In64 d.1∧ok56_6 d.2
abbrev D56_4:Type:=Int×D56_5
abbrev av56_4:D56_4→List AV:=fun d=>(fun n:Int=>[AV.lit (Value.int .i64 n)]) d.1++av56_5 d.2
abbrev ok56_4:D56_4→Prop:=fun d=>In64 d.1∧ok56_5 d.2
abbrev D56_3:Type:=Int×D56_4
abbrev av56_3:D56_3→List AV:=fun d=>(fun n:Int=>[AV.lit (Value.int .i64 n)]) d.1++av56_4 d.2
abbrev ok56_3:D56_3→Prop:=fun d=>In64 d.1∧ok56_4 d.2
abbrev D56_2:Type:=Int×D56_3
abbrev av56_2:D56_2→List AV:=fun d=>(fun n:Int=>[AV.lit (Value.int .i64 n)]) d.1++av56_3 d.2
abbrev ok56_2:D56_2→Prop:=fun d=>In64 d.1∧ok56_3 d.2
abbrev D56_1:Type:=Int×D56_2
abbrev av56_1:D56_1→List AV:=fun d=>(fun n:Int=>[AV.lit (Value.int .i64 n)]) d.1++av56_2 d.2
abbrev ok56_1:D56_1→Prop:=fun d=>In64 d.1∧ok56_2 d.2
abbrev D56_0:Type:=Int×D56_1
abbrev av56_0:D56_0→List AV:=fun d=>(fun n:Int=>[AV.lit (Value.int .i64 n)]) d.1++av56_1 d.2
abbrev ok56_0:D56_0→Prop:=fun d=>In64 d.1∧ok56_1 d.2
theorem c56:Tryz.prog.cellsOf 56=19:=by kernel_rfl
theorem rp56 {H:Type} {enc:TypeId×Value→H} {w:World}:Rdr enc Tryz.prog w 56 D56_0 av56_0 ok56_0:=Rdr.struct Tryz.underlying56 c56 (RdrF.cons (off:=0) (n:=19) (c:=1) (av:=(fun n:Int=>[AV.lit (Value.int .i64 n)])) (av':=av56_1) (ok:=In64) (ok':=ok56_1) rfl c3 (by decide) rd3 (RdrF.cons (off:=1) (n:=19) (c:=1) (av:=(fun n:Int=>[AV.lit (Value.int .i64 n)])) (av':=av56_2) (ok:=In64) (ok':=ok56_2) rfl c3 (by decide) rd3 (RdrF.cons (off:=2) (n:=19) (c:=1) (av:=(fun n:Int=>[AV.lit (Value.int .i64 n)])) (av':=av56_3) (ok:=In64) (ok':=ok56_3) rfl c3 (by decide) rd3 (RdrF.cons (off:=3) (n:=19) (c:=1) (av:=(fun n:Int=>[AV.lit (Value.int .i64 n)])) (av':=av56_4) (ok:=In64) (ok':=ok56_4) rfl c3 (by decide) rd3 (RdrF.cons (off:=4) (n:=19) (c:=1) (av:=(fun n:Int=>[AV.lit (Value.int .i64 n)])) (av':=av56_5) (ok:=In64) (ok':=ok56_5) rfl c3 (by decide) rd3 (RdrF.cons (off:=5) (n:=19) (c:=1) (av:=(fun n:Int=>[AV.lit (Value.int .i64 n)])) (av':=av56_6) (ok:=In64) (ok':=ok56_6) rfl c3 (by decide) rd3 (RdrF.cons (off:=6) (n:=19) (c:=1) (av:=(fun n:Int=>[AV.lit (Value.int .i64 n)])) (av':=av56_7) (ok:=In64) (ok':=ok56_7) rfl c3 (by decide) rd3 (RdrF.cons (off:=7) (n:=19) (c:=1) (av:=(fun n:Int=>[AV.lit (Value.int .i8 n)])) (av':=av56_8) (ok:=In8) (ok':=ok56_8) rfl c52 (by decide) rd52 (RdrF.cons (off:=8) (n:=19) (c:=1) (av:=(fun n:Int=>[AV.lit (Value.int .i8 n)])) (av':=av56_9) (ok:=In8) (ok':=ok56_9) rfl c52 (by decide) rd52 (RdrF.cons (off:=9) (n:=19) (c:=1) (av:=(fun l:List Int=>[AV.sl 1 (l.map (fun n:Int=>[AV.lit (Value.int .i8 n)]))])) (av':=av56_10) (ok:=(fun l:List Int=>∀ d∈l,In8 d)) (ok':=ok56_10) rfl c45 (by decide) rd45 (RdrF.cons (off:=10) (n:=19) (c:=1) (av:=(fun l:List Int=>[AV.sl 1 (l.map (fun n:Int=>[AV.lit (Value.int .i32 n)]))])) (av':=av56_11) (ok:=(fun l:List Int=>∀ d∈l,In32 d)) (ok':=ok56_11) rfl c46 (by decide) rd46 (RdrF.cons (off:=11) (n:=19) (c:=3) (av:=av54_0) (av':=av56_12) (ok:=ok54_0) (ok':=ok56_12) rfl c54 (by decide) rp54 (RdrF.cons (off:=14) (n:=19) (c:=3) (av:=av54_0) (av':=av56_13) (ok:=ok54_0) (ok':=ok56_13) rfl c54 (by decide) rp54 (RdrF.cons (off:=17) (n:=19) (c:=1) (av:=(fun n:Int=>[AV.lit (Value.int .i8 n)])) (av':=av56_14) (ok:=In8) (ok':=ok56_14) rfl c52 (by decide) rd52 (RdrF.cons (off:=18) (n:=19) (c:=1) (av:=(fun n:Int=>[AV.lit (Value.int .i8 n)])) (av':=(fun _:Unit=>([]:List AV))) (ok:=In8) (ok':=(fun _:Unit=>True)) rfl c52 (by decide) rd52 (RdrF.nil (n:=19) (off:=19) (by decide)))))))))))))))))
theorem rd56 {H:Type} {enc:TypeId×Value→H} {w:World}:Rdr enc Tryz.prog w 56 Nod nodC Nod.Ok:=rp56.map (fun ⟨x0,x1,x2,x3,x4,x5,x6,x7,x8,x9,x10,⟨x11,x12,x13,_⟩,⟨x14,x15,x16,_⟩,x17,x18,_⟩=>⟨x0,x1,x2,x3,x4,x5,x6,x7,x8,x9,x10,x11,x12,x13,x14,x15,x16,x17,x18⟩) (fun ⟨x0,x1,x2,x3,x4,x5,x6,x7,x8,x9,x10,⟨x11,x12,x13,_⟩,⟨x14,x15,x16,_⟩,x17,x18,_⟩=>rfl) (fun ⟨x0,x1,x2,x3,x4,x5,x6,x7,x8,x9,x10,⟨x11,x12,x13,_⟩,⟨x14,x15,x16,_⟩,x17,x18,_⟩ ⟨h0,h1,h2,h3,h4,h5,h6,h7,h8,h9,h10,⟨h11,h12,h13,_⟩,⟨h14,h15,h16,_⟩,h17,h18,_⟩=>⟨h0,h1,h2,h3,h4,h5,h6,h7,h8,h9,h10,h11,h12,h13,h14,h15,h16,h17,h18⟩)
theorem c49:Tryz.prog.cellsOf 49=1:=by kernel_rfl
theorem rd49 {H:Type} {enc:TypeId×Value→H} {w:World}:Rdr enc Tryz.prog w 49 (List Nod) (fun l:List Nod=>[AV.sl 19 (l.map nodC)]) (fun l:List Nod=>∀ d∈l,Nod.Ok d):=Rdr.slice Tryz.underlying49 c49 c56 (by decide) rd56
theorem c4:Tryz.prog.cellsOf 4=1:=by kernel_rfl
theorem rd4 {H:Type} {enc:TypeId×Value→H} {w:World}:Rdr enc Tryz.prog w 4 Bool (fun b:Bool=>[AV.lit (Value.bool b)]) (fun _:Bool=>True):=Rdr.bool Tryz.underlying4 c4
abbrev D48_2:Type:=Int×Unit
abbrev av48_2:D48_2→List AV:=fun d=>(fun n:Int=>[AV.lit (Value.int .i32 n)]) d.1++(fun _:Unit=>([]:List AV)) d.2
abbrev ok48_2:D48_2→Prop:=fun d=>In32 d.1∧(fun _:Unit=>True) d.2
abbrev D48_1:Type:=(List Int)×D48_2
abbrev av48_1:D48_1→List AV:=fun d=>(fun l:List Int=>[AV.sl 1 (l.map (fun n:Int=>[AV.lit (Value.int .i32 n)]))]) d.1++av48_2 d.2
abbrev ok48_1:D48_1→Prop:=fun d=>(fun l:List Int=>∀ d∈l,In32 d) d.1∧ok48_2 d.2
abbrev D48_0:Type:=(List Int)×D48_1
abbrev av48_0:D48_0→List AV:=fun d=>(fun l:List Int=>[AV.sl 1 (l.map (fun n:Int=>[AV.lit (Value.int .i8 n)]))]) d.1++av48_1 d.2
abbrev ok48_0:D48_0→Prop:=fun d=>(fun l:List Int=>∀ d∈l,In8 d) d.1∧ok48_1 d.2
theorem c48:Tryz.prog.cellsOf 48=3:=by kernel_rfl
theorem rp48 {H:Type} {enc:TypeId×Value→H} {w:World}:Rdr enc Tryz.prog w 48 D48_0 av48_0 ok48_0:=Rdr.struct Tryz.underlying48 c48 (RdrF.cons (off:=0) (n:=3) (c:=1) (av:=(fun l:List Int=>[AV.sl 1 (l.map (fun n:Int=>[AV.lit (Value.int .i8 n)]))])) (av':=av48_1) (ok:=(fun l:List Int=>∀ d∈l,In8 d)) (ok':=ok48_1) rfl c45 (by decide) rd45 (RdrF.cons (off:=1) (n:=3) (c:=1) (av:=(fun l:List Int=>[AV.sl 1 (l.map (fun n:Int=>[AV.lit (Value.int .i32 n)]))])) (av':=av48_2) (ok:=(fun l:List Int=>∀ d∈l,In32 d)) (ok':=ok48_2) rfl c46 (by decide) rd46 (RdrF.cons (off:=2) (n:=3) (c:=1) (av:=(fun n:Int=>[AV.lit (Value.int .i32 n)])) (av':=(fun _:Unit=>([]:List AV))) (ok:=In32) (ok':=(fun _:Unit=>True)) rfl c21 (by decide) rd21 (RdrF.nil (n:=3) (off:=3) (by decide)))))
abbrev D51_2:Type:=D48_0×Unit
abbrev av51_2:D51_2→List AV:=fun d=>av48_0 d.1++(fun _:Unit=>([]:List AV)) d.2
abbrev ok51_2:D51_2→Prop:=fun d=>ok48_0 d.1∧(fun _:Unit=>True) d.2
abbrev D51_1:Type:=Bool×D51_2
abbrev av51_1:D51_1→List AV:=fun d=>(fun b:Bool=>[AV.lit (Value.bool b)]) d.1++av51_2 d.2
abbrev ok51_1:D51_1→Prop:=fun d=>(fun _:Bool=>True) d.1∧ok51_2 d.2
abbrev D51_0:Type:=(List Nod)×D51_1
abbrev av51_0:D51_0→List AV:=fun d=>(fun l:List Nod=>[AV.sl 19 (l.map nodC)]) d.1++av51_1 d.2
abbrev ok51_0:D51_0→Prop:=fun d=>(fun l:List Nod=>∀ d∈l,Nod.Ok d) d.1∧ok51_1 d.2
theorem c51:Tryz.prog.cellsOf 51=5:=by kernel_rfl
theorem rp51 {H:Type} {enc:TypeId×Value→H} {w:World}:Rdr enc Tryz.prog w 51 D51_0 av51_0 ok51_0:=Rdr.struct Tryz.underlying51 c51 (RdrF.cons (off:=0) (n:=5) (c:=1) (av:=(fun l:List Nod=>[AV.sl 19 (l.map nodC)])) (av':=av51_1) (ok:=(fun l:List Nod=>∀ d∈l,Nod.Ok d)) (ok':=ok51_1) rfl c49 (by decide) rd49 (RdrF.cons (off:=1) (n:=5) (c:=1) (av:=(fun b:Bool=>[AV.lit (Value.bool b)])) (av':=av51_2) (ok:=(fun _:Bool=>True)) (ok':=ok51_2) rfl c4 (by decide) rd4 (RdrF.cons (off:=2) (n:=5) (c:=3) (av:=av48_0) (av':=(fun _:Unit=>([]:List AV))) (ok:=ok48_0) (ok':=(fun _:Unit=>True)) rfl c48 (by decide) rp48 (RdrF.nil (n:=5) (off:=5) (by decide)))))
theorem rd51 {H:Type} {enc:TypeId×Value→H} {w:World}:Rdr enc Tryz.prog w 51 Blc blcC Blc.Ok:=rp51.map (fun ⟨x0,x1,⟨x2,x3,x4,_⟩,_⟩=>⟨x0,x1,x2,x3,x4⟩) (fun ⟨x0,x1,⟨x2,x3,x4,_⟩,_⟩=>rfl) (fun ⟨x0,x1,⟨x2,x3,x4,_⟩,_⟩ ⟨h0,_,⟨h2,h3,h4,_⟩,_⟩=>⟨h0,h2,h3,h4⟩)
theorem c42:Tryz.prog.cellsOf 42=1:=by kernel_rfl
theorem rd42 {H:Type} {enc:TypeId×Value→H} {w:World}:Rdr enc Tryz.prog w 42 (List Blc) (fun l:List Blc=>[AV.sl 5 (l.map blcC)]) (fun l:List Blc=>∀ d∈l,Blc.Ok d):=Rdr.slice Tryz.underlying42 c42 c51 (by decide) rd51
abbrev D44_0:Type:=(List Blc)×Unit
abbrev av44_0:D44_0→List AV:=fun d=>(fun l:List Blc=>[AV.sl 5 (l.map blcC)]) d.1++(fun _:Unit=>([]:List AV)) d.2
abbrev ok44_0:D44_0→Prop:=fun d=>(fun l:List Blc=>∀ d∈l,Blc.Ok d) d.1∧(fun _:Unit=>True) d.2
theorem c44:Tryz.prog.cellsOf 44=1:=by kernel_rfl
theorem rp44 {H:Type} {enc:TypeId×Value→H} {w:World}:Rdr enc Tryz.prog w 44 D44_0 av44_0 ok44_0:=Rdr.struct Tryz.underlying44 c44 (RdrF.cons (off:=0) (n:=1) (c:=1) (av:=(fun l:List Blc=>[AV.sl 5 (l.map blcC)])) (av':=(fun _:Unit=>([]:List AV))) (ok:=(fun l:List Blc=>∀ d∈l,Blc.Ok d)) (ok':=(fun _:Unit=>True)) rfl c42 (by decide) rd42 (RdrF.nil (n:=1) (off:=1) (by decide)))
theorem rd44 {H:Type} {enc:TypeId×Value→H} {w:World}:Rdr enc Tryz.prog w 44 Mdl mdlC Mdl.Ok:=rp44.map (fun ⟨x0,_⟩=>⟨x0⟩) (fun ⟨x0,_⟩=>rfl) (fun ⟨x0,_⟩ ⟨h0,_⟩=>⟨h0⟩)
theorem c24:Tryz.prog.cellsOf 24=1:=by kernel_rfl
theorem rd24 {H:Type} {enc:TypeId×Value→H} {w:World}:Rdr enc Tryz.prog w 24 (List Mdl) (fun l:List Mdl=>[AV.sl 1 (l.map mdlC)]) (fun l:List Mdl=>∀ d∈l,Mdl.Ok d):=Rdr.slice Tryz.underlying24 c24 c44 (by decide) rd44
abbrev D26_2:Type:=(List Mdl)×Unit
abbrev av26_2:D26_2→List AV:=fun d=>(fun l:List Mdl=>[AV.sl 1 (l.map mdlC)]) d.1++(fun _:Unit=>([]:List AV)) d.2
abbrev ok26_2:D26_2→Prop:=fun d=>(fun l:List Mdl=>∀ d∈l,Mdl.Ok d) d.1∧(fun _:Unit=>True) d.2
abbrev D26_1:Type:=Int×D26_2
abbrev av26_1:D26_1→List AV:=fun d=>(fun n:Int=>[AV.lit (Value.int .i64 n)]) d.1++av26_2 d.2
abbrev ok26_1:D26_1→Prop:=fun d=>In64 d.1∧ok26_2 d.2
abbrev D26_0:Type:=D23_0×D26_1
abbrev av26_0:D26_0→List AV:=fun d=>av23_0 d.1++av26_1 d.2
abbrev ok26_0:D26_0→Prop:=fun d=>ok23_0 d.1∧ok26_1 d.2
theorem c26:Tryz.prog.cellsOf 26=5:=by kernel_rfl
theorem rp26 {H:Type} {enc:TypeId×Value→H} {w:World}:Rdr enc Tryz.prog w 26 D26_0 av26_0 ok26_0:=Rdr.struct Tryz.underlying26 c26 (RdrF.cons (off:=0) (n:=5) (c:=3) (av:=av23_0) (av':=av26_1) (ok:=ok23_0) (ok':=ok26_1) rfl c23 (by decide) rp23 (RdrF.cons (off:=3) (n:=5) (c:=1) (av:=(fun n:Int=>[AV.lit (Value.int .i64 n)])) (av':=av26_2) (ok:=In64) (ok':=ok26_2) rfl c3 (by decide) rd3 (RdrF.cons (off:=4) (n:=5) (c:=1) (av:=(fun l:List Mdl=>[AV.sl 1 (l.map mdlC)])) (av':=(fun _:Unit=>([]:List AV))) (ok:=(fun l:List Mdl=>∀ d∈l,Mdl.Ok d)) (ok':=(fun _:Unit=>True)) rfl c24 (by decide) rd24 (RdrF.nil (n:=5) (off:=5) (by decide)))))
theorem rd26 {H:Type} {enc:TypeId×Value→H} {w:World}:Rdr enc Tryz.prog w 26 Bun bunC Bun.Ok:=rp26.map (fun ⟨⟨x0,x1,x2,_⟩,x3,x4,_⟩=>⟨x0,x1,x2,x3,x4⟩) (fun ⟨⟨x0,x1,x2,_⟩,x3,x4,_⟩=>rfl) (fun ⟨⟨x0,x1,x2,_⟩,x3,x4,_⟩ ⟨⟨h0,h1,h2,_⟩,h3,h4,_⟩=>⟨h0,h1,h2,h3,h4⟩)
abbrev D58_1:Type:=(List Int)×Unit
abbrev av58_1:D58_1→List AV:=fun d=>(fun l:List Int=>[AV.sl 1 (l.map (fun n:Int=>[AV.lit (Value.int .i8 n)]))]) d.1++(fun _:Unit=>([]:List AV)) d.2
abbrev ok58_1:D58_1→Prop:=fun d=>(fun l:List Int=>∀ d∈l,In8 d) d.1∧(fun _:Unit=>True) d.2
abbrev D58_0:Type:=D23_0×D58_1
abbrev av58_0:D58_0→List AV:=fun d=>av23_0 d.1++av58_1 d.2
abbrev ok58_0:D58_0→Prop:=fun d=>ok23_0 d.1∧ok58_1 d.2
theorem c58:Tryz.prog.cellsOf 58=4:=by kernel_rfl
theorem rp58 {H:Type} {enc:TypeId×Value→H} {w:World}:Rdr enc Tryz.prog w 58 D58_0 av58_0 ok58_0:=Rdr.struct Tryz.underlying58 c58 (RdrF.cons (off:=0) (n:=4) (c:=3) (av:=av23_0) (av':=av58_1) (ok:=ok23_0) (ok':=ok58_1) rfl c23 (by decide) rp23 (RdrF.cons (off:=3) (n:=4) (c:=1) (av:=(fun l:List Int=>[AV.sl 1 (l.map (fun n:Int=>[AV.lit (Value.int .i8 n)]))])) (av':=(fun _:Unit=>([]:List AV))) (ok:=(fun l:List Int=>∀ d∈l,In8 d)) (ok':=(fun _:Unit=>True)) rfl c45 (by decide) rd45 (RdrF.nil (n:=4) (off:=4) (by decide))))
theorem rd58 {H:Type} {enc:TypeId×Value→H} {w:World}:Rdr enc Tryz.prog w 58 Ten tnC Ten.Ok:=rp58.map (fun ⟨⟨x0,x1,x2,_⟩,x3,_⟩=>⟨x0,x1,x2,x3⟩) (fun ⟨⟨x0,x1,x2,_⟩,x3,_⟩=>rfl) (fun ⟨⟨x0,x1,x2,_⟩,x3,_⟩ ⟨⟨h0,h1,h2,_⟩,h3,_⟩=>⟨h0,h1,h2,h3⟩)
theorem walk (w:World) (v0:Value) (d0:Bun) (v1:Value) (d1:Ten) (o0:Bun.Ok d0) (e0:Rel (fun _=>none) (fun _=>False) w (.agg (bunC d0)) v0) (o1:Ten.Ok d1) (e1:Rel (fun _=>none) (fun _=>False) w (.agg (tnC d1)) v1) :
    Calls Tryz.prog 6 #[v0,v1] w fun e w'=>e=.returned (.bool true)∧Below w.heap.size w w' :=
  law_of (pruneBundles_v d0 d1 o0 o1) (.cons e0 (.cons e1 (.nil w)))
theorem lifted (os:Os) (started:os.Started) (H:Type) (enc:TypeId×Value→H) :
    ReturnsInHanded {} Tryz.checked os 6 .any (Rows.pruneBundlesSpec.pre6 enc Tryz.prog Tryz.f6 Rows.pruneBundlesRow.domain false) (Rows.pruneBundlesSpec.post enc Tryz.prog Tryz.f6 false true false false):=by
  refine returnsInHanded_of_change (C:=Tryz.checked) own started (by kernel_rfl) Tryz.func6
    (ChangeSpec.witness6 (enc:=enc) (C:=Tryz.checked) false ⟨#[],#[.agg #[.int .i64 0,.int .i64 0,.int .i64 0,.int .i64 0,.slice none 0 0],.agg #[.int .i64 0,.int .i64 0,.int .i64 0,.slice none 0 0]],[]⟩ 8 (by kernel_rfl) (by kernel_rfl) (by kernel_rfl) (by kernel_rfl)) ?_
  intro W base args ds gs before hval0 hW hcnd _
  have hval:∀ (j:Nat) t v,Tryz.f6.params[j]? = some t→args[j]? = some v→Value.okWide Tryz.prog W .any base t v:=hval0
  have hW':=hW
  obtain ⟨p,q,hA0,hV,rfl,hfz,hnd⟩:=hW
  have hA:DataW.TrodAll enc Tryz.prog W 0 (fun _=>true) true Tryz.f6.params.toList args.toList ds p:=hA0
  rw [Tryz.params6] at hA hval
  obtain ⟨v0,vs0,dd0,ds0,p0,q0,hargs,rfl,rfl,h0,r0⟩:=trodAll_cons hA
  obtain ⟨v1,vs1,dd1,ds1,p1,q1,rfl,rfl,rfl,h1,r1⟩:=trodAll_cons r0
  obtain ⟨rfl,rfl,rfl⟩:=trodAll_nil r1
  obtain rfl:args = #[v0,v1]:=by cases args;simp_all
  obtain ⟨rfl,rfl⟩:=trodVars_none hV
  have k0:=h0
  have lt0:∀ x∈p0,x.block<W.heap.size:=by obtain ⟨m,hm⟩:=k0;exact DataW.trod_lt m _ _ _ hm
  obtain ⟨d0,o0,e0⟩:=(rd26 (enc:=enc) (w:=W)).aggV Tryz.underlying26 (hval 0 26 v0 rfl rfl) h0
  have k1:=h1
  have lt1:∀ x∈p1,x.block<W.heap.size:=by obtain ⟨m,hm⟩:=k1;exact DataW.trod_lt m _ _ _ hm
  obtain ⟨d1,o1,e1⟩:=(rd58 (enc:=enc) (w:=W)).aggV Tryz.underlying58 (hval 1 58 v1 rfl rfl) h1
  clear hA0 hval0
  refine (walk W v0 d0 v1 d1 o0 e0 o1 e1).mono fun e W' ⟨he,bel⟩=>?_
  subst he
  exact ⟨_,rfl,_,_,_,[],_,[],hW',trodAll_mk1 (shut_bool Tryz.underlying4 _),(trodAll_cons_mk (Below.trod laidOut (by kernel_rfl) (of_decide_eq_true (by kernel_rfl)) k0 bel lt0) (trodAll_cons_mk (Below.trod laidOut (by kernel_rfl) (of_decide_eq_true (by kernel_rfl)) k1 bel lt1) trodAll_mk0)),rfl,bel.frame _,fun h=>by cases h⟩
theorem over:Rows.pruneBundlesRow.holds Tryz.pinned (OpenSpec.ofChange Rows.pruneBundlesSpec) :=
  OpenClaim.holds_of_wide 6 Tryz.f6 rfl rfl rfl rfl rfl rfl rfl ⟨rfl,rfl,rfl,rfl,rfl⟩ rfl rfl rfl rfl rfl (by kernel_rfl) Tryz.func6 (by kernel_rfl)
    (of_decide_eq_true (by kernel_rfl)) (by unfold Func.isWrapper;first | (rw [if_pos (by decide +kernel)];kernel_rfl) | (rw [if_neg (by decide +kernel)];exact ⟨rfl,rfl⟩))
    (fun os started H enc _=>lifted os started H enc)
theorem proved:Rows.PruneBundlesSaid:=over
#print axioms proved
end Go.Proofs.YtdfihaminnmgpaaGreat.pruneBundles
