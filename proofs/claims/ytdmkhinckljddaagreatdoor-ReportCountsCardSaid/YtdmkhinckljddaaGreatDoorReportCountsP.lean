/- ReportCounts: for every input the law returns true, and each argument reads afterwards as before. No condition. -/
import Derived.Test.YtdmkhinckljddaaGreatDoorRows
import Derived.WalkKit
import Derived.ProofKit
import Derived.OpenShut
import Derived.ShutString
import Derived.ChangeOld
import Derived.Below
import Derived.Test.YtdmkhinckljddaaGreatDoorReportCountsG5
import Derived.Test.YtdmkhinckljddaaGreatDoorCards
import Derived.Test.YtdmkhinckljddaaGreatDoorTie
import Derived.LaidMore
import Derived.MakeChecks
import Derived.SevenTiedAt
import Derived.LaidLaws
import Derived.Handed
import Derived.Lib.LaidTab
set_option maxRecDepth 100000
set_option maxHeartbeats 2000000
set_option linter.unusedVariables false
set_option linter.unusedSimpArgs false
set_option linter.unnecessarySimpa false
namespace Go.Proofs.YtdmkhinckljddaaGreatDoor.reportCounts
open Go.ChangeShapes Go.WideShapes Go.ChangeAt Go.RowKit
open Go.ChangeMaps (open_string shut_string)
set_option maxRecDepth 10000
theorem own:ownKnob Tryz.prog.godebug=none:=by kernel_rfl
theorem laidOut:laidOutB Tryz.prog=true:=by kernel_rfl
theorem c3:Tryz.prog.cellsOf 3=1:=by kernel_rfl
theorem rd3 {H:Type} {enc:TypeId×Value→H} {w:World}:Rdr enc Tryz.prog w 3 Int (fun n:Int=>[AV.lit (Value.int .i64 n)]) In64:=Rdr.int Tryz.underlying3 c3 fun n h=>wf_i64 h
abbrev D23_2:Type:=Int×Unit
abbrev av23_2:D23_2→List AV:=fun d=>(fun n:Int=>[AV.lit (Value.int .i64 n)]) d.1++(fun _:Unit=>([]:List AV)) d.2
abbrev ok23_2:D23_2→Prop:=fun d=>In64 d.1∧(fun _:Unit=>True) d.2
abbrev D23_1:Type:=Int×D23_2
abbrev av23_1:D23_1→List AV:=fun d=>(fun n:Int=>[AV.lit (Value.int .i64 n)]) d.1++av23_2 d.2
abbrev ok23_1:D23_1→Prop:=fun d=>In64 d.1∧ok23_2 d.2
abbrev D23_0:Type:=Int×D23_1
abbrev av23_0:D23_0→List AV:=fun d=>(fun n:Int=>[AV.lit (Value.int .i64 n)]) d.1++av23_1 d.2
abbrev ok23_0:D23_0→Prop:=fun d=>In64 d.1∧ok23_1 d.2
theorem c23:Tryz.prog.cellsOf 23=3:=by kernel_rfl
theorem rp23 {H:Type} {enc:TypeId×Value→H} {w:World}:Rdr enc Tryz.prog w 23 D23_0 av23_0 ok23_0:=Rdr.struct Tryz.underlying23 c23 (RdrF.cons (off:=0) (n:=3) (c:=1) (av:=(fun n:Int=>[AV.lit (Value.int .i64 n)])) (av':=av23_1) (ok:=In64) (ok':=ok23_1) rfl c3 (by decide) rd3 (RdrF.cons (off:=1) (n:=3) (c:=1) (av:=(fun n:Int=>[AV.lit (Value.int .i64 n)])) (av':=av23_2) (ok:=In64) (ok':=ok23_2) rfl c3 (by decide) rd3 (RdrF.cons (off:=2) (n:=3) (c:=1) (av:=(fun n:Int=>[AV.lit (Value.int .i64 n)])) (av':=(fun _:Unit=>([]:List AV))) (ok:=In64) (ok':=(fun _:Unit=>True)) rfl c3 (by decide) rd3 (RdrF.nil (n:=3) (off:=3) (by decide)))))
theorem c37:Tryz.prog.cellsOf 37=1:=by kernel_rfl
theorem rd37 {H:Type} {enc:TypeId×Value→H} {w:World}:Rdr enc Tryz.prog w 37 Int (fun n:Int=>[AV.lit (Value.int .i8 n)]) In8:=Rdr.int Tryz.underlying37 c37 fun n h=>wf_i8 h
theorem c38:Tryz.prog.cellsOf 38=1:=by kernel_rfl
theorem rd38 {H:Type} {enc:TypeId×Value→H} {w:World}:Rdr enc Tryz.prog w 38 (List Int) (fun l:List Int=>[AV.sl 1 (l.map (fun n:Int=>[AV.lit (Value.int .i8 n)]))]) (fun l:List Int=>∀ d∈l,In8 d):=Rdr.slice Tryz.underlying38 c38 c37 (by decide) rd37
theorem c21:Tryz.prog.cellsOf 21=1:=by kernel_rfl
theorem rd21 {H:Type} {enc:TypeId×Value→H} {w:World}:Rdr enc Tryz.prog w 21 Int (fun n:Int=>[AV.lit (Value.int .i32 n)]) In32:=Rdr.int Tryz.underlying21 c21 fun n h=>wf_i32 h
theorem c39:Tryz.prog.cellsOf 39=1:=by kernel_rfl
theorem rd39 {H:Type} {enc:TypeId×Value→H} {w:World}:Rdr enc Tryz.prog w 39 (List Int) (fun l:List Int=>[AV.sl 1 (l.map (fun n:Int=>[AV.lit (Value.int .i32 n)]))]) (fun l:List Int=>∀ d∈l,In32 d):=Rdr.slice Tryz.underlying39 c39 c21 (by decide) rd21
abbrev D41_2:Type:=Int×Unit
abbrev av41_2:D41_2→List AV:=fun d=>(fun n:Int=>[AV.lit (Value.int .i8 n)]) d.1++(fun _:Unit=>([]:List AV)) d.2
abbrev ok41_2:D41_2→Prop:=fun d=>In8 d.1∧(fun _:Unit=>True) d.2
abbrev D41_1:Type:=Int×D41_2
abbrev av41_1:D41_1→List AV:=fun d=>(fun n:Int=>[AV.lit (Value.int .i64 n)]) d.1++av41_2 d.2
abbrev ok41_1:D41_1→Prop:=fun d=>In64 d.1∧ok41_2 d.2
abbrev D41_0:Type:=Int×D41_1
abbrev av41_0:D41_0→List AV:=fun d=>(fun n:Int=>[AV.lit (Value.int .i32 n)]) d.1++av41_1 d.2
abbrev ok41_0:D41_0→Prop:=fun d=>In32 d.1∧ok41_1 d.2
theorem c41:Tryz.prog.cellsOf 41=3:=by kernel_rfl
theorem rp41 {H:Type} {enc:TypeId×Value→H} {w:World}:Rdr enc Tryz.prog w 41 D41_0 av41_0 ok41_0:=Rdr.struct Tryz.underlying41 c41 (RdrF.cons (off:=0) (n:=3) (c:=1) (av:=(fun n:Int=>[AV.lit (Value.int .i32 n)])) (av':=av41_1) (ok:=In32) (ok':=ok41_1) rfl c21 (by decide) rd21 (RdrF.cons (off:=1) (n:=3) (c:=1) (av:=(fun n:Int=>[AV.lit (Value.int .i64 n)])) (av':=av41_2) (ok:=In64) (ok':=ok41_2) rfl c3 (by decide) rd3 (RdrF.cons (off:=2) (n:=3) (c:=1) (av:=(fun n:Int=>[AV.lit (Value.int .i8 n)])) (av':=(fun _:Unit=>([]:List AV))) (ok:=In8) (ok':=(fun _:Unit=>True)) rfl c37 (by decide) rd37 (RdrF.nil (n:=3) (off:=3) (by decide)))))
abbrev D43_14:Type:=Int×Unit
abbrev av43_14:D43_14→List AV:=fun d=>(fun n:Int=>[AV.lit (Value.int .i8 n)]) d.1++(fun _:Unit=>([]:List AV)) d.2
abbrev ok43_14:D43_14→Prop:=fun d=>In8 d.1∧(fun _:Unit=>True) d.2
abbrev D43_13:Type:=Int×D43_14
abbrev av43_13:D43_13→List AV:=fun d=>(fun n:Int=>[AV.lit (Value.int .i8 n)]) d.1++av43_14 d.2
abbrev ok43_13:D43_13→Prop:=fun d=>In8 d.1∧ok43_14 d.2
abbrev D43_12:Type:=D41_0×D43_13
abbrev av43_12:D43_12→List AV:=fun d=>av41_0 d.1++av43_13 d.2
abbrev ok43_12:D43_12→Prop:=fun d=>ok41_0 d.1∧ok43_13 d.2
abbrev D43_11:Type:=D41_0×D43_12
abbrev av43_11:D43_11→List AV:=fun d=>av41_0 d.1++av43_12 d.2
abbrev ok43_11:D43_11→Prop:=fun d=>ok41_0 d.1∧ok43_12 d.2
abbrev D43_10:Type:=(List Int)×D43_11
abbrev av43_10:D43_10→List AV:=fun d=>(fun l:List Int=>[AV.sl 1 (l.map (fun n:Int=>[AV.lit (Value.int .i32 n)]))]) d.1++av43_11 d.2
abbrev ok43_10:D43_10→Prop:=fun d=>(fun l:List Int=>∀ d∈l,In32 d) d.1∧ok43_11 d.2
abbrev D43_9:Type:=(List Int)×D43_10
abbrev av43_9:D43_9→List AV:=fun d=>(fun l:List Int=>[AV.sl 1 (l.map (fun n:Int=>[AV.lit (Value.int .i8 n)]))]) d.1++av43_10 d.2
abbrev ok43_9:D43_9→Prop:=fun d=>(fun l:List Int=>∀ d∈l,In8 d) d.1∧ok43_10 d.2
abbrev D43_8:Type:=Int×D43_9
abbrev av43_8:D43_8→List AV:=fun d=>(fun n:Int=>[AV.lit (Value.int .i8 n)]) d.1++av43_9 d.2
abbrev ok43_8:D43_8→Prop:=fun d=>In8 d.1∧ok43_9 d.2
abbrev D43_7:Type:=Int×D43_8
abbrev av43_7:D43_7→List AV:=fun d=>(fun n:Int=>[AV.lit (Value.int .i8 n)]) d.1++av43_8 d.2
abbrev ok43_7:D43_7→Prop:=fun d=>In8 d.1∧ok43_8 d.2
abbrev D43_6:Type:=Int×D43_7
abbrev av43_6:D43_6→List AV:=fun d=>(fun n:Int=>[AV.lit (Value.int .i64 n)]) d.1++av43_7 d.2
abbrev ok43_6:D43_6→Prop:=fun d=>In64 d.1∧ok43_7 d.2
abbrev D43_5:Type:=Int×D43_6
abbrev av43_5:D43_5→List AV:=fun d=>(fun n:Int=>[AV.lit (Value.int .i64 n)]) d.1++av43_6 d.2
abbrev ok43_5:D43_5→Prop:=fun d=>In64 d.1∧ok43_6 d.2
abbrev D43_4:Type:=Int×D43_5
abbrev av43_4:D43_4→List AV:=fun d=>(fun n:Int=>[AV.lit (Value.int .i64 n)]) d.1++av43_5 d.2
abbrev ok43_4:D43_4→Prop:=fun d=>In64 d.1∧ok43_5 d.2
abbrev D43_3:Type:=Int×D43_4
abbrev av43_3:D43_3→List AV:=fun d=>(fun n:Int=>[AV.lit (Value.int .i64 n)]) d.1++av43_4 d.2
abbrev ok43_3:D43_3→Prop:=fun d=>In64 d.1∧ok43_4 d.2
abbrev D43_2:Type:=Int×D43_3
abbrev av43_2:D43_2→List AV:=fun d=>(fun n:Int=>[AV.lit (Value.int .i64 n)]) d.1++av43_3 d.2
abbrev ok43_2:D43_2→Prop:=fun d=>In64 d.1∧ok43_3 d.2
abbrev D43_1:Type:=Int×D43_2
abbrev av43_1:D43_1→List AV:=fun d=>(fun n:Int=>[AV.lit (Value.int .i64 n)]) d.1++av43_2 d.2
abbrev ok43_1:D43_1→Prop:=fun d=>In64 d.1∧ok43_2 d.2
abbrev D43_0:Type:=Int×D43_1
abbrev av43_0:D43_0→List AV:=fun d=>(fun n:Int=>[AV.lit (Value.int .i64 n)]) d.1++av43_1 d.2
abbrev ok43_0:D43_0→Prop:=fun d=>In64 d.1∧ok43_1 d.2
theorem c43:Tryz.prog.cellsOf 43=19:=by kernel_rfl
theorem rp43 {H:Type} {enc:TypeId×Value→H} {w:World}:Rdr enc Tryz.prog w 43 D43_0 av43_0 ok43_0:=Rdr.struct Tryz.underlying43 c43 (RdrF.cons (off:=0) (n:=19) (c:=1) (av:=(fun n:Int=>[AV.lit (Value.int .i64 n)])) (av':=av43_1) (ok:=In64) (ok':=ok43_1) rfl c3 (by decide) rd3 (RdrF.cons (off:=1) (n:=19) (c:=1) (av:=(fun n:Int=>[AV.lit (Value.int .i64 n)])) (av':=av43_2) (ok:=In64) (ok':=ok43_2) rfl c3 (by decide) rd3 (RdrF.cons (off:=2) (n:=19) (c:=1) (av:=(fun n:Int=>[AV.lit (Value.int .i64 n)])) (av':=av43_3) (ok:=In64) (ok':=ok43_3) rfl c3 (by decide) rd3 (RdrF.cons (off:=3) (n:=19) (c:=1) (av:=(fun n:Int=>[AV.lit (Value.int .i64 n)])) (av':=av43_4) (ok:=In64) (ok':=ok43_4) rfl c3 (by decide) rd3 (RdrF.cons (off:=4) (n:=19) (c:=1) (av:=(fun n:Int=>[AV.lit (Value.int .i64 n)])) (av':=av43_5) (ok:=In64) (ok':=ok43_5) rfl c3 (by decide) rd3 (RdrF.cons (off:=5) (n:=19) (c:=1) (av:=(fun n:Int=>[AV.lit (Value.int .i64 n)])) (av':=av43_6) (ok:=In64) (ok':=ok43_6) rfl c3 (by decide) rd3 (RdrF.cons (off:=6) (n:=19) (c:=1) (av:=(fun n:Int=>[AV.lit (Value.int .i64 n)])) (av':=av43_7) (ok:=In64) (ok':=ok43_7) rfl c3 (by decide) rd3 (RdrF.cons (off:=7) (n:=19) (c:=1) (av:=(fun n:Int=>[AV.lit (Value.int .i8 n)])) (av':=av43_8) (ok:=In8) (ok':=ok43_8) rfl c37 (by decide) rd37 (RdrF.cons (off:=8) (n:=19) (c:=1) (av:=(fun n:Int=>[AV.lit (Value.int .i8 n)])) (av':=av43_9) (ok:=In8) (ok':=ok43_9) rfl c37 (by decide) rd37 (RdrF.cons (off:=9) (n:=19) (c:=1) (av:=(fun l:List Int=>[AV.sl 1 (l.map (fun n:Int=>[AV.lit (Value.int .i8 n)]))])) (av':=av43_10) (ok:=(fun l:List Int=>∀ d∈l,In8 d)) (ok':=ok43_10) rfl c38 (by decide) rd38 (RdrF.cons (off:=10) (n:=19) (c:=1) (av:=(fun l:List Int=>[AV.sl 1 (l.map (fun n:Int=>[AV.lit (Value.int .i32 n)]))])) (av':=av43_11) (ok:=(fun l:List Int=>∀ d∈l,In32 d)) (ok':=ok43_11) rfl c39 (by decide) rd39 (RdrF.cons (off:=11) (n:=19) (c:=3) (av:=av41_0) (av':=av43_12) (ok:=ok41_0) (ok':=ok43_12) rfl c41 (by decide) rp41 (RdrF.cons (off:=14) (n:=19) (c:=3) (av:=av41_0) (av':=av43_13) (ok:=ok41_0) (ok':=ok43_13) rfl c41 (by decide) rp41 (RdrF.cons (off:=17) (n:=19) (c:=1) (av:=(fun n:Int=>[AV.lit (Value.int .i8 n)])) (av':=av43_14) (ok:=In8) (ok':=ok43_14) rfl c37 (by decide) rd37 (RdrF.cons (off:=18) (n:=19) (c:=1) (av:=(fun n:Int=>[AV.lit (Value.int .i8 n)])) (av':=(fun _:Unit=>([]:List AV))) (ok:=In8) (ok':=(fun _:Unit=>True)) rfl c37 (by decide) rd37 (RdrF.nil (n:=19) (off:=19) (by decide)))))))))))))))))
theorem rd43 {H:Type} {enc:TypeId×Value→H} {w:World}:Rdr enc Tryz.prog w 43 Nod nodC Nod.Ok:=rp43.map (fun ⟨x0,x1,x2,x3,x4,x5,x6,x7,x8,x9,x10,⟨x11,x12,x13,_⟩,⟨x14,x15,x16,_⟩,x17,x18,_⟩=>⟨x0,x1,x2,x3,x4,x5,x6,x7,x8,x9,x10,x11,x12,x13,x14,x15,x16,x17,x18⟩) (fun ⟨x0,x1,x2,x3,x4,x5,x6,x7,x8,x9,x10,⟨x11,x12,x13,_⟩,⟨x14,x15,x16,_⟩,x17,x18,_⟩=>rfl) (fun ⟨x0,x1,x2,x3,x4,x5,x6,x7,x8,x9,x10,⟨x11,x12,x13,_⟩,⟨x14,x15,x16,_⟩,x17,x18,_⟩ ⟨h0,h1,h2,h3,h4,h5,h6,h7,h8,h9,h10,⟨h11,h12,h13,_⟩,⟨h14,h15,h16,_⟩,h17,h18,_⟩=>⟨h0,h1,h2,h3,h4,h5,h6,h7,h8,h9,h10,h11,h12,h13,h14,h15,h16,h17,h18⟩)
theorem c50:Tryz.prog.cellsOf 50=1:=by kernel_rfl
theorem rd50 {H:Type} {enc:TypeId×Value→H} {w:World}:Rdr enc Tryz.prog w 50 (List Nod) (fun l:List Nod=>[AV.sl 19 (l.map nodC)]) (fun l:List Nod=>∀ d∈l,Nod.Ok d):=Rdr.slice Tryz.underlying50 c50 c43 (by decide) rd43
theorem c4:Tryz.prog.cellsOf 4=1:=by kernel_rfl
theorem rd4 {H:Type} {enc:TypeId×Value→H} {w:World}:Rdr enc Tryz.prog w 4 Bool (fun b:Bool=>[AV.lit (Value.bool b)]) (fun _:Bool=>True):=Rdr.bool Tryz.underlying4 c4
abbrev D52_2:Type:=Int×Unit
abbrev av52_2:D52_2→List AV:=fun d=>(fun n:Int=>[AV.lit (Value.int .i32 n)]) d.1++(fun _:Unit=>([]:List AV)) d.2
abbrev ok52_2:D52_2→Prop:=fun d=>In32 d.1∧(fun _:Unit=>True) d.2
abbrev D52_1:Type:=(List Int)×D52_2
abbrev av52_1:D52_1→List AV:=fun d=>(fun l:List Int=>[AV.sl 1 (l.map (fun n:Int=>[AV.lit (Value.int .i32 n)]))]) d.1++av52_2 d.2
abbrev ok52_1:D52_1→Prop:=fun d=>(fun l:List Int=>∀ d∈l,In32 d) d.1∧ok52_2 d.2
abbrev D52_0:Type:=(List Int)×D52_1
abbrev av52_0:D52_0→List AV:=fun d=>(fun l:List Int=>[AV.sl 1 (l.map (fun n:Int=>[AV.lit (Value.int .i8 n)]))]) d.1++av52_1 d.2
abbrev ok52_0:D52_0→Prop:=fun d=>(fun l:List Int=>∀ d∈l,In8 d) d.1∧ok52_1 d.2
theorem c52:Tryz.prog.cellsOf 52=3:=by kernel_rfl
theorem rp52 {H:Type} {enc:TypeId×Value→H} {w:World}:Rdr enc Tryz.prog w 52 D52_0 av52_0 ok52_0:=Rdr.struct Tryz.underlying52 c52 (RdrF.cons (off:=0) (n:=3) (c:=1) (av:=(fun l:List Int=>[AV.sl 1 (l.map (fun n:Int=>[AV.lit (Value.int .i8 n)]))])) (av':=av52_1) (ok:=(fun l:List Int=>∀ d∈l,In8 d)) (ok':=ok52_1) rfl c38 (by decide) rd38 (RdrF.cons (off:=1) (n:=3) (c:=1) (av:=(fun l:List Int=>[AV.sl 1 (l.map (fun n:Int=>[AV.lit (Value.int .i32 n)]))])) (av':=av52_2) (ok:=(fun l:List Int=>∀ d∈l,In32 d)) (ok':=ok52_2) rfl c39 (by decide) rd39 (RdrF.cons (off:=2) (n:=3) (c:=1) (av:=(fun n:Int=>[AV.lit (Value.int .i32 n)])) (av':=(fun _:Unit=>([]:List AV))) (ok:=In32) (ok':=(fun _:Unit=>True)) rfl c21 (by decide) rd21 (RdrF.nil (n:=3) (off:=3) (by decide)))))
abbrev D54_2:Type:=D52_0×Unit
abbrev av54_2:D54_2→List AV:=fun d=>av52_0 d.1++(fun _:Unit=>([]:List AV)) d.2
abbrev ok54_2:D54_2→Prop:=fun d=>ok52_0 d.1∧(fun _:Unit=>True) d.2
abbrev D54_1:Type:=Bool×D54_2
abbrev av54_1:D54_1→List AV:=fun d=>(fun b:Bool=>[AV.lit (Value.bool b)]) d.1++av54_2 d.2
abbrev ok54_1:D54_1→Prop:=fun d=>(fun _:Bool=>True) d.1∧ok54_2 d.2
abbrev D54_0:Type:=(List Nod)×D54_1
abbrev av54_0:D54_0→List AV:=fun d=>(fun l:List Nod=>[AV.sl 19 (l.map nodC)]) d.1++av54_1 d.2
abbrev ok54_0:D54_0→Prop:=fun d=>(fun l:List Nod=>∀ d∈l,Nod.Ok d) d.1∧ok54_1 d.2
theorem c54:Tryz.prog.cellsOf 54=5:=by kernel_rfl
theorem rp54 {H:Type} {enc:TypeId×Value→H} {w:World}:Rdr enc Tryz.prog w 54 D54_0 av54_0 ok54_0:=Rdr.struct Tryz.underlying54 c54 (RdrF.cons (off:=0) (n:=5) (c:=1) (av:=(fun l:List Nod=>[AV.sl 19 (l.map nodC)])) (av':=av54_1) (ok:=(fun l:List Nod=>∀ d∈l,Nod.Ok d)) (ok':=ok54_1) rfl c50 (by decide) rd50 (RdrF.cons (off:=1) (n:=5) (c:=1) (av:=(fun b:Bool=>[AV.lit (Value.bool b)])) (av':=av54_2) (ok:=(fun _:Bool=>True)) (ok':=ok54_2) rfl c4 (by decide) rd4 (RdrF.cons (off:=2) (n:=5) (c:=3) (av:=av52_0) (av':=(fun _:Unit=>([]:List AV))) (ok:=ok52_0) (ok':=(fun _:Unit=>True)) rfl c52 (by decide) rp52 (RdrF.nil (n:=5) (off:=5) (by decide)))))
theorem rd54 {H:Type} {enc:TypeId×Value→H} {w:World}:Rdr enc Tryz.prog w 54 Blc blcC Blc.Ok:=rp54.map (fun ⟨x0,x1,⟨x2,x3,x4,_⟩,_⟩=>⟨x0,x1,x2,x3,x4⟩) (fun ⟨x0,x1,⟨x2,x3,x4,_⟩,_⟩=>rfl) (fun ⟨x0,x1,⟨x2,x3,x4,_⟩,_⟩ ⟨h0,_,⟨h2,h3,h4,_⟩,_⟩=>⟨h0,h2,h3,h4⟩)
theorem c47:Tryz.prog.cellsOf 47=1:=by kernel_rfl
theorem rd47 {H:Type} {enc:TypeId×Value→H} {w:World}:Rdr enc Tryz.prog w 47 (List Blc) (fun l:List Blc=>[AV.sl 5 (l.map blcC)]) (fun l:List Blc=>∀ d∈l,Blc.Ok d):=Rdr.slice Tryz.underlying47 c47 c54 (by decide) rd54
abbrev D49_0:Type:=(List Blc)×Unit
abbrev av49_0:D49_0→List AV:=fun d=>(fun l:List Blc=>[AV.sl 5 (l.map blcC)]) d.1++(fun _:Unit=>([]:List AV)) d.2
abbrev ok49_0:D49_0→Prop:=fun d=>(fun l:List Blc=>∀ d∈l,Blc.Ok d) d.1∧(fun _:Unit=>True) d.2
theorem c49:Tryz.prog.cellsOf 49=1:=by kernel_rfl
theorem rp49 {H:Type} {enc:TypeId×Value→H} {w:World}:Rdr enc Tryz.prog w 49 D49_0 av49_0 ok49_0:=Rdr.struct Tryz.underlying49 c49 (RdrF.cons (off:=0) (n:=1) (c:=1) (av:=(fun l:List Blc=>[AV.sl 5 (l.map blcC)])) (av':=(fun _:Unit=>([]:List AV))) (ok:=(fun l:List Blc=>∀ d∈l,Blc.Ok d)) (ok':=(fun _:Unit=>True)) rfl c47 (by decide) rd47 (RdrF.nil (n:=1) (off:=1) (by decide)))
theorem rd49 {H:Type} {enc:TypeId×Value→H} {w:World}:Rdr enc Tryz.prog w 49 Mdl mdlC Mdl.Ok:=rp49.map (fun ⟨x0,_⟩=>⟨x0⟩) (fun ⟨x0,_⟩=>rfl) (fun ⟨x0,_⟩ ⟨h0,_⟩=>⟨h0⟩)
theorem c24:Tryz.prog.cellsOf 24=1:=by kernel_rfl
theorem rd24 {H:Type} {enc:TypeId×Value→H} {w:World}:Rdr enc Tryz.prog w 24 (List Mdl) (fun l:List Mdl=>[AV.sl 1 (l.map mdlC)]) (fun l:List Mdl=>∀ d∈l,Mdl.Ok d):=Rdr.slice Tryz.underlying24 c24 c49 (by decide) rd49
abbrev D26_2:Type:=(List Mdl)×Unit
abbrev av26_2:D26_2→List AV:=fun d=>(fun l:List Mdl=>[AV.sl 1 (l.map mdlC)]) d.1++(fun _:Unit=>([]:List AV)) d.2
abbrev ok26_2:D26_2→Prop:=fun d=>(fun l:List Mdl=>∀ d∈l,Mdl.Ok d) d.1∧(fun _:Unit=>True) d.2
abbrev D26_1:Type:=Int×D26_2
abbrev av26_1:D26_1→List AV:=fun d=>(fun n:Int=>[AV.lit (Value.int .i64 n)]) d.1++av26_2 d.2
abbrev ok26_1:D26_1→Prop:=fun d=>In64 d.1∧ok26_2 d.2
abbrev D26_0:Type:=D23_0×D26_1
abbrev av26_0:D26_0→List AV:=fun d=>av23_0 d.1++av26_1 d.2
abbrev ok26_0:D26_0→Prop:=fun d=>ok23_0 d.1∧ok26_1 d.2
theorem c26:Tryz.prog.cellsOf 26=5:=by kernel_rfl
theorem rp26 {H:Type} {enc:TypeId×Value→H} {w:World}:Rdr enc Tryz.prog w 26 D26_0 av26_0 ok26_0:=Rdr.struct Tryz.underlying26 c26 (RdrF.cons (off:=0) (n:=5) (c:=3) (av:=av23_0) (av':=av26_1) (ok:=ok23_0) (ok':=ok26_1) rfl c23 (by decide) rp23 (RdrF.cons (off:=3) (n:=5) (c:=1) (av:=(fun n:Int=>[AV.lit (Value.int .i64 n)])) (av':=av26_2) (ok:=In64) (ok':=ok26_2) rfl c3 (by decide) rd3 (RdrF.cons (off:=4) (n:=5) (c:=1) (av:=(fun l:List Mdl=>[AV.sl 1 (l.map mdlC)])) (av':=(fun _:Unit=>([]:List AV))) (ok:=(fun l:List Mdl=>∀ d∈l,Mdl.Ok d)) (ok':=(fun _:Unit=>True)) rfl c24 (by decide) rd24 (RdrF.nil (n:=5) (off:=5) (by decide)))))
theorem rd26 {H:Type} {enc:TypeId×Value→H} {w:World}:Rdr enc Tryz.prog w 26 Bun bunC Bun.Ok:=rp26.map (fun ⟨⟨x0,x1,x2,_⟩,x3,x4,_⟩=>⟨x0,x1,x2,x3,x4⟩) (fun ⟨⟨x0,x1,x2,_⟩,x3,x4,_⟩=>rfl) (fun ⟨⟨x0,x1,x2,_⟩,x3,x4,_⟩ ⟨⟨h0,h1,h2,_⟩,h3,h4,_⟩=>⟨h0,h1,h2,h3,h4⟩)
theorem walk (w:World) (v0:Value) (d0:Bun) (o0:Bun.Ok d0) (e0:Rel (fun _=>none) (fun _=>False) w (.agg (bunC d0)) v0) (ht:TabW w) :
    Calls Tryz.prog 5 #[v0] w fun e w'=>e=.returned (.bool true)∧Below w.heap.size w w' :=
  law_of (reportCounts_v d0 o0) (.cons e0 (.nil w)) ht
theorem door_met (os:Os) (args:Array Value):laidMetH Tryz.prog Rows.reportCountsRow.laid ((World.doorLaid Tryz.prog 400 os).forCall (fun _ _=>0) ⟨#[],args,[]⟩).memory :=
  laidMetH_of_parts3 (fuel:=8) (laidMet_of_run' 8 (by kernel_rfl) (by kernel_rfl)) (by kernel_rfl) (by kernel_rfl)
theorem tab_laid {W:World} (h:laidMetH Tryz.prog Rows.reportCountsRow.laid W):TabW W:=by
  rw [MakeChecks.laidMetH_plain _ _ _ (by kernel_rfl)] at h
  obtain ⟨ps,⟨g0,t0,cs0,f0,p0,q0,hg0,ht0,hv0,hd0,⟨g1,t1,cs1,f1,p1,q1,hg1,ht1,hv1,hd1,⟨g2,t2,cs2,f2,p2,q2,hg2,ht2,hv2,hd2,_,_⟩,_⟩,_⟩,_⟩:=h
  have hgi:g2=1:=Option.some.inj (hg2.symm.trans (by kernel_rfl))
  subst hgi
  have hti:t2=196:=Option.some.inj (ht2.symm.trans (by kernel_rfl))
  subst hti
  have hc:=Lib.cells_of_tab (k:=.u64) (zs:=(List.range 20).map fun i=>((10 ^ i:Nat):Int)) Tryz.underlying196 Tryz.underlying111 (by kernel_rfl) (by kernel_rfl) (show DataW.trod _ _ _ _ _ _ _ _ _=some (Lib.tabData .u64 ((List.range 20).map fun i=>((10 ^ i:Nat):Int)),p2) from hd2)
  intro p hp
  obtain rfl:=List.mem_singleton.1 hp
  unfold World.var? at hv2
  rw [hg2,Option.bind_some] at hv2
  dsimp only
  split at hv2
  · rename_i cs T q heq
    injection hv2 with hv2;subst hv2
    refine ⟨T,q,heq.trans ?_⟩
    have:cs=((List.range 20).map fun i=>Value.int .u64 ((10 ^ i:Nat):Int)).toArray:=by
      obtain ⟨l⟩:=cs
      simp only at hc
      rw [hc,List.map_map];rfl
    rw [this]
  · cases hv2
theorem lifted (os:Os) (started:os.Started) (H:Type) (enc:TypeId×Value→H) :
    ReturnsInHanded {} Tryz.checked os 5 .any (fun w args=>(Rows.reportCountsSpec.pre enc Tryz.prog Tryz.f5 [] false w args∧laidMetH Tryz.prog Rows.reportCountsRow.laid w)∧sizedMet enc Tryz.prog Tryz.f5 (OpenSpec.ofChange Rows.reportCountsSpec) false w args) (Rows.reportCountsSpec.post enc Tryz.prog Tryz.f5 false true false false):=by
  refine returnsInHanded_of_change_and (C:=Tryz.checked) (X:=fun w _=>laidMetH Tryz.prog Rows.reportCountsRow.laid w) (fun _ _ _ hh h=>h.of_heap hh) own started (by kernel_rfl) Tryz.func5
    (ChangeSpec.witness_shaped (enc:=enc) (C:=Tryz.checked) (os:=os) (X:=fun w _=>laidMetH Tryz.prog Rows.reportCountsRow.laid w) false (World.doorLaid Tryz.prog 400 os) #[.agg #[.int .i64 0,.int .i64 0,.int .i64 0,.int .i64 0,.slice none 0 0]] 8 rfl (World.shaped_of_RefB (by kernel_rfl) (by kernel_rfl)) (by kernel_rfl) (by kernel_rfl) (by kernel_rfl) (door_met os _)) ?_
  intro W base args ds gs before hval0 hW _ _ hL _
  have hval:∀ (j:Nat) t v,Tryz.f5.params[j]? = some t→args[j]? = some v→Value.okWide Tryz.prog W .any base t v:=hval0
  have hW':=hW
  obtain ⟨p,q,hA0,hV,rfl,hfz,hnd⟩:=hW
  have hA:DataW.TrodAll enc Tryz.prog W 0 (fun _=>true) true Tryz.f5.params.toList args.toList ds p:=hA0
  rw [Tryz.params5] at hA hval
  obtain ⟨v0,vs0,dd0,ds0,p0,q0,hargs,rfl,rfl,h0,r0⟩:=trodAll_cons hA
  obtain ⟨rfl,rfl,rfl⟩:=trodAll_nil r0
  obtain rfl:args = #[v0]:=by cases args;simp_all
  obtain ⟨rfl,rfl⟩:=trodVars_none hV
  have k0:=h0
  have lt0:∀ x∈p0,x.block<W.heap.size:=by obtain ⟨m,hm⟩:=k0;exact DataW.trod_lt m _ _ _ hm
  obtain ⟨d0,o0,e0⟩:=(rd26 (enc:=enc) (w:=W)).aggV Tryz.underlying26 (hval 0 26 v0 rfl rfl) h0
  clear hA0 hval0
  refine (walk W v0 d0 o0 e0 (tab_laid hL)).mono fun e W' ⟨he,bel⟩=>?_
  subst he
  exact ⟨_,rfl,_,_,_,[],_,[],hW',trodAll_mk1 (shut_bool Tryz.underlying4 _),(trodAll_cons_mk (Below.trod laidOut (by kernel_rfl) (of_decide_eq_true (by kernel_rfl)) k0 bel lt0) trodAll_mk0),rfl,bel.frame _,fun h=>by cases h⟩
theorem over:Rows.reportCountsRow.holds Tryz.pinned (OpenSpec.ofChange Rows.reportCountsSpec) :=
  OpenClaim.holds_of_wide 5 Tryz.f5 rfl rfl rfl rfl rfl rfl rfl ⟨rfl,rfl,rfl,rfl,rfl⟩ rfl rfl rfl rfl rfl (by kernel_rfl) Tryz.func5 (by kernel_rfl)
    (of_decide_eq_true (by kernel_rfl)) (by unfold Func.isWrapper;first | (rw [if_pos (by decide +kernel)];kernel_rfl) | (rw [if_neg (by decide +kernel)];exact ⟨rfl,rfl⟩))
    (fun os started H enc _=>lifted os started H enc)
theorem proved:Rows.ReportCountsCardSaid :=
  Claim7.holds_tied_plain_at .later [] [.data,.data,.data] true (true, "6abe17ecd20a348361807133e928f9a7afa7baf2ab309e390590af23c328fafe") false
    over (fun _ h=>by cases h) (by kernel_rfl) (fun _ h=>by cases h) reportCounts_row_tie rfl ⟨rfl,rfl⟩ (by kernel_rfl) rfl
    (fun f fn hf hfn=>by
      obtain rfl:f=5:=Option.some.inj ((show Tryz.prog.funcNamed Rows.reportCountsRow.func=some 5 by kernel_rfl).symm.trans hf) |>.symm
      obtain rfl:fn=Tryz.f5:=(Option.some.inj (Tryz.func5.symm.trans hfn)).symm
      exact ⟨by kernel_rfl,fun j t ht=>by
        rw [Tryz.params5] at ht
        have hm:t∈[26]:=by simpa using Array.mem_of_getElem? ht
        have hall:([26].all fun u => !Tryz.prog.wantsStandIn u)=true:=by kernel_rfl
        exact (show Tryz.prog.wantsStandIn t=false by simpa using List.all_eq_true.1 hall t hm)⟩)
    (by kernel_rfl)
#print axioms proved
end Go.Proofs.YtdmkhinckljddaaGreatDoor.reportCounts
