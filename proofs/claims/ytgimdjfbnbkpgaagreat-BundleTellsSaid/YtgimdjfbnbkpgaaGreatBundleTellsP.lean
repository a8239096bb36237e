/- BundleTells: for every input the law returns true, and each argument reads afterwards as before. No condition. -/
import Derived.Test.YtgimdjfbnbkpgaaGreatRows
import Derived.WalkKit
import Derived.ProofKit
import Derived.OpenShut
import Derived.ShutString
import Derived.ChangeOld
import Derived.Below
import Derived.Test.YtgimdjfbnbkpgaaGreatBundleTellsG7
set_option maxRecDepth 100000
set_option maxHeartbeats 2000000
set_option linter.unusedVariables false
set_option linter.unusedSimpArgs false
set_option linter.unnecessarySimpa false
namespace Go.Proofs.YtgimdjfbnbkpgaaGreat.bundleTells
open Go.ChangeShapes Go.WideShapes Go.ChangeAt Go.RowKit
open Go.ChangeMaps (open_string shut_string)
set_option maxRecDepth 10000
theorem own:ownKnob Tryz.prog.godebug=none:=by kernel_rfl
theorem laidOut:laidOutB Tryz.prog=true:=by kernel_rfl
theorem c3:Tryz.prog.cellsOf 3=1:=by kernel_rfl
theorem rd3 {H:Type} {enc:TypeId×Value→H} {w:World}:Rdr enc Tryz.prog w 3 Int (fun n:Int=>[AV.lit (Value.int .i64 n)]) In64:=Rdr.int Tryz.underlying3 c3 fun n h=>wf_i64 h
abbrev D23_2:Type:=Int×Unit
abbrev av23_2:D23_2→List AV:=fun d=>(fun n:Int=>[AV.lit (Value.int .i64 n)]) d.1++(fun _:Unit=>([]:List AV)) d.2
abbrev ok23_2:D23_2→Prop:=fun d=>In64 d.1∧(fun _:Unit=>True) d.2
abbrev D23_1:Type:=Int×D23_2
abbrev av23_1:D23_1→List AV:=fun d=>(fun n:Int=>[AV.lit (Value.int .i64 n)]) d.1++av23_2 d.2
abbrev ok23_1:D23_1→Prop:=fun d=>In64 d.1∧ok23_2 d.2
abbrev D23_0:Type:=Int×D23_1
abbrev av23_0:D23_0→List AV:=fun d=>(fun n:Int=>[AV.lit (Value.int .i64 n)]) d.1++av23_1 d.2
abbrev ok23_0:D23_0→Prop:=fun d=>In64 d.1∧ok23_1 d.2
theorem c23:Tryz.prog.cellsOf 23=3:=by kernel_rfl
theorem rp23 {H:Type} {enc:TypeId×Value→H} {w:World}:Rdr enc Tryz.prog w 23 D23_0 av23_0 ok23_0:=Rdr.struct Tryz.underlying23 c23 (RdrF.cons (off:=0) (n:=3) (c:=1) (av:=(fun n:Int=>[AV.lit (Value.int .i64 n)])) (av':=av23_1) (ok:=In64) (ok':=ok23_1) rfl c3 (by decide) rd3 (RdrF.cons (off:=1) (n:=3) (c:=1) (av:=(fun n:Int=>[AV.lit (Value.int .i64 n)])) (av':=av23_2) (ok:=In64) (ok':=ok23_2) rfl c3 (by decide) rd3 (RdrF.cons (off:=2) (n:=3) (c:=1) (av:=(fun n:Int=>[AV.lit (Value.int .i64 n)])) (av':=(fun _:Unit=>([]:List AV))) (ok:=In64) (ok':=(fun _:Unit=>True)) rfl c3 (by decide) rd3 (RdrF.nil (n:=3) (off:=3) (by decide)))))
theorem c67:Tryz.prog.cellsOf 67=1:=by kernel_rfl
theorem rd67 {H:Type} {enc:TypeId×Value→H} {w:World}:Rdr enc Tryz.prog w 67 Int (fun n:Int=>[AV.lit (Value.int .i8 n)]) In8:=Rdr.int Tryz.underlying67 c67 fun n h=>wf_i8 h
theorem c27:Tryz.prog.cellsOf 27=1:=by kernel_rfl
theorem rd27 {H:Type} {enc:TypeId×Value→H} {w:World}:Rdr enc Tryz.prog w 27 (List Int) (fun l:List Int=>[AV.sl 1 (l.map (fun n:Int=>[AV.lit (Value.int .i8 n)]))]) (fun l:List Int=>∀ d∈l,In8 d):=Rdr.slice Tryz.underlying27 c27 c67 (by decide) rd67
theorem c21:Tryz.prog.cellsOf 21=1:=by kernel_rfl
theorem rd21 {H:Type} {enc:TypeId×Value→H} {w:World}:Rdr enc Tryz.prog w 21 Int (fun n:Int=>[AV.lit (Value.int .i32 n)]) In32:=Rdr.int Tryz.underlying21 c21 fun n h=>wf_i32 h
theorem c46:Tryz.prog.cellsOf 46=1:=by kernel_rfl
theorem rd46 {H:Type} {enc:TypeId×Value→H} {w:World}:Rdr enc Tryz.prog w 46 (List Int) (fun l:List Int=>[AV.sl 1 (l.map (fun n:Int=>[AV.lit (Value.int .i32 n)]))]) (fun l:List Int=>∀ d∈l,In32 d):=Rdr.slice Tryz.underlying46 c46 c21 (by decide) rd21
abbrev D69_2:Type:=Int×Unit
abbrev av69_2:D69_2→List AV:=fun d=>(fun n:Int=>[AV.lit (Value.int .i8 n)]) d.1++(fun _:Unit=>([]:List AV)) d.2
abbrev ok69_2:D69_2→Prop:=fun d=>In8 d.1∧(fun _:Unit=>True) d.2
abbrev D69_1:Type:=Int×D69_2
abbrev av69_1:D69_1→List AV:=fun d=>(fun n:Int=>[AV.lit (Value.int .i64 n)]) d.1++av69_2 d.2
abbrev ok69_1:D69_1→Prop:=fun d=>In64 d.1∧ok69_2 d.2
abbrev D69_0:Type:=Int×D69_1
abbrev av69_0:D69_0→List AV:=fun d=>(fun n:Int=>[AV.lit (Value.int .i32 n)]) d.1++av69_1 d.2
abbrev ok69_0:D69_0→Prop:=fun d=>In32 d.1∧ok69_1 d.2
theorem c69:Tryz.prog.cellsOf 69=3:=by kernel_rfl
theorem rp69 {H:Type} {enc:TypeId×Value→H} {w:World}:Rdr enc Tryz.prog w 69 D69_0 av69_0 ok69_0:=Rdr.struct Tryz.underlying69 c69 (RdrF.cons (off:=0) (n:=3) (c:=1) (av:=(fun n:Int=>[AV.lit (Value.int .i32 n)])) (av':=av69_1) (ok:=In32) (ok':=ok69_1) rfl c21 (by decide) rd21 (RdrF.cons (off:=1) (n:=3) (c:=1) (av:=(fun n:Int=>[AV.lit (Value.int .i64 n)])) (av':=av69_2) (ok:=In64) (ok':=ok69_2) rfl c3 (by decide) rd3 (RdrF.cons (off:=2) (n:=3) (c:=1) (av:=(fun n:Int=>[AV.lit (Value.int .i8 n)])) (av':=(fun _:Unit=>([]:List AV))) (ok:=In8) (ok':=(fun _:Unit=>True)) rfl c67 (by decide) rd67 (RdrF.nil (n:=3) (off:=3) (by decide)))))
abbrev D71_14:Type:=Int×Unit
abbrev av71_14:D71_14→List AV:=fun d=>(fun n:Int=>[AV.lit (Value.int .i8 n)]) d.1++(fun _:Unit=>([]:List AV)) d.2
abbrev ok71_14:D71_14→Prop:=fun d=>In8 d.1∧(fun _:Unit=>True) d.2
abbrev D71_13:Type:=Int×D71_14
abbrev av71_13:D71_13→List AV:=fun d=>(fun n:Int=>[AV.lit (Value.int .i8 n)]) d.1++av71_14 d.2
abbrev ok71_13:D71_13→Prop:=fun d=>In8 d.1∧ok71_14 d.2
abbrev D71_12:Type:=D69_0×D71_13
abbrev av71_12:D71_12→List AV:=fun d=>av69_0 d.1++av71_13 d.2
abbrev ok71_12:D71_12→Prop:=fun d=>ok69_0 d.1∧ok71_13 d.2
abbrev D71_11:Type:=D69_0×D71_12
abbrev av71_11:D71_11→List AV:=fun d=>av69_0 d.1++av71_12 d.2
abbrev ok71_11:D71_11→Prop:=fun d=>ok69_0 d.1∧ok71_12 d.2
abbrev D71_10:Type:=(List Int)×D71_11
abbrev av71_10:D71_10→List AV:=fun d=>(fun l:List Int=>[AV.sl 1 (l.map (fun n:Int=>[AV.lit (Value.int .i32 n)]))]) d.1++av71_11 d.2
abbrev ok71_10:D71_10→Prop:=fun d=>(fun l:List Int=>∀ d∈l,In32 d) d.1∧ok71_11 d.2
abbrev D71_9:Type:=(List Int)×D71_10
abbrev av71_9:D71_9→List AV:=fun d=>(fun l:List Int=>[AV.sl 1 (l.map (fun n:Int=>[AV.lit (Value.int .i8 n)]))]) d.1++av71_10 d.2
abbrev ok71_9:D71_9→Prop:=fun d=>(fun l:List Int=>∀ d∈l,In8 d) d.1∧ok71_10 d.2
abbrev D71_8:Type:=Int×D71_9
abbrev av71_8:D71_8→List AV:=fun d=>(fun n:Int=>[AV.lit (Value.int .i8 n)]) d.1++av71_9 d.2
abbrev ok71_8:D71_8→Prop:=fun d=>In8 d.1∧ok71_9 d.2
abbrev D71_7:Type:=Int×D71_8
abbrev av71_7:D71_7→List AV:=fun d=>(fun n:Int=>[AV.lit (Value.int .i8 n)]) d.1++av71_8 d.2
abbrev ok71_7:D71_7→Prop:=fun d=>In8 d.1∧ok71_8 d.2
abbrev D71_6:Type:=Int×D71_7
abbrev av71_6:D71_6→List AV:=fun d=>(fun n:Int=>[AV.lit (Value.int .i64 n)]) d.1++av71_7 d.2
abbrev ok71_6:D71_6→Prop:=fun d=>In64 d.1∧ok71_7 d.2
abbrev D71_5:Type:=Int×D71_6
abbrev av71_5:D71_5→List AV:=fun d=>(fun n:Int=>[AV.lit (Value.int .i64 n)]) d.1++av71_6 d.2
abbrev ok71_5:D71_5→Prop:=fun d=>In64 d.1∧ok71_6 d.2
abbrev D71_4:Type:=Int×D71_5
abbrev av71_4:D71_4→List AV:=fun d=>(fun n:Int=>[AV.lit (Value.int .i64 n)]) d.1++av71_5 d.2
abbrev ok71_4:D71_4→Prop:=fun d=>In64 d.1∧ok71_5 d.2
abbrev D71_3:Type:=Int×D71_4
abbrev av71_3:D71_3→List AV:=fun d=>(fun n:Int=>[AV.lit (Value.int .i64 n)]) d.1++av71_4 d.2
abbrev ok71_3:D71_3→Prop:=fun d=>In64 d.1∧ok71_4 d.2
abbrev D71_2:Type:=Int×D71_3
abbrev av71_2:D71_2→List AV:=fun d=>(fun n:Int=>[AV.lit (Value.int .i64 n)]) d.1++av71_3 d.2
abbrev ok71_2:D71_2→Prop:=fun d=>In64 d.1∧ok71_3 d.2
abbrev D71_1:Type:=Int×D71_2
abbrev av71_1:D71_1→List AV:=fun d=>(fun n:Int=>[AV.lit (Value.int .i64 n)]) d.1++av71_2 d.2
abbrev ok71_1:D71_1→Prop:=fun d=>In64 d.1∧ok71_2 d.2
abbrev D71_0:Type:=Int×D71_1
abbrev av71_0:D71_0→List AV:=fun d=>(fun n:Int=>[AV.lit (Value.int .i64 n)]) d.1++av71_1 d.2
abbrev ok71_0:D71_0→Prop:=fun d=>In64 d.1∧ok71_1 d.2
theorem c71:Tryz.prog.cellsOf 71=19:=by kernel_rfl
theorem rp71 {H:Type} {enc:TypeId×Value→H} {w:World}:Rdr enc Tryz.prog w 71 D71_0 av71_0 ok71_0:=Rdr.struct Tryz.underlying71 c71 (RdrF.cons (off:=0) (n:=19) (c:=1) (av:=(fun n:Int=>[AV.lit (Value.int .i64 n)])) (av':=av71_1) (ok:=In64) (ok':=ok71_1) rfl c3 (by decide) rd3 (RdrF.cons (off:=1) (n:=19) (c:=1) (av:=(fun n:Int=>[AV.lit (Value.int .i64 n)])) (av':=av71_2) (ok:=In64) (ok':=ok71_2) rfl c3 (by decide) rd3 (RdrF.cons (off:=2) (n:=19) (c:=1) (av:=(fun n:Int=>[AV.lit (Value.int .i64 n)])) (av':=av71_3) (ok:=In64) (ok':=ok71_3) rfl c3 (by decide) rd3 (RdrF.cons (off:=3) (n:=19) (c:=1) (av:=(fun n:Int=>[AV.lit (Value.int .i64 n)])) (av':=av71_4) (ok:=In64) (ok':=ok71_4) rfl c3 (by decide) rd3 (RdrF.cons (off:=4) (n:=19) (c:=1) (av:=(fun n:Int=>[AV.lit (Value.int .i64 n)])) (av':=av71_5) (ok:=In64) (ok':=ok71_5) rfl c3 (by decide) rd3 (RdrF.cons (off:=5) (n:=19) (c:=1) (av:=(fun n:Int=>[AV.lit (Value.int .i64 n)])) (av':=av71_6) (ok:=In64) (ok':=ok71_6) rfl c3 (by decide) rd3 (RdrF.cons (off:=6) (n:=19) (c:=1) (av:=(fun n:Int=>[AV.lit (Value.int .i64 n)])) (av':=av71_7) (ok:=In64) (ok':=ok71_7) rfl c3 (by decide) rd3 (RdrF.cons (off:=7) (n:=19) (c:=1) (av:=(fun n:Int=>[AV.lit (Value.int .i8 n)])) (av':=av71_8) (ok:=In8) (ok':=ok71_8) rfl c67 (by decide) rd67 (RdrF.cons (off:=8) (n:=19) (c:=1) (av:=(fun n:Int=>[AV.lit (Value.int .i8 n)])) (av':=av71_9) (ok:=In8) (ok':=ok71_9) rfl c67 (by decide) rd67 (RdrF.cons (off:=9) (n:=19) (c:=1) (av:=(fun l:List Int=>[AV.sl 1 (l.map (fun n:Int=>[AV.lit (Value.int .i8 n)]))])) (av':=av71_10) (ok:=(fun l:List Int=>∀ d∈l,In8 d)) (ok':=ok71_10) rfl c27 (by decide) rd27 (RdrF.cons (off:=10) (n:=19) (c:=1) (av:=(fun l:List Int=>[AV.sl 1 (l.map (fun n:Int=>[AV.lit (Value.int .i32 n)]))])) (av':=av71_11) (ok:=(fun l:List Int=>∀ d∈l,In32 d)) (ok':=ok71_11) rfl c46 (by decide) rd46 (RdrF.cons (off:=11) (n:=19) (c:=3) (av:=av69_0) (av':=av71_12) (ok:=ok69_0) (ok':=ok71_12) rfl c69 (by decide) rp69 (RdrF.cons (off:=14) (n:=19) (c:=3) (av:=av69_0) (av':=av71_13) (ok:=ok69_0) (ok':=ok71_13) rfl c69 (by decide) rp69 (RdrF.cons (off:=17) (n:=19) (c:=1) (av:=(fun n:Int=>[AV.lit (Value.int .i8 n)])) (av':=av71_14) (ok:=In8) (ok':=ok71_14) rfl c67 (by decide) rd67 (RdrF.cons (off:=18) (n:=19) (c:=1) (av:=(fun n:Int=>[AV.lit (Value.int .i8 n)])) (av':=(fun _:Unit=>([]:List AV))) (ok:=In8) (ok':=(fun _:Unit=>True)) rfl c67 (by decide) rd67 (RdrF.nil (n:=19) (off:=19) (by decide)))))))))))))))))
theorem rd71 {H:Type} {enc:TypeId×Value→H} {w:World}:Rdr enc Tryz.prog w 71 Nod nodC Nod.Ok:=rp71.map (fun ⟨x0,x1,x2,x3,x4,x5,x6,x7,x8,x9,x10,⟨x11,x12,x13,_⟩,⟨x14,x15,x16,_⟩,x17,x18,_⟩=>⟨x0,x1,x2,x3,x4,x5,x6,x7,x8,x9,x10,x11,x12,x13,x14,x15,x16,x17,x18⟩) (fun ⟨x0,x1,x2,x3,x4,x5,x6,x7,x8,x9,x10,⟨x11,x12,x13,_⟩,⟨x14,x15,x16,_⟩,x17,x18,_⟩=>rfl) (fun ⟨x0,x1,x2,x3,x4,x5,x6,x7,x8,x9,x10,⟨x11,x12,x13,_⟩,⟨x14,x15,x16,_⟩,x17,x18,_⟩ ⟨h0,h1,h2,h3,h4,h5,h6,h7,h8,h9,h10,⟨h11,h12,h13,_⟩,⟨h14,h15,h16,_⟩,h17,h18,_⟩=>⟨h0,h1,h2,h3,h4,h5,h6,h7,h8,h9,h10,h11,h12,h13,h14,h15,h16,h17,h18⟩)
theorem c64:Tryz.prog.cellsOf 64=1:=by kernel_rfl
theorem rd64 {H:Type} {enc:TypeId×Value→H} {w:World}:Rdr enc Tryz.prog w 64 (List Nod) (fun l:List Nod=>[AV.sl 19 (l.map nodC)]) (fun l:List Nod=>∀ d∈l,Nod.Ok d):=Rdr.slice Tryz.underlying64 c64 c71 (by decide) rd71
theorem c4:Tryz.prog.cellsOf 4=1:=by kernel_rfl
theorem rd4 {H:Type} {enc:TypeId×Value→H} {w:World}:Rdr enc Tryz.prog w 4 Bool (fun b:Bool=>[AV.lit (Value.bool b)]) (fun _:Bool=>True):=Rdr.bool Tryz.underlying4 c4
abbrev D63_2:Type:=Int×Unit
abbrev av63_2:D63_2→List AV:=fun d=>(fun n:Int=>[AV.lit (Value.int .i32 n)]) d.1++(fun _:Unit=>([]:List AV)) d.2
abbrev ok63_2:D63_2→Prop:=fun d=>In32 d.1∧(fun _:Unit=>True) d.2
abbrev D63_1:Type:=(List Int)×D63_2
abbrev av63_1:D63_1→List AV:=fun d=>(fun l:List Int=>[AV.sl 1 (l.map (fun n:Int=>[AV.lit (Value.int .i32 n)]))]) d.1++av63_2 d.2
abbrev ok63_1:D63_1→Prop:=fun d=>(fun l:List Int=>∀ d∈l,In32 d) d.1∧ok63_2 d.2
abbrev D63_0:Type:=(List Int)×D63_1
abbrev av63_0:D63_0→List AV:=fun d=>(fun l:List Int=>[AV.sl 1 (l.map (fun n:Int=>[AV.lit (Value.int .i8 n)]))]) d.1++av63_1 d.2
abbrev ok63_0:D63_0→Prop:=fun d=>(fun l:List Int=>∀ d∈l,In8 d) d.1∧ok63_1 d.2
theorem c63:Tryz.prog.cellsOf 63=3:=by kernel_rfl
theorem rp63 {H:Type} {enc:TypeId×Value→H} {w:World}:Rdr enc Tryz.prog w 63 D63_0 av63_0 ok63_0:=Rdr.struct Tryz.underlying63 c63 (RdrF.cons (off:=0) (n:=3) (c:=1) (av:=(fun l:List Int=>[AV.sl 1 (l.map (fun n:Int=>[AV.lit (Value.int .i8 n)]))])) (av':=av63_1) (ok:=(fun l:List Int=>∀ d∈l,In8 d)) (ok':=ok63_1) rfl c27 (by decide) rd27 (RdrF.cons (off:=1) (n:=3) (c:=1) (av:=(fun l:List Int=>[AV.sl 1 (l.map (fun n:Int=>[AV.lit (Value.int .i32 n)]))])) (av':=av63_2) (ok:=(fun l:List Int=>∀ d∈l,In32 d)) (ok':=ok63_2) rfl c46 (by decide) rd46 (RdrF.cons (off:=2) (n:=3) (c:=1) (av:=(fun n:Int=>[AV.lit (Value.int .i32 n)])) (av':=(fun _:Unit=>([]:List AV))) (ok:=In32) (ok':=(fun _:Unit=>True)) rfl c21 (by decide) rd21 (RdrF.nil (n:=3) (off:=3) (by decide)))))
abbrev D66_2:Type:=D63_0×Unit
abbrev av66_2:D66_2→List AV:=fun d=>av63_0 d.1++(fun _:Unit=>([]:List AV)) d.2
abbrev ok66_2:D66_2→Prop:=fun d=>ok63_0 d.1∧(fun _:Unit=>True) d.2
abbrev D66_1:Type:=Bool×D66_2
abbrev av66_1:D66_1→List AV:=fun d=>(fun b:Bool=>[AV.lit (Value.bool b)]) d.1++av66_2 d.2
abbrev ok66_1:D66_1→Prop:=fun d=>(fun _:Bool=>True) d.1∧ok66_2 d.2
abbrev D66_0:Type:=(List Nod)×D66_1
abbrev av66_0:D66_0→List AV:=fun d=>(fun l:List Nod=>[AV.sl 19 (l.map nodC)]) d.1++av66_1 d.2
abbrev ok66_0:D66_0→Prop:=fun d=>(fun l:List Nod=>∀ d∈l,Nod.Ok d) d.1∧ok66_1 d.2
theorem c66:Tryz.prog.cellsOf 66=5:=by kernel_rfl
theorem rp66 {H:Type} {enc:TypeId×Value→H} {w:World}:Rdr enc Tryz.prog w 66 D66_0 av66_0 ok66_0:=Rdr.struct Tryz.underlying66 c66 (RdrF.cons (off:=0) (n:=5) (c:=1) (av:=(fun l:List Nod=>[AV.sl 19 (l.map nodC)])) (av':=av66_1) (ok:=(fun l:List Nod=>∀ d∈l,Nod.Ok d)) (ok':=ok66_1) rfl c64 (by decide) rd64 (RdrF.cons (off:=1) (n:=5) (c:=1) (av:=(fun b:Bool=>[AV.lit (Value.bool b)])) (av':=av66_2) (ok:=(fun _:Bool=>True)) (ok':=ok66_2) rfl c4 (by decide) rd4 (RdrF.cons (off:=2) (n:=5) (c:=3) (av:=av63_0) (av':=(fun _:Unit=>([]:List AV))) (ok:=ok63_0) (ok':=(fun _:Unit=>True)) rfl c63 (by decide) rp63 (RdrF.nil (n:=5) (off:=5) (by decide)))))
theorem rd66 {H:Type} {enc:TypeId×Value→H} {w:World}:Rdr enc Tryz.prog w 66 Blc blcC Blc.Ok:=rp66.map (fun ⟨x0,x1,⟨x2,x3,x4,_⟩,_⟩=>⟨x0,x1,x2,x3,x4⟩) (fun ⟨x0,x1,⟨x2,x3,x4,_⟩,_⟩=>rfl) (fun ⟨x0,x1,⟨x2,x3,x4,_⟩,_⟩ ⟨h0,_,⟨h2,h3,h4,_⟩,_⟩=>⟨h0,h2,h3,h4⟩)
theorem c59:Tryz.prog.cellsOf 59=1:=by kernel_rfl
theorem rd59 {H:Type} {enc:TypeId×Value→H} {w:World}:Rdr enc Tryz.prog w 59 (List Blc) (fun l:List Blc=>[AV.sl 5 (l.map blcC)]) (fun l:List Blc=>∀ d∈l,Blc.Ok d):=Rdr.slice Tryz.underlying59 c59 c66 (by decide) rd66
abbrev D61_0:Type:=(List Blc)×Unit
abbrev av61_0:D61_0→List AV:=fun d=>(fun l:List Blc=>[AV.sl 5 (l.map blcC)]) d.1++(fun _:Unit=>([]:List AV)) d.2
abbrev ok61_0:D61_0→Prop:=fun d=>(fun l:List Blc=>∀ d∈l,Blc.Ok d) d.1∧(fun _:Unit=>True) d.2
theorem c61:Tryz.prog.cellsOf 61=1:=by kernel_rfl
theorem rp61 {H:Type} {enc:TypeId×Value→H} {w:World}:Rdr enc Tryz.prog w 61 D61_0 av61_0 ok61_0:=Rdr.struct Tryz.underlying61 c61 (RdrF.cons (off:=0) (n:=1) (c:=1) (av:=(fun l:List Blc=>[AV.sl 5 (l.map blcC)])) (av':=(fun _:Unit=>([]:List AV))) (ok:=(fun l:List Blc=>∀ d∈l,Blc.Ok d)) (ok':=(fun _:Unit=>True)) rfl c59 (by decide) rd59 (RdrF.nil (n:=1) (off:=1) (by decide)))
theorem rd61 {H:Type} {enc:TypeId×Value→H} {w:World}:Rdr enc Tryz.prog w 61 Mdl mdlC Mdl.Ok:=rp61.map (fun ⟨x0,_⟩=>⟨x0⟩) (fun ⟨x0,_⟩=>rfl) (fun ⟨x0,_⟩ ⟨h0,_⟩=>⟨h0⟩)
theorem c24:Tryz.prog.cellsOf 24=1:=by kernel_rfl
theorem rd24 {H:Type} {enc:TypeId×Value→H} {w:World}:Rdr enc Tryz.prog w 24 (List Mdl) (fun l:List Mdl=>[AV.sl 1 (l.map mdlC)]) (fun l:List Mdl=>∀ d∈l,Mdl.Ok d):=Rdr.slice Tryz.underlying24 c24 c61 (by decide) rd61
abbrev D26_2:Type:=(List Mdl)×Unit
abbrev av26_2:D26_2→List AV:=fun d=>(fun l:List Mdl=>[AV.sl 1 (l.map mdlC)]) d.1++(fun _:Unit=>([]:List AV)) d.2
abbrev ok26_2:D26_2→Prop:=fun d=>(fun l:List Mdl=>∀ d∈l,Mdl.Ok d) d.1∧(fun _:Unit=>True) d.2
abbrev D26_1:Type:=Int×D26_2
abbrev av26_1:D26_1→List AV:=fun d=>(fun n:Int=>[AV.lit (Value.int .i64 n)]) d.1++av26_2 d.2
abbrev ok26_1:D26_1→Prop:=fun d=>In64 d.1∧ok26_2 d.2
abbrev D26_0:Type:=D23_0×D26_1
abbrev av26_0:D26_0→List AV:=fun d=>av23_0 d.1++av26_1 d.2
abbrev ok26_0:D26_0→Prop:=fun d=>ok23_0 d.1∧ok26_1 d.2
theorem c26:Tryz.prog.cellsOf 26=5:=by kernel_rfl
theorem rp26 {H:Type} {enc:TypeId×Value→H} {w:World}:Rdr enc Tryz.prog w 26 D26_0 av26_0 ok26_0:=Rdr.struct Tryz.underlying26 c26 (RdrF.cons (off:=0) (n:=5) (c:=3) (av:=av23_0) (av':=av26_1) (ok:=ok23_0) (ok':=ok26_1) rfl c23 (by decide) rp23 (RdrF.cons (off:=3) (n:=5) (c:=1) (av:=(fun n:Int=>[AV.lit (Value.int .i64 n)])) (av':=av26_2) (ok:=In64) (ok':=ok26_2) rfl c3 (by decide) rd3 (RdrF.cons (off:=4) (n:=5) (c:=1) (av:=(fun l:List Mdl=>[AV.sl 1 (l.map mdlC)])) (av':=(fun _:Unit=>([]:List AV))) (ok:=(fun l:List Mdl=>∀ d∈l,Mdl.Ok d)) (ok':=(fun _:Unit=>True)) rfl c24 (by decide) rd24 (RdrF.nil (n:=5) (off:=5) (by decide)))))
theorem rd26 {H:Type} {enc:TypeId×Value→H} {w:World}:Rdr enc Tryz.prog w 26 Bun bunC Bun.Ok:=rp26.map (fun ⟨⟨x0,x1,x2,_⟩,x3,x4,_⟩=>⟨x0,x1,x2,x3,x4⟩) (fun ⟨⟨x0,x1,x2,_⟩,x3,x4,_⟩=>rfl) (fun ⟨⟨x0,x1,x2,_⟩,x3,x4,_⟩ ⟨⟨h0,h1,h2,_⟩,h3,h4,_⟩=>⟨h0,h1,h2,h3,h4⟩)
theorem c75:Tryz.prog.cellsOf 75=1:=by kernel_rfl
theorem rd75 {H:Type} {enc:TypeId×Value→H} {w:World}:Rdr enc Tryz.prog w 75 Int (fun n:Int=>[AV.lit (Value.int .u16 n)]) (fun n:Int=>0≤n∧n≤65535):=Rdr.int Tryz.underlying75 c75 fun n h=>wf_u16 h
theorem c5:Tryz.prog.cellsOf 5=1:=by kernel_rfl
theorem rd5 {H:Type} {enc:TypeId×Value→H} {w:World}:Rdr enc Tryz.prog w 5 Int (fun n:Int=>[AV.lit (Value.int .u8 n)]) (fun n:Int=>0≤n∧n≤255):=Rdr.int Tryz.underlying5 c5 fun n h=>wf_u8 h
theorem walk (w:World) (v0:Value) (d0:Bun) (v1:Value) (d1:Int) (v2:Value) (d2:Int) (o0:Bun.Ok d0) (e0:Rel (fun _=>none) (fun _=>False) w (.agg (bunC d0)) v0) (o1:(fun n:Int=>0≤n∧n≤65535) d1) (e1:Rel (fun _=>none) (fun _=>False) w (AV.lit (Value.int .u16 d1)) v1) (o2:(fun n:Int=>0≤n∧n≤255) d2) (e2:Rel (fun _=>none) (fun _=>False) w (AV.lit (Value.int .u8 d2)) v2) :
    Calls Tryz.prog 7 #[v0,v1,v2] w fun e w'=>e=.returned (.bool true)∧Below w.heap.size w w' :=
  law_of (bundleTells_v d0 d1 d2 o0 o1 o2) (.cons e0 (.cons e1 (.cons e2 (.nil w))))
theorem lifted (os:Os) (started:os.Started) (H:Type) (enc:TypeId×Value→H) :
    ReturnsInHanded {} Tryz.checked os 7 .any (Rows.bundleTellsSpec.pre6 enc Tryz.prog Tryz.f7 Rows.bundleTellsRow.domain false) (Rows.bundleTellsSpec.post enc Tryz.prog Tryz.f7 false true false false):=by
  refine returnsInHanded_of_change (C:=Tryz.checked) own started (by kernel_rfl) Tryz.func7
    (ChangeSpec.witness6 (enc:=enc) (C:=Tryz.checked) false ⟨#[],#[.agg #[.int .i64 0,.int .i64 0,.int .i64 0,.int .i64 0,.slice none 0 0],.int .u16 0,.int .u8 0],[]⟩ 8 (by kernel_rfl) (by kernel_rfl) (by kernel_rfl) (by kernel_rfl)) ?_
  intro W base args ds gs before hval0 hW hcnd _
  have hval:∀ (j:Nat) t v,Tryz.f7.params[j]? = some t→args[j]? = some v→Value.okWide Tryz.prog W .any base t v:=hval0
  have hW':=hW
  obtain ⟨p,q,hA0,hV,rfl,hfz,hnd⟩:=hW
  have hA:DataW.TrodAll enc Tryz.prog W 0 (fun _=>true) true Tryz.f7.params.toList args.toList ds p:=hA0
  rw [Tryz.params7] at hA hval
  obtain ⟨v0,vs0,dd0,ds0,p0,q0,hargs,rfl,rfl,h0,r0⟩:=trodAll_cons hA
  obtain ⟨v1,vs1,dd1,ds1,p1,q1,rfl,rfl,rfl,h1,r1⟩:=trodAll_cons r0
  obtain ⟨v2,vs2,dd2,ds2,p2,q2,rfl,rfl,rfl,h2,r2⟩:=trodAll_cons r1
  obtain ⟨rfl,rfl,rfl⟩:=trodAll_nil r2
  obtain rfl:args = #[v0,v1,v2]:=by cases args;simp_all
  obtain ⟨rfl,rfl⟩:=trodVars_none hV
  have k0:=h0
  have lt0:∀ x∈p0,x.block<W.heap.size:=by obtain ⟨m,hm⟩:=k0;exact DataW.trod_lt m _ _ _ hm
  obtain ⟨d0,o0,e0⟩:=(rd26 (enc:=enc) (w:=W)).aggV Tryz.underlying26 (hval 0 26 v0 rfl rfl) h0
  have k1:=h1
  have lt1:∀ x∈p1,x.block<W.heap.size:=by obtain ⟨m,hm⟩:=k1;exact DataW.trod_lt m _ _ _ hm
  obtain ⟨d1,o1,e1⟩:=Rdr.oneV (a:=(fun n:Int=>AV.lit (Value.int .u16 n))) (rd75 (enc:=enc) (w:=W)) (by obtain ⟨_,rfl⟩:=okWide_int Tryz.underlying75 (hval 1 75 v1 rfl rfl);rfl) c75 h1
  have k2:=h2
  have lt2:∀ x∈p2,x.block<W.heap.size:=by obtain ⟨m,hm⟩:=k2;exact DataW.trod_lt m _ _ _ hm
  obtain ⟨d2,o2,e2⟩:=Rdr.oneV (a:=(fun n:Int=>AV.lit (Value.int .u8 n))) (rd5 (enc:=enc) (w:=W)) (by obtain ⟨_,rfl⟩:=okWide_int Tryz.underlying5 (hval 2 5 v2 rfl rfl);rfl) c5 h2
  clear hA0 hval0
  refine (walk W v0 d0 v1 d1 v2 d2 o0 e0 o1 e1 o2 e2).mono fun e W' ⟨he,bel⟩=>?_
  subst he
  exact ⟨_,rfl,_,_,_,[],_,[],hW',trodAll_mk1 (shut_bool Tryz.underlying4 _),(trodAll_cons_mk (Below.trod laidOut (by kernel_rfl) (of_decide_eq_true (by kernel_rfl)) k0 bel lt0) (trodAll_cons_mk (Below.trod laidOut (by kernel_rfl) (of_decide_eq_true (by kernel_rfl)) k1 bel lt1) (trodAll_cons_mk (Below.trod laidOut (by kernel_rfl) (of_decide_eq_true (by kernel_rfl)) k2 bel lt2) trodAll_mk0))),rfl,bel.frame _,fun h=>by cases h⟩
theorem over:Rows.bundleTellsRow.holds Tryz.pinned (OpenSpec.ofChange Rows.bundleTellsSpec) :=
  OpenClaim.holds_of_wide 7 Tryz.f7 rfl rfl rfl rfl rfl rfl rfl ⟨rfl,rfl,rfl,rfl,rfl⟩ rfl rfl rfl rfl rfl (by kernel_rfl) Tryz.func7 (by kernel_rfl)
    (of_decide_eq_true (by kernel_rfl)) (by unfold Func.isWrapper;first | (rw [if_pos (by decide +kernel)];kernel_rfl) | (rw [if_neg (by decide +kernel)];exact ⟨rfl,rfl⟩))
    (fun os started H enc _=>lifted os started H enc)
theorem proved:Rows.BundleTellsSaid:=over
#print axioms proved
end Go.Proofs.YtgimdjfbnbkpgaaGreat.bundleTells
