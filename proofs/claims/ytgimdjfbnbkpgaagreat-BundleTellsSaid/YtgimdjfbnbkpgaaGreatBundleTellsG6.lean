/- A part of this claim. No condition. -/
import Derived.Test.YtgimdjfbnbkpgaaGreatBundleTellsG5
set_option maxRecDepth 100000
set_option maxHeartbeats 2000000
set_option linter.unusedVariables false
set_option linter.unusedSimpArgs false
set_option linter.unnecessarySimpa false
namespace Go.Proofs.YtgimdjfbnbkpgaaGreat
open Go.RowKit
open BlkW renaming rows→AE_
open Bool renaming and_eq_true→P_,and_eq_false_iff→S_,or_eq_false_iff→T_,not_eq_false'→W_,not_eq_true'→X_,or_eq_true→AK_,and_true→AN_
open Exit renaming exit→AF_
open IntKind renaming i64→Q_,i8→V_,i32→Z_
open IntWalk renaming i32_in→CJ_
open List renaming map→K_,length_append→N_,length_map→O_,map_replicate→U_,map_append→Y_,map_cons→C_,map_take→AL_,map_drop→AM_,map_nil→AO_,map_set→AP_,nil_append→AQ_,length_cons→AJ_,length_nil→BI_
open Nat renaming le_trans→A_,le_refl→AX_,zero_le→CG_
open Tryz renaming prog→M_
open Value renaming int→AR_,slice→AY_,bool→BA_,agg→CS_
open Weak renaming int→R_,bool→AZ_,tup→AB_,agg→AG_,nil→BQ_,rows→BE_
open WeakL renaming refl→D_
theorem lsides_1 (B:List Int) (L:Int→List Int) (n:Nod) (hB:B.length≤900000) (hL:Puts L) (hk:n.kd=1):VM M_ 199 ([.ifc 169 (.ptr 100000 0 0),.ptr 100001 0 0,.agg [bv false,bv true,bv true,bv true,bv true,bv true]]) ([(950,.slc 5 1 (B.map (row1 .u8))),(100000,.var [.own 950]),(100001,.var (nodC n))]) (.tup []) ([(951,.slc 5 1 ((B++L n.nk++L n.ns++L n.np++L n.no).map (row1 .u8))),(100000,.var [.own 951]),(100001,.var (nodC n))]):=by
 have q0:=hL.l n.nk
 have r0:(B++L n.nk).length=B.length+(L n.nk).length:=by rw[N_]
 have q1:=hL.l n.ns
 have r1:(B++L n.nk++L n.ns).length=B.length+(L n.nk).length+(L n.ns).length:=by rw[N_,r0]
 have q2:=hL.l n.np
 have r2:(B++L n.nk++L n.ns++L n.np).length=B.length+(L n.nk).length+(L n.ns).length+(L n.np).length:=by rw[N_,r1]
 have q3:=hL.l n.no
 have r3:(B++L n.nk++L n.ns++L n.np++L n.no).length=B.length+(L n.nk).length+(L n.ns).length+(L n.np).length+(L n.no).length:=by rw[N_,r2]
 have oz0:=@side_n
 have oz1:=@lside_nk (B) (L) (n) (by omega) hL
 have oz2:=@lside_ns (B++L n.nk) (L) (n) (by omega) hL
 have oz3:=(show true = !false by (simp;done))
 have oz9:=@lside_np (B++L n.nk++L n.ns) (L) (n) (by omega) hL
 have oz10:=@lside_no (B++L n.nk++L n.ns++L n.np) (L) (n) (by omega) hL
 exact VM.run (fn:=Tryz.f199) (W:=[r_,r_,.r [] [.callm [] [] (rM oz0) (oM oz0)],.r [] [.callm [(950,950),(100000,100000),(100001,100001),(3,100002)] [(951,20000)] (rM oz1) (oM oz1)],.r [] [.callm [(20000,950),(100000,100000),(100001,100001),(3,100002)] [(951,20001)] (rM oz2) (oM oz2)],.r [] [f_,f_,f_,f_,f_,e_,.callm [(20001,950),(100000,100000),(100001,100001),(3,100002)] [(951,20002)] (rM oz9) (oM oz9)],.r [] [.callm [(20002,950),(100000,100000),(100001,100001),(3,100002)] [(951,20003)] (rM oz10) (oM oz10)]]) (G:=[.drop [5,3],.ren 20003 951,.sort]) Tryz.func199 (by kernel_rfl) (.c oz0<|.c oz1<|.c oz2<|.c oz3<|.c oz3<|.c oz3<|.c oz3<|.c oz3<|.c (show true=true by with_reducible rfl)<|.c oz9<|.c oz10<|.n)
theorem lsides_2 (B:List Int) (L:Int→List Int) (n:Nod) (hB:B.length≤900000) (hL:Puts L) (hk:n.kd=2):VM M_ 199 ([.ifc 169 (.ptr 100000 0 0),.ptr 100001 0 0,.agg [bv false,bv true,bv false,bv true,bv true,bv true]]) ([(950,.slc 5 1 (B.map (row1 .u8))),(100000,.var [.own 950]),(100001,.var (nodC n))]) (.tup []) ([(951,.slc 5 1 ((B++L n.nk++L n.ns++L n.np).map (row1 .u8))),(100000,.var [.own 951]),(100001,.var (nodC n))]):=by
 have q0:=hL.l n.nk
 have r0:(B++L n.nk).length=B.length+(L n.nk).length:=by rw[N_]
 have q1:=hL.l n.ns
 have r1:(B++L n.nk++L n.ns).length=B.length+(L n.nk).length+(L n.ns).length:=by rw[N_,r0]
 have q2:=hL.l n.np
 have r2:(B++L n.nk++L n.ns++L n.np).length=B.length+(L n.nk).length+(L n.ns).length+(L n.np).length:=by rw[N_,r1]
 have oz0:=@side_n
 have oz1:=@lside_nk (B) (L) (n) (by omega) hL
 have oz2:=@lside_ns (B++L n.nk) (L) (n) (by omega) hL
 have oz3:=(show true = !false by (simp;done))
 have oz9:=@lside_np (B++L n.nk++L n.ns) (L) (n) (by omega) hL
 exact VM.run (fn:=Tryz.f199) (W:=[r_,r_,.r [] [.callm [] [] (rM oz0) (oM oz0)],.r [] [.callm [(950,950),(100000,100000),(100001,100001),(3,100002)] [(951,20000)] (rM oz1) (oM oz1)],.r [] [.callm [(20000,950),(100000,100000),(100001,100001),(3,100002)] [(951,20001)] (rM oz2) (oM oz2)],.r [] [f_,f_,f_,f_,f_,e_,.callm [(20001,950),(100000,100000),(100001,100001),(3,100002)] [(951,20002)] (rM oz9) (oM oz9)],.r [] [.callm [] [] (rM oz0) (oM oz0)]]) (G:=[.drop [5,3],.ren 20002 951,.sort]) Tryz.func199 (by kernel_rfl) (.c oz0<|.c oz1<|.c oz2<|.c oz3<|.c oz3<|.c oz3<|.c oz3<|.c oz3<|.c (show true=true by with_reducible rfl)<|.c oz9<|.c oz0<|.n)
theorem lsides_3 (B:List Int) (L:Int→List Int) (n:Nod) (hB:B.length≤900000) (hL:Puts L) (hk:n.kd=3):VM M_ 199 ([.ifc 169 (.ptr 100000 0 0),.ptr 100001 0 0,.agg [bv false,bv false,bv true,bv true,bv true,bv true]]) ([(950,.slc 5 1 (B.map (row1 .u8))),(100000,.var [.own 950]),(100001,.var (nodC n))]) (.tup []) ([(951,.slc 5 1 ((B++L n.no).map (row1 .u8))),(100000,.var [.own 951]),(100001,.var (nodC n))]):=by
 have q0:=hL.l n.no
 have r0:(B++L n.no).length=B.length+(L n.no).length:=by rw[N_]
 have oz0:=@side_n
 have oz3:=(show false=false by with_reducible rfl)
 have oz9:=@VM.pre _ _ ([bv (n.kd==8),AV.any,AV.any]) _ ([]) _ _ _ ([GI.weak 0 (bv false),GI.sort]) _ (@side_n) (by kernel_rfl) (.c (AZ_ (show ((n.kd==8):Bool)=(false) from (by (refine decide_eq_false ?_;omega))))<|.n)
 have oz10:=@lside_no (B) (L) (n) (by omega) hL
 exact VM.run (fn:=Tryz.f199) (W:=[r_,r_,.r [] [.callm [] [] (rM oz0) (oM oz0)],.r [] [.callm [] [] (rM oz0) (oM oz0)],.r [] [.callm [] [] (rM oz0) (oM oz0)],.r [] [e_,e_,e_,e_,e_,f_,.callm [] [] (rM oz9) (oM oz9)],.r [] [.callm [(950,950),(100000,100000),(100001,100001),(3,100002)] [(951,20000)] (rM oz10) (oM oz10)]]) (G:=[.drop [5,3],.ren 20000 951,.sort]) Tryz.func199 (by kernel_rfl) (.c oz0<|.c oz0<|.c oz0<|.c oz3<|.c oz3<|.c oz3<|.c oz3<|.c oz3<|.c oz3<|.c oz9<|.c oz10<|.n)
theorem lsides_4 (B:List Int) (L:Int→List Int) (n:Nod) (hB:B.length≤900000) (hL:Puts L) (hk:n.kd=4∨n.kd=5):VM M_ 199 ([.ifc 169 (.ptr 100000 0 0),.ptr 100001 0 0,.agg [bv false,bv true,bv false,bv false,bv false,bv false]]) ([(950,.slc 5 1 (B.map (row1 .u8))),(100000,.var [.own 950]),(100001,.var (nodC n))]) (.tup []) ([(951,.slc 5 1 ((B++L n.nk++L n.ns++L n.np).map (row1 .u8))),(100000,.var [.own 951]),(100001,.var (nodC n))]):=by
 have q0:=hL.l n.nk
 have r0:(B++L n.nk).length=B.length+(L n.nk).length:=by rw[N_]
 have q1:=hL.l n.ns
 have r1:(B++L n.nk++L n.ns).length=B.length+(L n.nk).length+(L n.ns).length:=by rw[N_,r0]
 have q2:=hL.l n.np
 have r2:(B++L n.nk++L n.ns++L n.np).length=B.length+(L n.nk).length+(L n.ns).length+(L n.np).length:=by rw[N_,r1]
 have oz0:=@side_n
 have oz1:=@lside_nk (B) (L) (n) (by omega) hL
 have oz2:=@lside_ns (B++L n.nk) (L) (n) (by omega) hL
 have oz3:=(show true = !false by (simp;done))
 have oz9:=@lside_np (B++L n.nk++L n.ns) (L) (n) (by omega) hL
 exact VM.run (fn:=Tryz.f199) (W:=[r_,r_,.r [] [.callm [] [] (rM oz0) (oM oz0)],.r [] [.callm [(950,950),(100000,100000),(100001,100001),(3,100002)] [(951,20000)] (rM oz1) (oM oz1)],.r [] [.callm [(20000,950),(100000,100000),(100001,100001),(3,100002)] [(951,20001)] (rM oz2) (oM oz2)],.r [] [f_,f_,f_,f_,f_,e_,.callm [(20001,950),(100000,100000),(100001,100001),(3,100002)] [(951,20002)] (rM oz9) (oM oz9)],.r [] [.callm [] [] (rM oz0) (oM oz0)]]) (G:=[.drop [5,3],.ren 20002 951,.sort]) Tryz.func199 (by kernel_rfl) (.c oz0<|.c oz1<|.c oz2<|.c oz3<|.c oz3<|.c oz3<|.c oz3<|.c oz3<|.c (show true=true by with_reducible rfl)<|.c oz9<|.c oz0<|.n)
theorem lsides_6 (B:List Int) (L:Int→List Int) (n:Nod) (hB:B.length≤900000) (hL:Puts L) (hk:n.kd=6):VM M_ 199 ([.ifc 169 (.ptr 100000 0 0),.ptr 100001 0 0,.agg [bv true,bv false,bv false,bv true,bv false,bv true]]) ([(950,.slc 5 1 (B.map (row1 .u8))),(100000,.var [.own 950]),(100001,.var (nodC n))]) (.tup []) ([(951,.slc 5 1 ((B++L n.nb).map (row1 .u8))),(100000,.var [.own 951]),(100001,.var (nodC n))]):=by
 have q0:=hL.l n.nb
 have r0:(B++L n.nb).length=B.length+(L n.nb).length:=by rw[N_]
 have oz0:=@lside_nb (B) (L) (n) (by omega) hL
 have oz1:=@side_n
 have oz3:=(show false=false by with_reducible rfl)
 have oz9:=@VM.pre _ _ ([bv (n.kd==8),AV.any,AV.any]) _ ([]) _ _ _ ([GI.weak 0 (bv false),GI.sort]) _ (@side_n) (by kernel_rfl) (.c (AZ_ (show ((n.kd==8):Bool)=(false) from (by (refine decide_eq_false ?_;omega))))<|.n)
 exact VM.run (fn:=Tryz.f199) (W:=[r_,r_,.r [] [.callm [(950,950),(100000,100000),(100001,100001),(3,100002)] [(951,20000)] (rM oz0) (oM oz0)],.r [] [.callm [] [] (rM oz1) (oM oz1)],.r [] [.callm [] [] (rM oz1) (oM oz1)],.r [] [e_,e_,e_,e_,e_,f_,.callm [] [] (rM oz9) (oM oz9)],.r [] [.callm [] [] (rM oz1) (oM oz1)]]) (G:=[.drop [5,3],.ren 20000 951,.sort]) Tryz.func199 (by kernel_rfl) (.c oz0<|.c oz1<|.c oz1<|.c oz3<|.c oz3<|.c oz3<|.c oz3<|.c oz3<|.c oz3<|.c oz9<|.c oz1<|.n)
theorem lsides_7 (B:List Int) (L:Int→List Int) (n:Nod) (hB:B.length≤900000) (hL:Puts L) (hk:n.kd=7):VM M_ 199 ([.ifc 169 (.ptr 100000 0 0),.ptr 100001 0 0,.agg [bv false,bv false,bv false,bv true,bv false,bv true]]) ([(950,.slc 5 1 (B.map (row1 .u8))),(100000,.var [.own 950]),(100001,.var (nodC n))]) (.tup []) ([(950,.slc 5 1 (B.map (row1 .u8))),(100000,.var [.own 950]),(100001,.var (nodC n))]):=by
 have oz0:=@side_n
 have oz3:=(show false=false by with_reducible rfl)
 have oz9:=@VM.pre _ _ ([bv (n.kd==8),AV.any,AV.any]) _ ([]) _ _ _ ([GI.weak 0 (bv false),GI.sort]) _ (@side_n) (by kernel_rfl) (.c (AZ_ (show ((n.kd==8):Bool)=(false) from (by (refine decide_eq_false ?_;omega))))<|.n)
 exact VM.run (fn:=Tryz.f199) (W:=[r_,r_,.r [] [.callm [] [] (rM oz0) (oM oz0)],.r [] [.callm [] [] (rM oz0) (oM oz0)],.r [] [.callm [] [] (rM oz0) (oM oz0)],.r [] [e_,e_,e_,e_,e_,f_,.callm [] [] (rM oz9) (oM oz9)],.r [] [.callm [] [] (rM oz0) (oM oz0)]]) (G:=[.drop [3,5],.sort]) Tryz.func199 (by kernel_rfl) (.c oz0<|.c oz0<|.c oz0<|.c oz3<|.c oz3<|.c oz3<|.c oz3<|.c oz3<|.c oz3<|.c oz9<|.c oz0<|.n)
theorem lsides_8 (B:List Int) (L:Int→List Int) (n:Nod) (hB:B.length≤900000) (hL:Puts L) (hk:n.kd=8):VM M_ 199 ([.ifc 169 (.ptr 100000 0 0),.ptr 100001 0 0,.agg [bv false,bv false,bv false,bv true,bv false,bv false]]) ([(950,.slc 5 1 (B.map (row1 .u8))),(100000,.var [.own 950]),(100001,.var (nodC n))]) (.tup []) ([(951,.slc 5 1 ((B++L n.np).map (row1 .u8))),(100000,.var [.own 951]),(100001,.var (nodC n))]):=by
 have q0:=hL.l n.np
 have r0:(B++L n.np).length=B.length+(L n.np).length:=by rw[N_]
 have oz0:=@side_n
 have oz3:=(show false=false by with_reducible rfl)
 have oz9:=@VM.pre _ _ ([bv (n.kd==8),AV.ptr 100001 0 5,AV.ptr 100002 0 0]) _ ([(950,Blk.slc 5 1 (K_ (row1 .u8) B)),(100000,Blk.var [AV.own 950]),(100001,Blk.var [i64 n.kd,i64 n.na,i64 n.nb,i64 n.nk,i64 n.ns,i64 n.np,i64 n.no,i8 n.za,i8 n.zb,AV.sl 1 (K_ (row1 .i8) n.w),AV.sl 1 (K_ (row1 .i32) n.b),i32 n.qm,i64 n.qs,i8 n.qz,i32 n.rm,i64 n.rs,i8 n.rz,i8 n.lo,i8 n.hi]),(100002,Blk.var [AV.ifc 169 (AV.ptr 100000 0 0)])]) _ _ _ ([GI.weak 0 (bv true),GI.sort]) _ (@lside_np (B) (L) (n) (by omega) hL) (by kernel_rfl) (.c (AZ_ (show ((n.kd==8):Bool)=(true) from (by (refine decide_eq_true ?_;omega))))<|.n)
 exact VM.run (fn:=Tryz.f199) (W:=[r_,r_,.r [] [.callm [] [] (rM oz0) (oM oz0)],.r [] [.callm [] [] (rM oz0) (oM oz0)],.r [] [.callm [] [] (rM oz0) (oM oz0)],.r [] [e_,e_,e_,e_,e_,f_,.callm [(950,950),(100000,100000),(100001,100001),(3,100002)] [(951,20000)] (rM oz9) (oM oz9)],.r [] [.callm [] [] (rM oz0) (oM oz0)]]) (G:=[.drop [5,3],.ren 20000 951,.sort]) Tryz.func199 (by kernel_rfl) (.c oz0<|.c oz0<|.c oz0<|.c oz3<|.c oz3<|.c oz3<|.c oz3<|.c oz3<|.c oz3<|.c oz9<|.c oz0<|.n)
theorem lsides_9 (B:List Int) (L:Int→List Int) (n:Nod) (hB:B.length≤900000) (hL:Puts L) (hk:n.kd<1∨8<n.kd):VM M_ 199 ([.ifc 169 (.ptr 100000 0 0),.ptr 100001 0 0,.agg [bv false,bv false,bv false,bv false,bv false,bv false]]) ([(950,.slc 5 1 (B.map (row1 .u8))),(100000,.var [.own 950]),(100001,.var (nodC n))]) (.tup []) ([(950,.slc 5 1 (B.map (row1 .u8))),(100000,.var [.own 950]),(100001,.var (nodC n))]):=by
 have oz0:=@side_n
 have oz3:=(show false=false by with_reducible rfl)
 have oz9:=@VM.pre _ _ ([bv (n.kd==8),AV.any,AV.any]) _ ([]) _ _ _ ([GI.weak 0 (bv false),GI.sort]) _ (@side_n) (by kernel_rfl) (.c (AZ_ (show ((n.kd==8):Bool)=(false) from (by (refine decide_eq_false ?_;omega))))<|.n)
 exact VM.run (fn:=Tryz.f199) (W:=[r_,r_,.r [] [.callm [] [] (rM oz0) (oM oz0)],.r [] [.callm [] [] (rM oz0) (oM oz0)],.r [] [.callm [] [] (rM oz0) (oM oz0)],.r [] [e_,e_,e_,e_,e_,f_,.callm [] [] (rM oz9) (oM oz9)],.r [] [.callm [] [] (rM oz0) (oM oz0)]]) (G:=[.drop [3,5],.sort]) Tryz.func199 (by kernel_rfl) (.c oz0<|.c oz0<|.c oz0<|.c oz3<|.c oz3<|.c oz3<|.c oz3<|.c oz3<|.c oz3<|.c oz9<|.c oz0<|.n)
def lb_1 (L:Int→List Int) (n:Nod):List Int:=L n.kd++L n.na++L n.nk++L n.ns++L n.np++L n.no++[IntKind.u8.wrap n.za]++L (n.w.length:Int)++smallL n.w++L (n.b.length:Int)++wideL n.b++L n.qm++L n.qs++[IntKind.u8.wrap n.qz]++[IntKind.u8.wrap n.lo]++[IntKind.u8.wrap n.hi]
theorem lwalk_1 (L:Int→List Int) (n:Nod) (hL:Puts L) (hk:n.kd=1) (hw:n.w.length≤16384) (hb:n.b.length≤16384) (hx:∀ x∈n.b,-2147483648≤x∧x≤2147483647) (hq:In32 n.qm) (hr:In32 n.rm):VM M_ 167 ([.ifc 169 (.ptr 100000 0 0),.ptr 100001 0 0]) ([(100000,.var [.lit (.slice none 0 0)]),(100001,.var (nodC n))]) (.tup []) ([(951,.slc 5 1 ((L n.kd++L n.na++L n.nk++L n.ns++L n.np++L n.no++[IntKind.u8.wrap n.za]++L (n.w.length:Int)++smallL n.w++L (n.b.length:Int)++wideL n.b++L n.qm++L n.qs++[IntKind.u8.wrap n.qz]++[IntKind.u8.wrap n.lo]++[IntKind.u8.wrap n.hi]).map (row1 .u8))),(100000,.var [.own 951]),(100001,.var (nodC n))]):=by
 have q0:=hL.l n.kd
 have q1:=hL.l n.na
 have q2:=hL.l n.nk
 have q3:=hL.l n.ns
 have q4:=hL.l n.np
 have q5:=hL.l n.no
 have q6:([IntKind.u8.wrap n.za]).length=1:=rfl
 have q7:=hL.l (n.w.length:Int)
 have q8:(smallL n.w).length=n.w.length:=O_ _
 have q9:=hL.l (n.b.length:Int)
 have q10:=wideL_len n.b hx
 have q11:=hL.l n.qm
 have q12:=hL.l n.qs
 have q13:([IntKind.u8.wrap n.qz]).length=1:=rfl
 have q14:([IntKind.u8.wrap n.lo]).length=1:=rfl
 have q15:([IntKind.u8.wrap n.hi]).length=1:=rfl
 have r0:(L n.kd).length≤500000:=by (try simp only[N_]);omega
 have r1:(L n.kd++L n.na).length≤500000:=by (try simp only[N_]);omega
 have r2:(L n.kd++L n.na++L n.nk).length≤500000:=by (try simp only[N_]);omega
 have r3:(L n.kd++L n.na++L n.nk++L n.ns).length≤500000:=by (try simp only[N_]);omega
 have r4:(L n.kd++L n.na++L n.nk++L n.ns++L n.np).length≤500000:=by (try simp only[N_]);omega
 have r5:(L n.kd++L n.na++L n.nk++L n.ns++L n.np++L n.no).length≤500000:=by (try simp only[N_]);omega
 have r6:(L n.kd++L n.na++L n.nk++L n.ns++L n.np++L n.no++[IntKind.u8.wrap n.za]).length≤500000:=by (try simp only[N_]);omega
 have r7:(L n.kd++L n.na++L n.nk++L n.ns++L n.np++L n.no++[IntKind.u8.wrap n.za]++L (n.w.length:Int)).length≤500000:=by (try simp only[N_]);omega
 have r8:(L n.kd++L n.na++L n.nk++L n.ns++L n.np++L n.no++[IntKind.u8.wrap n.za]++L (n.w.length:Int)++smallL n.w).length≤500000:=by (try simp only[N_]);omega
 have r9:(L n.kd++L n.na++L n.nk++L n.ns++L n.np++L n.no++[IntKind.u8.wrap n.za]++L (n.w.length:Int)++smallL n.w++L (n.b.length:Int)).length≤500000:=by (try simp only[N_]);omega
 have r10:(L n.kd++L n.na++L n.nk++L n.ns++L n.np++L n.no++[IntKind.u8.wrap n.za]++L (n.w.length:Int)++smallL n.w++L (n.b.length:Int)++wideL n.b).length≤500000:=by (try simp only[N_]);omega
 have r11:(L n.kd++L n.na++L n.nk++L n.ns++L n.np++L n.no++[IntKind.u8.wrap n.za]++L (n.w.length:Int)++smallL n.w++L (n.b.length:Int)++wideL n.b++L n.qm).length≤500000:=by (try simp only[N_]);omega
 have r12:(L n.kd++L n.na++L n.nk++L n.ns++L n.np++L n.no++[IntKind.u8.wrap n.za]++L (n.w.length:Int)++smallL n.w++L (n.b.length:Int)++wideL n.b++L n.qm++L n.qs).length≤500000:=by (try simp only[N_]);omega
 have r13:(L n.kd++L n.na++L n.nk++L n.ns++L n.np++L n.no++[IntKind.u8.wrap n.za]++L (n.w.length:Int)++smallL n.w++L (n.b.length:Int)++wideL n.b++L n.qm++L n.qs++[IntKind.u8.wrap n.qz]).length≤500000:=by (try simp only[N_]);omega
 have r14:(L n.kd++L n.na++L n.nk++L n.ns++L n.np++L n.no++[IntKind.u8.wrap n.za]++L (n.w.length:Int)++smallL n.w++L (n.b.length:Int)++wideL n.b++L n.qm++L n.qs++[IntKind.u8.wrap n.qz]++[IntKind.u8.wrap n.lo]).length≤500000:=by (try simp only[N_]);omega
 have r15:(L n.kd++L n.na++L n.nk++L n.ns++L n.np++L n.no++[IntKind.u8.wrap n.za]++L (n.w.length:Int)++smallL n.w++L (n.b.length:Int)++wideL n.b++L n.qm++L n.qs++[IntKind.u8.wrap n.qz]++[IntKind.u8.wrap n.lo]++[IntKind.u8.wrap n.hi]).length≤500000:=by (try simp only[N_]);omega
 clear q0 q1 q2 q3 q4 q5 q6 q7 q8 q9 q10 q11 q12 q13 q14 q15
 have s0:=A_ r0 (show 500000≤900000 by decide)
 have u0:=A_ r0 (show 500000≤1000000 by decide)
 have s1:=A_ r1 (show 500000≤900000 by decide)
 have u1:=A_ r1 (show 500000≤1000000 by decide)
 have s2:=A_ r2 (show 500000≤900000 by decide)
 have u2:=A_ r2 (show 500000≤1000000 by decide)
 have s3:=A_ r3 (show 500000≤900000 by decide)
 have u3:=A_ r3 (show 500000≤1000000 by decide)
 have s4:=A_ r4 (show 500000≤900000 by decide)
 have u4:=A_ r4 (show 500000≤1000000 by decide)
 have s5:=A_ r5 (show 500000≤900000 by decide)
 have u5:=A_ r5 (show 500000≤1000000 by decide)
 have s6:=A_ r6 (show 500000≤900000 by decide)
 have u6:=A_ r6 (show 500000≤1000000 by decide)
 have s7:=A_ r7 (show 500000≤900000 by decide)
 have u7:=A_ r7 (show 500000≤1000000 by decide)
 have s8:=A_ r8 (show 500000≤900000 by decide)
 have u8:=A_ r8 (show 500000≤1000000 by decide)
 have s9:=A_ r9 (show 500000≤900000 by decide)
 have u9:=A_ r9 (show 500000≤1000000 by decide)
 have s10:=A_ r10 (show 500000≤900000 by decide)
 have u10:=A_ r10 (show 500000≤1000000 by decide)
 have s11:=A_ r11 (show 500000≤900000 by decide)
 have u11:=A_ r11 (show 500000≤1000000 by decide)
 have s12:=A_ r12 (show 500000≤900000 by decide)
 have u12:=A_ r12 (show 500000≤1000000 by decide)
 have s13:=A_ r13 (show 500000≤900000 by decide)
 have u13:=A_ r13 (show 500000≤1000000 by decide)
 have s14:=A_ r14 (show 500000≤900000 by decide)
 have u14:=A_ r14 (show 500000≤1000000 by decide)
 have s15:=A_ r15 (show 500000≤900000 by decide)
 have u15:=A_ r15 (show 500000≤1000000 by decide)
 have w5:n.w.length≤100000:=by omega
 have b5:n.b.length≤100000:=by omega
 have oz0:=(show NilNo M_ (169:Nat) "stepwell/pack.number" from (nilNo (f:=92) (by kernel_rfl)))
 have oz1:=@lnum_kd0 (L) (n) (9) hL
 have oz2:=(show MethodIs M_ (169:Nat) "stepwell/pack.number" (methF M_ (169:Nat) "stepwell/pack.number") from (methodIs (by kernel_rfl)))
 have oz4:=@lnum_na (L n.kd) (L) (n) (1024) u0 hL
 have oz6:=@of_1 (n.kd) hk
 have oz7:=@lsides_1 (L n.kd++L n.na) (L) (n) s1 hL hk
 have oz8:=(show true=true by with_reducible rfl)
 have oz9:=@lone_za (L n.kd++L n.na++L n.nk++L n.ns++L n.np++L n.no) (n) u5
 have oz10:=(show false=false by with_reducible rfl)
 have oz12:=@llists_v (L n.kd++L n.na++L n.nk++L n.ns++L n.np++L n.no++[IntKind.u8.wrap n.za]) (L) (n) r6 hL w5 hb hx
 have oz14:=@lscale_q (L n.kd++L n.na++L n.nk++L n.ns++L n.np++L n.no++[IntKind.u8.wrap n.za]++L (n.w.length:Int)++smallL n.w++L (n.b.length:Int)++wideL n.b) (L) (n) s10 hL hq
 have oz15:=@lone_qz (L n.kd++L n.na++L n.nk++L n.ns++L n.np++L n.no++[IntKind.u8.wrap n.za]++L (n.w.length:Int)++smallL n.w++L (n.b.length:Int)++wideL n.b++L n.qm++L n.qs) (n) u12
 have oz17:=@lone_lo (L n.kd++L n.na++L n.nk++L n.ns++L n.np++L n.no++[IntKind.u8.wrap n.za]++L (n.w.length:Int)++smallL n.w++L (n.b.length:Int)++wideL n.b++L n.qm++L n.qs++[IntKind.u8.wrap n.qz]) (n) u13
 have oz18:=@lone_hi (L n.kd++L n.na++L n.nk++L n.ns++L n.np++L n.no++[IntKind.u8.wrap n.za]++L (n.w.length:Int)++smallL n.w++L (n.b.length:Int)++wideL n.b++L n.qm++L n.qs++[IntKind.u8.wrap n.qz]++[IntKind.u8.wrap n.lo]) (n) u14
 exact VM.run (fn:=Tryz.f167) (W:=[.r [] [.callm [(100000,100000),(100001,100001)] [(951,20000)] (rM oz1) (oM oz1)],.r [] [.callm [(20000,950),(100000,100000),(100001,100001)] [(951,20001)] (rM oz4) (oM oz4)],.r [] [.callr (rO oz6)],.r [] [.callm [(20001,950),(100000,100000),(100001,100001)] [(951,20002)] (rM oz7) (oM oz7)],r_,b_,.r [] [.callm [(20002,950),(100000,100000),(100001,100001)] [(951,20003)] (rM oz9) (oM oz9)],r_,d_,r_,b_,.r [] [.callm [(20003,950),(100000,100000),(100001,100001)] [(951,20004)] (rM oz12) (oM oz12)],r_,d_,.r [] [.callm [(20004,950),(100000,100000),(100001,100001)] [(951,20005)] (rM oz14) (oM oz14)],.r [] [.callm [(20005,950),(100000,100000),(100001,100001)] [(951,20006)] (rM oz15) (oM oz15)],r_,d_,.r [] [.callm [(20006,950),(100000,100000),(100001,100001)] [(951,20007)] (rM oz17) (oM oz17)],.r [] [.callm [(20007,950),(100000,100000),(100001,100001)] [(951,20008)] (rM oz18) (oM oz18)]]) (G:=[.drop [4],.ren 20008 951,.sort]) Tryz.func167 (by kernel_rfl) (.c oz0<|.c oz1<|.c oz2<|.c oz0<|.c oz4<|.c oz2<|.c oz6<|.c oz7<|.c oz8<|.c oz9<|.c oz10<|.c oz8<|.c oz12<|.c oz10<|.c oz14<|.c oz15<|.c oz10<|.c oz17<|.c oz18<|.n)
def lb_2 (L:Int→List Int) (n:Nod):List Int:=L n.kd++L n.na++L n.nk++L n.ns++L n.np++[IntKind.u8.wrap n.za]++L (n.w.length:Int)++smallL n.w++L (n.b.length:Int)++wideL n.b++L n.qm++L n.qs++[IntKind.u8.wrap n.qz]++[IntKind.u8.wrap n.lo]++[IntKind.u8.wrap n.hi]
theorem lwalk_2 (L:Int→List Int) (n:Nod) (hL:Puts L) (hk:n.kd=2) (hw:n.w.length≤16384) (hb:n.b.length≤16384) (hx:∀ x∈n.b,-2147483648≤x∧x≤2147483647) (hq:In32 n.qm) (hr:In32 n.rm):VM M_ 167 ([.ifc 169 (.ptr 100000 0 0),.ptr 100001 0 0]) ([(100000,.var [.lit (.slice none 0 0)]),(100001,.var (nodC n))]) (.tup []) ([(951,.slc 5 1 ((L n.kd++L n.na++L n.nk++L n.ns++L n.np++[IntKind.u8.wrap n.za]++L (n.w.length:Int)++smallL n.w++L (n.b.length:Int)++wideL n.b++L n.qm++L n.qs++[IntKind.u8.wrap n.qz]++[IntKind.u8.wrap n.lo]++[IntKind.u8.wrap n.hi]).map (row1 .u8))),(100000,.var [.own 951]),(100001,.var (nodC n))]):=by
 have q0:=hL.l n.kd
 have q1:=hL.l n.na
 have q2:=hL.l n.nk
 have q3:=hL.l n.ns
 have q4:=hL.l n.np
 have q5:([IntKind.u8.wrap n.za]).length=1:=rfl
 have q6:=hL.l (n.w.length:Int)
 have q7:(smallL n.w).length=n.w.length:=O_ _
 have q8:=hL.l (n.b.length:Int)
 have q9:=wideL_len n.b hx
 have q10:=hL.l n.qm
 have q11:=hL.l n.qs
 have q12:([IntKind.u8.wrap n.qz]).length=1:=rfl
 have q13:([IntKind.u8.wrap n.lo]).length=1:=rfl
 have q14:([IntKind.u8.wrap n.hi]).length=1:=rfl
 have r0:(L n.kd).length≤500000:=by (try simp only[N_]);omega
 have r1:(L n.kd++L n.na).length≤500000:=by (try simp only[N_]);omega
 have r2:(L n.kd++L n.na++L n.nk).length≤500000:=by (try simp only[N_]);omega
 have r3:(L n.kd++L n.na++L n.nk++L n.ns).length≤500000:=by (try simp only[N_]);omega
 have r4:(L n.kd++L n.na++L n.nk++L n.ns++L n.np).length≤500000:=by (try simp only[N_]);omega
 have r5:(L n.kd++L n.na++L n.nk++L n.ns++L n.np++[IntKind.u8.wrap n.za]).length≤500000:=by (try simp only[N_]);omega
 have r6:(L n.kd++L n.na++L n.nk++L n.ns++L n.np++[IntKind.u8.wrap n.za]++L (n.w.length:Int)).length≤500000:=by (try simp only[N_]);omega
 have r7:(L n.kd++L n.na++L n.nk++L n.ns++L n.np++[IntKind.u8.wrap n.za]++L (n.w.length:Int)++smallL n.w).length≤500000:=by (try simp only[N_]);omega
 have r8:(L n.kd++L n.na++L n.nk++L n.ns++L n.np++[IntKind.u8.wrap n.za]++L (n.w.length:Int)++smallL n.w++L (n.b.length:Int)).length≤500000:=by (try simp only[N_]);omega
 have r9:(L n.kd++L n.na++L n.nk++L n.ns++L n.np++[IntKind.u8.wrap n.za]++L (n.w.length:Int)++smallL n.w++L (n.b.length:Int)++wideL n.b).length≤500000:=by (try simp only[N_]);omega
 have r10:(L n.kd++L n.na++L n.nk++L n.ns++L n.np++[IntKind.u8.wrap n.za]++L (n.w.length:Int)++smallL n.w++L (n.b.length:Int)++wideL n.b++L n.qm).length≤500000:=by (try simp only[N_]);omega
 have r11:(L n.kd++L n.na++L n.nk++L n.ns++L n.np++[IntKind.u8.wrap n.za]++L (n.w.length:Int)++smallL n.w++L (n.b.length:Int)++wideL n.b++L n.qm++L n.qs).length≤500000:=by (try simp only[N_]);omega
 have r12:(L n.kd++L n.na++L n.nk++L n.ns++L n.np++[IntKind.u8.wrap n.za]++L (n.w.length:Int)++smallL n.w++L (n.b.length:Int)++wideL n.b++L n.qm++L n.qs++[IntKind.u8.wrap n.qz]).length≤500000:=by (try simp only[N_]);omega
 have r13:(L n.kd++L n.na++L n.nk++L n.ns++L n.np++[IntKind.u8.wrap n.za]++L (n.w.length:Int)++smallL n.w++L (n.b.length:Int)++wideL n.b++L n.qm++L n.qs++[IntKind.u8.wrap n.qz]++[IntKind.u8.wrap n.lo]).length≤500000:=by (try simp only[N_]);omega
 have r14:(L n.kd++L n.na++L n.nk++L n.ns++L n.np++[IntKind.u8.wrap n.za]++L (n.w.length:Int)++smallL n.w++L (n.b.length:Int)++wideL n.b++L n.qm++L n.qs++[IntKind.u8.wrap n.qz]++[IntKind.u8.wrap n.lo]++[IntKind.u8.wrap n.hi]).length≤500000:=by (try simp only[N_]);omega
 clear q0 q1 q2 q3 q4 q5 q6 q7 q8 q9 q10 q11 q12 q13 q14
 have s0:=A_ r0 (show 500000≤900000 by decide)
 have u0:=A_ r0 (show 500000≤1000000 by decide)
 have s1:=A_ r1 (show 500000≤900000 by decide)
 have u1:=A_ r1 (show 500000≤1000000 by decide)
 have s2:=A_ r2 (show 500000≤900000 by decide)
 have u2:=A_ r2 (show 500000≤1000000 by decide)
 have s3:=A_ r3 (show 500000≤900000 by decide)
 have u3:=A_ r3 (show 500000≤1000000 by decide)
 have s4:=A_ r4 (show 500000≤900000 by decide)
 have u4:=A_ r4 (show 500000≤1000000 by decide)
 have s5:=A_ r5 (show 500000≤900000 by decide)
 have u5:=A_ r5 (show 500000≤1000000 by decide)
 have s6:=A_ r6 (show 500000≤900000 by decide)
 have u6:=A_ r6 (show 500000≤1000000 by decide)
 have s7:=A_ r7 (show 500000≤900000 by decide)
 have u7:=A_ r7 (show 500000≤1000000 by decide)
 have s8:=A_ r8 (show 500000≤900000 by decide)
 have u8:=A_ r8 (show 500000≤1000000 by decide)
 have s9:=A_ r9 (show 500000≤900000 by decide)
 have u9:=A_ r9 (show 500000≤1000000 by decide)
 have s10:=A_ r10 (show 500000≤900000 by decide)
 have u10:=A_ r10 (show 500000≤1000000 by decide)
 have s11:=A_ r11 (show 500000≤900000 by decide)
 have u11:=A_ r11 (show 500000≤1000000 by decide)
 have s12:=A_ r12 (show 500000≤900000 by decide)
 have u12:=A_ r12 (show 500000≤1000000 by decide)
 have s13:=A_ r13 (show 500000≤900000 by decide)
 have u13:=A_ r13 (show 500000≤1000000 by decide)
 have s14:=A_ r14 (show 500000≤900000 by decide)
 have u14:=A_ r14 (show 500000≤1000000 by decide)
 have w5:n.w.length≤100000:=by omega
 have b5:n.b.length≤100000:=by omega
 have oz0:=(show NilNo M_ (169:Nat) "stepwell/pack.number" from (nilNo (f:=92) (by kernel_rfl)))
 have oz1:=@lnum_kd0 (L) (n) (9) hL
 have oz2:=(show MethodIs M_ (169:Nat) "stepwell/pack.number" (methF M_ (169:Nat) "stepwell/pack.number") from (methodIs (by kernel_rfl)))
 have oz4:=@lnum_na (L n.kd) (L) (n) (1024) u0 hL
 have oz6:=@of_2 (n.kd) hk
 have oz7:=@lsides_2 (L n.kd++L n.na) (L) (n) s1 hL hk
 have oz8:=(show true=true by with_reducible rfl)
 have oz9:=@lone_za (L n.kd++L n.na++L n.nk++L n.ns++L n.np) (n) u4
 have oz10:=(show false=false by with_reducible rfl)
 have oz12:=@llists_v (L n.kd++L n.na++L n.nk++L n.ns++L n.np++[IntKind.u8.wrap n.za]) (L) (n) r5 hL w5 hb hx
 have oz14:=@lscale_q (L n.kd++L n.na++L n.nk++L n.ns++L n.np++[IntKind.u8.wrap n.za]++L (n.w.length:Int)++smallL n.w++L (n.b.length:Int)++wideL n.b) (L) (n) s9 hL hq
 have oz15:=@lone_qz (L n.kd++L n.na++L n.nk++L n.ns++L n.np++[IntKind.u8.wrap n.za]++L (n.w.length:Int)++smallL n.w++L (n.b.length:Int)++wideL n.b++L n.qm++L n.qs) (n) u11
 have oz17:=@lone_lo (L n.kd++L n.na++L n.nk++L n.ns++L n.np++[IntKind.u8.wrap n.za]++L (n.w.length:Int)++smallL n.w++L (n.b.length:Int)++wideL n.b++L n.qm++L n.qs++[IntKind.u8.wrap n.qz]) (n) u12
 have oz18:=@lone_hi (L n.kd++L n.na++L n.nk++L n.ns++L n.np++[IntKind.u8.wrap n.za]++L (n.w.length:Int)++smallL n.w++L (n.b.length:Int)++wideL n.b++L n.qm++L n.qs++[IntKind.u8.wrap n.qz]++[IntKind.u8.wrap n.lo]) (n) u13
 exact VM.run (fn:=Tryz.f167) (W:=[.r [] [.callm [(100000,100000),(100001,100001)] [(951,20000)] (rM oz1) (oM oz1)],.r [] [.callm [(20000,950),(100000,100000),(100001,100001)] [(951,20001)] (rM oz4) (oM oz4)],.r [] [.callr (rO oz6)],.r [] [.callm [(20001,950),(100000,100000),(100001,100001)] [(951,20002)] (rM oz7) (oM oz7)],r_,b_,.r [] [.callm [(20002,950),(100000,100000),(100001,100001)] [(951,20003)] (rM oz9) (oM oz9)],r_,d_,r_,b_,.r [] [.callm [(20003,950),(100000,100000),(100001,100001)] [(951,20004)] (rM oz12) (oM oz12)],r_,d_,.r [] [.callm [(20004,950),(100000,100000),(100001,100001)] [(951,20005)] (rM oz14) (oM oz14)],.r [] [.callm [(20005,950),(100000,100000),(100001,100001)] [(951,20006)] (rM oz15) (oM oz15)],r_,d_,.r [] [.callm [(20006,950),(100000,100000),(100001,100001)] [(951,20007)] (rM oz17) (oM oz17)],.r [] [.callm [(20007,950),(100000,100000),(100001,100001)] [(951,20008)] (rM oz18) (oM oz18)]]) (G:=[.drop [4],.ren 20008 951,.sort]) Tryz.func167 (by kernel_rfl) (.c oz0<|.c oz1<|.c oz2<|.c oz0<|.c oz4<|.c oz2<|.c oz6<|.c oz7<|.c oz8<|.c oz9<|.c oz10<|.c oz8<|.c oz12<|.c oz10<|.c oz14<|.c oz15<|.c oz10<|.c oz17<|.c oz18<|.n)
def lb_3 (L:Int→List Int) (n:Nod):List Int:=L n.kd++L n.na++L n.no++[IntKind.u8.wrap n.za]++L (n.w.length:Int)++smallL n.w++L (n.b.length:Int)++wideL n.b++L n.qm++L n.qs++[IntKind.u8.wrap n.qz]++[IntKind.u8.wrap n.lo]++[IntKind.u8.wrap n.hi]
theorem lwalk_3 (L:Int→List Int) (n:Nod) (hL:Puts L) (hk:n.kd=3) (hw:n.w.length≤16384) (hb:n.b.length≤16384) (hx:∀ x∈n.b,-2147483648≤x∧x≤2147483647) (hq:In32 n.qm) (hr:In32 n.rm):VM M_ 167 ([.ifc 169 (.ptr 100000 0 0),.ptr 100001 0 0]) ([(100000,.var [.lit (.slice none 0 0)]),(100001,.var (nodC n))]) (.tup []) ([(951,.slc 5 1 ((L n.kd++L n.na++L n.no++[IntKind.u8.wrap n.za]++L (n.w.length:Int)++smallL n.w++L (n.b.length:Int)++wideL n.b++L n.qm++L n.qs++[IntKind.u8.wrap n.qz]++[IntKind.u8.wrap n.lo]++[IntKind.u8.wrap n.hi]).map (row1 .u8))),(100000,.var [.own 951]),(100001,.var (nodC n))]):=by
 have q0:=hL.l n.kd
 have q1:=hL.l n.na
 have q2:=hL.l n.no
 have q3:([IntKind.u8.wrap n.za]).length=1:=rfl
 have q4:=hL.l (n.w.length:Int)
 have q5:(smallL n.w).length=n.w.length:=O_ _
 have q6:=hL.l (n.b.length:Int)
 have q7:=wideL_len n.b hx
 have q8:=hL.l n.qm
 have q9:=hL.l n.qs
 have q10:([IntKind.u8.wrap n.qz]).length=1:=rfl
 have q11:([IntKind.u8.wrap n.lo]).length=1:=rfl
 have q12:([IntKind.u8.wrap n.hi]).length=1:=rfl
 have r0:(L n.kd).length≤500000:=by (try simp only[N_]);omega
 have r1:(L n.kd++L n.na).length≤500000:=by (try simp only[N_]);omega
 have r2:(L n.kd++L n.na++L n.no).length≤500000:=by (try simp only[N_]);omega
 have r3:(L n.kd++L n.na++L n.no++[IntKind.u8.wrap n.za]).length≤500000:=by (try simp only[N_]);omega
 have r4:(L n.kd++L n.na++L n.no++[IntKind.u8.wrap n.za]++L (n.w.length:Int)).length≤500000:=by (try simp only[N_]);omega
 have r5:(L n.kd++L n.na++L n.no++[IntKind.u8.wrap n.za]++L (n.w.length:Int)++smallL n.w).length≤500000:=by (try simp only[N_]);omega
 have r6:(L n.kd++L n.na++L n.no++[IntKind.u8.wrap n.za]++L (n.w.length:Int)++smallL n.w++L (n.b.length:Int)).length≤500000:=by (try simp only[N_]);omega
 have r7:(L n.kd++L n.na++L n.no++[IntKind.u8.wrap n.za]++L (n.w.length:Int)++smallL n.w++L (n.b.length:Int)++wideL n.b).length≤500000:=by (try simp only[N_]);omega
 have r8:(L n.kd++L n.na++L n.no++[IntKind.u8.wrap n.za]++L (n.w.length:Int)++smallL n.w++L (n.b.length:Int)++wideL n.b++L n.qm).length≤500000:=by (try simp only[N_]);omega
 have r9:(L n.kd++L n.na++L n.no++[IntKind.u8.wrap n.za]++L (n.w.length:Int)++smallL n.w++L (n.b.length:Int)++wideL n.b++L n.qm++L n.qs).length≤500000:=by (try simp only[N_]);omega
 have r10:(L n.kd++L n.na++L n.no++[IntKind.u8.wrap n.za]++L (n.w.length:Int)++smallL n.w++L (n.b.length:Int)++wideL n.b++L n.qm++L n.qs++[IntKind.u8.wrap n.qz]).length≤500000:=by (try simp only[N_]);omega
 have r11:(L n.kd++L n.na++L n.no++[IntKind.u8.wrap n.za]++L (n.w.length:Int)++smallL n.w++L (n.b.length:Int)++wideL n.b++L n.qm++L n.qs++[IntKind.u8.wrap n.qz]++[IntKind.u8.wrap n.lo]).length≤500000:=by (try simp only[N_]);omega
 have r12:(L n.kd++L n.na++L n.no++[IntKind.u8.wrap n.za]++L (n.w.length:Int)++smallL n.w++L (n.b.length:Int)++wideL n.b++L n.qm++L n.qs++[IntKind.u8.wrap n.qz]++[IntKind.u8.wrap n.lo]++[IntKind.u8.wrap n.hi]).length≤500000:=by (try simp only[N_]);omega
 clear q0 q1 q2 q3 q4 q5 q6 q7 q8 q9 q10 q11 q12
 have s0:=A_ r0 (show 500000≤900000 by decide)
 have u0:=A_ r0 (show 500000≤1000000 by decide)
 have s1:=A_ r1 (show 500000≤900000 by decide)
 have u1:=A_ r1 (show 500000≤1000000 by decide)
 have s2:=A_ r2 (show 500000≤900000 by decide)
 have u2:=A_ r2 (show 500000≤1000000 by decide)
 have s3:=A_ r3 (show 500000≤900000 by decide)
 have u3:=A_ r3 (show 500000≤1000000 by decide)
 have s4:=A_ r4 (show 500000≤900000 by decide)
 have u4:=A_ r4 (show 500000≤1000000 by decide)
 have s5:=A_ r5 (show 500000≤900000 by decide)
 have u5:=A_ r5 (show 500000≤1000000 by decide)
 have s6:=A_ r6 (show 500000≤900000 by decide)
 have u6:=A_ r6 (show 500000≤1000000 by decide)
 have s7:=A_ r7 (show 500000≤900000 by decide)
 have u7:=A_ r7 (show 500000≤1000000 by decide)
 have s8:=A_ r8 (show 500000≤900000 by decide)
 have u8:=A_ r8 (show 500000≤1000000 by decide)
 have s9:=A_ r9 (show 500000≤900000 by decide)
 have u9:=A_ r9 (show 500000≤1000000 by decide)
 have s10:=A_ r10 (show 500000≤900000 by decide)
 have u10:=A_ r10 (show 500000≤1000000 by decide)
 have s11:=A_ r11 (show 500000≤900000 by decide)
 have u11:=A_ r11 (show 500000≤1000000 by decide)
 have s12:=A_ r12 (show 500000≤900000 by decide)
 have u12:=A_ r12 (show 500000≤1000000 by decide)
 have w5:n.w.length≤100000:=by omega
 have b5:n.b.length≤100000:=by omega
 have oz0:=(show NilNo M_ (169:Nat) "stepwell/pack.number" from (nilNo (f:=92) (by kernel_rfl)))
 have oz1:=@lnum_kd0 (L) (n) (9) hL
 have oz2:=(show MethodIs M_ (169:Nat) "stepwell/pack.number" (methF M_ (169:Nat) "stepwell/pack.number") from (methodIs (by kernel_rfl)))
 have oz4:=@lnum_na (L n.kd) (L) (n) (1024) u0 hL
 have oz6:=@of_3 (n.kd) hk
 have oz7:=@lsides_3 (L n.kd++L n.na) (L) (n) s1 hL hk
 have oz8:=(show true=true by with_reducible rfl)
 have oz9:=@lone_za (L n.kd++L n.na++L n.no) (n) u2
 have oz10:=(show false=false by with_reducible rfl)
 have oz12:=@llists_v (L n.kd++L n.na++L n.no++[IntKind.u8.wrap n.za]) (L) (n) r3 hL w5 hb hx
 have oz14:=@lscale_q (L n.kd++L n.na++L n.no++[IntKind.u8.wrap n.za]++L (n.w.length:Int)++smallL n.w++L (n.b.length:Int)++wideL n.b) (L) (n) s7 hL hq
 have oz15:=@lone_qz (L n.kd++L n.na++L n.no++[IntKind.u8.wrap n.za]++L (n.w.length:Int)++smallL n.w++L (n.b.length:Int)++wideL n.b++L n.qm++L n.qs) (n) u9
 have oz17:=@lone_lo (L n.kd++L n.na++L n.no++[IntKind.u8.wrap n.za]++L (n.w.length:Int)++smallL n.w++L (n.b.length:Int)++wideL n.b++L n.qm++L n.qs++[IntKind.u8.wrap n.qz]) (n) u10
 have oz18:=@lone_hi (L n.kd++L n.na++L n.no++[IntKind.u8.wrap n.za]++L (n.w.length:Int)++smallL n.w++L (n.b.length:Int)++wideL n.b++L n.qm++L n.qs++[IntKind.u8.wrap n.qz]++[IntKind.u8.wrap n.lo]) (n) u11
 exact VM.run (fn:=Tryz.f167) (W:=[.r [] [.callm [(100000,100000),(100001,100001)] [(951,20000)] (rM oz1) (oM oz1)],.r [] [.callm [(20000,950),(100000,100000),(100001,100001)] [(951,20001)] (rM oz4) (oM oz4)],.r [] [.callr (rO oz6)],.r [] [.callm [(20001,950),(100000,100000),(100001,100001)] [(951,20002)] (rM oz7) (oM oz7)],r_,b_,.r [] [.callm [(20002,950),(100000,100000),(100001,100001)] [(951,20003)] (rM oz9) (oM oz9)],r_,d_,r_,b_,.r [] [.callm [(20003,950),(100000,100000),(100001,100001)] [(951,20004)] (rM oz12) (oM oz12)],r_,d_,.r [] [.callm [(20004,950),(100000,100000),(100001,100001)] [(951,20005)] (rM oz14) (oM oz14)],.r [] [.callm [(20005,950),(100000,100000),(100001,100001)] [(951,20006)] (rM oz15) (oM oz15)],r_,d_,.r [] [.callm [(20006,950),(100000,100000),(100001,100001)] [(951,20007)] (rM oz17) (oM oz17)],.r [] [.callm [(20007,950),(100000,100000),(100001,100001)] [(951,20008)] (rM oz18) (oM oz18)]]) (G:=[.drop [4],.ren 20008 951,.sort]) Tryz.func167 (by kernel_rfl) (.c oz0<|.c oz1<|.c oz2<|.c oz0<|.c oz4<|.c oz2<|.c oz6<|.c oz7<|.c oz8<|.c oz9<|.c oz10<|.c oz8<|.c oz12<|.c oz10<|.c oz14<|.c oz15<|.c oz10<|.c oz17<|.c oz18<|.n)
def lb_4 (L:Int→List Int) (n:Nod):List Int:=L n.kd++L n.na++L n.nk++L n.ns++L n.np
theorem lwalk_4 (L:Int→List Int) (n:Nod) (hL:Puts L) (hk:n.kd=4∨n.kd=5) (hw:n.w.length≤16384) (hb:n.b.length≤16384) (hx:∀ x∈n.b,-2147483648≤x∧x≤2147483647) (hq:In32 n.qm) (hr:In32 n.rm):VM M_ 167 ([.ifc 169 (.ptr 100000 0 0),.ptr 100001 0 0]) ([(100000,.var [.lit (.slice none 0 0)]),(100001,.var (nodC n))]) (.tup []) ([(951,.slc 5 1 ((L n.kd++L n.na++L n.nk++L n.ns++L n.np).map (row1 .u8))),(100000,.var [.own 951]),(100001,.var (nodC n))]):=by
 have q0:=hL.l n.kd
 have q1:=hL.l n.na
 have q2:=hL.l n.nk
 have q3:=hL.l n.ns
 have q4:=hL.l n.np
 have r0:(L n.kd).length≤500000:=by (try simp only[N_]);omega
 have r1:(L n.kd++L n.na).length≤500000:=by (try simp only[N_]);omega
 have r2:(L n.kd++L n.na++L n.nk).length≤500000:=by (try simp only[N_]);omega
 have r3:(L n.kd++L n.na++L n.nk++L n.ns).length≤500000:=by (try simp only[N_]);omega
 have r4:(L n.kd++L n.na++L n.nk++L n.ns++L n.np).length≤500000:=by (try simp only[N_]);omega
 clear q0 q1 q2 q3 q4
 have s0:=A_ r0 (show 500000≤900000 by decide)
 have u0:=A_ r0 (show 500000≤1000000 by decide)
 have s1:=A_ r1 (show 500000≤900000 by decide)
 have u1:=A_ r1 (show 500000≤1000000 by decide)
 have s2:=A_ r2 (show 500000≤900000 by decide)
 have u2:=A_ r2 (show 500000≤1000000 by decide)
 have s3:=A_ r3 (show 500000≤900000 by decide)
 have u3:=A_ r3 (show 500000≤1000000 by decide)
 have s4:=A_ r4 (show 500000≤900000 by decide)
 have u4:=A_ r4 (show 500000≤1000000 by decide)
 have w5:n.w.length≤100000:=by omega
 have b5:n.b.length≤100000:=by omega
 have oz0:=(show NilNo M_ (169:Nat) "stepwell/pack.number" from (nilNo (f:=92) (by kernel_rfl)))
 have oz1:=@lnum_kd0 (L) (n) (9) hL
 have oz2:=(show MethodIs M_ (169:Nat) "stepwell/pack.number" (methF M_ (169:Nat) "stepwell/pack.number") from (methodIs (by kernel_rfl)))
 have oz4:=@lnum_na (L n.kd) (L) (n) (1024) u0 hL
 have oz6:=@of_4 (n.kd) hk
 have oz7:=@lsides_4 (L n.kd++L n.na) (L) (n) s1 hL hk
 have oz8:=(show false=false by with_reducible rfl)
 exact VM.run (fn:=Tryz.f167) (W:=[.r [] [.callm [(100000,100000),(100001,100001)] [(951,20000)] (rM oz1) (oM oz1)],.r [] [.callm [(20000,950),(100000,100000),(100001,100001)] [(951,20001)] (rM oz4) (oM oz4)],.r [] [.callr (rO oz6)],.r [] [.callm [(20001,950),(100000,100000),(100001,100001)] [(951,20002)] (rM oz7) (oM oz7)],r_,d_,r_,d_,r_,d_,r_,b_]) (G:=[.drop [4],.ren 20002 951,.sort]) Tryz.func167 (by kernel_rfl) (.c oz0<|.c oz1<|.c oz2<|.c oz0<|.c oz4<|.c oz2<|.c oz6<|.c oz7<|.c oz8<|.c oz8<|.c oz8<|.c (show true=true by with_reducible rfl)<|.n)
def lb_6 (L:Int→List Int) (n:Nod):List Int:=L n.kd++L n.na++L n.nb++[IntKind.u8.wrap n.za]++[IntKind.u8.wrap n.zb]++L n.qm++L n.qs++[IntKind.u8.wrap n.qz]++L n.rm++L n.rs++[IntKind.u8.wrap n.lo]++[IntKind.u8.wrap n.hi]
theorem lwalk_6 (L:Int→List Int) (n:Nod) (hL:Puts L) (hk:n.kd=6) (hw:n.w.length≤16384) (hb:n.b.length≤16384) (hx:∀ x∈n.b,-2147483648≤x∧x≤2147483647) (hq:In32 n.qm) (hr:In32 n.rm):VM M_ 167 ([.ifc 169 (.ptr 100000 0 0),.ptr 100001 0 0]) ([(100000,.var [.lit (.slice none 0 0)]),(100001,.var (nodC n))]) (.tup []) ([(951,.slc 5 1 ((L n.kd++L n.na++L n.nb++[IntKind.u8.wrap n.za]++[IntKind.u8.wrap n.zb]++L n.qm++L n.qs++[IntKind.u8.wrap n.qz]++L n.rm++L n.rs++[IntKind.u8.wrap n.lo]++[IntKind.u8.wrap n.hi]).map (row1 .u8))),(100000,.var [.own 951]),(100001,.var (nodC n))]):=by
 have q0:=hL.l n.kd
 have q1:=hL.l n.na
 have q2:=hL.l n.nb
 have q3:([IntKind.u8.wrap n.za]).length=1:=rfl
 have q4:([IntKind.u8.wrap n.zb]).length=1:=rfl
 have q5:=hL.l n.qm
 have q6:=hL.l n.qs
 have q7:([IntKind.u8.wrap n.qz]).length=1:=rfl
 have q8:=hL.l n.rm
 have q9:=hL.l n.rs
 have q10:([IntKind.u8.wrap n.lo]).length=1:=rfl
 have q11:([IntKind.u8.wrap n.hi]).length=1:=rfl
 have r0:(L n.kd).length≤500000:=by (try simp only[N_]);omega
 have r1:(L n.kd++L n.na).length≤500000:=by (try simp only[N_]);omega
 have r2:(L n.kd++L n.na++L n.nb).length≤500000:=by (try simp only[N_]);omega
 have r3:(L n.kd++L n.na++L n.nb++[IntKind.u8.wrap n.za]).length≤500000:=by (try simp only[N_]);omega
 have r4:(L n.kd++L n.na++L n.nb++[IntKind.u8.wrap n.za]++[IntKind.u8.wrap n.zb]).length≤500000:=by (try simp only[N_]);omega
 have r5:(L n.kd++L n.na++L n.nb++[IntKind.u8.wrap n.za]++[IntKind.u8.wrap n.zb]++L n.qm).length≤500000:=by (try simp only[N_]);omega
 have r6:(L n.kd++L n.na++L n.nb++[IntKind.u8.wrap n.za]++[IntKind.u8.wrap n.zb]++L n.qm++L n.qs).length≤500000:=by (try simp only[N_]);omega
 have r7:(L n.kd++L n.na++L n.nb++[IntKind.u8.wrap n.za]++[IntKind.u8.wrap n.zb]++L n.qm++L n.qs++[IntKind.u8.wrap n.qz]).length≤500000:=by (try simp only[N_]);omega
 have r8:(L n.kd++L n.na++L n.nb++[IntKind.u8.wrap n.za]++[IntKind.u8.wrap n.zb]++L n.qm++L n.qs++[IntKind.u8.wrap n.qz]++L n.rm).length≤500000:=by (try simp only[N_]);omega
 have r9:(L n.kd++L n.na++L n.nb++[IntKind.u8.wrap n.za]++[IntKind.u8.wrap n.zb]++L n.qm++L n.qs++[IntKind.u8.wrap n.qz]++L n.rm++L n.rs).length≤500000:=by (try simp only[N_]);omega
 have r10:(L n.kd++L n.na++L n.nb++[IntKind.u8.wrap n.za]++[IntKind.u8.wrap n.zb]++L n.qm++L n.qs++[IntKind.u8.wrap n.qz]++L n.rm++L n.rs++[IntKind.u8.wrap n.lo]).length≤500000:=by (try simp only[N_]);omega
 have r11:(L n.kd++L n.na++L n.nb++[IntKind.u8.wrap n.za]++[IntKind.u8.wrap n.zb]++L n.qm++L n.qs++[IntKind.u8.wrap n.qz]++L n.rm++L n.rs++[IntKind.u8.wrap n.lo]++[IntKind.u8.wrap n.hi]).length≤500000:=by (try simp only[N_]);omega
 clear q0 q1 q2 q3 q4 q5 q6 q7 q8 q9 q10 q11
 have s0:=A_ r0 (show 500000≤900000 by decide)
 have u0:=A_ r0 (show 500000≤1000000 by decide)
 have s1:=A_ r1 (show 500000≤900000 by decide)
 have u1:=A_ r1 (show 500000≤1000000 by decide)
 have s2:=A_ r2 (show 500000≤900000 by decide)
 have u2:=A_ r2 (show 500000≤1000000 by decide)
 have s3:=A_ r3 (show 500000≤900000 by decide)
 have u3:=A_ r3 (show 500000≤1000000 by decide)
 have s4:=A_ r4 (show 500000≤900000 by decide)
 have u4:=A_ r4 (show 500000≤1000000 by decide)
 have s5:=A_ r5 (show 500000≤900000 by decide)
 have u5:=A_ r5 (show 500000≤1000000 by decide)
 have s6:=A_ r6 (show 500000≤900000 by decide)
 have u6:=A_ r6 (show 500000≤1000000 by decide)
 have s7:=A_ r7 (show 500000≤900000 by decide)
 have u7:=A_ r7 (show 500000≤1000000 by decide)
 have s8:=A_ r8 (show 500000≤900000 by decide)
 have u8:=A_ r8 (show 500000≤1000000 by decide)
 have s9:=A_ r9 (show 500000≤900000 by decide)
 have u9:=A_ r9 (show 500000≤1000000 by decide)
 have s10:=A_ r10 (show 500000≤900000 by decide)
 have u10:=A_ r10 (show 500000≤1000000 by decide)
 have s11:=A_ r11 (show 500000≤900000 by decide)
 have u11:=A_ r11 (show 500000≤1000000 by decide)
 have w5:n.w.length≤100000:=by omega
 have b5:n.b.length≤100000:=by omega
 have oz0:=(show NilNo M_ (169:Nat) "stepwell/pack.number" from (nilNo (f:=92) (by kernel_rfl)))
 have oz1:=@lnum_kd0 (L) (n) (9) hL
 have oz2:=(show MethodIs M_ (169:Nat) "stepwell/pack.number" (methF M_ (169:Nat) "stepwell/pack.number") from (methodIs (by kernel_rfl)))
 have oz4:=@lnum_na (L n.kd) (L) (n) (1024) u0 hL
 have oz6:=@of_6 (n.kd) hk
 have oz7:=@lsides_6 (L n.kd++L n.na) (L) (n) s1 hL hk
 have oz8:=(show true=true by with_reducible rfl)
 have oz9:=@lone_za (L n.kd++L n.na++L n.nb) (n) u2
 have oz11:=@lone_zb (L n.kd++L n.na++L n.nb++[IntKind.u8.wrap n.za]) (n) u3
 have oz12:=(show false=false by with_reducible rfl)
 have oz14:=@lscale_q (L n.kd++L n.na++L n.nb++[IntKind.u8.wrap n.za]++[IntKind.u8.wrap n.zb]) (L) (n) s4 hL hq
 have oz15:=@lone_qz (L n.kd++L n.na++L n.nb++[IntKind.u8.wrap n.za]++[IntKind.u8.wrap n.zb]++L n.qm++L n.qs) (n) u6
 have oz17:=@lscale_r (L n.kd++L n.na++L n.nb++[IntKind.u8.wrap n.za]++[IntKind.u8.wrap n.zb]++L n.qm++L n.qs++[IntKind.u8.wrap n.qz]) (L) (n) s7 hL hr
 have oz18:=@lone_lo (L n.kd++L n.na++L n.nb++[IntKind.u8.wrap n.za]++[IntKind.u8.wrap n.zb]++L n.qm++L n.qs++[IntKind.u8.wrap n.qz]++L n.rm++L n.rs) (n) u9
 have oz19:=@lone_hi (L n.kd++L n.na++L n.nb++[IntKind.u8.wrap n.za]++[IntKind.u8.wrap n.zb]++L n.qm++L n.qs++[IntKind.u8.wrap n.qz]++L n.rm++L n.rs++[IntKind.u8.wrap n.lo]) (n) u10
 exact VM.run (fn:=Tryz.f167) (W:=[.r [] [.callm [(100000,100000),(100001,100001)] [(951,20000)] (rM oz1) (oM oz1)],.r [] [.callm [(20000,950),(100000,100000),(100001,100001)] [(951,20001)] (rM oz4) (oM oz4)],.r [] [.callr (rO oz6)],.r [] [.callm [(20001,950),(100000,100000),(100001,100001)] [(951,20002)] (rM oz7) (oM oz7)],r_,b_,.r [] [.callm [(20002,950),(100000,100000),(100001,100001)] [(951,20003)] (rM oz9) (oM oz9)],r_,b_,.r [] [.callm [(20003,950),(100000,100000),(100001,100001)] [(951,20004)] (rM oz11) (oM oz11)],r_,d_,r_,d_,.r [] [.callm [(20004,950),(100000,100000),(100001,100001)] [(951,20005)] (rM oz14) (oM oz14)],.r [] [.callm [(20005,950),(100000,100000),(100001,100001)] [(951,20006)] (rM oz15) (oM oz15)],r_,b_,.r [] [.callm [(20006,950),(100000,100000),(100001,100001)] [(951,20007)] (rM oz17) (oM oz17)],.r [] [.callm [(20007,950),(100000,100000),(100001,100001)] [(951,20008)] (rM oz18) (oM oz18)],.r [] [.callm [(20008,950),(100000,100000),(100001,100001)] [(951,20009)] (rM oz19) (oM oz19)]]) (G:=[.drop [4],.ren 20009 951,.sort]) Tryz.func167 (by kernel_rfl) (.c oz0<|.c oz1<|.c oz2<|.c oz0<|.c oz4<|.c oz2<|.c oz6<|.c oz7<|.c oz8<|.c oz9<|.c oz8<|.c oz11<|.c oz12<|.c oz12<|.c oz14<|.c oz15<|.c oz8<|.c oz17<|.c oz18<|.c oz19<|.n)
def lb_7 (L:Int→List Int) (n:Nod):List Int:=L n.kd++L n.na++[IntKind.u8.wrap n.za]++L n.qm++L n.qs++[IntKind.u8.wrap n.qz]++[IntKind.u8.wrap n.lo]++[IntKind.u8.wrap n.hi]
theorem lwalk_7 (L:Int→List Int) (n:Nod) (hL:Puts L) (hk:n.kd=7) (hw:n.w.length≤16384) (hb:n.b.length≤16384) (hx:∀ x∈n.b,-2147483648≤x∧x≤2147483647) (hq:In32 n.qm) (hr:In32 n.rm):VM M_ 167 ([.ifc 169 (.ptr 100000 0 0),.ptr 100001 0 0]) ([(100000,.var [.lit (.slice none 0 0)]),(100001,.var (nodC n))]) (.tup []) ([(951,.slc 5 1 ((L n.kd++L n.na++[IntKind.u8.wrap n.za]++L n.qm++L n.qs++[IntKind.u8.wrap n.qz]++[IntKind.u8.wrap n.lo]++[IntKind.u8.wrap n.hi]).map (row1 .u8))),(100000,.var [.own 951]),(100001,.var (nodC n))]):=by
 have q0:=hL.l n.kd
 have q1:=hL.l n.na
 have q2:([IntKind.u8.wrap n.za]).length=1:=rfl
 have q3:=hL.l n.qm
 have q4:=hL.l n.qs
 have q5:([IntKind.u8.wrap n.qz]).length=1:=rfl
 have q6:([IntKind.u8.wrap n.lo]).length=1:=rfl
 have q7:([IntKind.u8.wrap n.hi]).length=1:=rfl
 have r0:(L n.kd).length≤500000:=by (try simp only[N_]);omega
 have r1:(L n.kd++L n.na).length≤500000:=by (try simp only[N_]);omega
 have r2:(L n.kd++L n.na++[IntKind.u8.wrap n.za]).length≤500000:=by (try simp only[N_]);omega
 have r3:(L n.kd++L n.na++[IntKind.u8.wrap n.za]++L n.qm).length≤500000:=by (try simp only[N_]);omega
 have r4:(L n.kd++L n.na++[IntKind.u8.wrap n.za]++L n.qm++L n.qs).length≤500000:=by (try simp only[N_]);omega
 have r5:(L n.kd++L n.na++[IntKind.u8.wrap n.za]++L n.qm++L n.qs++[IntKind.u8.wrap n.qz]).length≤500000:=by (try simp only[N_]);omega
 have r6:(L n.kd++L n.na++[IntKind.u8.wrap n.za]++L n.qm++L n.qs++[IntKind.u8.wrap n.qz]++[IntKind.u8.wrap n.lo]).length≤500000:=by (try simp only[N_]);omega
 have r7:(L n.kd++L n.na++[IntKind.u8.wrap n.za]++L n.qm++L n.qs++[IntKind.u8.wrap n.qz]++[IntKind.u8.wrap n.lo]++[IntKind.u8.wrap n.hi]).length≤500000:=by (try simp only[N_]);omega
 clear q0 q1 q2 q3 q4 q5 q6 q7
 have s0:=A_ r0 (show 500000≤900000 by decide)
 have u0:=A_ r0 (show 500000≤1000000 by decide)
 have s1:=A_ r1 (show 500000≤900000 by decide)
 have u1:=A_ r1 (show 500000≤1000000 by decide)
 have s2:=A_ r2 (show 500000≤900000 by decide)
 have u2:=A_ r2 (show 500000≤1000000 by decide)
 have s3:=A_ r3 (show 500000≤900000 by decide)
 have u3:=A_ r3 (show 500000≤1000000 by decide)
 have s4:=A_ r4 (show 500000≤900000 by decide)
 have u4:=A_ r4 (show 500000≤1000000 by decide)
 have s5:=A_ r5 (show 500000≤900000 by decide)
 have u5:=A_ r5 (show 500000≤1000000 by decide)
 have s6:=A_ r6 (show 500000≤900000 by decide)
 have u6:=A_ r6 (show 500000≤1000000 by decide)
 have s7:=A_ r7 (show 500000≤900000 by decide)
 have u7:=A_ r7 (show 500000≤1000000 by decide)
 have w5:n.w.length≤100000:=by omega
 have b5:n.b.length≤100000:=by omega
 have oz0:=(show NilNo M_ (169:Nat) "stepwell/pack.number" from (nilNo (f:=92) (by kernel_rfl)))
 have oz1:=@lnum_kd0 (L) (n) (9) hL
 have oz2:=(show MethodIs M_ (169:Nat) "stepwell/pack.number" (methF M_ (169:Nat) "stepwell/pack.number") from (methodIs (by kernel_rfl)))
 have oz4:=@lnum_na (L n.kd) (L) (n) (1024) u0 hL
 have oz6:=@of_7 (n.kd) hk
 have oz7:=@lsides_7 (L n.kd++L n.na) (L) (n) s1 hL hk
 have oz9:=@lone_za (L n.kd++L n.na) (n) u1
 have oz10:=(show false=false by with_reducible rfl)
 have oz13:=@lscale_q (L n.kd++L n.na++[IntKind.u8.wrap n.za]) (L) (n) s2 hL hq
 have oz14:=@lone_qz (L n.kd++L n.na++[IntKind.u8.wrap n.za]++L n.qm++L n.qs) (n) u4
 have oz16:=@lone_lo (L n.kd++L n.na++[IntKind.u8.wrap n.za]++L n.qm++L n.qs++[IntKind.u8.wrap n.qz]) (n) u5
 have oz17:=@lone_hi (L n.kd++L n.na++[IntKind.u8.wrap n.za]++L n.qm++L n.qs++[IntKind.u8.wrap n.qz]++[IntKind.u8.wrap n.lo]) (n) u6
 exact VM.run (fn:=Tryz.f167) (W:=[.r [] [.callm [(100000,100000),(100001,100001)] [(951,20000)] (rM oz1) (oM oz1)],.r [] [.callm [(20000,950),(100000,100000),(100001,100001)] [(951,20001)] (rM oz4) (oM oz4)],.r [] [.callr (rO oz6)],.r [] [.callm [(20001,950),(100000,100000),(100001,100001)] [(950,20002)] (rM oz7) (oM oz7)],r_,b_,.r [] [.callm [(20002,950),(100000,100000),(100001,100001)] [(951,20003)] (rM oz9) (oM oz9)],r_,d_,r_,d_,r_,d_,.r [] [.callm [(20003,950),(100000,100000),(100001,100001)] [(951,20004)] (rM oz13) (oM oz13)],.r [] [.callm [(20004,950),(100000,100000),(100001,100001)] [(951,20005)] (rM oz14) (oM oz14)],r_,d_,.r [] [.callm [(20005,950),(100000,100000),(100001,100001)] [(951,20006)] (rM oz16) (oM oz16)],.r [] [.callm [(20006,950),(100000,100000),(100001,100001)] [(951,20007)] (rM oz17) (oM oz17)]]) (G:=[.drop [4],.ren 20007 951,.sort]) Tryz.func167 (by kernel_rfl) (.c oz0<|.c oz1<|.c oz2<|.c oz0<|.c oz4<|.c oz2<|.c oz6<|.c oz7<|.c (show true=true by with_reducible rfl)<|.c oz9<|.c oz10<|.c oz10<|.c oz10<|.c oz13<|.c oz14<|.c oz10<|.c oz16<|.c oz17<|.n)
def lb_8 (L:Int→List Int) (n:Nod):List Int:=L n.kd++L n.na++L n.np++[IntKind.u8.wrap n.za]
theorem lwalk_8 (L:Int→List Int) (n:Nod) (hL:Puts L) (hk:n.kd=8) (hw:n.w.length≤16384) (hb:n.b.length≤16384) (hx:∀ x∈n.b,-2147483648≤x∧x≤2147483647) (hq:In32 n.qm) (hr:In32 n.rm):VM M_ 167 ([.ifc 169 (.ptr 100000 0 0),.ptr 100001 0 0]) ([(100000,.var [.lit (.slice none 0 0)]),(100001,.var (nodC n))]) (.tup []) ([(951,.slc 5 1 ((L n.kd++L n.na++L n.np++[IntKind.u8.wrap n.za]).map (row1 .u8))),(100000,.var [.own 951]),(100001,.var (nodC n))]):=by
 have q0:=hL.l n.kd
 have q1:=hL.l n.na
 have q2:=hL.l n.np
 have q3:([IntKind.u8.wrap n.za]).length=1:=rfl
 have r0:(L n.kd).length≤500000:=by (try simp only[N_]);omega
 have r1:(L n.kd++L n.na).length≤500000:=by (try simp only[N_]);omega
 have r2:(L n.kd++L n.na++L n.np).length≤500000:=by (try simp only[N_]);omega
 have r3:(L n.kd++L n.na++L n.np++[IntKind.u8.wrap n.za]).length≤500000:=by (try simp only[N_]);omega
 clear q0 q1 q2 q3
 have s0:=A_ r0 (show 500000≤900000 by decide)
 have u0:=A_ r0 (show 500000≤1000000 by decide)
 have s1:=A_ r1 (show 500000≤900000 by decide)
 have u1:=A_ r1 (show 500000≤1000000 by decide)
 have s2:=A_ r2 (show 500000≤900000 by decide)
 have u2:=A_ r2 (show 500000≤1000000 by decide)
 have s3:=A_ r3 (show 500000≤900000 by decide)
 have u3:=A_ r3 (show 500000≤1000000 by decide)
 have w5:n.w.length≤100000:=by omega
 have b5:n.b.length≤100000:=by omega
 have oz0:=(show NilNo M_ (169:Nat) "stepwell/pack.number" from (nilNo (f:=92) (by kernel_rfl)))
 have oz1:=@lnum_kd0 (L) (n) (9) hL
 have oz2:=(show MethodIs M_ (169:Nat) "stepwell/pack.number" (methF M_ (169:Nat) "stepwell/pack.number") from (methodIs (by kernel_rfl)))
 have oz4:=@lnum_na (L n.kd) (L) (n) (1024) u0 hL
 have oz6:=@of_8 (n.kd) hk
 have oz7:=@lsides_8 (L n.kd++L n.na) (L) (n) s1 hL hk
 have oz8:=(show true=true by with_reducible rfl)
 have oz9:=@lone_za (L n.kd++L n.na++L n.np) (n) u2
 have oz10:=(show false=false by with_reducible rfl)
 exact VM.run (fn:=Tryz.f167) (W:=[.r [] [.callm [(100000,100000),(100001,100001)] [(951,20000)] (rM oz1) (oM oz1)],.r [] [.callm [(20000,950),(100000,100000),(100001,100001)] [(951,20001)] (rM oz4) (oM oz4)],.r [] [.callr (rO oz6)],.r [] [.callm [(20001,950),(100000,100000),(100001,100001)] [(951,20002)] (rM oz7) (oM oz7)],r_,b_,.r [] [.callm [(20002,950),(100000,100000),(100001,100001)] [(951,20003)] (rM oz9) (oM oz9)],r_,d_,r_,d_,r_,b_]) (G:=[.drop [4],.ren 20003 951,.sort]) Tryz.func167 (by kernel_rfl) (.c oz0<|.c oz1<|.c oz2<|.c oz0<|.c oz4<|.c oz2<|.c oz6<|.c oz7<|.c oz8<|.c oz9<|.c oz10<|.c oz10<|.c oz8<|.n)
def lb_9 (L:Int→List Int) (n:Nod):List Int:=L n.kd++L n.na
theorem lwalk_9 (L:Int→List Int) (n:Nod) (hL:Puts L) (hk:n.kd<1∨8<n.kd) (hw:n.w.length≤16384) (hb:n.b.length≤16384) (hx:∀ x∈n.b,-2147483648≤x∧x≤2147483647) (hq:In32 n.qm) (hr:In32 n.rm):VM M_ 167 ([.ifc 169 (.ptr 100000 0 0),.ptr 100001 0 0]) ([(100000,.var [.lit (.slice none 0 0)]),(100001,.var (nodC n))]) (.tup []) ([(951,.slc 5 1 ((L n.kd++L n.na).map (row1 .u8))),(100000,.var [.own 951]),(100001,.var (nodC n))]):=by
 have q0:=hL.l n.kd
 have q1:=hL.l n.na
 have r0:(L n.kd).length≤500000:=by (try simp only[N_]);omega
 have r1:(L n.kd++L n.na).length≤500000:=by (try simp only[N_]);omega
 clear q0 q1
 have s0:=A_ r0 (show 500000≤900000 by decide)
 have u0:=A_ r0 (show 500000≤1000000 by decide)
 have s1:=A_ r1 (show 500000≤900000 by decide)
 have u1:=A_ r1 (show 500000≤1000000 by decide)
 have w5:n.w.length≤100000:=by omega
 have b5:n.b.length≤100000:=by omega
 have oz0:=(show NilNo M_ (169:Nat) "stepwell/pack.number" from (nilNo (f:=92) (by kernel_rfl)))
 have oz1:=@lnum_kd0 (L) (n) (9) hL
 have oz2:=(show MethodIs M_ (169:Nat) "stepwell/pack.number" (methF M_ (169:Nat) "stepwell/pack.number") from (methodIs (by kernel_rfl)))
 have oz4:=@lnum_na (L n.kd) (L) (n) (1024) u0 hL
 have oz6:=@of_9 (n.kd) hk
 have oz7:=@lsides_9 (L n.kd++L n.na) (L) (n) s1 hL hk
 have oz8:=(show false=false by with_reducible rfl)
 exact VM.run (fn:=Tryz.f167) (W:=[.r [] [.callm [(100000,100000),(100001,100001)] [(951,20000)] (rM oz1) (oM oz1)],.r [] [.callm [(20000,950),(100000,100000),(100001,100001)] [(951,20001)] (rM oz4) (oM oz4)],.r [] [.callr (rO oz6)],.r [] [.callm [(20001,950),(100000,100000),(100001,100001)] [(950,20002)] (rM oz7) (oM oz7)],r_,d_,r_,d_,r_,d_,r_,b_]) (G:=[.drop [4],.ren 20002 951,.sort]) Tryz.func167 (by kernel_rfl) (.c oz0<|.c oz1<|.c oz2<|.c oz0<|.c oz4<|.c oz2<|.c oz6<|.c oz7<|.c oz8<|.c oz8<|.c oz8<|.c (show true=true by with_reducible rfl)<|.n)
def nodeL (L:Int→List Int) (n:Nod):List Int:=if n.kd=1 then lb_1 L n else if n.kd=2 then lb_2 L n else if n.kd=3 then lb_3 L n else if n.kd=4∨n.kd=5 then lb_4 L n else if n.kd=6 then lb_6 L n else if n.kd=7 then lb_7 L n else if n.kd=8 then lb_8 L n else lb_9 L n
theorem lwalk_v (L:Int→List Int) (n:Nod) (hL:Puts L) (hw:n.w.length≤16384) (hb:n.b.length≤16384) (hx:∀ x∈n.b,-2147483648≤x∧x≤2147483647) (hq:In32 n.qm) (hr:In32 n.rm):VM M_ 167 [.ifc 169 (.ptr 100000 0 0),.ptr 100001 0 0] [(100000,.var [.lit (.slice none 0 0)]),(100001,.var (nodC n))] (.tup []) [(951,.slc 5 1 ((nodeL L n).map (row1 .u8))),(100000,.var [.own 951]),(100001,.var (nodC n))]:=by
 by_cases k1:n.kd=1
 ·rw[show nodeL L n=lb_1 L n from by unfold nodeL;rw[i_ k1]]
  exact lwalk_1 L n hL k1 hw hb hx hq hr
 by_cases k2:n.kd=2
 ·rw[show nodeL L n=lb_2 L n from by unfold nodeL;rw[j_ k1,i_ k2]]
  exact lwalk_2 L n hL k2 hw hb hx hq hr
 by_cases k3:n.kd=3
 ·rw[show nodeL L n=lb_3 L n from by unfold nodeL;rw[j_ k1,j_ k2,i_ k3]]
  exact lwalk_3 L n hL k3 hw hb hx hq hr
 by_cases k4:n.kd=4∨n.kd=5
 ·rw[show nodeL L n=lb_4 L n from by unfold nodeL;rw[j_ k1,j_ k2,j_ k3,i_ k4]]
  exact lwalk_4 L n hL k4 hw hb hx hq hr
 by_cases k6:n.kd=6
 ·rw[show nodeL L n=lb_6 L n from by unfold nodeL;rw[j_ k1,j_ k2,j_ k3,j_ k4,i_ k6]]
  exact lwalk_6 L n hL k6 hw hb hx hq hr
 by_cases k7:n.kd=7
 ·rw[show nodeL L n=lb_7 L n from by unfold nodeL;rw[j_ k1,j_ k2,j_ k3,j_ k4,j_ k6,i_ k7]]
  exact lwalk_7 L n hL k7 hw hb hx hq hr
 by_cases k8:n.kd=8
 ·rw[show nodeL L n=lb_8 L n from by unfold nodeL;rw[j_ k1,j_ k2,j_ k3,j_ k4,j_ k6,j_ k7,i_ k8]]
  exact lwalk_8 L n hL k8 hw hb hx hq hr
 rw[show nodeL L n=lb_9 L n from by unfold nodeL;rw[j_ k1,j_ k2,j_ k3,j_ k4,j_ k6,j_ k7,j_ k8]]
 exact lwalk_9 L n hL (by omega) hw hb hx hq hr
def six (n:Nod):List Int:=[n.na,n.nb,n.nk,n.ns,n.np,n.no]
def okI (v:Int):Bool:=decide (0≤v)&&decide (v≤1024)
theorem okI_n {v:Int} (h:okI v≠true):v<0∨1024<v:=by
 false_or_by_contra
 rename_i g
 exact h (by simp only[okI,P_,E_];omega)
def nodeP (n:Nod):List Int×Int:=if checkE n≠0 then ([],checkE n) else if (six n).all okI=false then ([],3) else if 16384<n.w.length∨16384<n.b.length then ([],3) else (nodeL putN n,0)
theorem six_y {n:Nod} (h:(six n).all okI=true):∀ k,k<6→okI ((six n).getD k default)=true:=by
 rw[all_getD] at h;exact h
theorem six_n {n:Nod} (h:(six n).all okI=false):∃ m,m<6∧okI ((six n).getD m default)≠true∧∀ k,k<m→okI ((six n).getD k default)=true:=by
 have:¬ ∀ k,k<6→okI ((six n).getD k default)=true:=fun g=>by
  have:(six n).all okI=true:=by rw[all_getD];exact g
  rw[this] at h;cases h
 false_or_by_contra
 rename_i hn
 refine this fun k hk=>?_
 induction k using Nat.strongRecOn with
 | ind k ih =>
  false_or_by_contra
  rename_i hb
  exact hn ⟨k,hk,hb,fun j hj=>ih j hj (by omega)⟩
def accB (l:List Nod) (B:List Int):Nat→List Int
 | 0=>B
 | k+1=>accB l B k++(nodeP (l.getD k default)).1
theorem nodeR_le (n:Nod) (okn:n.Ok):(nodeP n).1.length≤n.w.length+10*n.b.length+200:=by
 unfold nodeP
 split
 ·exact CG_ _
 ·split
  ·exact CG_ _
  ·split
   ·exact CG_ _
   ·rename_i h
    have hx:=okn.b
    have h8:(smallL n.w).length=n.w.length:=O_ _
    have h32:=wideL_len n.b hx
    have p:∀ x,(putN x).length≤10:=putN_len
    dsimp only
    unfold nodeL
    have p1:=p n.kd;have p2:=p n.na;have p3:=p n.nb;have p4:=p n.nk;have p5:=p n.ns;have p6:=p n.np;have p7:=p n.no;have p8:=p n.qm;have p9:=p n.qs;have pa:=p n.rm;have pb:=p n.rs;have pc:=p (n.w.length:Int);have pd:=p (n.b.length:Int)
    repeat' split
    all_goals (first|unfold lb_1|unfold lb_2|unfold lb_3|unfold lb_4|unfold lb_6|unfold lb_7|unfold lb_8|unfold lb_9)
    all_goals (simp only[N_,AJ_,BI_];omega)
structure Nods (l:List Nod):Prop where
 ok:∀ n∈l,n.Ok
 w:∀ n∈l,n.w.length≤3000∧n.b.length≤3000
theorem accB_le {l:List Nod} (h:Nods l) (B:List Int) {k:Nat} (hk:k≤l.length):(accB l B k).length≤B.length+34000*k:=by
 induction k with
 | zero=>exact AX_ _
 | succ k ih =>
  have a:=ih (by omega)
  have b:=nodeR_le _ (getD_in h.ok (show k<l.length by omega))
  have c:=getD_in h.w (show k<l.length by omega)
  rw[accB,N_];omega
theorem rput_1 (B:List Int) (L:Int→List Int) (x:Int) (hB:B.length≤1000000) (hL:RPuts L):VM M_ 94 ([.own 950,i64 x]) ([(950,.slc 5 1 ((B).map (row1 .u8)))]) (.own 951) ([(951,.slc 5 1 ((B++L x).map (row1 .u8)))]):=by
 have q:=hL.l x
 have oz0:=@rputs_v (L) hL (x)
 exact VM.run (fn:=Tryz.f94) (W:=[r_,.r [] [.w,.callr (rO oz0)]]) (G:=[.ren 9 951,.blk 951 (Blk.slc 5 1 (K_ (row1 .u8) (B++L x))),.sort]) Tryz.func94 (by kernel_rfl) (.c oz0<|.c (show ((K_ (row1 .u8) B).length+(K_ (row1 .u8) (L x)).length)*1≤140737488355328 by (simp only[O_];omega))<|.c (show (K_ (row1 .u8) B).length+(K_ (row1 .u8) (L x)).length≤9223372036854775807 by (simp only[O_];omega))<|.c (show BlkW (Blk.slc 5 1 (K_ (row1 .u8) B++K_ (row1 .u8) (L x))) (Blk.slc 5 1 (K_ (row1 .u8) (B++L x))) from (AE_ (e:=5) (z:=1) (rows_to (row1 .u8) (r:=K_ (row1 .u8) B++K_ (row1 .u8) (L x)) (l:=B++L x) (m:=B++L x) (by first|(simp only[Y_,C_,AO_,AP_,U_,AL_,AM_];done)|rfl|(simp only[Y_,C_,AO_,AP_,U_,AL_,AM_];rfl)) rfl)))<|.n)
theorem rlists_v (B:List Int) (L:Int→List Int) (w b:List Int) (hB:B.length≤500000) (hL:RPuts L) (hw:w.length≤100000) (hb:b.length≤16384) (hx:∀ x∈b,-2147483648≤x∧x≤2147483647):VM M_ 138 ([.own 950,ints .i8 w,ints .i32 b]) ([(950,.slc 5 1 ((B).map (row1 .u8)))]) (.own 951) ([(951,.slc 5 1 ((B++L (w.length:Int)++smallL w++L (b.length:Int)++wideL b).map (row1 .u8)))]):=by
 have q1:=hL.l (w.length:Int)
 have q3:=hL.l (b.length:Int)
 have q2:(smallL w).length=w.length:=O_ _
 have q4:(B++L (w.length:Int)).length=B.length+(L (w.length:Int)).length:=N_
 have q5:(B++L (w.length:Int)++smallL w).length=B.length+(L (w.length:Int)).length+w.length:=by rw[N_,q4,q2]
 have q6:(B++L (w.length:Int)++smallL w++L (b.length:Int)).length=B.length+(L (w.length:Int)).length+w.length+(L (b.length:Int)).length:=by rw[N_,q5]
 have q7:=wideL_len b hx
 have oz0:=@rput_1 (B) (L) (((K_ (row1 .i8) w).length:Int)) (by omega) hL
 have oz1:=@refSmall_v (w) (by omega)
 have oz4:=@VM.pre _ _ ([AV.own 950,i64 ((K_ (row1 .i32) b).length:Int)]) _ ([(950,Blk.slc 5 1 (K_ (row1 .u8) (B++L ((K_ (row1 .i8) w).length:Int))++K_ (row1 .u8) (smallL w)))]) _ _ _ ([GI.blk 950 (Blk.slc 5 1 (K_ (row1 .u8) (B++L ((K_ (row1 .i8) w).length:Int)++smallL w))),GI.sort]) _ (@rput_1 (B++L ((K_ (row1 .i8) w).length:Int)++smallL w) (L) (((K_ (row1 .i32) b).length:Int)) (by (simp only[O_];omega)) hL) (by kernel_rfl) (.c (AE_ (e:=5) (z:=1) (rows_to (row1 .u8) (r:=K_ (row1 .u8) (B++L ((K_ (row1 .i8) w).length:Int))++K_ (row1 .u8) (smallL w)) (l:=B++L ((K_ (row1 .i8) w).length:Int)++smallL w) (m:=B++L ((K_ (row1 .i8) w).length:Int)++smallL w) (by first|(simp only[Y_,C_,AO_,AP_,U_,AL_,AM_];done)|rfl|(simp only[Y_,C_,AO_,AP_,U_,AL_,AM_];rfl)) rfl))<|.n)
 have oz5:=@refWide_v (b) hx (by omega)
 exact VM.run (fn:=Tryz.f138) (W:=[r_,.r [] [.callm [(950,950)] [(951,20000)] (rM oz0) (oM oz0),.callr (rO oz1)],.r [] [.callm [(13,950)] [(951,20001)] (rM oz4) (oM oz4),.callr (rO oz5)]]) (G:=[.ren 20 951,.blk 951 (Blk.slc 5 1 (K_ (row1 .u8) (B++L (w.length:Int)++smallL w++L (b.length:Int)++wideL b))),.sort]) Tryz.func138 (by kernel_rfl) (.c oz0<|.c oz1<|.c (show ((K_ (row1 .u8) (B++L ((K_ (row1 .i8) w).length:Int))).length+(K_ (row1 .u8) (smallL w)).length)*1≤140737488355328 by (simp only[O_];omega))<|.c (show (K_ (row1 .u8) (B++L ((K_ (row1 .i8) w).length:Int))).length+(K_ (row1 .u8) (smallL w)).length≤9223372036854775807 by (simp only[O_];omega))<|.c oz4<|.c oz5<|.c (show ((K_ (row1 .u8) (B++L ((K_ (row1 .i8) w).length:Int)++smallL w++L ((K_ (row1 .i32) b).length:Int))).length+(K_ (row1 .u8) (wideL b)).length)*1≤140737488355328 by (simp only[O_];omega))<|.c (show (K_ (row1 .u8) (B++L ((K_ (row1 .i8) w).length:Int)++smallL w++L ((K_ (row1 .i32) b).length:Int))).length+(K_ (row1 .u8) (wideL b)).length≤9223372036854775807 by (simp only[O_];omega))<|.c (show BlkW (Blk.slc 5 1 (K_ (row1 .u8) (B++L ((K_ (row1 .i8) w).length:Int)++smallL w++L ((K_ (row1 .i32) b).length:Int))++K_ (row1 .u8) (wideL b))) (Blk.slc 5 1 (K_ (row1 .u8) (B++L (w.length:Int)++smallL w++L (b.length:Int)++wideL b))) from (AE_ (e:=5) (z:=1) (rows_to (row1 .u8) (r:=K_ (row1 .u8) (B++L ((K_ (row1 .i8) w).length:Int)++smallL w++L ((K_ (row1 .i32) b).length:Int))++K_ (row1 .u8) (wideL b)) (l:=B++L ((K_ (row1 .i8) w).length:Int)++smallL w++L ((K_ (row1 .i32) b).length:Int)++wideL b) (m:=B++L (w.length:Int)++smallL w++L (b.length:Int)++wideL b) (by first|(simp only[Y_,C_,AO_,AP_,U_,AL_,AM_];done)|rfl|(simp only[Y_,C_,AO_,AP_,U_,AL_,AM_];rfl)) (show (B++L ((K_ (row1 .i8) w).length:Int)++smallL w++L ((K_ (row1 .i32) b).length:Int)++wideL b)=(B++L (w.length:Int)++smallL w++L (b.length:Int)++wideL b) from (by (simp;done))))))<|.n)
theorem tells_1 (k:Int) (h:k=1):VC M_ 163 ([i64 k]) (.agg [bv false,bv true,bv true,bv true,bv true,bv true]):=by
 have oz0:=(show (k==1) = !false by (refine decide_eq_true ?_;omega))
 have oz2:=(show (k==1)=true by (refine decide_eq_true ?_;omega))
 have oz3:=(show true = !false by (simp;done))
 have oz5:=(show true=true by with_reducible rfl)
 exact (VC.run (fn:=Tryz.f163) (W:=[r_,.r [] [f_,f_,e_,f_,f_,e_],.r [] [f_,f_,e_,f_,f_,e_],.r [] [f_,f_,e_,f_,f_,e_,f_,f_,e_,f_,f_,e_,f_,f_,e_]]) (r:=AV.agg [bv (k==6),bv true,bv true,bv true,bv true,bv true]) Tryz.func163 (by kernel_rfl) (.c oz0<|.c oz0<|.c oz2<|.c oz3<|.c oz3<|.c oz5<|.c oz3<|.c oz3<|.c oz5<|.c oz3<|.c oz3<|.c oz5<|.c oz0<|.c oz0<|.c oz2<|.c oz3<|.c oz3<|.c oz5<|.c oz3<|.c oz3<|.c oz5<|.c oz0<|.c oz0<|.c oz2<|.c oz3<|.c oz3<|.c oz5<|.n)).weak (D_ _) (AG_ (.cons (AZ_ (by (refine decide_eq_false ?_;omega))) (.cons (.refl _) (.cons (.refl _) (.cons (.refl _) (.cons (.refl _) (.cons (.refl _) .nil)))))))
theorem tells_2 (k:Int) (h:k=2):VC M_ 163 ([i64 k]) (.agg [bv false,bv true,bv false,bv true,bv true,bv true]):=by
 have oz0:=(show (k==1)=false by (refine decide_eq_false ?_;omega))
 have oz3:=(show (k==2) = !false by (refine decide_eq_true ?_;omega))
 have oz5:=(show (k==2)=true by (refine decide_eq_true ?_;omega))
 have oz6:=(show true = !false by (simp;done))
 have oz8:=(show true=true by with_reducible rfl)
 exact (VC.run (fn:=Tryz.f163) (W:=[r_,.r [] [e_,e_,f_,f_,f_,e_],.r [] [f_,f_,e_,f_,f_,e_],.r [] [e_,e_,f_,f_,f_,e_,f_,f_,e_,e_,e_,f_,f_,f_,e_]]) (r:=AV.agg [bv (k==6),bv true,bv (k==3),bv true,bv true,bv true]) Tryz.func163 (by kernel_rfl) (.c oz0<|.c oz0<|.c oz0<|.c oz3<|.c oz3<|.c oz5<|.c oz6<|.c oz6<|.c oz8<|.c oz6<|.c oz6<|.c oz8<|.c oz0<|.c oz0<|.c oz0<|.c oz3<|.c oz3<|.c oz5<|.c oz6<|.c oz6<|.c oz8<|.c oz0<|.c oz0<|.c oz0<|.c oz6<|.c oz6<|.c oz8<|.n)).weak (D_ _) (AG_ (.cons (AZ_ (by (refine decide_eq_false ?_;omega))) (.cons (.refl _) (.cons (AZ_ (by (refine decide_eq_false ?_;omega))) (.cons (.refl _) (.cons (.refl _) (.cons (.refl _) .nil)))))))
theorem tells_3 (k:Int) (h:k=3):VC M_ 163 ([i64 k]) (.agg [bv false,bv false,bv true,bv true,bv true,bv true]):=by
 have oz0:=(show (k==1)=false by (refine decide_eq_false ?_;omega))
 have oz3:=(show (k==2)=false by (refine decide_eq_false ?_;omega))
 have oz6:=(show (k==3) = !false by (refine decide_eq_true ?_;omega))
 have oz9:=(show true = !false by (simp;done))
 have oz11:=(show true=true by with_reducible rfl)
 have oz18:=(show (k==4)=false by (refine decide_eq_false ?_;omega))
 exact (VC.run (fn:=Tryz.f163) (W:=[r_,.r [] [e_,e_,f_,e_,e_,f_],.r [] [f_,f_,e_,f_,f_,e_],.r [] [e_,e_,f_,e_,e_,f_,e_,e_,f_,e_,e_,f_,f_,f_,e_]]) (r:=AV.agg [bv (k==6),bv (k==5),bv (k==3),bv true,bv (k==3),bv true]) Tryz.func163 (by kernel_rfl) (.c oz0<|.c oz0<|.c oz0<|.c oz3<|.c oz3<|.c oz3<|.c oz6<|.c oz6<|.c (show (k==3)=true by (refine decide_eq_true ?_;omega))<|.c oz9<|.c oz9<|.c oz11<|.c oz0<|.c oz0<|.c oz0<|.c oz3<|.c oz3<|.c oz3<|.c oz18<|.c oz18<|.c oz18<|.c oz0<|.c oz0<|.c oz0<|.c oz9<|.c oz9<|.c oz11<|.n)).weak (D_ _) (AG_ (.cons (AZ_ (by (refine decide_eq_false ?_;omega))) (.cons (AZ_ (by (refine decide_eq_false ?_;omega))) (.cons (AZ_ (by (refine decide_eq_true ?_;omega))) (.cons (.refl _) (.cons (AZ_ (by (refine decide_eq_true ?_;omega))) (.cons (.refl _) .nil)))))))
theorem tells_4 (k:Int) (h:k=4∨k=5):VC M_ 163 ([i64 k]) (.agg [bv false,bv true,bv false,bv false,bv false,bv false]):=by
 have oz0:=(show (k==1)=false by (refine decide_eq_false ?_;omega))
 have oz3:=(show (k==2)=false by (refine decide_eq_false ?_;omega))
 have oz6:=(show (k==3)=false by (refine decide_eq_false ?_;omega))
 have oz9:=(show (k==6)=false by (refine decide_eq_false ?_;omega))
 have oz21:=(show (k==7)=false by (refine decide_eq_false ?_;omega))
 exact (VC.run (fn:=Tryz.f163) (W:=[r_,.r [] [e_,e_,f_,e_,e_,f_],.r [] [e_,e_,f_,e_,e_,f_],.r [] [e_,e_,f_,e_,e_,f_,o_,o_,.sel 1,e_,e_,f_,e_,e_,f_]]) (r:=AV.agg [bv (k==6),bv (k==4 || k==5),bv (k==3),bv (k==8),bv (k==3),bv (k==7)]) Tryz.func163 (by kernel_rfl) (.c oz0<|.c oz0<|.c oz0<|.c oz3<|.c oz3<|.c oz3<|.c oz6<|.c oz6<|.c oz6<|.c oz9<|.c oz9<|.c oz9<|.c oz0<|.c oz0<|.c oz0<|.c oz3<|.c oz3<|.c oz3<|.c oz0<|.c oz0<|.c oz0<|.c oz21<|.c oz21<|.c oz21<|.n)).weak (D_ _) (AG_ (.cons (AZ_ (by (refine decide_eq_false ?_;omega))) (.cons (AZ_ (by (simp;omega))) (.cons (AZ_ (by (refine decide_eq_false ?_;omega))) (.cons (AZ_ (by (refine decide_eq_false ?_;omega))) (.cons (AZ_ (by (refine decide_eq_false ?_;omega))) (.cons (AZ_ (by (refine decide_eq_false ?_;omega))) .nil)))))))
theorem tells_6 (k:Int) (h:k=6):VC M_ 163 ([i64 k]) (.agg [bv true,bv false,bv false,bv true,bv false,bv true]):=by
 have oz0:=(show (k==1)=false by (refine decide_eq_false ?_;omega))
 have oz3:=(show (k==2)=false by (refine decide_eq_false ?_;omega))
 have oz6:=(show (k==3)=false by (refine decide_eq_false ?_;omega))
 have oz9:=(show (k==6) = !false by (refine decide_eq_true ?_;omega))
 have oz18:=(show (k==4)=false by (refine decide_eq_false ?_;omega))
 have oz24:=(show true = !false by (simp;done))
 exact (VC.run (fn:=Tryz.f163) (W:=[r_,.r [] [e_,e_,f_,e_,e_,f_],.r [] [e_,e_,f_,f_,f_,e_],.r [] [e_,e_,f_,e_,e_,f_,e_,e_,f_,e_,e_,f_,f_,f_,e_]]) (r:=AV.agg [bv (k==6),bv (k==5),bv (k==3),bv true,bv (k==3),bv true]) Tryz.func163 (by kernel_rfl) (.c oz0<|.c oz0<|.c oz0<|.c oz3<|.c oz3<|.c oz3<|.c oz6<|.c oz6<|.c oz6<|.c oz9<|.c oz9<|.c (show (k==6)=true by (refine decide_eq_true ?_;omega))<|.c oz0<|.c oz0<|.c oz0<|.c oz3<|.c oz3<|.c oz3<|.c oz18<|.c oz18<|.c oz18<|.c oz0<|.c oz0<|.c oz0<|.c oz24<|.c oz24<|.c (show true=true by with_reducible rfl)<|.n)).weak (D_ _) (AG_ (.cons (AZ_ (by (refine decide_eq_true ?_;omega))) (.cons (AZ_ (by (refine decide_eq_false ?_;omega))) (.cons (AZ_ (by (refine decide_eq_false ?_;omega))) (.cons (.refl _) (.cons (AZ_ (by (refine decide_eq_false ?_;omega))) (.cons (.refl _) .nil)))))))
theorem tells_7 (k:Int) (h:k=7):VC M_ 163 ([i64 k]) (.agg [bv false,bv false,bv false,bv true,bv false,bv true]):=by
 have oz0:=(show (k==1)=false by (refine decide_eq_false ?_;omega))
 have oz3:=(show (k==2)=false by (refine decide_eq_false ?_;omega))
 have oz6:=(show (k==3)=false by (refine decide_eq_false ?_;omega))
 have oz9:=(show (k==6)=false by (refine decide_eq_false ?_;omega))
 have oz18:=(show (k==4)=false by (refine decide_eq_false ?_;omega))
 have oz24:=(show (k==7) = !false by (refine decide_eq_true ?_;omega))
 exact (VC.run (fn:=Tryz.f163) (W:=[r_,.r [] [e_,e_,f_,e_,e_,f_],.r [] [e_,e_,f_,e_,e_,f_],.r [] [e_,e_,f_,e_,e_,f_,e_,e_,f_,e_,e_,f_,f_,f_,e_]]) (r:=AV.agg [bv (k==6),bv (k==5),bv (k==3),bv true,bv (k==3),bv (k==7)]) Tryz.func163 (by kernel_rfl) (.c oz0<|.c oz0<|.c oz0<|.c oz3<|.c oz3<|.c oz3<|.c oz6<|.c oz6<|.c oz6<|.c oz9<|.c oz9<|.c oz9<|.c oz0<|.c oz0<|.c oz0<|.c oz3<|.c oz3<|.c oz3<|.c oz18<|.c oz18<|.c oz18<|.c oz0<|.c oz0<|.c oz0<|.c oz24<|.c oz24<|.c (show (k==7)=true by (refine decide_eq_true ?_;omega))<|.n)).weak (D_ _) (AG_ (.cons (AZ_ (by (refine decide_eq_false ?_;omega))) (.cons (AZ_ (by (refine decide_eq_false ?_;omega))) (.cons (AZ_ (by (refine decide_eq_false ?_;omega))) (.cons (.refl _) (.cons (AZ_ (by (refine decide_eq_false ?_;omega))) (.cons (AZ_ (by (refine decide_eq_true ?_;omega))) .nil)))))))
theorem tells_8 (k:Int) (h:k=8):VC M_ 163 ([i64 k]) (.agg [bv false,bv false,bv false,bv true,bv false,bv false]):=by
 have oz0:=(show (k==1)=false by (refine decide_eq_false ?_;omega))
 have oz3:=(show (k==2)=false by (refine decide_eq_false ?_;omega))
 have oz6:=(show (k==3)=false by (refine decide_eq_false ?_;omega))
 have oz9:=(show (k==6)=false by (refine decide_eq_false ?_;omega))
 have oz18:=(show (k==4)=false by (refine decide_eq_false ?_;omega))
 have oz24:=(show (k==7)=false by (refine decide_eq_false ?_;omega))
 exact (VC.run (fn:=Tryz.f163) (W:=[r_,.r [] [e_,e_,f_,e_,e_,f_],.r [] [e_,e_,f_,e_,e_,f_],.r [] [e_,e_,f_,e_,e_,f_,e_,e_,f_,e_,e_,f_,e_,e_,f_]]) (r:=AV.agg [bv (k==6),bv (k==5),bv (k==3),bv (k==8),bv (k==3),bv (k==7)]) Tryz.func163 (by kernel_rfl) (.c oz0<|.c oz0<|.c oz0<|.c oz3<|.c oz3<|.c oz3<|.c oz6<|.c oz6<|.c oz6<|.c oz9<|.c oz9<|.c oz9<|.c oz0<|.c oz0<|.c oz0<|.c oz3<|.c oz3<|.c oz3<|.c oz18<|.c oz18<|.c oz18<|.c oz0<|.c oz0<|.c oz0<|.c oz24<|.c oz24<|.c oz24<|.n)).weak (D_ _) (AG_ (.cons (AZ_ (by (refine decide_eq_false ?_;omega))) (.cons (AZ_ (by (refine decide_eq_false ?_;omega))) (.cons (AZ_ (by (refine decide_eq_false ?_;omega))) (.cons (AZ_ (by (refine decide_eq_true ?_;omega))) (.cons (AZ_ (by (refine decide_eq_false ?_;omega))) (.cons (AZ_ (by (refine decide_eq_false ?_;omega))) .nil)))))))
theorem tells_9 (k:Int) (h:k<1∨8<k):VC M_ 163 ([i64 k]) (.agg [bv false,bv false,bv false,bv false,bv false,bv false]):=by
 have oz0:=(show (k==1)=false by (refine decide_eq_false ?_;omega))
 have oz3:=(show (k==2)=false by (refine decide_eq_false ?_;omega))
 have oz6:=(show (k==3)=false by (refine decide_eq_false ?_;omega))
 have oz9:=(show (k==6)=false by (refine decide_eq_false ?_;omega))
 have oz18:=(show (k==4)=false by (refine decide_eq_false ?_;omega))
 have oz24:=(show (k==7)=false by (refine decide_eq_false ?_;omega))
 exact (VC.run (fn:=Tryz.f163) (W:=[r_,.r [] [e_,e_,f_,e_,e_,f_],.r [] [e_,e_,f_,e_,e_,f_],.r [] [e_,e_,f_,e_,e_,f_,e_,e_,f_,e_,e_,f_,e_,e_,f_]]) (r:=AV.agg [bv (k==6),bv (k==5),bv (k==3),bv (k==8),bv (k==3),bv (k==7)]) Tryz.func163 (by kernel_rfl) (.c oz0<|.c oz0<|.c oz0<|.c oz3<|.c oz3<|.c oz3<|.c oz6<|.c oz6<|.c oz6<|.c oz9<|.c oz9<|.c oz9<|.c oz0<|.c oz0<|.c oz0<|.c oz3<|.c oz3<|.c oz3<|.c oz18<|.c oz18<|.c oz18<|.c oz0<|.c oz0<|.c oz0<|.c oz24<|.c oz24<|.c oz24<|.n)).weak (D_ _) (AG_ (.cons (AZ_ (by (refine decide_eq_false ?_;omega))) (.cons (AZ_ (by (refine decide_eq_false ?_;omega))) (.cons (AZ_ (by (refine decide_eq_false ?_;omega))) (.cons (AZ_ (by (refine decide_eq_false ?_;omega))) (.cons (AZ_ (by (refine decide_eq_false ?_;omega))) (.cons (AZ_ (by (refine decide_eq_false ?_;omega))) .nil)))))))
theorem rbytes_1 (L:Int→List Int) (n:Nod) (hL:RPuts L) (hk:n.kd=1) (hw:n.w.length≤16384) (hb:n.b.length≤16384) (hx:∀ x∈n.b,-2147483648≤x∧x≤2147483647) (hq:In32 n.qm) (hr:In32 n.rm):VC M_ 169 ([nod n]) (.sl 1 ((L n.kd++L n.na++L n.nk++L n.ns++L n.np++L n.no++[IntKind.u8.wrap n.za]++L (n.w.length:Int)++smallL n.w++L (n.b.length:Int)++wideL n.b++L n.qm++L n.qs++[IntKind.u8.wrap n.qz]++[IntKind.u8.wrap n.lo]++[IntKind.u8.wrap n.hi]).map (row1 .u8))):=by
 have q0:=hL.l n.kd
 have q1:=hL.l n.na
 have q2:=hL.l n.nk
 have q3:=hL.l n.ns
 have q4:=hL.l n.np
 have q5:=hL.l n.no
 have q6:([IntKind.u8.wrap n.za]).length=1:=rfl
 have q7:=hL.l (n.w.length:Int)
 have q8:(smallL n.w).length=n.w.length:=O_ _
 have q9:=hL.l (n.b.length:Int)
 have q10:=wideL_len n.b hx
 have q11:=hL.l n.qm
 have q12:=hL.l n.qs
 have q13:([IntKind.u8.wrap n.qz]).length=1:=rfl
 have q14:([IntKind.u8.wrap n.lo]).length=1:=rfl
 have q15:([IntKind.u8.wrap n.hi]).length=1:=rfl
 have bu0:([]++L n.kd).length≤1000000:=by (try simp only[AQ_,N_]);omega
 have bu1:([]++L n.kd++L n.na).length≤1000000:=by (try simp only[AQ_,N_]);omega
 have bu2:([]++L n.kd++L n.na++L n.nk).length≤1000000:=by (try simp only[AQ_,N_]);omega
 have bu3:([]++L n.kd++L n.na++L n.nk++L n.ns).length≤1000000:=by (try simp only[AQ_,N_]);omega
 have bu4:([]++L n.kd++L n.na++L n.nk++L n.ns++L n.np).length≤1000000:=by (try simp only[AQ_,N_]);omega
 have bu5:([]++L n.kd++L n.na++L n.nk++L n.ns++L n.np++L n.no).length≤1000000:=by (try simp only[AQ_,N_]);omega
 have bu6:([]++L n.kd++L n.na++L n.nk++L n.ns++L n.np++L n.no++[IntKind.u8.wrap n.za]).length≤500000:=by (try simp only[AQ_,N_]);omega
 have bu7:([]++L n.kd++L n.na++L n.nk++L n.ns++L n.np++L n.no++[IntKind.u8.wrap n.za]++L (n.w.length:Int)).length≤1000000:=by (try simp only[AQ_,N_]);omega
 have bu8:([]++L n.kd++L n.na++L n.nk++L n.ns++L n.np++L n.no++[IntKind.u8.wrap n.za]++L (n.w.length:Int)++smallL n.w).length≤1000000:=by (try simp only[AQ_,N_]);omega
 have bu9:([]++L n.kd++L n.na++L n.nk++L n.ns++L n.np++L n.no++[IntKind.u8.wrap n.za]++L (n.w.length:Int)++smallL n.w++L (n.b.length:Int)).length≤1000000:=by (try simp only[AQ_,N_]);omega
 have bu10:([]++L n.kd++L n.na++L n.nk++L n.ns++L n.np++L n.no++[IntKind.u8.wrap n.za]++L (n.w.length:Int)++smallL n.w++L (n.b.length:Int)++wideL n.b).length≤1000000:=by (try simp only[AQ_,N_]);omega
 have bu11:([]++L n.kd++L n.na++L n.nk++L n.ns++L n.np++L n.no++[IntKind.u8.wrap n.za]++L (n.w.length:Int)++smallL n.w++L (n.b.length:Int)++wideL n.b++L n.qm).length≤1000000:=by (try simp only[AQ_,N_]);omega
 have bu12:([]++L n.kd++L n.na++L n.nk++L n.ns++L n.np++L n.no++[IntKind.u8.wrap n.za]++L (n.w.length:Int)++smallL n.w++L (n.b.length:Int)++wideL n.b++L n.qm++L n.qs).length≤1000000:=by (try simp only[AQ_,N_]);omega
 have bu13:([]++L n.kd++L n.na++L n.nk++L n.ns++L n.np++L n.no++[IntKind.u8.wrap n.za]++L (n.w.length:Int)++smallL n.w++L (n.b.length:Int)++wideL n.b++L n.qm++L n.qs++[IntKind.u8.wrap n.qz]).length≤1000000:=by (try simp only[AQ_,N_]);omega
 have bu14:([]++L n.kd++L n.na++L n.nk++L n.ns++L n.np++L n.no++[IntKind.u8.wrap n.za]++L (n.w.length:Int)++smallL n.w++L (n.b.length:Int)++wideL n.b++L n.qm++L n.qs++[IntKind.u8.wrap n.qz]++[IntKind.u8.wrap n.lo]).length≤1000000:=by (try simp only[AQ_,N_]);omega
 have bu15:([]++L n.kd++L n.na++L n.nk++L n.ns++L n.np++L n.no++[IntKind.u8.wrap n.za]++L (n.w.length:Int)++smallL n.w++L (n.b.length:Int)++wideL n.b++L n.qm++L n.qs++[IntKind.u8.wrap n.qz]++[IntKind.u8.wrap n.lo]++[IntKind.u8.wrap n.hi]).length≤1000000:=by (try simp only[AQ_,N_]);omega
 clear q0 q1 q2 q3 q4 q5 q6 q7 q8 q9 q10 q11 q12 q13 q14 q15
 have w5:n.w.length≤100000:=by omega
 have b5:n.b.length≤100000:=by omega
 have oz0:=@tells_1 (n.kd) hk
 have oz1:=@VM.pre _ _ ([AV.lit (AY_ none 0 0),i64 n.kd]) _ ([]) _ _ _ ([GI.nils 0 950 5 1,GI.sort]) _ (@rput_1 ([]) (L) (n.kd) (by (simp;done)) hL) (by kernel_rfl) (.n)
 have oz2:=@rput_1 ([]++L n.kd) (L) (n.na) bu0 hL
 have oz3:=(show (0:Int)≤(0:Int) by omega)
 have oz4:=(show (0:Int)<(↑(6:Nat):Int) by omega)
 have oz5:=(show [[bv false],[bv true],[bv true],[bv true],[bv true],[bv true]][(0:Nat)]? = some [bv false] from rfl)
 have oz6:=(show false=false by with_reducible rfl)
 have oz7:=(show (0:Int)≤(1:Int) by omega)
 have oz8:=(show (1:Int)<(↑(6:Nat):Int) by omega)
 have oz9:=(show [[bv false],[bv true],[bv true],[bv true],[bv true],[bv true]][(1:Nat)]? = some [bv true] from rfl)
 have oz10:=(show true=true by with_reducible rfl)
 have oz11:=@rput_1 ([]++L n.kd++L n.na) (L) (n.nk) bu1 hL
 have oz12:=@rput_1 ([]++L n.kd++L n.na++L n.nk) (L) (n.ns) bu2 hL
 have oz16:=(show true = !false by (simp;done))
 have oz21:=@rput_1 ([]++L n.kd++L n.na++L n.nk++L n.ns) (L) (n.np) bu3 hL
 have oz24:=(show [[bv false],[bv true],[bv true],[bv true],[bv true],[bv true]][(2:Nat)]? = some [bv true] from rfl)
 have oz26:=@rput_1 ([]++L n.kd++L n.na++L n.nk++L n.ns++L n.np) (L) (n.no) bu4 hL
 have oz29:=(show [[bv false],[bv true],[bv true],[bv true],[bv true],[bv true]][(3:Nat)]? = some [bv true] from rfl)
 have oz39:=(show [[bv false],[bv true],[bv true],[bv true],[bv true],[bv true]][(4:Nat)]? = some [bv true] from rfl)
 have oz41:=@VM.pre _ _ ([AV.own 950,AV.sl 1 (K_ (row1 .i8) n.w),AV.sl 1 (K_ (row1 .i32) n.b)]) _ ([(950,Blk.slc 5 1 (K_ (row1 .u8) ([]++L n.kd++L n.na++L n.nk++L n.ns++L n.np++L n.no)++[[u8 (IntKind.u8.wrap n.za)]]))]) _ _ _ ([GI.blk 950 (Blk.slc 5 1 (K_ (row1 .u8) ([]++L n.kd++L n.na++L n.nk++L n.ns++L n.np++L n.no++[IntKind.u8.wrap n.za]))),GI.sort]) _ (@rlists_v ([]++L n.kd++L n.na++L n.nk++L n.ns++L n.np++L n.no++[IntKind.u8.wrap n.za]) (L) (n.w) (n.b) bu6 hL w5 hb hx) (by kernel_rfl) (.c (AE_ (e:=5) (z:=1) (rows_to (row1 .u8) (r:=K_ (row1 .u8) ([]++L n.kd++L n.na++L n.nk++L n.ns++L n.np++L n.no)++[[u8 (IntKind.u8.wrap n.za)]]) (l:=[]++L n.kd++L n.na++L n.nk++L n.ns++L n.np++L n.no++[IntKind.u8.wrap n.za]) (m:=[]++L n.kd++L n.na++L n.nk++L n.ns++L n.np++L n.no++[IntKind.u8.wrap n.za]) (by first|(simp only[Y_,C_,AO_,AP_,U_,AL_,AM_];done)|rfl|(simp only[Y_,C_,AO_,AP_,U_,AL_,AM_];rfl)) rfl))<|.n)
 have oz44:=(show [[bv false],[bv true],[bv true],[bv true],[bv true],[bv true]][(5:Nat)]? = some [bv true] from rfl)
 have oz47:=@rput_1 ([]++L n.kd++L n.na++L n.nk++L n.ns++L n.np++L n.no++[IntKind.u8.wrap n.za]++L (n.w.length:Int)++smallL n.w++L (n.b.length:Int)++wideL n.b) (L) (n.qm) bu10 hL
 have oz48:=@rput_1 ([]++L n.kd++L n.na++L n.nk++L n.ns++L n.np++L n.no++[IntKind.u8.wrap n.za]++L (n.w.length:Int)++smallL n.w++L (n.b.length:Int)++wideL n.b++L n.qm) (L) (n.qs) bu11 hL
 exact (VC.run (fn:=Tryz.f169) (W:=[r_,.r [] [.callr (rO oz0)],.r [] [.callm [] [(951,20000)] (rM oz1) (oM oz1),.callm [(20000,950)] [(951,20001)] (rM oz2) (oM oz2)],.r [] [.row (sO oz5)],d_,.r [] [.row (sO oz9)],b_,.r [] [.callm [(20001,950)] [(951,20002)] (rM oz11) (oM oz11),.callm [(20002,950)] [(951,20003)] (rM oz12) (oM oz12)],.r [] [.row (sO oz9),f_,f_,f_,e_],b_,.r [] [.callm [(20003,950)] [(951,20004)] (rM oz21) (oM oz21)],.r [] [.row (sO oz24)],b_,.r [] [.callm [(20004,950)] [(951,20005)] (rM oz26) (oM oz26)],.r [] [.row (sO oz29)],b_,.r [] [.w],.r [] [.row (sO oz5)],d_,.r [] [.row (sO oz39)],b_,.r [] [.callm [(53,950)] [(951,20006)] (rM oz41) (oM oz41)],.r [] [.row (sO oz44)],b_,.r [] [.n n.qm,.callm [(20006,950)] [(951,20007)] (rM oz47) (oM oz47),.callm [(20007,950)] [(951,20008)] (rM oz48) (oM oz48),.w],.r [] [.row (sO oz5)],d_,.r [] [.w,.w],r_]) (r:=AV.sl 1 (K_ (row1 .u8) ([]++L n.kd++L n.na++L n.nk++L n.ns++L n.np++L n.no++[IntKind.u8.wrap n.za]++L (n.w.length:Int)++smallL n.w++L (n.b.length:Int)++wideL n.b++L n.qm++L n.qs)++[[u8 (IntKind.u8.wrap n.qz)]]++[[u8 (IntKind.u8.wrap n.lo)],[u8 (IntKind.u8.wrap n.hi)]])) Tryz.func169 (by kernel_rfl) (.c oz0<|.c oz1<|.c oz2<|.c oz3<|.c oz4<|.c oz5<|.c oz6<|.c oz7<|.c oz8<|.c oz9<|.c oz10<|.c oz11<|.c oz12<|.c oz7<|.c oz8<|.c oz9<|.c oz16<|.c oz16<|.c oz16<|.c oz10<|.c oz10<|.c oz21<|.c (show (0:Int)≤(2:Int) by omega)<|.c (show (2:Int)<(↑(6:Nat):Int) by omega)<|.c oz24<|.c oz10<|.c oz26<|.c (show (0:Int)≤(3:Int) by omega)<|.c (show (3:Int)<(↑(6:Nat):Int) by omega)<|.c oz29<|.c oz10<|.c (show ((K_ (row1 .u8) ([]++L n.kd++L n.na++L n.nk++L n.ns++L n.np++L n.no)).length+1)*1≤140737488355328 by (simp only[O_] at *;omega))<|.c (show (K_ (row1 .u8) ([]++L n.kd++L n.na++L n.nk++L n.ns++L n.np++L n.no)).length+1≤9223372036854775807 by (simp only[O_] at *;omega))<|.c oz3<|.c oz4<|.c oz5<|.c oz6<|.c (show (0:Int)≤(4:Int) by omega)<|.c (show (4:Int)<(↑(6:Nat):Int) by omega)<|.c oz39<|.c oz10<|.c oz41<|.c (show (0:Int)≤(5:Int) by omega)<|.c (show (5:Int)<(↑(6:Nat):Int) by omega)<|.c oz44<|.c oz10<|.c (i6n n.qm (by omega))<|.c oz47<|.c oz48<|.c (show ((K_ (row1 .u8) ([]++L n.kd++L n.na++L n.nk++L n.ns++L n.np++L n.no++[IntKind.u8.wrap n.za]++L (n.w.length:Int)++smallL n.w++L (n.b.length:Int)++wideL n.b++L n.qm++L n.qs)).length+1)*1≤140737488355328 by (simp only[O_] at *;omega))<|.c (show (K_ (row1 .u8) ([]++L n.kd++L n.na++L n.nk++L n.ns++L n.np++L n.no++[IntKind.u8.wrap n.za]++L (n.w.length:Int)++smallL n.w++L (n.b.length:Int)++wideL n.b++L n.qm++L n.qs)).length+1≤9223372036854775807 by (simp only[O_] at *;omega))<|.c oz3<|.c oz4<|.c oz5<|.c oz6<|.c (show ((K_ (row1 .u8) ([]++L n.kd++L n.na++L n.nk++L n.ns++L n.np++L n.no++[IntKind.u8.wrap n.za]++L (n.w.length:Int)++smallL n.w++L (n.b.length:Int)++wideL n.b++L n.qm++L n.qs)++[[u8 (IntKind.u8.wrap n.qz)]]).length+2)*1≤140737488355328 by (simp at *;omega))<|.c (show (K_ (row1 .u8) ([]++L n.kd++L n.na++L n.nk++L n.ns++L n.np++L n.no++[IntKind.u8.wrap n.za]++L (n.w.length:Int)++smallL n.w++L (n.b.length:Int)++wideL n.b++L n.qm++L n.qs)++[[u8 (IntKind.u8.wrap n.qz)]]).length+2≤9223372036854775807 by (simp at *;omega))<|.n)).weak (D_ _) (BE_ (rows_to (row1 .u8) (r:=K_ (row1 .u8) ([]++L n.kd++L n.na++L n.nk++L n.ns++L n.np++L n.no++[IntKind.u8.wrap n.za]++L (n.w.length:Int)++smallL n.w++L (n.b.length:Int)++wideL n.b++L n.qm++L n.qs)++[[u8 (IntKind.u8.wrap n.qz)]]++[[u8 (IntKind.u8.wrap n.lo)],[u8 (IntKind.u8.wrap n.hi)]]) (l:=[]++L n.kd++L n.na++L n.nk++L n.ns++L n.np++L n.no++[IntKind.u8.wrap n.za]++L (n.w.length:Int)++smallL n.w++L (n.b.length:Int)++wideL n.b++L n.qm++L n.qs++[IntKind.u8.wrap n.qz]++[IntKind.u8.wrap n.lo,IntKind.u8.wrap n.hi]) (m:=L n.kd++L n.na++L n.nk++L n.ns++L n.np++L n.no++[IntKind.u8.wrap n.za]++L (n.w.length:Int)++smallL n.w++L (n.b.length:Int)++wideL n.b++L n.qm++L n.qs++[IntKind.u8.wrap n.qz]++[IntKind.u8.wrap n.lo]++[IntKind.u8.wrap n.hi]) (by first|(simp only[Y_,C_,AO_,AP_,U_,AL_,AM_];done)|rfl|(simp only[Y_,C_,AO_,AP_,U_,AL_,AM_];rfl)) (show ([]++L n.kd++L n.na++L n.nk++L n.ns++L n.np++L n.no++[IntKind.u8.wrap n.za]++L (n.w.length:Int)++smallL n.w++L (n.b.length:Int)++wideL n.b++L n.qm++L n.qs++[IntKind.u8.wrap n.qz]++[IntKind.u8.wrap n.lo,IntKind.u8.wrap n.hi])=(L n.kd++L n.na++L n.nk++L n.ns++L n.np++L n.no++[IntKind.u8.wrap n.za]++L (n.w.length:Int)++smallL n.w++L (n.b.length:Int)++wideL n.b++L n.qm++L n.qs++[IntKind.u8.wrap n.qz]++[IntKind.u8.wrap n.lo]++[IntKind.u8.wrap n.hi]) from (by (simp;done)))))
theorem rbytes_2 (L:Int→List Int) (n:Nod) (hL:RPuts L) (hk:n.kd=2) (hw:n.w.length≤16384) (hb:n.b.length≤16384) (hx:∀ x∈n.b,-2147483648≤x∧x≤2147483647) (hq:In32 n.qm) (hr:In32 n.rm):VC M_ 169 ([nod n]) (.sl 1 ((L n.kd++L n.na++L n.nk++L n.ns++L n.np++[IntKind.u8.wrap n.za]++L (n.w.length:Int)++smallL n.w++L (n.b.length:Int)++wideL n.b++L n.qm++L n.qs++[IntKind.u8.wrap n.qz]++[IntKind.u8.wrap n.lo]++[IntKind.u8.wrap n.hi]).map (row1 .u8))):=by
 have q0:=hL.l n.kd
 have q1:=hL.l n.na
 have q2:=hL.l n.nk
 have q3:=hL.l n.ns
 have q4:=hL.l n.np
 have q5:([IntKind.u8.wrap n.za]).length=1:=rfl
 have q6:=hL.l (n.w.length:Int)
 have q7:(smallL n.w).length=n.w.length:=O_ _
 have q8:=hL.l (n.b.length:Int)
 have q9:=wideL_len n.b hx
 have q10:=hL.l n.qm
 have q11:=hL.l n.qs
 have q12:([IntKind.u8.wrap n.qz]).length=1:=rfl
 have q13:([IntKind.u8.wrap n.lo]).length=1:=rfl
 have q14:([IntKind.u8.wrap n.hi]).length=1:=rfl
 have bu0:([]++L n.kd).length≤1000000:=by (try simp only[AQ_,N_]);omega
 have bu1:([]++L n.kd++L n.na).length≤1000000:=by (try simp only[AQ_,N_]);omega
 have bu2:([]++L n.kd++L n.na++L n.nk).length≤1000000:=by (try simp only[AQ_,N_]);omega
 have bu3:([]++L n.kd++L n.na++L n.nk++L n.ns).length≤1000000:=by (try simp only[AQ_,N_]);omega
 have bu4:([]++L n.kd++L n.na++L n.nk++L n.ns++L n.np).length≤1000000:=by (try simp only[AQ_,N_]);omega
 have bu5:([]++L n.kd++L n.na++L n.nk++L n.ns++L n.np++[IntKind.u8.wrap n.za]).length≤500000:=by (try simp only[AQ_,N_]);omega
 have bu6:([]++L n.kd++L n.na++L n.nk++L n.ns++L n.np++[IntKind.u8.wrap n.za]++L (n.w.length:Int)).length≤1000000:=by (try simp only[AQ_,N_]);omega
 have bu7:([]++L n.kd++L n.na++L n.nk++L n.ns++L n.np++[IntKind.u8.wrap n.za]++L (n.w.length:Int)++smallL n.w).length≤1000000:=by (try simp only[AQ_,N_]);omega
 have bu8:([]++L n.kd++L n.na++L n.nk++L n.ns++L n.np++[IntKind.u8.wrap n.za]++L (n.w.length:Int)++smallL n.w++L (n.b.length:Int)).length≤1000000:=by (try simp only[AQ_,N_]);omega
 have bu9:([]++L n.kd++L n.na++L n.nk++L n.ns++L n.np++[IntKind.u8.wrap n.za]++L (n.w.length:Int)++smallL n.w++L (n.b.length:Int)++wideL n.b).length≤1000000:=by (try simp only[AQ_,N_]);omega
 have bu10:([]++L n.kd++L n.na++L n.nk++L n.ns++L n.np++[IntKind.u8.wrap n.za]++L (n.w.length:Int)++smallL n.w++L (n.b.length:Int)++wideL n.b++L n.qm).length≤1000000:=by (try simp only[AQ_,N_]);omega
 have bu11:([]++L n.kd++L n.na++L n.nk++L n.ns++L n.np++[IntKind.u8.wrap n.za]++L (n.w.length:Int)++smallL n.w++L (n.b.length:Int)++wideL n.b++L n.qm++L n.qs).length≤1000000:=by (try simp only[AQ_,N_]);omega
 have bu12:([]++L n.kd++L n.na++L n.nk++L n.ns++L n.np++[IntKind.u8.wrap n.za]++L (n.w.length:Int)++smallL n.w++L (n.b.length:Int)++wideL n.b++L n.qm++L n.qs++[IntKind.u8.wrap n.qz]).length≤1000000:=by (try simp only[AQ_,N_]);omega
 have bu13:([]++L n.kd++L n.na++L n.nk++L n.ns++L n.np++[IntKind.u8.wrap n.za]++L (n.w.length:Int)++smallL n.w++L (n.b.length:Int)++wideL n.b++L n.qm++L n.qs++[IntKind.u8.wrap n.qz]++[IntKind.u8.wrap n.lo]).length≤1000000:=by (try simp only[AQ_,N_]);omega
 have bu14:([]++L n.kd++L n.na++L n.nk++L n.ns++L n.np++[IntKind.u8.wrap n.za]++L (n.w.length:Int)++smallL n.w++L (n.b.length:Int)++wideL n.b++L n.qm++L n.qs++[IntKind.u8.wrap n.qz]++[IntKind.u8.wrap n.lo]++[IntKind.u8.wrap n.hi]).length≤1000000:=by (try simp only[AQ_,N_]);omega
 clear q0 q1 q2 q3 q4 q5 q6 q7 q8 q9 q10 q11 q12 q13 q14
 have w5:n.w.length≤100000:=by omega
 have b5:n.b.length≤100000:=by omega
 have oz0:=@tells_2 (n.kd) hk
 have oz1:=@VM.pre _ _ ([AV.lit (AY_ none 0 0),i64 n.kd]) _ ([]) _ _ _ ([GI.nils 0 950 5 1,GI.sort]) _ (@rput_1 ([]) (L) (n.kd) (by (simp;done)) hL) (by kernel_rfl) (.n)
 have oz2:=@rput_1 ([]++L n.kd) (L) (n.na) bu0 hL
 have oz3:=(show (0:Int)≤(0:Int) by omega)
 have oz4:=(show (0:Int)<(↑(6:Nat):Int) by omega)
 have oz5:=(show [[bv false],[bv true],[bv false],[bv true],[bv true],[bv true]][(0:Nat)]? = some [bv false] from rfl)
 have oz6:=(show false=false by with_reducible rfl)
 have oz7:=(show (0:Int)≤(1:Int) by omega)
 have oz8:=(show (1:Int)<(↑(6:Nat):Int) by omega)
 have oz9:=(show [[bv false],[bv true],[bv false],[bv true],[bv true],[bv true]][(1:Nat)]? = some [bv true] from rfl)
 have oz10:=(show true=true by with_reducible rfl)
 have oz11:=@rput_1 ([]++L n.kd++L n.na) (L) (n.nk) bu1 hL
 have oz12:=@rput_1 ([]++L n.kd++L n.na++L n.nk) (L) (n.ns) bu2 hL
 have oz16:=(show true = !false by (simp;done))
 have oz21:=@rput_1 ([]++L n.kd++L n.na++L n.nk++L n.ns) (L) (n.np) bu3 hL
 have oz24:=(show [[bv false],[bv true],[bv false],[bv true],[bv true],[bv true]][(2:Nat)]? = some [bv false] from rfl)
 have oz28:=(show [[bv false],[bv true],[bv false],[bv true],[bv true],[bv true]][(3:Nat)]? = some [bv true] from rfl)
 have oz38:=(show [[bv false],[bv true],[bv false],[bv true],[bv true],[bv true]][(4:Nat)]? = some [bv true] from rfl)
 have oz40:=@VM.pre _ _ ([AV.own 950,AV.sl 1 (K_ (row1 .i8) n.w),AV.sl 1 (K_ (row1 .i32) n.b)]) _ ([(950,Blk.slc 5 1 (K_ (row1 .u8) ([]++L n.kd++L n.na++L n.nk++L n.ns++L n.np)++[[u8 (IntKind.u8.wrap n.za)]]))]) _ _ _ ([GI.blk 950 (Blk.slc 5 1 (K_ (row1 .u8) ([]++L n.kd++L n.na++L n.nk++L n.ns++L n.np++[IntKind.u8.wrap n.za]))),GI.sort]) _ (@rlists_v ([]++L n.kd++L n.na++L n.nk++L n.ns++L n.np++[IntKind.u8.wrap n.za]) (L) (n.w) (n.b) bu5 hL w5 hb hx) (by kernel_rfl) (.c (AE_ (e:=5) (z:=1) (rows_to (row1 .u8) (r:=K_ (row1 .u8) ([]++L n.kd++L n.na++L n.nk++L n.ns++L n.np)++[[u8 (IntKind.u8.wrap n.za)]]) (l:=[]++L n.kd++L n.na++L n.nk++L n.ns++L n.np++[IntKind.u8.wrap n.za]) (m:=[]++L n.kd++L n.na++L n.nk++L n.ns++L n.np++[IntKind.u8.wrap n.za]) (by first|(simp only[Y_,C_,AO_,AP_,U_,AL_,AM_];done)|rfl|(simp only[Y_,C_,AO_,AP_,U_,AL_,AM_];rfl)) rfl))<|.n)
 have oz43:=(show [[bv false],[bv true],[bv false],[bv true],[bv true],[bv true]][(5:Nat)]? = some [bv true] from rfl)
 have oz46:=@rput_1 ([]++L n.kd++L n.na++L n.nk++L n.ns++L n.np++[IntKind.u8.wrap n.za]++L (n.w.length:Int)++smallL n.w++L (n.b.length:Int)++wideL n.b) (L) (n.qm) bu9 hL
 have oz47:=@rput_1 ([]++L n.kd++L n.na++L n.nk++L n.ns++L n.np++[IntKind.u8.wrap n.za]++L (n.w.length:Int)++smallL n.w++L (n.b.length:Int)++wideL n.b++L n.qm) (L) (n.qs) bu10 hL
 exact (VC.run (fn:=Tryz.f169) (W:=[r_,.r [] [.callr (rO oz0)],.r [] [.callm [] [(951,20000)] (rM oz1) (oM oz1),.callm [(20000,950)] [(951,20001)] (rM oz2) (oM oz2)],.r [] [.row (sO oz5)],d_,.r [] [.row (sO oz9)],b_,.r [] [.callm [(20001,950)] [(951,20002)] (rM oz11) (oM oz11),.callm [(20002,950)] [(951,20003)] (rM oz12) (oM oz12)],.r [] [.row (sO oz9),f_,f_,f_,e_],b_,.r [] [.callm [(20003,950)] [(951,20004)] (rM oz21) (oM oz21)],.r [] [.row (sO oz24)],d_,.r [] [.row (sO oz28)],b_,.r [] [.w],.r [] [.row (sO oz5)],d_,.r [] [.row (sO oz38)],b_,.r [] [.callm [(53,950)] [(951,20005)] (rM oz40) (oM oz40)],.r [] [.row (sO oz43)],b_,.r [] [.n n.qm,.callm [(20005,950)] [(951,20006)] (rM oz46) (oM oz46),.callm [(20006,950)] [(951,20007)] (rM oz47) (oM oz47),.w],.r [] [.row (sO oz5)],d_,.r [] [.w,.w],r_]) (r:=AV.sl 1 (K_ (row1 .u8) ([]++L n.kd++L n.na++L n.nk++L n.ns++L n.np++[IntKind.u8.wrap n.za]++L (n.w.length:Int)++smallL n.w++L (n.b.length:Int)++wideL n.b++L n.qm++L n.qs)++[[u8 (IntKind.u8.wrap n.qz)]]++[[u8 (IntKind.u8.wrap n.lo)],[u8 (IntKind.u8.wrap n.hi)]])) Tryz.func169 (by kernel_rfl) (.c oz0<|.c oz1<|.c oz2<|.c oz3<|.c oz4<|.c oz5<|.c oz6<|.c oz7<|.c oz8<|.c oz9<|.c oz10<|.c oz11<|.c oz12<|.c oz7<|.c oz8<|.c oz9<|.c oz16<|.c oz16<|.c oz16<|.c oz10<|.c oz10<|.c oz21<|.c (show (0:Int)≤(2:Int) by omega)<|.c (show (2:Int)<(↑(6:Nat):Int) by omega)<|.c oz24<|.c oz6<|.c (show (0:Int)≤(3:Int) by omega)<|.c (show (3:Int)<(↑(6:Nat):Int) by omega)<|.c oz28<|.c oz10<|.c (show ((K_ (row1 .u8) ([]++L n.kd++L n.na++L n.nk++L n.ns++L n.np)).length+1)*1≤140737488355328 by (simp only[O_] at *;omega))<|.c (show (K_ (row1 .u8) ([]++L n.kd++L n.na++L n.nk++L n.ns++L n.np)).length+1≤9223372036854775807 by (simp only[O_] at *;omega))<|.c oz3<|.c oz4<|.c oz5<|.c oz6<|.c (show (0:Int)≤(4:Int) by omega)<|.c (show (4:Int)<(↑(6:Nat):Int) by omega)<|.c oz38<|.c oz10<|.c oz40<|.c (show (0:Int)≤(5:Int) by omega)<|.c (show (5:Int)<(↑(6:Nat):Int) by omega)<|.c oz43<|.c oz10<|.c (i6n n.qm (by omega))<|.c oz46<|.c oz47<|.c (show ((K_ (row1 .u8) ([]++L n.kd++L n.na++L n.nk++L n.ns++L n.np++[IntKind.u8.wrap n.za]++L (n.w.length:Int)++smallL n.w++L (n.b.length:Int)++wideL n.b++L n.qm++L n.qs)).length+1)*1≤140737488355328 by (simp only[O_] at *;omega))<|.c (show (K_ (row1 .u8) ([]++L n.kd++L n.na++L n.nk++L n.ns++L n.np++[IntKind.u8.wrap n.za]++L (n.w.length:Int)++smallL n.w++L (n.b.length:Int)++wideL n.b++L n.qm++L n.qs)).length+1≤9223372036854775807 by (simp only[O_] at *;omega))<|.c oz3<|.c oz4<|.c oz5<|.c oz6<|.c (show ((K_ (row1 .u8) ([]++L n.kd++L n.na++L n.nk++L n.ns++L n.np++[IntKind.u8.wrap n.za]++L (n.w.length:Int)++smallL n.w++L (n.b.length:Int)++wideL n.b++L n.qm++L n.qs)++[[u8 (IntKind.u8.wrap n.qz)]]).length+2)*1≤140737488355328 by (simp at *;omega))<|.c (show (K_ (row1 .u8) ([]++L n.kd++L n.na++L n.nk++L n.ns++L n.np++[IntKind.u8.wrap n.za]++L (n.w.length:Int)++smallL n.w++L (n.b.length:Int)++wideL n.b++L n.qm++L n.qs)++[[u8 (IntKind.u8.wrap n.qz)]]).length+2≤9223372036854775807 by (simp at *;omega))<|.n)).weak (D_ _) (BE_ (rows_to (row1 .u8) (r:=K_ (row1 .u8) ([]++L n.kd++L n.na++L n.nk++L n.ns++L n.np++[IntKind.u8.wrap n.za]++L (n.w.length:Int)++smallL n.w++L (n.b.length:Int)++wideL n.b++L n.qm++L n.qs)++[[u8 (IntKind.u8.wrap n.qz)]]++[[u8 (IntKind.u8.wrap n.lo)],[u8 (IntKind.u8.wrap n.hi)]]) (l:=[]++L n.kd++L n.na++L n.nk++L n.ns++L n.np++[IntKind.u8.wrap n.za]++L (n.w.length:Int)++smallL n.w++L (n.b.length:Int)++wideL n.b++L n.qm++L n.qs++[IntKind.u8.wrap n.qz]++[IntKind.u8.wrap n.lo,IntKind.u8.wrap n.hi]) (m:=L n.kd++L n.na++L n.nk++L n.ns++L n.np++[IntKind.u8.wrap n.za]++L (n.w.length:Int)++smallL n.w++L (n.b.length:Int)++wideL n.b++L n.qm++L n.qs++[IntKind.u8.wrap n.qz]++[IntKind.u8.wrap n.lo]++[IntKind.u8.wrap n.hi]) (by first|(simp only[Y_,C_,AO_,AP_,U_,AL_,AM_];done)|rfl|(simp only[Y_,C_,AO_,AP_,U_,AL_,AM_];rfl)) (show ([]++L n.kd++L n.na++L n.nk++L n.ns++L n.np++[IntKind.u8.wrap n.za]++L (n.w.length:Int)++smallL n.w++L (n.b.length:Int)++wideL n.b++L n.qm++L n.qs++[IntKind.u8.wrap n.qz]++[IntKind.u8.wrap n.lo,IntKind.u8.wrap n.hi])=(L n.kd++L n.na++L n.nk++L n.ns++L n.np++[IntKind.u8.wrap n.za]++L (n.w.length:Int)++smallL n.w++L (n.b.length:Int)++wideL n.b++L n.qm++L n.qs++[IntKind.u8.wrap n.qz]++[IntKind.u8.wrap n.lo]++[IntKind.u8.wrap n.hi]) from (by (simp;done)))))
theorem rbytes_3 (L:Int→List Int) (n:Nod) (hL:RPuts L) (hk:n.kd=3) (hw:n.w.length≤16384) (hb:n.b.length≤16384) (hx:∀ x∈n.b,-2147483648≤x∧x≤2147483647) (hq:In32 n.qm) (hr:In32 n.rm):VC M_ 169 ([nod n]) (.sl 1 ((L n.kd++L n.na++L n.no++[IntKind.u8.wrap n.za]++L (n.w.length:Int)++smallL n.w++L (n.b.length:Int)++wideL n.b++L n.qm++L n.qs++[IntKind.u8.wrap n.qz]++[IntKind.u8.wrap n.lo]++[IntKind.u8.wrap n.hi]).map (row1 .u8))):=by
 have q0:=hL.l n.kd
 have q1:=hL.l n.na
 have q2:=hL.l n.no
 have q3:([IntKind.u8.wrap n.za]).length=1:=rfl
 have q4:=hL.l (n.w.length:Int)
 have q5:(smallL n.w).length=n.w.length:=O_ _
 have q6:=hL.l (n.b.length:Int)
 have q7:=wideL_len n.b hx
 have q8:=hL.l n.qm
 have q9:=hL.l n.qs
 have q10:([IntKind.u8.wrap n.qz]).length=1:=rfl
 have q11:([IntKind.u8.wrap n.lo]).length=1:=rfl
 have q12:([IntKind.u8.wrap n.hi]).length=1:=rfl
 have bu0:([]++L n.kd).length≤1000000:=by (try simp only[AQ_,N_]);omega
 have bu1:([]++L n.kd++L n.na).length≤1000000:=by (try simp only[AQ_,N_]);omega
 have bu2:([]++L n.kd++L n.na++L n.no).length≤1000000:=by (try simp only[AQ_,N_]);omega
 have bu3:([]++L n.kd++L n.na++L n.no++[IntKind.u8.wrap n.za]).length≤500000:=by (try simp only[AQ_,N_]);omega
 have bu4:([]++L n.kd++L n.na++L n.no++[IntKind.u8.wrap n.za]++L (n.w.length:Int)).length≤1000000:=by (try simp only[AQ_,N_]);omega
 have bu5:([]++L n.kd++L n.na++L n.no++[IntKind.u8.wrap n.za]++L (n.w.length:Int)++smallL n.w).length≤1000000:=by (try simp only[AQ_,N_]);omega
 have bu6:([]++L n.kd++L n.na++L n.no++[IntKind.u8.wrap n.za]++L (n.w.length:Int)++smallL n.w++L (n.b.length:Int)).length≤1000000:=by (try simp only[AQ_,N_]);omega
 have bu7:([]++L n.kd++L n.na++L n.no++[IntKind.u8.wrap n.za]++L (n.w.length:Int)++smallL n.w++L (n.b.length:Int)++wideL n.b).length≤1000000:=by (try simp only[AQ_,N_]);omega
 have bu8:([]++L n.kd++L n.na++L n.no++[IntKind.u8.wrap n.za]++L (n.w.length:Int)++smallL n.w++L (n.b.length:Int)++wideL n.b++L n.qm).length≤1000000:=by (try simp only[AQ_,N_]);omega
 have bu9:([]++L n.kd++L n.na++L n.no++[IntKind.u8.wrap n.za]++L (n.w.length:Int)++smallL n.w++L (n.b.length:Int)++wideL n.b++L n.qm++L n.qs).length≤1000000:=by (try simp only[AQ_,N_]);omega
 have bu10:([]++L n.kd++L n.na++L n.no++[IntKind.u8.wrap n.za]++L (n.w.length:Int)++smallL n.w++L (n.b.length:Int)++wideL n.b++L n.qm++L n.qs++[IntKind.u8.wrap n.qz]).length≤1000000:=by (try simp only[AQ_,N_]);omega
 have bu11:([]++L n.kd++L n.na++L n.no++[IntKind.u8.wrap n.za]++L (n.w.length:Int)++smallL n.w++L (n.b.length:Int)++wideL n.b++L n.qm++L n.qs++[IntKind.u8.wrap n.qz]++[IntKind.u8.wrap n.lo]).length≤1000000:=by (try simp only[AQ_,N_]);omega
 have bu12:([]++L n.kd++L n.na++L n.no++[IntKind.u8.wrap n.za]++L (n.w.length:Int)++smallL n.w++L (n.b.length:Int)++wideL n.b++L n.qm++L n.qs++[IntKind.u8.wrap n.qz]++[IntKind.u8.wrap n.lo]++[IntKind.u8.wrap n.hi]).length≤1000000:=by (try simp only[AQ_,N_]);omega
 clear q0 q1 q2 q3 q4 q5 q6 q7 q8 q9 q10 q11 q12
 have w5:n.w.length≤100000:=by omega
 have b5:n.b.length≤100000:=by omega
 have oz0:=@tells_3 (n.kd) hk
 have oz1:=@VM.pre _ _ ([AV.lit (AY_ none 0 0),i64 n.kd]) _ ([]) _ _ _ ([GI.nils 0 950 5 1,GI.sort]) _ (@rput_1 ([]) (L) (n.kd) (by (simp;done)) hL) (by kernel_rfl) (.n)
 have oz2:=@rput_1 ([]++L n.kd) (L) (n.na) bu0 hL
 have oz3:=(show (0:Int)≤(0:Int) by omega)
 have oz4:=(show (0:Int)<(↑(6:Nat):Int) by omega)
 have oz5:=(show [[bv false],[bv false],[bv true],[bv true],[bv true],[bv true]][(0:Nat)]? = some [bv false] from rfl)
 have oz6:=(show false=false by with_reducible rfl)
 have oz7:=(show (0:Int)≤(1:Int) by omega)
 have oz8:=(show (1:Int)<(↑(6:Nat):Int) by omega)
 have oz9:=(show [[bv false],[bv false],[bv true],[bv true],[bv true],[bv true]][(1:Nat)]? = some [bv false] from rfl)
 have oz21:=(show [[bv false],[bv false],[bv true],[bv true],[bv true],[bv true]][(2:Nat)]? = some [bv true] from rfl)
 have oz22:=(show true=true by with_reducible rfl)
 have oz23:=@rput_1 ([]++L n.kd++L n.na) (L) (n.no) bu1 hL
 have oz26:=(show [[bv false],[bv false],[bv true],[bv true],[bv true],[bv true]][(3:Nat)]? = some [bv true] from rfl)
 have oz36:=(show [[bv false],[bv false],[bv true],[bv true],[bv true],[bv true]][(4:Nat)]? = some [bv true] from rfl)
 have oz38:=@VM.pre _ _ ([AV.own 950,AV.sl 1 (K_ (row1 .i8) n.w),AV.sl 1 (K_ (row1 .i32) n.b)]) _ ([(950,Blk.slc 5 1 (K_ (row1 .u8) ([]++L n.kd++L n.na++L n.no)++[[u8 (IntKind.u8.wrap n.za)]]))]) _ _ _ ([GI.blk 950 (Blk.slc 5 1 (K_ (row1 .u8) ([]++L n.kd++L n.na++L n.no++[IntKind.u8.wrap n.za]))),GI.sort]) _ (@rlists_v ([]++L n.kd++L n.na++L n.no++[IntKind.u8.wrap n.za]) (L) (n.w) (n.b) bu3 hL w5 hb hx) (by kernel_rfl) (.c (AE_ (e:=5) (z:=1) (rows_to (row1 .u8) (r:=K_ (row1 .u8) ([]++L n.kd++L n.na++L n.no)++[[u8 (IntKind.u8.wrap n.za)]]) (l:=[]++L n.kd++L n.na++L n.no++[IntKind.u8.wrap n.za]) (m:=[]++L n.kd++L n.na++L n.no++[IntKind.u8.wrap n.za]) (by first|(simp only[Y_,C_,AO_,AP_,U_,AL_,AM_];done)|rfl|(simp only[Y_,C_,AO_,AP_,U_,AL_,AM_];rfl)) rfl))<|.n)
 have oz41:=(show [[bv false],[bv false],[bv true],[bv true],[bv true],[bv true]][(5:Nat)]? = some [bv true] from rfl)
 have oz44:=@rput_1 ([]++L n.kd++L n.na++L n.no++[IntKind.u8.wrap n.za]++L (n.w.length:Int)++smallL n.w++L (n.b.length:Int)++wideL n.b) (L) (n.qm) bu7 hL
 have oz45:=@rput_1 ([]++L n.kd++L n.na++L n.no++[IntKind.u8.wrap n.za]++L (n.w.length:Int)++smallL n.w++L (n.b.length:Int)++wideL n.b++L n.qm) (L) (n.qs) bu8 hL
 exact (VC.run (fn:=Tryz.f169) (W:=[r_,.r [] [.callr (rO oz0)],.r [] [.callm [] [(951,20000)] (rM oz1) (oM oz1),.callm [(20000,950)] [(951,20001)] (rM oz2) (oM oz2)],.r [] [.row (sO oz5)],d_,.r [] [.row (sO oz5)],d_,.r [] [.row (sO oz5),e_,e_,e_,f_],d_,.r [] [.row (sO oz21)],b_,.r [] [.callm [(20001,950)] [(951,20002)] (rM oz23) (oM oz23)],.r [] [.row (sO oz26)],b_,.r [] [.w],.r [] [.row (sO oz5)],d_,.r [] [.row (sO oz36)],b_,.r [] [.callm [(53,950)] [(951,20003)] (rM oz38) (oM oz38)],.r [] [.row (sO oz41)],b_,.r [] [.n n.qm,.callm [(20003,950)] [(951,20004)] (rM oz44) (oM oz44),.callm [(20004,950)] [(951,20005)] (rM oz45) (oM oz45),.w],.r [] [.row (sO oz5)],d_,.r [] [.w,.w],r_]) (r:=AV.sl 1 (K_ (row1 .u8) ([]++L n.kd++L n.na++L n.no++[IntKind.u8.wrap n.za]++L (n.w.length:Int)++smallL n.w++L (n.b.length:Int)++wideL n.b++L n.qm++L n.qs)++[[u8 (IntKind.u8.wrap n.qz)]]++[[u8 (IntKind.u8.wrap n.lo)],[u8 (IntKind.u8.wrap n.hi)]])) Tryz.func169 (by kernel_rfl) (.c oz0<|.c oz1<|.c oz2<|.c oz3<|.c oz4<|.c oz5<|.c oz6<|.c oz7<|.c oz8<|.c oz9<|.c oz6<|.c oz7<|.c oz8<|.c oz9<|.c oz6<|.c oz6<|.c oz6<|.c oz6<|.c (show (n.kd==8)=false by (refine decide_eq_false ?_;omega))<|.c (show (0:Int)≤(2:Int) by omega)<|.c (show (2:Int)<(↑(6:Nat):Int) by omega)<|.c oz21<|.c oz22<|.c oz23<|.c (show (0:Int)≤(3:Int) by omega)<|.c (show (3:Int)<(↑(6:Nat):Int) by omega)<|.c oz26<|.c oz22<|.c (show ((K_ (row1 .u8) ([]++L n.kd++L n.na++L n.no)).length+1)*1≤140737488355328 by (simp only[O_] at *;omega))<|.c (show (K_ (row1 .u8) ([]++L n.kd++L n.na++L n.no)).length+1≤9223372036854775807 by (simp only[O_] at *;omega))<|.c oz3<|.c oz4<|.c oz5<|.c oz6<|.c (show (0:Int)≤(4:Int) by omega)<|.c (show (4:Int)<(↑(6:Nat):Int) by omega)<|.c oz36<|.c oz22<|.c oz38<|.c (show (0:Int)≤(5:Int) by omega)<|.c (show (5:Int)<(↑(6:Nat):Int) by omega)<|.c oz41<|.c oz22<|.c (i6n n.qm (by omega))<|.c oz44<|.c oz45<|.c (show ((K_ (row1 .u8) ([]++L n.kd++L n.na++L n.no++[IntKind.u8.wrap n.za]++L (n.w.length:Int)++smallL n.w++L (n.b.length:Int)++wideL n.b++L n.qm++L n.qs)).length+1)*1≤140737488355328 by (simp only[O_] at *;omega))<|.c (show (K_ (row1 .u8) ([]++L n.kd++L n.na++L n.no++[IntKind.u8.wrap n.za]++L (n.w.length:Int)++smallL n.w++L (n.b.length:Int)++wideL n.b++L n.qm++L n.qs)).length+1≤9223372036854775807 by (simp only[O_] at *;omega))<|.c oz3<|.c oz4<|.c oz5<|.c oz6<|.c (show ((K_ (row1 .u8) ([]++L n.kd++L n.na++L n.no++[IntKind.u8.wrap n.za]++L (n.w.length:Int)++smallL n.w++L (n.b.length:Int)++wideL n.b++L n.qm++L n.qs)++[[u8 (IntKind.u8.wrap n.qz)]]).length+2)*1≤140737488355328 by (simp at *;omega))<|.c (show (K_ (row1 .u8) ([]++L n.kd++L n.na++L n.no++[IntKind.u8.wrap n.za]++L (n.w.length:Int)++smallL n.w++L (n.b.length:Int)++wideL n.b++L n.qm++L n.qs)++[[u8 (IntKind.u8.wrap n.qz)]]).length+2≤9223372036854775807 by (simp at *;omega))<|.n)).weak (D_ _) (BE_ (rows_to (row1 .u8) (r:=K_ (row1 .u8) ([]++L n.kd++L n.na++L n.no++[IntKind.u8.wrap n.za]++L (n.w.length:Int)++smallL n.w++L (n.b.length:Int)++wideL n.b++L n.qm++L n.qs)++[[u8 (IntKind.u8.wrap n.qz)]]++[[u8 (IntKind.u8.wrap n.lo)],[u8 (IntKind.u8.wrap n.hi)]]) (l:=[]++L n.kd++L n.na++L n.no++[IntKind.u8.wrap n.za]++L (n.w.length:Int)++smallL n.w++L (n.b.length:Int)++wideL n.b++L n.qm++L n.qs++[IntKind.u8.wrap n.qz]++[IntKind.u8.wrap n.lo,IntKind.u8.wrap n.hi]) (m:=L n.kd++L n.na++L n.no++[IntKind.u8.wrap n.za]++L (n.w.length:Int)++smallL n.w++L (n.b.length:Int)++wideL n.b++L n.qm++L n.qs++[IntKind.u8.wrap n.qz]++[IntKind.u8.wrap n.lo]++[IntKind.u8.wrap n.hi]) (by first|(simp only[Y_,C_,AO_,AP_,U_,AL_,AM_];done)|rfl|(simp only[Y_,C_,AO_,AP_,U_,AL_,AM_];rfl)) (show ([]++L n.kd++L n.na++L n.no++[IntKind.u8.wrap n.za]++L (n.w.length:Int)++smallL n.w++L (n.b.length:Int)++wideL n.b++L n.qm++L n.qs++[IntKind.u8.wrap n.qz]++[IntKind.u8.wrap n.lo,IntKind.u8.wrap n.hi])=(L n.kd++L n.na++L n.no++[IntKind.u8.wrap n.za]++L (n.w.length:Int)++smallL n.w++L (n.b.length:Int)++wideL n.b++L n.qm++L n.qs++[IntKind.u8.wrap n.qz]++[IntKind.u8.wrap n.lo]++[IntKind.u8.wrap n.hi]) from (by (simp;done)))))
theorem rbytes_4 (L:Int→List Int) (n:Nod) (hL:RPuts L) (hk:n.kd=4∨n.kd=5) (hw:n.w.length≤16384) (hb:n.b.length≤16384) (hx:∀ x∈n.b,-2147483648≤x∧x≤2147483647) (hq:In32 n.qm) (hr:In32 n.rm):VC M_ 169 ([nod n]) (.sl 1 ((L n.kd++L n.na++L n.nk++L n.ns++L n.np).map (row1 .u8))):=by
 have q0:=hL.l n.kd
 have q1:=hL.l n.na
 have q2:=hL.l n.nk
 have q3:=hL.l n.ns
 have q4:=hL.l n.np
 have bu0:([]++L n.kd).length≤1000000:=by (try simp only[AQ_,N_]);omega
 have bu1:([]++L n.kd++L n.na).length≤1000000:=by (try simp only[AQ_,N_]);omega
 have bu2:([]++L n.kd++L n.na++L n.nk).length≤1000000:=by (try simp only[AQ_,N_]);omega
 have bu3:([]++L n.kd++L n.na++L n.nk++L n.ns).length≤1000000:=by (try simp only[AQ_,N_]);omega
 have bu4:([]++L n.kd++L n.na++L n.nk++L n.ns++L n.np).length≤1000000:=by (try simp only[AQ_,N_]);omega
 clear q0 q1 q2 q3 q4
 have w5:n.w.length≤100000:=by omega
 have b5:n.b.length≤100000:=by omega
 have oz0:=@tells_4 (n.kd) hk
 have oz1:=@VM.pre _ _ ([AV.lit (AY_ none 0 0),i64 n.kd]) _ ([]) _ _ _ ([GI.nils 0 950 5 1,GI.sort]) _ (@rput_1 ([]) (L) (n.kd) (by (simp;done)) hL) (by kernel_rfl) (.n)
 have oz2:=@rput_1 ([]++L n.kd) (L) (n.na) bu0 hL
 have oz3:=(show (0:Int)≤(0:Int) by omega)
 have oz4:=(show (0:Int)<(↑(6:Nat):Int) by omega)
 have oz5:=(show [[bv false],[bv true],[bv false],[bv false],[bv false],[bv false]][(0:Nat)]? = some [bv false] from rfl)
 have oz6:=(show false=false by with_reducible rfl)
 have oz7:=(show (0:Int)≤(1:Int) by omega)
 have oz8:=(show (1:Int)<(↑(6:Nat):Int) by omega)
 have oz9:=(show [[bv false],[bv true],[bv false],[bv false],[bv false],[bv false]][(1:Nat)]? = some [bv true] from rfl)
 have oz10:=(show true=true by with_reducible rfl)
 have oz11:=@rput_1 ([]++L n.kd++L n.na) (L) (n.nk) bu1 hL
 have oz12:=@rput_1 ([]++L n.kd++L n.na++L n.nk) (L) (n.ns) bu2 hL
 have oz16:=(show true = !false by (simp;done))
 have oz21:=@rput_1 ([]++L n.kd++L n.na++L n.nk++L n.ns) (L) (n.np) bu3 hL
 have oz24:=(show [[bv false],[bv true],[bv false],[bv false],[bv false],[bv false]][(2:Nat)]? = some [bv false] from rfl)
 have oz28:=(show [[bv false],[bv true],[bv false],[bv false],[bv false],[bv false]][(3:Nat)]? = some [bv false] from rfl)
 have oz36:=(show [[bv false],[bv true],[bv false],[bv false],[bv false],[bv false]][(4:Nat)]? = some [bv false] from rfl)
 have oz40:=(show [[bv false],[bv true],[bv false],[bv false],[bv false],[bv false]][(5:Nat)]? = some [bv false] from rfl)
 exact (VC.run (fn:=Tryz.f169) (W:=[r_,.r [] [.callr (rO oz0)],.r [] [.callm [] [(951,20000)] (rM oz1) (oM oz1),.callm [(20000,950)] [(951,20001)] (rM oz2) (oM oz2)],.r [] [.row (sO oz5)],d_,.r [] [.row (sO oz9)],b_,.r [] [.callm [(20001,950)] [(951,20002)] (rM oz11) (oM oz11),.callm [(20002,950)] [(951,20003)] (rM oz12) (oM oz12)],.r [] [.row (sO oz9),f_,f_,f_,e_],b_,.r [] [.callm [(20003,950)] [(951,20004)] (rM oz21) (oM oz21)],.r [] [.row (sO oz24)],d_,.r [] [.row (sO oz24)],d_,.r [] [.row (sO oz24)],d_,.r [] [.row (sO oz24)],d_,.r [] [.row (sO oz24)],d_,r_]) (r:=AV.sl 1 (K_ (row1 .u8) ([]++L n.kd++L n.na++L n.nk++L n.ns++L n.np))) Tryz.func169 (by kernel_rfl) (.c oz0<|.c oz1<|.c oz2<|.c oz3<|.c oz4<|.c oz5<|.c oz6<|.c oz7<|.c oz8<|.c oz9<|.c oz10<|.c oz11<|.c oz12<|.c oz7<|.c oz8<|.c oz9<|.c oz16<|.c oz16<|.c oz16<|.c oz10<|.c oz10<|.c oz21<|.c (show (0:Int)≤(2:Int) by omega)<|.c (show (2:Int)<(↑(6:Nat):Int) by omega)<|.c oz24<|.c oz6<|.c (show (0:Int)≤(3:Int) by omega)<|.c (show (3:Int)<(↑(6:Nat):Int) by omega)<|.c oz28<|.c oz6<|.c oz3<|.c oz4<|.c oz5<|.c oz6<|.c (show (0:Int)≤(4:Int) by omega)<|.c (show (4:Int)<(↑(6:Nat):Int) by omega)<|.c oz36<|.c oz6<|.c (show (0:Int)≤(5:Int) by omega)<|.c (show (5:Int)<(↑(6:Nat):Int) by omega)<|.c oz40<|.c oz6<|.n)).weak (D_ _) (BE_ (rows_to (row1 .u8) (r:=K_ (row1 .u8) ([]++L n.kd++L n.na++L n.nk++L n.ns++L n.np)) (l:=[]++L n.kd++L n.na++L n.nk++L n.ns++L n.np) (m:=L n.kd++L n.na++L n.nk++L n.ns++L n.np) rfl (show ([]++L n.kd++L n.na++L n.nk++L n.ns++L n.np)=(L n.kd++L n.na++L n.nk++L n.ns++L n.np) from (by (simp;done)))))
theorem rbytes_6 (L:Int→List Int) (n:Nod) (hL:RPuts L) (hk:n.kd=6) (hw:n.w.length≤16384) (hb:n.b.length≤16384) (hx:∀ x∈n.b,-2147483648≤x∧x≤2147483647) (hq:In32 n.qm) (hr:In32 n.rm):VC M_ 169 ([nod n]) (.sl 1 ((L n.kd++L n.na++L n.nb++[IntKind.u8.wrap n.za]++[IntKind.u8.wrap n.zb]++L n.qm++L n.qs++[IntKind.u8.wrap n.qz]++L n.rm++L n.rs++[IntKind.u8.wrap n.lo]++[IntKind.u8.wrap n.hi]).map (row1 .u8))):=by
 have q0:=hL.l n.kd
 have q1:=hL.l n.na
 have q2:=hL.l n.nb
 have q3:([IntKind.u8.wrap n.za]).length=1:=rfl
 have q4:([IntKind.u8.wrap n.zb]).length=1:=rfl
 have q5:=hL.l n.qm
 have q6:=hL.l n.qs
 have q7:([IntKind.u8.wrap n.qz]).length=1:=rfl
 have q8:=hL.l n.rm
 have q9:=hL.l n.rs
 have q10:([IntKind.u8.wrap n.lo]).length=1:=rfl
 have q11:([IntKind.u8.wrap n.hi]).length=1:=rfl
 have bu0:([]++L n.kd).length≤1000000:=by (try simp only[AQ_,N_]);omega
 have bu1:([]++L n.kd++L n.na).length≤1000000:=by (try simp only[AQ_,N_]);omega
 have bu2:([]++L n.kd++L n.na++L n.nb).length≤1000000:=by (try simp only[AQ_,N_]);omega
 have bu3:([]++L n.kd++L n.na++L n.nb++[IntKind.u8.wrap n.za]).length≤1000000:=by (try simp only[AQ_,N_]);omega
 have bu4:([]++L n.kd++L n.na++L n.nb++[IntKind.u8.wrap n.za]++[IntKind.u8.wrap n.zb]).length≤1000000:=by (try simp only[AQ_,N_]);omega
 have bu5:([]++L n.kd++L n.na++L n.nb++[IntKind.u8.wrap n.za]++[IntKind.u8.wrap n.zb]++L n.qm).length≤1000000:=by (try simp only[AQ_,N_]);omega
 have bu6:([]++L n.kd++L n.na++L n.nb++[IntKind.u8.wrap n.za]++[IntKind.u8.wrap n.zb]++L n.qm++L n.qs).length≤1000000:=by (try simp only[AQ_,N_]);omega
 have bu7:([]++L n.kd++L n.na++L n.nb++[IntKind.u8.wrap n.za]++[IntKind.u8.wrap n.zb]++L n.qm++L n.qs++[IntKind.u8.wrap n.qz]).length≤1000000:=by (try simp only[AQ_,N_]);omega
 have bu8:([]++L n.kd++L n.na++L n.nb++[IntKind.u8.wrap n.za]++[IntKind.u8.wrap n.zb]++L n.qm++L n.qs++[IntKind.u8.wrap n.qz]++L n.rm).length≤1000000:=by (try simp only[AQ_,N_]);omega
 have bu9:([]++L n.kd++L n.na++L n.nb++[IntKind.u8.wrap n.za]++[IntKind.u8.wrap n.zb]++L n.qm++L n.qs++[IntKind.u8.wrap n.qz]++L n.rm++L n.rs).length≤1000000:=by (try simp only[AQ_,N_]);omega
 have bu10:([]++L n.kd++L n.na++L n.nb++[IntKind.u8.wrap n.za]++[IntKind.u8.wrap n.zb]++L n.qm++L n.qs++[IntKind.u8.wrap n.qz]++L n.rm++L n.rs++[IntKind.u8.wrap n.lo]).length≤1000000:=by (try simp only[AQ_,N_]);omega
 have bu11:([]++L n.kd++L n.na++L n.nb++[IntKind.u8.wrap n.za]++[IntKind.u8.wrap n.zb]++L n.qm++L n.qs++[IntKind.u8.wrap n.qz]++L n.rm++L n.rs++[IntKind.u8.wrap n.lo]++[IntKind.u8.wrap n.hi]).length≤1000000:=by (try simp only[AQ_,N_]);omega
 clear q0 q1 q2 q3 q4 q5 q6 q7 q8 q9 q10 q11
 have w5:n.w.length≤100000:=by omega
 have b5:n.b.length≤100000:=by omega
 have oz0:=@tells_6 (n.kd) hk
 have oz1:=@VM.pre _ _ ([AV.lit (AY_ none 0 0),i64 n.kd]) _ ([]) _ _ _ ([GI.nils 0 950 5 1,GI.sort]) _ (@rput_1 ([]) (L) (n.kd) (by (simp;done)) hL) (by kernel_rfl) (.n)
 have oz2:=@rput_1 ([]++L n.kd) (L) (n.na) bu0 hL
 have oz3:=(show (0:Int)≤(0:Int) by omega)
 have oz4:=(show (0:Int)<(↑(6:Nat):Int) by omega)
 have oz5:=(show [[bv true],[bv false],[bv false],[bv true],[bv false],[bv true]][(0:Nat)]? = some [bv true] from rfl)
 have oz6:=(show true=true by with_reducible rfl)
 have oz7:=@rput_1 ([]++L n.kd++L n.na) (L) (n.nb) bu1 hL
 have oz8:=(show (0:Int)≤(1:Int) by omega)
 have oz9:=(show (1:Int)<(↑(6:Nat):Int) by omega)
 have oz10:=(show [[bv true],[bv false],[bv false],[bv true],[bv false],[bv true]][(1:Nat)]? = some [bv false] from rfl)
 have oz11:=(show false=false by with_reducible rfl)
 have oz22:=(show [[bv true],[bv false],[bv false],[bv true],[bv false],[bv true]][(2:Nat)]? = some [bv false] from rfl)
 have oz26:=(show [[bv true],[bv false],[bv false],[bv true],[bv false],[bv true]][(3:Nat)]? = some [bv true] from rfl)
 have oz38:=(show [[bv true],[bv false],[bv false],[bv true],[bv false],[bv true]][(4:Nat)]? = some [bv false] from rfl)
 have oz42:=(show [[bv true],[bv false],[bv false],[bv true],[bv false],[bv true]][(5:Nat)]? = some [bv true] from rfl)
 have oz45:=@VM.pre _ _ ([AV.own 950,i64 n.qm]) _ ([(950,Blk.slc 5 1 (K_ (row1 .u8) ([]++L n.kd++L n.na++L n.nb)++[[u8 (IntKind.u8.wrap n.za)]]++[[u8 (IntKind.u8.wrap n.zb)]]))]) _ _ _ ([GI.blk 950 (Blk.slc 5 1 (K_ (row1 .u8) ([]++L n.kd++L n.na++L n.nb++[IntKind.u8.wrap n.za]++[IntKind.u8.wrap n.zb]))),GI.sort]) _ (@rput_1 ([]++L n.kd++L n.na++L n.nb++[IntKind.u8.wrap n.za]++[IntKind.u8.wrap n.zb]) (L) (n.qm) bu4 hL) (by kernel_rfl) (.c (AE_ (e:=5) (z:=1) (rows_to (row1 .u8) (r:=K_ (row1 .u8) ([]++L n.kd++L n.na++L n.nb)++[[u8 (IntKind.u8.wrap n.za)]]++[[u8 (IntKind.u8.wrap n.zb)]]) (l:=[]++L n.kd++L n.na++L n.nb++[IntKind.u8.wrap n.za]++[IntKind.u8.wrap n.zb]) (m:=[]++L n.kd++L n.na++L n.nb++[IntKind.u8.wrap n.za]++[IntKind.u8.wrap n.zb]) (by first|(simp only[Y_,C_,AO_,AP_,U_,AL_,AM_];done)|rfl|(simp only[Y_,C_,AO_,AP_,U_,AL_,AM_];rfl)) rfl))<|.n)
 have oz46:=@rput_1 ([]++L n.kd++L n.na++L n.nb++[IntKind.u8.wrap n.za]++[IntKind.u8.wrap n.zb]++L n.qm) (L) (n.qs) bu5 hL
 have oz54:=@VM.pre _ _ ([AV.own 950,i64 n.rm]) _ ([(950,Blk.slc 5 1 (K_ (row1 .u8) ([]++L n.kd++L n.na++L n.nb++[IntKind.u8.wrap n.za]++[IntKind.u8.wrap n.zb]++L n.qm++L n.qs)++[[u8 (IntKind.u8.wrap n.qz)]]))]) _ _ _ ([GI.blk 950 (Blk.slc 5 1 (K_ (row1 .u8) ([]++L n.kd++L n.na++L n.nb++[IntKind.u8.wrap n.za]++[IntKind.u8.wrap n.zb]++L n.qm++L n.qs++[IntKind.u8.wrap n.qz]))),GI.sort]) _ (@rput_1 ([]++L n.kd++L n.na++L n.nb++[IntKind.u8.wrap n.za]++[IntKind.u8.wrap n.zb]++L n.qm++L n.qs++[IntKind.u8.wrap n.qz]) (L) (n.rm) bu7 hL) (by kernel_rfl) (.c (AE_ (e:=5) (z:=1) (rows_to (row1 .u8) (r:=K_ (row1 .u8) ([]++L n.kd++L n.na++L n.nb++[IntKind.u8.wrap n.za]++[IntKind.u8.wrap n.zb]++L n.qm++L n.qs)++[[u8 (IntKind.u8.wrap n.qz)]]) (l:=[]++L n.kd++L n.na++L n.nb++[IntKind.u8.wrap n.za]++[IntKind.u8.wrap n.zb]++L n.qm++L n.qs++[IntKind.u8.wrap n.qz]) (m:=[]++L n.kd++L n.na++L n.nb++[IntKind.u8.wrap n.za]++[IntKind.u8.wrap n.zb]++L n.qm++L n.qs++[IntKind.u8.wrap n.qz]) (by first|(simp only[Y_,C_,AO_,AP_,U_,AL_,AM_];done)|rfl|(simp only[Y_,C_,AO_,AP_,U_,AL_,AM_];rfl)) rfl))<|.n)
 have oz55:=@rput_1 ([]++L n.kd++L n.na++L n.nb++[IntKind.u8.wrap n.za]++[IntKind.u8.wrap n.zb]++L n.qm++L n.qs++[IntKind.u8.wrap n.qz]++L n.rm) (L) (n.rs) bu8 hL
 exact (VC.run (fn:=Tryz.f169) (W:=[r_,.r [] [.callr (rO oz0)],.r [] [.callm [] [(951,20000)] (rM oz1) (oM oz1),.callm [(20000,950)] [(951,20001)] (rM oz2) (oM oz2)],.r [] [.row (sO oz5)],b_,.r [] [.callm [(20001,950)] [(951,20002)] (rM oz7) (oM oz7)],.r [] [.row (sO oz10)],d_,.r [] [.row (sO oz10),e_,e_,e_,f_],d_,.r [] [.row (sO oz10)],d_,.r [] [.row (sO oz26)],b_,.r [] [.w],.r [] [.row (sO oz26)],b_,.r [] [.w],.r [] [.row (sO oz38)],d_,.r [] [.row (sO oz42)],b_,.r [] [.n n.qm,.callm [(61,950)] [(951,20003)] (rM oz45) (oM oz45),.callm [(20003,950)] [(951,20004)] (rM oz46) (oM oz46),.w],.r [] [.row (sO oz5)],b_,.r [] [.n n.rm,.callm [(87,950)] [(951,20005)] (rM oz54) (oM oz54),.callm [(20005,950)] [(951,20006)] (rM oz55) (oM oz55)],.r [] [.w,.w],r_]) (r:=AV.sl 1 (K_ (row1 .u8) ([]++L n.kd++L n.na++L n.nb++[IntKind.u8.wrap n.za]++[IntKind.u8.wrap n.zb]++L n.qm++L n.qs++[IntKind.u8.wrap n.qz]++L n.rm++L n.rs)++[[u8 (IntKind.u8.wrap n.lo)],[u8 (IntKind.u8.wrap n.hi)]])) Tryz.func169 (by kernel_rfl) (.c oz0<|.c oz1<|.c oz2<|.c oz3<|.c oz4<|.c oz5<|.c oz6<|.c oz7<|.c oz8<|.c oz9<|.c oz10<|.c oz11<|.c oz8<|.c oz9<|.c oz10<|.c oz11<|.c oz11<|.c oz11<|.c oz11<|.c (show (n.kd==8)=false by (refine decide_eq_false ?_;omega))<|.c (show (0:Int)≤(2:Int) by omega)<|.c (show (2:Int)<(↑(6:Nat):Int) by omega)<|.c oz22<|.c oz11<|.c (show (0:Int)≤(3:Int) by omega)<|.c (show (3:Int)<(↑(6:Nat):Int) by omega)<|.c oz26<|.c oz6<|.c (show ((K_ (row1 .u8) ([]++L n.kd++L n.na++L n.nb)).length+1)*1≤140737488355328 by (simp only[O_] at *;omega))<|.c (show (K_ (row1 .u8) ([]++L n.kd++L n.na++L n.nb)).length+1≤9223372036854775807 by (simp only[O_] at *;omega))<|.c oz3<|.c oz4<|.c oz5<|.c oz6<|.c (show ((K_ (row1 .u8) ([]++L n.kd++L n.na++L n.nb)++[[u8 (IntKind.u8.wrap n.za)]]).length+1)*1≤140737488355328 by (simp at *;omega))<|.c (show (K_ (row1 .u8) ([]++L n.kd++L n.na++L n.nb)++[[u8 (IntKind.u8.wrap n.za)]]).length+1≤9223372036854775807 by (simp at *;omega))<|.c (show (0:Int)≤(4:Int) by omega)<|.c (show (4:Int)<(↑(6:Nat):Int) by omega)<|.c oz38<|.c oz11<|.c (show (0:Int)≤(5:Int) by omega)<|.c (show (5:Int)<(↑(6:Nat):Int) by omega)<|.c oz42<|.c oz6<|.c (i6n n.qm (by omega))<|.c oz45<|.c oz46<|.c (show ((K_ (row1 .u8) ([]++L n.kd++L n.na++L n.nb++[IntKind.u8.wrap n.za]++[IntKind.u8.wrap n.zb]++L n.qm++L n.qs)).length+1)*1≤140737488355328 by (simp only[O_] at *;omega))<|.c (show (K_ (row1 .u8) ([]++L n.kd++L n.na++L n.nb++[IntKind.u8.wrap n.za]++[IntKind.u8.wrap n.zb]++L n.qm++L n.qs)).length+1≤9223372036854775807 by (simp only[O_] at *;omega))<|.c oz3<|.c oz4<|.c oz5<|.c oz6<|.c (i6n n.rm (by omega))<|.c oz54<|.c oz55<|.c (show ((K_ (row1 .u8) ([]++L n.kd++L n.na++L n.nb++[IntKind.u8.wrap n.za]++[IntKind.u8.wrap n.zb]++L n.qm++L n.qs++[IntKind.u8.wrap n.qz]++L n.rm++L n.rs)).length+2)*1≤140737488355328 by (simp only[O_] at *;omega))<|.c (show (K_ (row1 .u8) ([]++L n.kd++L n.na++L n.nb++[IntKind.u8.wrap n.za]++[IntKind.u8.wrap n.zb]++L n.qm++L n.qs++[IntKind.u8.wrap n.qz]++L n.rm++L n.rs)).length+2≤9223372036854775807 by (simp only[O_] at *;omega))<|.n)).weak (D_ _) (BE_ (rows_to (row1 .u8) (r:=K_ (row1 .u8) ([]++L n.kd++L n.na++L n.nb++[IntKind.u8.wrap n.za]++[IntKind.u8.wrap n.zb]++L n.qm++L n.qs++[IntKind.u8.wrap n.qz]++L n.rm++L n.rs)++[[u8 (IntKind.u8.wrap n.lo)],[u8 (IntKind.u8.wrap n.hi)]]) (l:=[]++L n.kd++L n.na++L n.nb++[IntKind.u8.wrap n.za]++[IntKind.u8.wrap n.zb]++L n.qm++L n.qs++[IntKind.u8.wrap n.qz]++L n.rm++L n.rs++[IntKind.u8.wrap n.lo,IntKind.u8.wrap n.hi]) (m:=L n.kd++L n.na++L n.nb++[IntKind.u8.wrap n.za]++[IntKind.u8.wrap n.zb]++L n.qm++L n.qs++[IntKind.u8.wrap n.qz]++L n.rm++L n.rs++[IntKind.u8.wrap n.lo]++[IntKind.u8.wrap n.hi]) (by first|(simp only[Y_,C_,AO_,AP_,U_,AL_,AM_];done)|rfl|(simp only[Y_,C_,AO_,AP_,U_,AL_,AM_];rfl)) (show ([]++L n.kd++L n.na++L n.nb++[IntKind.u8.wrap n.za]++[IntKind.u8.wrap n.zb]++L n.qm++L n.qs++[IntKind.u8.wrap n.qz]++L n.rm++L n.rs++[IntKind.u8.wrap n.lo,IntKind.u8.wrap n.hi])=(L n.kd++L n.na++L n.nb++[IntKind.u8.wrap n.za]++[IntKind.u8.wrap n.zb]++L n.qm++L n.qs++[IntKind.u8.wrap n.qz]++L n.rm++L n.rs++[IntKind.u8.wrap n.lo]++[IntKind.u8.wrap n.hi]) from (by (simp;done)))))
theorem rbytes_7 (L:Int→List Int) (n:Nod) (hL:RPuts L) (hk:n.kd=7) (hw:n.w.length≤16384) (hb:n.b.length≤16384) (hx:∀ x∈n.b,-2147483648≤x∧x≤2147483647) (hq:In32 n.qm) (hr:In32 n.rm):VC M_ 169 ([nod n]) (.sl 1 ((L n.kd++L n.na++[IntKind.u8.wrap n.za]++L n.qm++L n.qs++[IntKind.u8.wrap n.qz]++[IntKind.u8.wrap n.lo]++[IntKind.u8.wrap n.hi]).map (row1 .u8))):=by
 have q0:=hL.l n.kd
 have q1:=hL.l n.na
 have q2:([IntKind.u8.wrap n.za]).length=1:=rfl
 have q3:=hL.l n.qm
 have q4:=hL.l n.qs
 have q5:([IntKind.u8.wrap n.qz]).length=1:=rfl
 have q6:([IntKind.u8.wrap n.lo]).length=1:=rfl
 have q7:([IntKind.u8.wrap n.hi]).length=1:=rfl
 have bu0:([]++L n.kd).length≤1000000:=by (try simp only[AQ_,N_]);omega
 have bu1:([]++L n.kd++L n.na).length≤1000000:=by (try simp only[AQ_,N_]);omega
 have bu2:([]++L n.kd++L n.na++[IntKind.u8.wrap n.za]).length≤1000000:=by (try simp only[AQ_,N_]);omega
 have bu3:([]++L n.kd++L n.na++[IntKind.u8.wrap n.za]++L n.qm).length≤1000000:=by (try simp only[AQ_,N_]);omega
 have bu4:([]++L n.kd++L n.na++[IntKind.u8.wrap n.za]++L n.qm++L n.qs).length≤1000000:=by (try simp only[AQ_,N_]);omega
 have bu5:([]++L n.kd++L n.na++[IntKind.u8.wrap n.za]++L n.qm++L n.qs++[IntKind.u8.wrap n.qz]).length≤1000000:=by (try simp only[AQ_,N_]);omega
 have bu6:([]++L n.kd++L n.na++[IntKind.u8.wrap n.za]++L n.qm++L n.qs++[IntKind.u8.wrap n.qz]++[IntKind.u8.wrap n.lo]).length≤1000000:=by (try simp only[AQ_,N_]);omega
 have bu7:([]++L n.kd++L n.na++[IntKind.u8.wrap n.za]++L n.qm++L n.qs++[IntKind.u8.wrap n.qz]++[IntKind.u8.wrap n.lo]++[IntKind.u8.wrap n.hi]).length≤1000000:=by (try simp only[AQ_,N_]);omega
 clear q0 q1 q2 q3 q4 q5 q6 q7
 have w5:n.w.length≤100000:=by omega
 have b5:n.b.length≤100000:=by omega
 have oz0:=@tells_7 (n.kd) hk
 have oz1:=@VM.pre _ _ ([AV.lit (AY_ none 0 0),i64 n.kd]) _ ([]) _ _ _ ([GI.nils 0 950 5 1,GI.sort]) _ (@rput_1 ([]) (L) (n.kd) (by (simp;done)) hL) (by kernel_rfl) (.n)
 have oz2:=@rput_1 ([]++L n.kd) (L) (n.na) bu0 hL
 have oz3:=(show (0:Int)≤(0:Int) by omega)
 have oz4:=(show (0:Int)<(↑(6:Nat):Int) by omega)
 have oz5:=(show [[bv false],[bv false],[bv false],[bv true],[bv false],[bv true]][(0:Nat)]? = some [bv false] from rfl)
 have oz6:=(show false=false by with_reducible rfl)
 have oz7:=(show (0:Int)≤(1:Int) by omega)
 have oz8:=(show (1:Int)<(↑(6:Nat):Int) by omega)
 have oz9:=(show [[bv false],[bv false],[bv false],[bv true],[bv false],[bv true]][(1:Nat)]? = some [bv false] from rfl)
 have oz21:=(show [[bv false],[bv false],[bv false],[bv true],[bv false],[bv true]][(2:Nat)]? = some [bv false] from rfl)
 have oz25:=(show [[bv false],[bv false],[bv false],[bv true],[bv false],[bv true]][(3:Nat)]? = some [bv true] from rfl)
 have oz26:=(show true=true by with_reducible rfl)
 have oz35:=(show [[bv false],[bv false],[bv false],[bv true],[bv false],[bv true]][(4:Nat)]? = some [bv false] from rfl)
 have oz39:=(show [[bv false],[bv false],[bv false],[bv true],[bv false],[bv true]][(5:Nat)]? = some [bv true] from rfl)
 have oz42:=@VM.pre _ _ ([AV.own 950,i64 n.qm]) _ ([(950,Blk.slc 5 1 (K_ (row1 .u8) ([]++L n.kd++L n.na)++[[u8 (IntKind.u8.wrap n.za)]]))]) _ _ _ ([GI.blk 950 (Blk.slc 5 1 (K_ (row1 .u8) ([]++L n.kd++L n.na++[IntKind.u8.wrap n.za]))),GI.sort]) _ (@rput_1 ([]++L n.kd++L n.na++[IntKind.u8.wrap n.za]) (L) (n.qm) bu2 hL) (by kernel_rfl) (.c (AE_ (e:=5) (z:=1) (rows_to (row1 .u8) (r:=K_ (row1 .u8) ([]++L n.kd++L n.na)++[[u8 (IntKind.u8.wrap n.za)]]) (l:=[]++L n.kd++L n.na++[IntKind.u8.wrap n.za]) (m:=[]++L n.kd++L n.na++[IntKind.u8.wrap n.za]) (by first|(simp only[Y_,C_,AO_,AP_,U_,AL_,AM_];done)|rfl|(simp only[Y_,C_,AO_,AP_,U_,AL_,AM_];rfl)) rfl))<|.n)
 have oz43:=@rput_1 ([]++L n.kd++L n.na++[IntKind.u8.wrap n.za]++L n.qm) (L) (n.qs) bu3 hL
 exact (VC.run (fn:=Tryz.f169) (W:=[r_,.r [] [.callr (rO oz0)],.r [] [.callm [] [(951,20000)] (rM oz1) (oM oz1),.callm [(20000,950)] [(951,20001)] (rM oz2) (oM oz2)],.r [] [.row (sO oz5)],d_,.r [] [.row (sO oz5)],d_,.r [] [.row (sO oz5),e_,e_,e_,f_],d_,.r [] [.row (sO oz5)],d_,.r [] [.row (sO oz25)],b_,.r [] [.w],.r [] [.row (sO oz5)],d_,.r [] [.row (sO oz5)],d_,.r [] [.row (sO oz39)],b_,.r [] [.n n.qm,.callm [(53,950)] [(951,20002)] (rM oz42) (oM oz42),.callm [(20002,950)] [(951,20003)] (rM oz43) (oM oz43),.w],.r [] [.row (sO oz5)],d_,.r [] [.w,.w],r_]) (r:=AV.sl 1 (K_ (row1 .u8) ([]++L n.kd++L n.na++[IntKind.u8.wrap n.za]++L n.qm++L n.qs)++[[u8 (IntKind.u8.wrap n.qz)]]++[[u8 (IntKind.u8.wrap n.lo)],[u8 (IntKind.u8.wrap n.hi)]])) Tryz.func169 (by kernel_rfl) (.c oz0<|.c oz1<|.c oz2<|.c oz3<|.c oz4<|.c oz5<|.c oz6<|.c oz7<|.c oz8<|.c oz9<|.c oz6<|.c oz7<|.c oz8<|.c oz9<|.c oz6<|.c oz6<|.c oz6<|.c oz6<|.c (show (n.kd==8)=false by (refine decide_eq_false ?_;omega))<|.c (show (0:Int)≤(2:Int) by omega)<|.c (show (2:Int)<(↑(6:Nat):Int) by omega)<|.c oz21<|.c oz6<|.c (show (0:Int)≤(3:Int) by omega)<|.c (show (3:Int)<(↑(6:Nat):Int) by omega)<|.c oz25<|.c oz26<|.c (show ((K_ (row1 .u8) ([]++L n.kd++L n.na)).length+1)*1≤140737488355328 by (simp only[O_] at *;omega))<|.c (show (K_ (row1 .u8) ([]++L n.kd++L n.na)).length+1≤9223372036854775807 by (simp only[O_] at *;omega))<|.c oz3<|.c oz4<|.c oz5<|.c oz6<|.c (show (0:Int)≤(4:Int) by omega)<|.c (show (4:Int)<(↑(6:Nat):Int) by omega)<|.c oz35<|.c oz6<|.c (show (0:Int)≤(5:Int) by omega)<|.c (show (5:Int)<(↑(6:Nat):Int) by omega)<|.c oz39<|.c oz26<|.c (i6n n.qm (by omega))<|.c oz42<|.c oz43<|.c (show ((K_ (row1 .u8) ([]++L n.kd++L n.na++[IntKind.u8.wrap n.za]++L n.qm++L n.qs)).length+1)*1≤140737488355328 by (simp only[O_] at *;omega))<|.c (show (K_ (row1 .u8) ([]++L n.kd++L n.na++[IntKind.u8.wrap n.za]++L n.qm++L n.qs)).length+1≤9223372036854775807 by (simp only[O_] at *;omega))<|.c oz3<|.c oz4<|.c oz5<|.c oz6<|.c (show ((K_ (row1 .u8) ([]++L n.kd++L n.na++[IntKind.u8.wrap n.za]++L n.qm++L n.qs)++[[u8 (IntKind.u8.wrap n.qz)]]).length+2)*1≤140737488355328 by (simp at *;omega))<|.c (show (K_ (row1 .u8) ([]++L n.kd++L n.na++[IntKind.u8.wrap n.za]++L n.qm++L n.qs)++[[u8 (IntKind.u8.wrap n.qz)]]).length+2≤9223372036854775807 by (simp at *;omega))<|.n)).weak (D_ _) (BE_ (rows_to (row1 .u8) (r:=K_ (row1 .u8) ([]++L n.kd++L n.na++[IntKind.u8.wrap n.za]++L n.qm++L n.qs)++[[u8 (IntKind.u8.wrap n.qz)]]++[[u8 (IntKind.u8.wrap n.lo)],[u8 (IntKind.u8.wrap n.hi)]]) (l:=[]++L n.kd++L n.na++[IntKind.u8.wrap n.za]++L n.qm++L n.qs++[IntKind.u8.wrap n.qz]++[IntKind.u8.wrap n.lo,IntKind.u8.wrap n.hi]) (m:=L n.kd++L n.na++[IntKind.u8.wrap n.za]++L n.qm++L n.qs++[IntKind.u8.wrap n.qz]++[IntKind.u8.wrap n.lo]++[IntKind.u8.wrap n.hi]) (by first|(simp only[Y_,C_,AO_,AP_,U_,AL_,AM_];done)|rfl|(simp only[Y_,C_,AO_,AP_,U_,AL_,AM_];rfl)) (show ([]++L n.kd++L n.na++[IntKind.u8.wrap n.za]++L n.qm++L n.qs++[IntKind.u8.wrap n.qz]++[IntKind.u8.wrap n.lo,IntKind.u8.wrap n.hi])=(L n.kd++L n.na++[IntKind.u8.wrap n.za]++L n.qm++L n.qs++[IntKind.u8.wrap n.qz]++[IntKind.u8.wrap n.lo]++[IntKind.u8.wrap n.hi]) from (by (simp;done)))))
theorem rbytes_8 (L:Int→List Int) (n:Nod) (hL:RPuts L) (hk:n.kd=8) (hw:n.w.length≤16384) (hb:n.b.length≤16384) (hx:∀ x∈n.b,-2147483648≤x∧x≤2147483647) (hq:In32 n.qm) (hr:In32 n.rm):VC M_ 169 ([nod n]) (.sl 1 ((L n.kd++L n.na++L n.np++[IntKind.u8.wrap n.za]).map (row1 .u8))):=by
 have q0:=hL.l n.kd
 have q1:=hL.l n.na
 have q2:=hL.l n.np
 have q3:([IntKind.u8.wrap n.za]).length=1:=rfl
 have bu0:([]++L n.kd).length≤1000000:=by (try simp only[AQ_,N_]);omega
 have bu1:([]++L n.kd++L n.na).length≤1000000:=by (try simp only[AQ_,N_]);omega
 have bu2:([]++L n.kd++L n.na++L n.np).length≤1000000:=by (try simp only[AQ_,N_]);omega
 have bu3:([]++L n.kd++L n.na++L n.np++[IntKind.u8.wrap n.za]).length≤1000000:=by (try simp only[AQ_,N_]);omega
 clear q0 q1 q2 q3
 have w5:n.w.length≤100000:=by omega
 have b5:n.b.length≤100000:=by omega
 have oz0:=@tells_8 (n.kd) hk
 have oz1:=@VM.pre _ _ ([AV.lit (AY_ none 0 0),i64 n.kd]) _ ([]) _ _ _ ([GI.nils 0 950 5 1,GI.sort]) _ (@rput_1 ([]) (L) (n.kd) (by (simp;done)) hL) (by kernel_rfl) (.n)
 have oz2:=@rput_1 ([]++L n.kd) (L) (n.na) bu0 hL
 have oz3:=(show (0:Int)≤(0:Int) by omega)
 have oz4:=(show (0:Int)<(↑(6:Nat):Int) by omega)
 have oz5:=(show [[bv false],[bv false],[bv false],[bv true],[bv false],[bv false]][(0:Nat)]? = some [bv false] from rfl)
 have oz6:=(show false=false by with_reducible rfl)
 have oz7:=(show (0:Int)≤(1:Int) by omega)
 have oz8:=(show (1:Int)<(↑(6:Nat):Int) by omega)
 have oz9:=(show [[bv false],[bv false],[bv false],[bv true],[bv false],[bv false]][(1:Nat)]? = some [bv false] from rfl)
 have oz19:=@rput_1 ([]++L n.kd++L n.na) (L) (n.np) bu1 hL
 have oz22:=(show [[bv false],[bv false],[bv false],[bv true],[bv false],[bv false]][(2:Nat)]? = some [bv false] from rfl)
 have oz26:=(show [[bv false],[bv false],[bv false],[bv true],[bv false],[bv false]][(3:Nat)]? = some [bv true] from rfl)
 have oz36:=(show [[bv false],[bv false],[bv false],[bv true],[bv false],[bv false]][(4:Nat)]? = some [bv false] from rfl)
 have oz40:=(show [[bv false],[bv false],[bv false],[bv true],[bv false],[bv false]][(5:Nat)]? = some [bv false] from rfl)
 exact (VC.run (fn:=Tryz.f169) (W:=[r_,.r [] [.callr (rO oz0)],.r [] [.callm [] [(951,20000)] (rM oz1) (oM oz1),.callm [(20000,950)] [(951,20001)] (rM oz2) (oM oz2)],.r [] [.row (sO oz5)],d_,.r [] [.row (sO oz5)],d_,.r [] [.row (sO oz5),e_,e_,e_,f_],b_,.r [] [.callm [(20001,950)] [(951,20002)] (rM oz19) (oM oz19)],.r [] [.row (sO oz22)],d_,.r [] [.row (sO oz26)],b_,.r [] [.w],.r [] [.row (sO oz5)],d_,.r [] [.row (sO oz5)],d_,.r [] [.row (sO oz5)],d_,r_]) (r:=AV.sl 1 (K_ (row1 .u8) ([]++L n.kd++L n.na++L n.np)++[[u8 (IntKind.u8.wrap n.za)]])) Tryz.func169 (by kernel_rfl) (.c oz0<|.c oz1<|.c oz2<|.c oz3<|.c oz4<|.c oz5<|.c oz6<|.c oz7<|.c oz8<|.c oz9<|.c oz6<|.c oz7<|.c oz8<|.c oz9<|.c oz6<|.c oz6<|.c oz6<|.c oz6<|.c (show (n.kd==8)=true by (refine decide_eq_true ?_;omega))<|.c oz19<|.c (show (0:Int)≤(2:Int) by omega)<|.c (show (2:Int)<(↑(6:Nat):Int) by omega)<|.c oz22<|.c oz6<|.c (show (0:Int)≤(3:Int) by omega)<|.c (show (3:Int)<(↑(6:Nat):Int) by omega)<|.c oz26<|.c (show true=true by with_reducible rfl)<|.c (show ((K_ (row1 .u8) ([]++L n.kd++L n.na++L n.np)).length+1)*1≤140737488355328 by (simp only[O_] at *;omega))<|.c (show (K_ (row1 .u8) ([]++L n.kd++L n.na++L n.np)).length+1≤9223372036854775807 by (simp only[O_] at *;omega))<|.c oz3<|.c oz4<|.c oz5<|.c oz6<|.c (show (0:Int)≤(4:Int) by omega)<|.c (show (4:Int)<(↑(6:Nat):Int) by omega)<|.c oz36<|.c oz6<|.c (show (0:Int)≤(5:Int) by omega)<|.c (show (5:Int)<(↑(6:Nat):Int) by omega)<|.c oz40<|.c oz6<|.n)).weak (D_ _) (BE_ (rows_to (row1 .u8) (r:=K_ (row1 .u8) ([]++L n.kd++L n.na++L n.np)++[[u8 (IntKind.u8.wrap n.za)]]) (l:=[]++L n.kd++L n.na++L n.np++[IntKind.u8.wrap n.za]) (m:=L n.kd++L n.na++L n.np++[IntKind.u8.wrap n.za]) (by first|(simp only[Y_,C_,AO_,AP_,U_,AL_,AM_];done)|rfl|(simp only[Y_,C_,AO_,AP_,U_,AL_,AM_];rfl)) (show ([]++L n.kd++L n.na++L n.np++[IntKind.u8.wrap n.za])=(L n.kd++L n.na++L n.np++[IntKind.u8.wrap n.za]) from (by (simp;done)))))
theorem rbytes_9 (L:Int→List Int) (n:Nod) (hL:RPuts L) (hk:n.kd<1∨8<n.kd) (hw:n.w.length≤16384) (hb:n.b.length≤16384) (hx:∀ x∈n.b,-2147483648≤x∧x≤2147483647) (hq:In32 n.qm) (hr:In32 n.rm):VC M_ 169 ([nod n]) (.sl 1 ((L n.kd++L n.na).map (row1 .u8))):=by
 have q0:=hL.l n.kd
 have q1:=hL.l n.na
 have bu0:([]++L n.kd).length≤1000000:=by (try simp only[AQ_,N_]);omega
 have bu1:([]++L n.kd++L n.na).length≤1000000:=by (try simp only[AQ_,N_]);omega
 clear q0 q1
 have w5:n.w.length≤100000:=by omega
 have b5:n.b.length≤100000:=by omega
 have oz0:=@tells_9 (n.kd) hk
 have oz1:=@VM.pre _ _ ([AV.lit (AY_ none 0 0),i64 n.kd]) _ ([]) _ _ _ ([GI.nils 0 950 5 1,GI.sort]) _ (@rput_1 ([]) (L) (n.kd) (by (simp;done)) hL) (by kernel_rfl) (.n)
 have oz2:=@rput_1 ([]++L n.kd) (L) (n.na) bu0 hL
 have oz3:=(show (0:Int)≤(0:Int) by omega)
 have oz4:=(show (0:Int)<(↑(6:Nat):Int) by omega)
 have oz5:=(show [[bv false],[bv false],[bv false],[bv false],[bv false],[bv false]][(0:Nat)]? = some [bv false] from rfl)
 have oz6:=(show false=false by with_reducible rfl)
 have oz7:=(show (0:Int)≤(1:Int) by omega)
 have oz8:=(show (1:Int)<(↑(6:Nat):Int) by omega)
 have oz9:=(show [[bv false],[bv false],[bv false],[bv false],[bv false],[bv false]][(1:Nat)]? = some [bv false] from rfl)
 have oz21:=(show [[bv false],[bv false],[bv false],[bv false],[bv false],[bv false]][(2:Nat)]? = some [bv false] from rfl)
 have oz25:=(show [[bv false],[bv false],[bv false],[bv false],[bv false],[bv false]][(3:Nat)]? = some [bv false] from rfl)
 have oz33:=(show [[bv false],[bv false],[bv false],[bv false],[bv false],[bv false]][(4:Nat)]? = some [bv false] from rfl)
 have oz37:=(show [[bv false],[bv false],[bv false],[bv false],[bv false],[bv false]][(5:Nat)]? = some [bv false] from rfl)
 exact (VC.run (fn:=Tryz.f169) (W:=[r_,.r [] [.callr (rO oz0)],.r [] [.callm [] [(951,20000)] (rM oz1) (oM oz1),.callm [(20000,950)] [(951,20001)] (rM oz2) (oM oz2)],.r [] [.row (sO oz5)],d_,.r [] [.row (sO oz5)],d_,.r [] [.row (sO oz5),e_,e_,e_,f_],d_,.r [] [.row (sO oz5)],d_,.r [] [.row (sO oz5)],d_,.r [] [.row (sO oz5)],d_,.r [] [.row (sO oz5)],d_,.r [] [.row (sO oz5)],d_,r_]) (r:=AV.sl 1 (K_ (row1 .u8) ([]++L n.kd++L n.na))) Tryz.func169 (by kernel_rfl) (.c oz0<|.c oz1<|.c oz2<|.c oz3<|.c oz4<|.c oz5<|.c oz6<|.c oz7<|.c oz8<|.c oz9<|.c oz6<|.c oz7<|.c oz8<|.c oz9<|.c oz6<|.c oz6<|.c oz6<|.c oz6<|.c (show (n.kd==8)=false by (refine decide_eq_false ?_;omega))<|.c (show (0:Int)≤(2:Int) by omega)<|.c (show (2:Int)<(↑(6:Nat):Int) by omega)<|.c oz21<|.c oz6<|.c (show (0:Int)≤(3:Int) by omega)<|.c (show (3:Int)<(↑(6:Nat):Int) by omega)<|.c oz25<|.c oz6<|.c oz3<|.c oz4<|.c oz5<|.c oz6<|.c (show (0:Int)≤(4:Int) by omega)<|.c (show (4:Int)<(↑(6:Nat):Int) by omega)<|.c oz33<|.c oz6<|.c (show (0:Int)≤(5:Int) by omega)<|.c (show (5:Int)<(↑(6:Nat):Int) by omega)<|.c oz37<|.c oz6<|.n)).weak (D_ _) (BE_ (rows_to (row1 .u8) (r:=K_ (row1 .u8) ([]++L n.kd++L n.na)) (l:=[]++L n.kd++L n.na) (m:=L n.kd++L n.na) rfl (show ([]++L n.kd++L n.na)=(L n.kd++L n.na) from (by (simp;done)))))
noncomputable def nrng_y_I (l:List Int) (n:Nod) (k:Nat):VS:=stt 57 [(1,.ptr 1 0 0),(25,.sl 1 (l.map (row1 .i64))),(26,i64 6),(27,i64 k)] [(1,.var (nodC n))]
noncomputable def nrng_y_Z (l:List Int) (n:Nod):VS:=nrng_y_I l n (6)
theorem nrng_y_s (l:List Int) (n:Nod) (hl:l.length=6) (h:∀ k,k<6→okI (l.getD k default)=true) (k:Nat) (hk:k<6):VT M_ (fnC Tryz.f134 [1,1,0,1,0,0]) (nrng_y_I l n k) .normal (nrng_y_I l n (k+1)):=by
 have q:=h k hk
 simp only[okI,P_,E_] at q
 have ql:(l.map (row1 .i64)).length=6:=by rw[O_];exact hl
 exact VT.run (W:=[r_,b_,.r [] [.row [i64 (l.getD k 0)]],.r [] [o_,o_,.sel 1],d_,.r [] [.n ((↑k:Int)+1)]]) (G:=[.any (rg [(6,1),(28,6),(36,2)]),.weak 27 (i64 (↑(k+1):Int)),.sort]) (by kernel_rfl) (.c (decide_eq_true (p:=((↑k:Int)<6)) (by omega))<|.c (show 0≤(↑k:Int) by omega)<|.c (map_at (row1 .i64) (0) (l:=l) (i:=k) (by omega))<|.c (show (decide (l.getD k 0<0) || decide (l.getD k 0>1024))=false by (simp at *;omega))<|.c (i6n ((↑k:Int)+1) (by omega))<|.c (wS_ k)<|.n)
theorem nrng_y_e (l:List Int) (n:Nod) (hl:l.length=6) (h:∀ k,k<6→okI (l.getD k default)=true):VT M_ (fnC Tryz.f134 [1,1,0,1,0,0]) (nrng_y_I l n (6)) (.exit 0) (nrng_y_Z l n):=by
 exact VT.run (W:=[r_,d_]) (G:=[.any [28],.sort]) (by kernel_rfl) (.c (show false=false by with_reducible rfl)<|.n)
theorem nrng_y (l:List Int) (n:Nod) (hl:l.length=6) (h:∀ k,k<6→okI (l.getD k default)=true):VT M_ (fnC Tryz.f134 [1,1,0,1,0]) (nrng_y_I l n 0) (.exit 0) (nrng_y_Z l n) :=
 VT.loop (fun k=>nrng_y_I l n k) (6) (fun k hk=>nrng_y_s l n hl h k hk) (nrng_y_e l n hl h) (by intro h;cases h)
noncomputable def nrng_n_I (l:List Int) (n:Nod) (m:Nat) (k:Nat):VS:=stt 57 [(1,.ptr 1 0 0),(25,.sl 1 (l.map (row1 .i64))),(26,i64 6),(27,i64 k)] [(1,.var (nodC n))]
noncomputable def nrng_n_Z (l:List Int) (n:Nod) (m:Nat):VS:=stt 57 [(2,nilv),(3,i64 3)] []
theorem nrng_n_s (l:List Int) (n:Nod) (m:Nat) (hl:l.length=6) (hm:m<6) (hf:okI (l.getD m default)≠true) (h:∀ k,k<m→okI (l.getD k default)=true) (k:Nat) (hk:k<m):VT M_ (fnC Tryz.f134 [1,1,0,1,0,0]) (nrng_n_I l n m k) .normal (nrng_n_I l n m (k+1)):=by
 have q:=h k hk
 simp only[okI,P_,E_] at q
 have ql:(l.map (row1 .i64)).length=6:=by rw[O_];exact hl
 exact VT.run (W:=[r_,b_,.r [] [.row [i64 (l.getD k 0)]],.r [] [o_,o_,.sel 1],d_,.r [] [.n ((↑k:Int)+1)]]) (G:=[.any (rg [(6,1),(28,6),(36,2)]),.weak 27 (i64 (↑(k+1):Int)),.sort]) (by kernel_rfl) (.c (decide_eq_true (p:=((↑k:Int)<6)) (by omega))<|.c (show 0≤(↑k:Int) by omega)<|.c (map_at (row1 .i64) (0) (l:=l) (i:=k) (by omega))<|.c (show (decide (l.getD k 0<0) || decide (l.getD k 0>1024))=false by (simp at *;omega))<|.c (i6n ((↑k:Int)+1) (by omega))<|.c (wS_ k)<|.n)
theorem nrng_n_e (l:List Int) (n:Nod) (m:Nat) (hl:l.length=6) (hm:m<6) (hf:okI (l.getD m default)≠true) (h:∀ k,k<m→okI (l.getD k default)=true):VT M_ (fnC Tryz.f134 [1,1,0,1,0,0]) (nrng_n_I l n m (m)) (.ret) (nrng_n_Z l n m):=by
 have q:=okI_n hf
 have ql:(l.map (row1 .i64)).length=6:=by rw[O_];exact hl
 exact VT.run (W:=[r_,b_,.r [] [.row [i64 (l.getD m 0)]],.r [] [o_,o_,.sel 1],b_,r_]) (G:=[.any (rg [(1,1),(6,1),(25,9),(36,1)]),.drop [1],.sort]) (by kernel_rfl) (.c (decide_eq_true (p:=((↑m:Int)<6)) (by omega))<|.c (show 0≤(↑m:Int) by omega)<|.c (map_at (row1 .i64) (0) (l:=l) (i:=m) (by omega))<|.c (show (decide (l.getD m 0<0) || decide (l.getD m 0>1024))=true by (simp at *;omega))<|.n)
theorem nrng_n (l:List Int) (n:Nod) (m:Nat) (hl:l.length=6) (hm:m<6) (hf:okI (l.getD m default)≠true) (h:∀ k,k<m→okI (l.getD k default)=true):VT M_ (fnC Tryz.f134 [1,1,0,1,0]) (nrng_n_I l n m 0) (.ret) (nrng_n_Z l n m) :=
 VT.loop (fun k=>nrng_n_I l n m k) (m) (fun k hk=>nrng_n_s l n m hl hm hf h k hk) (nrng_n_e l n m hl hm hf h) (by intro h;cases h)
noncomputable def rrng_y_I (l:List Int) (n:Nod) (k:Nat):VS:=stt 53 [(1,.ptr 1 0 0),(5,.sl 1 (l.map (row1 .i64))),(6,i64 k)] [(1,.var (nodC n))]
noncomputable def rrng_y_Z (l:List Int) (n:Nod):VS:=rrng_y_I l n (6)
theorem rrng_y_s (l:List Int) (n:Nod) (hl:l.length=6) (h:∀ k,k<6→okI (l.getD k default)=true) (k:Nat) (hk:k<6):VT M_ (fnC Tryz.f137 [1,1,1,0,1,0,0]) (rrng_y_I l n k) .normal (rrng_y_I l n (k+1)):=by
 have q:=h k hk
 simp only[okI,P_,E_] at q
 have ql:(l.map (row1 .i64)).length=6:=by rw[O_];exact hl
 have oz1:=(show 0≤(↑k:Int) by omega)
 have oz2:=(map_at (row1 .i64) (0) (l:=l) (i:=k) (by omega))
 exact VT.run (W:=[r_,b_,.r [] [.row (sO oz2),o_,o_,o_,.row (sO oz2),o_,o_,.sel 1],d_,.r [] [.n ((↑k:Int)+1)]]) (G:=[.any (rg [(25,10),(40,1)]),.weak 6 (i64 (↑(k+1):Int)),.sort]) (by kernel_rfl) (.c (decide_eq_true (p:=((↑k:Int)<6)) (by omega))<|.c oz1<|.c oz2<|.c oz1<|.c oz2<|.c (show (decide (l.getD k 0<0) || decide (l.getD k 0>1024))=false by (simp at *;omega))<|.c (i6n ((↑k:Int)+1) (by omega))<|.c (wS_ k)<|.n)
theorem rrng_y_e (l:List Int) (n:Nod) (hl:l.length=6) (h:∀ k,k<6→okI (l.getD k default)=true):VT M_ (fnC Tryz.f137 [1,1,1,0,1,0,0]) (rrng_y_I l n (6)) (.exit 0) (rrng_y_Z l n):=by
 exact VT.run (W:=[r_,d_]) (G:=[.any [25,26],.sort]) (by kernel_rfl) (.c (show false=false by with_reducible rfl)<|.n)
theorem rrng_y (l:List Int) (n:Nod) (hl:l.length=6) (h:∀ k,k<6→okI (l.getD k default)=true):VT M_ (fnC Tryz.f137 [1,1,1,0,1,0]) (rrng_y_I l n 0) (.exit 0) (rrng_y_Z l n) :=
 VT.loop (fun k=>rrng_y_I l n k) (6) (fun k hk=>rrng_y_s l n hl h k hk) (rrng_y_e l n hl h) (by intro h;cases h)
noncomputable def rrng_n_I (l:List Int) (n:Nod) (m:Nat) (k:Nat):VS:=stt 53 [(1,.ptr 1 0 0),(5,.sl 1 (l.map (row1 .i64))),(6,i64 k)] [(1,.var (nodC n))]
noncomputable def rrng_n_Z (l:List Int) (n:Nod) (m:Nat):VS:=stt 53 [(2,nilv),(3,i64 3)] []
theorem rrng_n_s (l:List Int) (n:Nod) (m:Nat) (hl:l.length=6) (hm:m<6) (hf:okI (l.getD m default)≠true) (h:∀ k,k<m→okI (l.getD k default)=true) (k:Nat) (hk:k<m):VT M_ (fnC Tryz.f137 [1,1,1,0,1,0,0]) (rrng_n_I l n m k) .normal (rrng_n_I l n m (k+1)):=by
 have q:=h k hk
 simp only[okI,P_,E_] at q
 have ql:(l.map (row1 .i64)).length=6:=by rw[O_];exact hl
 have oz1:=(show 0≤(↑k:Int) by omega)
 have oz2:=(map_at (row1 .i64) (0) (l:=l) (i:=k) (by omega))
 exact VT.run (W:=[r_,b_,.r [] [.row (sO oz2),o_,o_,o_,.row (sO oz2),o_,o_,.sel 1],d_,.r [] [.n ((↑k:Int)+1)]]) (G:=[.any (rg [(25,10),(40,1)]),.weak 6 (i64 (↑(k+1):Int)),.sort]) (by kernel_rfl) (.c (decide_eq_true (p:=((↑k:Int)<6)) (by omega))<|.c oz1<|.c oz2<|.c oz1<|.c oz2<|.c (show (decide (l.getD k 0<0) || decide (l.getD k 0>1024))=false by (simp at *;omega))<|.c (i6n ((↑k:Int)+1) (by omega))<|.c (wS_ k)<|.n)
theorem rrng_n_e (l:List Int) (n:Nod) (m:Nat) (hl:l.length=6) (hm:m<6) (hf:okI (l.getD m default)≠true) (h:∀ k,k<m→okI (l.getD k default)=true):VT M_ (fnC Tryz.f137 [1,1,1,0,1,0,0]) (rrng_n_I l n m (m)) (.ret) (rrng_n_Z l n m):=by
 have q:=okI_n hf
 have ql:(l.map (row1 .i64)).length=6:=by rw[O_];exact hl
 have oz1:=(show 0≤(↑m:Int) by omega)
 have oz2:=(map_at (row1 .i64) (0) (l:=l) (i:=m) (by omega))
 exact VT.run (W:=[r_,b_,.r [] [.row (sO oz2),o_,o_,o_,.row (sO oz2),o_,o_,.sel 1],b_,r_]) (G:=[.any [1,5,6,25,26,29,30,31,32,33,34,40],.drop [1],.sort]) (by kernel_rfl) (.c (decide_eq_true (p:=((↑m:Int)<6)) (by omega))<|.c oz1<|.c oz2<|.c oz1<|.c oz2<|.c (show (decide (l.getD m 0<0) || decide (l.getD m 0>1024))=true by (simp at *;omega))<|.n)
theorem rrng_n (l:List Int) (n:Nod) (m:Nat) (hl:l.length=6) (hm:m<6) (hf:okI (l.getD m default)≠true) (h:∀ k,k<m→okI (l.getD k default)=true):VT M_ (fnC Tryz.f137 [1,1,1,0,1,0]) (rrng_n_I l n m 0) (.ret) (rrng_n_Z l n m) :=
 VT.loop (fun k=>rrng_n_I l n m k) (m) (fun k hk=>rrng_n_s l n m hl hm hf h k hk) (rrng_n_e l n m hl hm hf h) (by intro h;cases h)
theorem pnode_c (n:Nod) (hw:n.w.length≤100000) (hb:n.b.length≤100000) (hk:In64 n.kd) (hc:checkE n≠0):VC M_ 134 ([nod n]) (.tup [.sl 1 (([]:List Int).map (row1 .u8)),i64 (checkE n)]):=by
 have oz0:=@check_v (n) hw hb hk
 exact (VC.run (fn:=Tryz.f134) (W:=[r_,.r [] [.callr (rO oz0)],r_,b_,r_]) (r:=AV.tup [AV.lit (AY_ none 0 0),i64 (checkE n)]) Tryz.func134 (by kernel_rfl) (.c oz0<|.c (show (checkE n != 0)=true by (simp;omega))<|.n)).weak (D_ _) (AB_ (.cons (BQ_ _) (.cons (.refl _) .nil)))
theorem pnode_r (n:Nod) (m:Nat) (hw:n.w.length≤100000) (hb:n.b.length≤100000) (hk:In64 n.kd) (hc:checkE n=0) (hm:m<6) (hf:okI ((six n).getD m default)≠true) (h:∀ k,k<m→okI ((six n).getD k default)=true):VC M_ 134 ([nod n]) (.tup [.sl 1 (([]:List Int).map (row1 .u8)),i64 3]):=by
 have hl6:(six n).length=6:=rfl
 have oz0:=@check_v (n) hw hb hk
 have oz4:=@nrng_n (six n) (n) (m) hl6 hm hf h
 exact (VC.run (fn:=Tryz.f134) (W:=[r_,.r [] [.callr (rO oz0)],r_,d_,r_,.code [.frz 25,.any (rg [(0,1),(2,3),(8,4),(13,12)]),.weak 26 (i64 6),.weak 27 (i64 (↑0:Int)),.sort] (Exit.ret) (zO oz4)]) (r:=AV.tup [AV.lit (AY_ none 0 0),i64 3]) Tryz.func134 (by kernel_rfl) (.c oz0<|.c (show (checkE n != 0)=false by (simp;omega))<|.c (R_ (k:=.i64) (show (((↑6:Int)):Int)=(6) from (by (simp;done))))<|.c w0_<|.c oz4<|.n)).weak (D_ _) (AB_ (.cons (BQ_ _) (.cons (.refl _) .nil)))
theorem pnode_w (n:Nod) (hw:n.w.length≤100000) (hb:n.b.length≤100000) (hk:In64 n.kd) (hc:checkE n=0) (h:∀ k,k<6→okI ((six n).getD k default)=true) (hl:16384<n.w.length∨16384<n.b.length):VC M_ 134 ([nod n]) (.tup [.sl 1 (([]:List Int).map (row1 .u8)),i64 3]):=by
 have hl6:(six n).length=6:=rfl
 have oz0:=@check_v (n) hw hb hk
 have oz4:=@nrng_y (six n) (n) hl6 h
 exact (VC.run (fn:=Tryz.f134) (W:=[r_,.r [] [.callr (rO oz0)],r_,d_,r_,.code [.frz 25,.any (rg [(0,1),(2,3),(8,4),(13,12)]),.weak 26 (i64 6),.weak 27 (i64 (↑0:Int)),.sort] (AF_ 0) (zO oz4),.r [] [o_,o_,o_,o_,.sel 1],b_,r_]) (r:=AV.tup [AV.lit (AY_ none 0 0),i64 3]) Tryz.func134 (by kernel_rfl) (.c oz0<|.c (show (checkE n != 0)=false by (simp;omega))<|.c (R_ (k:=.i64) (show (((↑6:Int)):Int)=(6) from (by (simp;done))))<|.c w0_<|.c oz4<|.c (show (decide (((K_ (row1 .i8) n.w).length:Int)>16384) || decide (((K_ (row1 .i32) n.b).length:Int)>16384))=true by (simp;omega))<|.n)).weak (D_ _) (AB_ (.cons (BQ_ _) (.cons (.refl _) .nil)))
theorem pnode_y (L:Int→List Int) (n:Nod) (hL:Puts L) (okn:n.Ok) (hc:checkE n=0) (h:∀ k,k<6→okI ((six n).getD k default)=true) (hw:n.w.length≤16384) (hb:n.b.length≤16384):VC M_ 134 ([nod n]) (.tup [.sl 1 ((nodeL L n).map (row1 .u8)),i64 0]):=by
 have hk:=okn.kd
 have hx:=okn.b
 have hq:=okn.qm
 have hr:=okn.rm
 have hl6:(six n).length=6:=rfl
 have oz0:=@check_v (n) (by omega) (by omega) hk
 have oz4:=@nrng_y (six n) (n) hl6 h
 have oz6:=@lwalk_v (L) (n) hL hw hb hx hq hr
 exact VC.run (fn:=Tryz.f134) (W:=[r_,.r [] [.callr (rO oz0)],r_,d_,r_,.code [.frz 25,.any (rg [(0,1),(2,3),(8,4),(13,12)]),.weak 26 (i64 6),.weak 27 (i64 (↑0:Int)),.sort] (AF_ 0) (zO oz4),.r [] [o_,o_,o_,o_,.sel 1],d_,r_,.r [] [.callm [(49,100000),(1,100001)] [(951,20000)] (rM oz6) (oM oz6)],r_]) Tryz.func134 (by kernel_rfl) (.c oz0<|.c (show (checkE n != 0)=false by (simp;omega))<|.c (R_ (k:=.i64) (show (((↑6:Int)):Int)=(6) from (by (simp;done))))<|.c w0_<|.c oz4<|.c (show (decide (((K_ (row1 .i8) n.w).length:Int)>16384) || decide (((K_ (row1 .i32) n.b).length:Int)>16384))=false by (simp;omega))<|.c oz6<|.n)
theorem rnode_c (n:Nod) (hw:n.w.length≤100000) (hb:n.b.length≤100000) (hk:In64 n.kd) (hc:checkE n≠0):VC M_ 137 ([nod n]) (.tup [.sl 1 (([]:List Int).map (row1 .u8)),i64 (checkE n)]):=by
 have oz0:=@refCheck_v (n) hw hb hk
 exact (VC.run (fn:=Tryz.f137) (W:=[r_,.r [] [.callr (rO oz0)],r_,b_,r_]) (r:=AV.tup [AV.lit (AY_ none 0 0),i64 (checkE n)]) Tryz.func137 (by kernel_rfl) (.c oz0<|.c (show (checkE n != 0)=true by (simp;omega))<|.n)).weak (D_ _) (AB_ (.cons (BQ_ _) (.cons (.refl _) .nil)))
theorem rnode_r (n:Nod) (m:Nat) (hw:n.w.length≤100000) (hb:n.b.length≤100000) (hk:In64 n.kd) (hc:checkE n=0) (hm:m<6) (hf:okI ((six n).getD m default)≠true) (h:∀ k,k<m→okI ((six n).getD k default)=true):VC M_ 137 ([nod n]) (.tup [.sl 1 (([]:List Int).map (row1 .u8)),i64 3]):=by
 have hl6:(six n).length=6:=rfl
 have oz0:=@refCheck_v (n) hw hb hk
 have oz3:=@rrng_n (six n) (n) (m) hl6 hm hf h
 exact (VC.run (fn:=Tryz.f137) (W:=[r_,.r [] [.callr (rO oz0)],r_,d_,r_,r_,.code [.frz 24,.any (rg [(0,1),(2,3),(7,4),(12,13)]),.weak 6 (i64 (↑0:Int)),.sort] (Exit.ret) (zO oz3)]) (r:=AV.tup [AV.lit (AY_ none 0 0),i64 3]) Tryz.func137 (by kernel_rfl) (.c oz0<|.c (show (checkE n != 0)=false by (simp;omega))<|.c w0_<|.c oz3<|.n)).weak (D_ _) (AB_ (.cons (BQ_ _) (.cons (.refl _) .nil)))
theorem rnode_w (n:Nod) (hw:n.w.length≤100000) (hb:n.b.length≤100000) (hk:In64 n.kd) (hc:checkE n=0) (h:∀ k,k<6→okI ((six n).getD k default)=true) (hl:16384<n.w.length∨16384<n.b.length):VC M_ 137 ([nod n]) (.tup [.sl 1 (([]:List Int).map (row1 .u8)),i64 3]):=by
 have hl6:(six n).length=6:=rfl
 have oz0:=@refCheck_v (n) hw hb hk
 have oz3:=@rrng_y (six n) (n) hl6 h
 exact (VC.run (fn:=Tryz.f137) (W:=[r_,.r [] [.callr (rO oz0)],r_,d_,r_,r_,.code [.frz 24,.any (rg [(0,1),(2,3),(7,4),(12,13)]),.weak 6 (i64 (↑0:Int)),.sort] (AF_ 0) (zO oz3),.r [] [o_,o_,o_,o_,.sel 1],b_,r_]) (r:=AV.tup [AV.lit (AY_ none 0 0),i64 3]) Tryz.func137 (by kernel_rfl) (.c oz0<|.c (show (checkE n != 0)=false by (simp;omega))<|.c w0_<|.c oz3<|.c (show (decide (((K_ (row1 .i8) n.w).length:Int)>16384) || decide (((K_ (row1 .i32) n.b).length:Int)>16384))=true by (simp;omega))<|.n)).weak (D_ _) (AB_ (.cons (BQ_ _) (.cons (.refl _) .nil)))
theorem rbytes_v (L:Int→List Int) (n:Nod) (hL:RPuts L) (hw:n.w.length≤16384) (hb:n.b.length≤16384) (hx:∀ x∈n.b,-2147483648≤x∧x≤2147483647) (hq:In32 n.qm) (hr:In32 n.rm):VC M_ 169 [nod n] (.sl 1 ((nodeL L n).map (row1 .u8))):=by
 by_cases k1:n.kd=1
 ·rw[show nodeL L n=lb_1 L n from by unfold nodeL;rw[i_ k1]]
  exact rbytes_1 L n hL k1 hw hb hx hq hr
 by_cases k2:n.kd=2
 ·rw[show nodeL L n=lb_2 L n from by unfold nodeL;rw[j_ k1,i_ k2]]
  exact rbytes_2 L n hL k2 hw hb hx hq hr
 by_cases k3:n.kd=3
 ·rw[show nodeL L n=lb_3 L n from by unfold nodeL;rw[j_ k1,j_ k2,i_ k3]]
  exact rbytes_3 L n hL k3 hw hb hx hq hr
 by_cases k4:n.kd=4∨n.kd=5
 ·rw[show nodeL L n=lb_4 L n from by unfold nodeL;rw[j_ k1,j_ k2,j_ k3,i_ k4]]
  exact rbytes_4 L n hL k4 hw hb hx hq hr
 by_cases k6:n.kd=6
 ·rw[show nodeL L n=lb_6 L n from by unfold nodeL;rw[j_ k1,j_ k2,j_ k3,j_ k4,i_ k6]]
  exact rbytes_6 L n hL k6 hw hb hx hq hr
 by_cases k7:n.kd=7
 ·rw[show nodeL L n=lb_7 L n from by unfold nodeL;rw[j_ k1,j_ k2,j_ k3,j_ k4,j_ k6,i_ k7]]
  exact rbytes_7 L n hL k7 hw hb hx hq hr
 by_cases k8:n.kd=8
 ·rw[show nodeL L n=lb_8 L n from by unfold nodeL;rw[j_ k1,j_ k2,j_ k3,j_ k4,j_ k6,j_ k7,i_ k8]]
  exact rbytes_8 L n hL k8 hw hb hx hq hr
 rw[show nodeL L n=lb_9 L n from by unfold nodeL;rw[j_ k1,j_ k2,j_ k3,j_ k4,j_ k6,j_ k7,j_ k8]]
 exact rbytes_9 L n hL (by omega) hw hb hx hq hr
theorem rnode_y (L:Int→List Int) (n:Nod) (hL:RPuts L) (okn:n.Ok) (hc:checkE n=0) (h:∀ k,k<6→okI ((six n).getD k default)=true) (hw:n.w.length≤16384) (hb:n.b.length≤16384):VC M_ 137 ([nod n]) (.tup [.sl 1 ((nodeL L n).map (row1 .u8)),i64 0]):=by
 have hk:=okn.kd
 have hx:=okn.b
 have hq:=okn.qm
 have hr:=okn.rm
 have hl6:(six n).length=6:=rfl
 have oz0:=@refCheck_v (n) (by omega) (by omega) hk
 have oz3:=@rrng_y (six n) (n) hl6 h
 have oz5:=@rbytes_v (L) (n) hL hw hb hx hq hr
 exact VC.run (fn:=Tryz.f137) (W:=[r_,.r [] [.callr (rO oz0)],r_,d_,r_,r_,.code [.frz 24,.any (rg [(0,1),(2,3),(7,4),(12,13)]),.weak 6 (i64 (↑0:Int)),.sort] (AF_ 0) (zO oz3),.r [] [o_,o_,o_,o_,.sel 1],d_,.r [] [.callr (rO oz5)]]) Tryz.func137 (by kernel_rfl) (.c oz0<|.c (show (checkE n != 0)=false by (simp;omega))<|.c w0_<|.c oz3<|.c (show (decide (((K_ (row1 .i8) n.w).length:Int)>16384) || decide (((K_ (row1 .i32) n.b).length:Int)>16384))=false by (simp;omega))<|.c oz5<|.n)
theorem pnode_v (n:Nod) (okn:n.Ok) (hw:n.w.length≤100000) (hb:n.b.length≤100000):VC M_ 134 [nod n] (.tup [.sl 1 ((nodeP n).1.map (row1 .u8)),i64 (nodeP n).2]):=by
 by_cases hc:checkE n=0
 ·cases hs:(six n).all okI with
  | true =>
   by_cases hl:16384<n.w.length∨16384<n.b.length
   ·rw[show nodeP n=([],3) from by unfold nodeP;rw[j_ (by simpa using hc),j_ (by rw[hs];simp),i_ hl]]
    exact pnode_w n hw hb okn.kd hc (six_y hs) hl
   ·rw[show nodeP n=(nodeL putN n,0) from by unfold nodeP;rw[j_ (by simpa using hc),j_ (by rw[hs];simp),j_ hl]]
    exact pnode_y putN n puts okn hc (six_y hs) (by omega) (by omega)
  | false =>
   obtain ⟨m,hm,hf,h⟩:=six_n hs
   rw[show nodeP n=([],3) from by unfold nodeP;rw[j_ (by simpa using hc),i_ hs]]
   exact pnode_r n m hw hb okn.kd hc hm hf h
 ·rw[show nodeP n=([],checkE n) from by unfold nodeP;rw[i_ hc]]
  exact pnode_c n hw hb okn.kd hc
theorem rnode_v (n:Nod) (okn:n.Ok) (hw:n.w.length≤100000) (hb:n.b.length≤100000):VC M_ 137 [nod n] (.tup [.sl 1 ((nodeP n).1.map (row1 .u8)),i64 (nodeP n).2]):=by
 by_cases hc:checkE n=0
 ·cases hs:(six n).all okI with
  | true =>
   by_cases hl:16384<n.w.length∨16384<n.b.length
   ·rw[show nodeP n=([],3) from by unfold nodeP;rw[j_ (by simpa using hc),j_ (by rw[hs];simp),i_ hl]]
    exact rnode_w n hw hb okn.kd hc (six_y hs) hl
   ·rw[show nodeP n=(nodeL putN n,0) from by unfold nodeP;rw[j_ (by simpa using hc),j_ (by rw[hs];simp),j_ hl]]
    exact rnode_y putN n rputs okn hc (six_y hs) (by omega) (by omega)
  | false =>
   obtain ⟨m,hm,hf,h⟩:=six_n hs
   rw[show nodeP n=([],3) from by unfold nodeP;rw[j_ (by simpa using hc),i_ hs]]
   exact rnode_r n m hw hb okn.kd hc hm hf h
 ·rw[show nodeP n=([],checkE n) from by unfold nodeP;rw[i_ hc]]
  exact rnode_c n hw hb okn.kd hc
theorem lsml_x (B:List Int) (x:Blc) (m:Int) (hB:B.length≤1000000) (hw:x.w.length≤100000):VM M_ 258 ([.ptr 100000 0 0,.ptr 100001 0 2,i64 m]) ([(950,.slc 5 1 (B.map (row1 .u8))),(100000,.var [.own 950]),(100001,.var (blcC x))]) (.tup []) ([(951,.slc 5 1 ((B++smallL x.w).map (row1 .u8))),(100000,.var [.own 951]),(100001,.var (blcC x))]):=by
 have q:(smallL x.w).length=x.w.length:=O_ _
 have oz0:=@small_v (x.w) (by omega)
 exact VM.run (fn:=Tryz.f258) (W:=[.r [] [.callr (rO oz0)]]) (G:=[.ren 15 951,.blk 951 (Blk.slc 5 1 (K_ (row1 .u8) (B++smallL x.w))),.sort]) Tryz.func258 (by kernel_rfl) (.c oz0<|.c (show ((K_ (row1 .u8) B).length+(K_ (row1 .u8) (smallL x.w)).length)*1≤140737488355328 by (simp only[O_];omega))<|.c (show (K_ (row1 .u8) B).length+(K_ (row1 .u8) (smallL x.w)).length≤9223372036854775807 by (simp only[O_];omega))<|.c (show BlkW (Blk.slc 5 1 (K_ (row1 .u8) B++K_ (row1 .u8) (smallL x.w))) (Blk.slc 5 1 (K_ (row1 .u8) (B++smallL x.w))) from (AE_ (e:=5) (z:=1) (rows_to (row1 .u8) (r:=K_ (row1 .u8) B++K_ (row1 .u8) (smallL x.w)) (l:=B++smallL x.w) (m:=B++smallL x.w) (by first|(simp only[Y_,C_,AO_,AP_,U_,AL_,AM_];done)|rfl|(simp only[Y_,C_,AO_,AP_,U_,AL_,AM_];rfl)) rfl)))<|.n)
theorem lwid_x (B:List Int) (x:Blc) (m:Int) (hB:B.length≤1000000) (hw:x.b.length≤100000) (hb:∀ v∈x.b,-2147483648≤v∧v≤2147483647):VM M_ 259 ([.ptr 100000 0 0,.ptr 100001 0 3,i64 m]) ([(950,.slc 5 1 (B.map (row1 .u8))),(100000,.var [.own 950]),(100001,.var (blcC x))]) (.tup []) ([(951,.slc 5 1 ((B++wideL x.b).map (row1 .u8))),(100000,.var [.own 951]),(100001,.var (blcC x))]):=by
 have q:=wideL_len x.b hb
 have oz0:=@wide_v (x.b) hb (by omega)
 exact VM.run (fn:=Tryz.f259) (W:=[.r [] [.callr (rO oz0)]]) (G:=[.ren 15 951,.blk 951 (Blk.slc 5 1 (K_ (row1 .u8) (B++wideL x.b))),.sort]) Tryz.func259 (by kernel_rfl) (.c oz0<|.c (show ((K_ (row1 .u8) B).length+(K_ (row1 .u8) (wideL x.b)).length)*1≤140737488355328 by (simp only[O_];omega))<|.c (show (K_ (row1 .u8) B).length+(K_ (row1 .u8) (wideL x.b)).length≤9223372036854775807 by (simp only[O_];omega))<|.c (show BlkW (Blk.slc 5 1 (K_ (row1 .u8) B++K_ (row1 .u8) (wideL x.b))) (Blk.slc 5 1 (K_ (row1 .u8) (B++wideL x.b))) from (AE_ (e:=5) (z:=1) (rows_to (row1 .u8) (r:=K_ (row1 .u8) B++K_ (row1 .u8) (wideL x.b)) (l:=B++wideL x.b) (m:=B++wideL x.b) (by first|(simp only[Y_,C_,AO_,AP_,U_,AL_,AM_];done)|rfl|(simp only[Y_,C_,AO_,AP_,U_,AL_,AM_];rfl)) rfl)))<|.n)
theorem llists_x (B:List Int) (L:Int→List Int) (x:Blc) (hB:B.length≤500000) (hL:Puts L) (hw:x.w.length≤100000) (hb:x.b.length≤16384) (hx:∀ v∈x.b,-2147483648≤v∧v≤2147483647):VM M_ 168 ([.ifc 169 (.ptr 100000 0 0),.ptr 100001 0 2,.ptr 100001 0 3]) ([(950,.slc 5 1 (B.map (row1 .u8))),(100000,.var [.own 950]),(100001,.var (blcC x))]) (.tup []) ([(951,.slc 5 1 ((B++L (x.w.length:Int)++smallL x.w++L (x.b.length:Int)++wideL x.b).map (row1 .u8))),(100000,.var [.own 951]),(100001,.var (blcC x))]):=by
 have q1:=hL.l (x.w.length:Int)
 have q3:=hL.l (x.b.length:Int)
 have q2:(smallL x.w).length=x.w.length:=O_ _
 have q4:(B++L (x.w.length:Int)).length=B.length+(L (x.w.length:Int)).length:=N_
 have q5:(B++L (x.w.length:Int)++smallL x.w).length=B.length+(L (x.w.length:Int)).length+x.w.length:=by rw[N_,q4,q2]
 have q6:(B++L (x.w.length:Int)++smallL x.w++L (x.b.length:Int)).length=B.length+(L (x.w.length:Int)).length+x.w.length+(L (x.b.length:Int)).length:=by rw[N_,q5]
 have oz0:=@lnum_1 (B) (L) (((K_ (row1 .i8) x.w).length:Int)) (16384) (by omega) hL
 have oz1:=(show MethodIs M_ (169:Nat) "stepwell/pack.number" (methF M_ (169:Nat) "stepwell/pack.number") from (methodIs (by kernel_rfl)))
 have oz2:=@lsml_x (B++L ((K_ (row1 .i8) x.w).length:Int)) (x) (((K_ (row1 .i8) x.w).length:Int)) (by (simp only[O_];omega)) hw
 have oz4:=@lnum_1 (B++L ((K_ (row1 .i8) x.w).length:Int)++smallL x.w) (L) (((K_ (row1 .i32) x.b).length:Int)) (16384) (by (simp only[O_];omega)) hL
 have oz6:=@lwid_x (B++L ((K_ (row1 .i8) x.w).length:Int)++smallL x.w++L ((K_ (row1 .i32) x.b).length:Int)) (x) (((K_ (row1 .i32) x.b).length:Int)) (by (simp only[O_];omega)) (by omega) hx
 exact VM.run (fn:=Tryz.f168) (W:=[r_,.r [] [.callm [(950,950),(100000,100000),(6,100001)] [(951,20000)] (rM oz0) (oM oz0)],.r [] [.callm [(20000,950),(100000,100000),(100001,100001)] [(951,20001)] (rM oz2) (oM oz2)],r_,.r [] [.callm [(20001,950),(100000,100000),(7,100001)] [(951,20002)] (rM oz4) (oM oz4)],.r [] [.callm [(20002,950),(100000,100000),(100001,100001)] [(951,20003)] (rM oz6) (oM oz6)]]) (G:=[.drop [6,7],.ren 20003 951,.blk 951 (Blk.slc 5 1 (K_ (row1 .u8) (B++L (x.w.length:Int)++smallL x.w++L (x.b.length:Int)++wideL x.b))),.sort]) Tryz.func168 (by kernel_rfl) (.c oz0<|.c oz1<|.c oz2<|.c (show MethodIs M_ (169:Nat) "stepwell/pack.small" (methF M_ (169:Nat) "stepwell/pack.small") from (methodIs (by kernel_rfl)))<|.c oz4<|.c oz1<|.c oz6<|.c (show MethodIs M_ (169:Nat) "stepwell/pack.wides" (methF M_ (169:Nat) "stepwell/pack.wides") from (methodIs (by kernel_rfl)))<|.c (show BlkW (Blk.slc 5 1 (K_ (row1 .u8) (B++L ((K_ (row1 .i8) x.w).length:Int)++smallL x.w++L ((K_ (row1 .i32) x.b).length:Int)++wideL x.b))) (Blk.slc 5 1 (K_ (row1 .u8) (B++L (x.w.length:Int)++smallL x.w++L (x.b.length:Int)++wideL x.b))) from (AE_ (e:=5) (z:=1) (rows_to (row1 .u8) (r:=K_ (row1 .u8) (B++L ((K_ (row1 .i8) x.w).length:Int)++smallL x.w++L ((K_ (row1 .i32) x.b).length:Int)++wideL x.b)) (l:=B++L ((K_ (row1 .i8) x.w).length:Int)++smallL x.w++L ((K_ (row1 .i32) x.b).length:Int)++wideL x.b) (m:=B++L (x.w.length:Int)++smallL x.w++L (x.b.length:Int)++wideL x.b) rfl (show (B++L ((K_ (row1 .i8) x.w).length:Int)++smallL x.w++L ((K_ (row1 .i32) x.b).length:Int)++wideL x.b)=(B++L (x.w.length:Int)++smallL x.w++L (x.b.length:Int)++wideL x.b) from (by (simp;done))))))<|.n)
theorem lexit_n (B:List Int) (L:Int→List Int) (x:Blc) (hB:B.length≤400000) (hL:Puts L) (hk:x.ex=false):VM M_ 136 ([.ifc 169 (.ptr 100000 0 0),.ptr 100001 0 0]) ([(950,.slc 5 1 (B.map (row1 .u8))),(100000,.var [.own 950]),(100001,.var (blcC x))]) (.tup []) ([(951,.slc 5 1 ((B++L 0).map (row1 .u8))),(100000,.var [.own 951]),(100001,.var (blcC x))]):=by
 have oz1:=@lnum_1 (B) (L) (0) (1) (by omega) hL
 exact VM.run (fn:=Tryz.f136) (W:=[r_,r_,d_,.r [] [.callm [(950,950),(100000,100000),(4,100001)] [(951,20000)] (rM oz1) (oM oz1)],r_,r_,b_]) (G:=[.drop [4],.ren 20000 951,.blk 100001 (Blk.var [AV.sl 19 (K_ nodC x.n),bv x.ex,AV.sl 1 (K_ (row1 .i8) x.w),AV.sl 1 (K_ (row1 .i32) x.b),i32 x.nd]),.sort]) Tryz.func136 (by kernel_rfl) (.c hk<|.c oz1<|.c (show MethodIs M_ (169:Nat) "stepwell/pack.number" (methF M_ (169:Nat) "stepwell/pack.number") from (methodIs (by kernel_rfl)))<|.c (show true=true by with_reducible rfl)<|.c (show BlkW (Blk.var [AV.sl 19 (K_ nodC x.n),bv false,AV.sl 1 (K_ (row1 .i8) x.w),AV.sl 1 (K_ (row1 .i32) x.b),i32 x.nd]) (Blk.var [AV.sl 19 (K_ nodC x.n),bv x.ex,AV.sl 1 (K_ (row1 .i8) x.w),AV.sl 1 (K_ (row1 .i32) x.b),i32 x.nd]) from (BlkW.var (m:=[AV.sl 19 (K_ nodC x.n),bv x.ex,AV.sl 1 (K_ (row1 .i8) x.w),AV.sl 1 (K_ (row1 .i32) x.b),i32 x.nd]) (.cons (.refl _) (.cons (AZ_ (by (simp;omega))) (.cons (.refl _) (.cons (.refl _) (.cons (.refl _) .nil)))))))<|.n)
theorem lexit_y (B:List Int) (L:Int→List Int) (x:Blc) (hB:B.length≤300000) (hL:Puts L) (hk:x.ex=true) (hw:x.w.length≤16384) (hb:x.b.length≤16384) (hx:∀ v∈x.b,-2147483648≤v∧v≤2147483647) (hn:In32 x.nd):VM M_ 136 ([.ifc 169 (.ptr 100000 0 0),.ptr 100001 0 0]) ([(950,.slc 5 1 (B.map (row1 .u8))),(100000,.var [.own 950]),(100001,.var (blcC x))]) (.tup []) ([(951,.slc 5 1 ((B++L 1++L (x.w.length:Int)++smallL x.w++L (x.b.length:Int)++wideL x.b++L x.nd).map (row1 .u8))),(100000,.var [.own 951]),(100001,.var (blcC x))]):=by
 have q1:=hL.l (x.w.length:Int)
 have q3:=hL.l (x.b.length:Int)
 have q7:=hL.l 1
 have q2:(smallL x.w).length=x.w.length:=O_ _
 have q8:=wideL_len x.b hx
 have r0:(B++L 1).length≤500000:=by (try simp only[N_]);omega
 have r1:(B++L 1++L (x.w.length:Int)++smallL x.w++L (x.b.length:Int)++wideL x.b).length≤1000000:=by (try simp only[N_]);omega
 have w5:x.w.length≤100000:=by omega
 clear q1 q3 q7 q2 q8
 have oz1:=@lnum_1 (B) (L) (1) (1) (by omega) hL
 have oz2:=(show MethodIs M_ (169:Nat) "stepwell/pack.number" (methF M_ (169:Nat) "stepwell/pack.number") from (methodIs (by kernel_rfl)))
 have oz4:=@llists_x (B++L 1) (L) (Blc.mk x.n true x.w x.b x.nd) r0 hL w5 hb hx
 have oz6:=@lnum_1 (B++L 1++L (x.w.length:Int)++smallL x.w++L (x.b.length:Int)++wideL x.b) (L) (x.nd) (2147483647) r1 hL
 exact VM.run (fn:=Tryz.f136) (W:=[r_,r_,b_,r_,.r [] [.callm [(950,950),(100000,100000),(4,100001)] [(951,20000)] (rM oz1) (oM oz1)],r_,r_,d_,.r [] [.callm [(20000,950),(100000,100000),(100001,100001)] [(951,20001)] (rM oz4) (oM oz4)],.r [] [.n x.nd],.r [] [.callm [(20001,950),(100000,100000),(5,100001)] [(951,20002)] (rM oz6) (oM oz6)],.r [] [.n x.nd]]) (G:=[.drop [4,5],.ren 20002 951,.blk 100001 (Blk.var [AV.sl 19 (K_ nodC x.n),bv x.ex,AV.sl 1 (K_ (row1 .i8) x.w),AV.sl 1 (K_ (row1 .i32) x.b),i32 x.nd]),.sort]) Tryz.func136 (by kernel_rfl) (.c hk<|.c oz1<|.c oz2<|.c (show false=false by with_reducible rfl)<|.c oz4<|.c (i6n x.nd (by omega))<|.c oz6<|.c oz2<|.c (CJ_ x.nd (by omega))<|.c (show BlkW (Blk.var [AV.sl 19 (K_ nodC x.n),bv true,AV.sl 1 (K_ (row1 .i8) x.w),AV.sl 1 (K_ (row1 .i32) x.b),i32 x.nd]) (Blk.var [AV.sl 19 (K_ nodC x.n),bv x.ex,AV.sl 1 (K_ (row1 .i8) x.w),AV.sl 1 (K_ (row1 .i32) x.b),i32 x.nd]) from (BlkW.var (m:=[AV.sl 19 (K_ nodC x.n),bv x.ex,AV.sl 1 (K_ (row1 .i8) x.w),AV.sl 1 (K_ (row1 .i32) x.b),i32 x.nd]) (.cons (.refl _) (.cons (AZ_ (by (simp;omega))) (.cons (.refl _) (.cons (.refl _) (.cons (.refl _) .nil)))))))<|.n)
def lstW (s:Rst):List Int:=smlV (cntS s 16384) (cntV s 16384)
def lst1 (s:Rst):Rst:=smlS (cntS s 16384) (cntV s 16384)
def lstB (s:Rst):List Int:=widV (cntS (lst1 s) 16384) (cntV (lst1 s) 16384)
def lstS (s:Rst):Rst:=widS (cntS (lst1 s) 16384) (cntV (lst1 s) 16384)
def sclS (s:Rst):Rst:=cntS (cntS s 2147483647) 62
def sclM (s:Rst):Int:=cntV s 2147483647
def sclH (s:Rst):Int:=cntV (cntS s 2147483647) 62
def ts_1 (s:Rst):Rst:=(smlS (smlS (smlS (sclS (lstS (smlS (cntS (cntS (cntS (cntS (cntS (cntS s 9) 1024) 1024) 1024) 1024) 1024) 1))) 1) 1) 1)
def tn_1 (s:Rst) (n:Nod):Nod:={ n with kd:=cntV s 9,na:=cntV (cntS s 9) 1024,nk:=cntV (cntS (cntS s 9) 1024) 1024,ns:=cntV (cntS (cntS (cntS s 9) 1024) 1024) 1024,np:=cntV (cntS (cntS (cntS (cntS s 9) 1024) 1024) 1024) 1024,no:=cntV (cntS (cntS (cntS (cntS (cntS s 9) 1024) 1024) 1024) 1024) 1024,za:=oneV (cntS (cntS (cntS (cntS (cntS (cntS s 9) 1024) 1024) 1024) 1024) 1024),w:=lstW (smlS (cntS (cntS (cntS (cntS (cntS (cntS s 9) 1024) 1024) 1024) 1024) 1024) 1),b:=lstB (smlS (cntS (cntS (cntS (cntS (cntS (cntS s 9) 1024) 1024) 1024) 1024) 1024) 1),qm:=sclM (lstS (smlS (cntS (cntS (cntS (cntS (cntS (cntS s 9) 1024) 1024) 1024) 1024) 1024) 1)),qs:=sclH (lstS (smlS (cntS (cntS (cntS (cntS (cntS (cntS s 9) 1024) 1024) 1024) 1024) 1024) 1)),qz:=oneV (sclS (lstS (smlS (cntS (cntS (cntS (cntS (cntS (cntS s 9) 1024) 1024) 1024) 1024) 1024) 1))),lo:=oneV (smlS (sclS (lstS (smlS (cntS (cntS (cntS (cntS (cntS (cntS s 9) 1024) 1024) 1024) 1024) 1024) 1))) 1),hi:=oneV (smlS (smlS (sclS (lstS (smlS (cntS (cntS (cntS (cntS (cntS (cntS s 9) 1024) 1024) 1024) 1024) 1024) 1))) 1) 1) }
def ts_2 (s:Rst):Rst:=(smlS (smlS (smlS (sclS (lstS (smlS (cntS (cntS (cntS (cntS (cntS s 9) 1024) 1024) 1024) 1024) 1))) 1) 1) 1)
def tn_2 (s:Rst) (n:Nod):Nod:={ n with kd:=cntV s 9,na:=cntV (cntS s 9) 1024,nk:=cntV (cntS (cntS s 9) 1024) 1024,ns:=cntV (cntS (cntS (cntS s 9) 1024) 1024) 1024,np:=cntV (cntS (cntS (cntS (cntS s 9) 1024) 1024) 1024) 1024,za:=oneV (cntS (cntS (cntS (cntS (cntS s 9) 1024) 1024) 1024) 1024),w:=lstW (smlS (cntS (cntS (cntS (cntS (cntS s 9) 1024) 1024) 1024) 1024) 1),b:=lstB (smlS (cntS (cntS (cntS (cntS (cntS s 9) 1024) 1024) 1024) 1024) 1),qm:=sclM (lstS (smlS (cntS (cntS (cntS (cntS (cntS s 9) 1024) 1024) 1024) 1024) 1)),qs:=sclH (lstS (smlS (cntS (cntS (cntS (cntS (cntS s 9) 1024) 1024) 1024) 1024) 1)),qz:=oneV (sclS (lstS (smlS (cntS (cntS (cntS (cntS (cntS s 9) 1024) 1024) 1024) 1024) 1))),lo:=oneV (smlS (sclS (lstS (smlS (cntS (cntS (cntS (cntS (cntS s 9) 1024) 1024) 1024) 1024) 1))) 1),hi:=oneV (smlS (smlS (sclS (lstS (smlS (cntS (cntS (cntS (cntS (cntS s 9) 1024) 1024) 1024) 1024) 1))) 1) 1) }
def ts_3 (s:Rst):Rst:=(smlS (smlS (smlS (sclS (lstS (smlS (cntS (cntS (cntS s 9) 1024) 1024) 1))) 1) 1) 1)
def tn_3 (s:Rst) (n:Nod):Nod:={ n with kd:=cntV s 9,na:=cntV (cntS s 9) 1024,no:=cntV (cntS (cntS s 9) 1024) 1024,za:=oneV (cntS (cntS (cntS s 9) 1024) 1024),w:=lstW (smlS (cntS (cntS (cntS s 9) 1024) 1024) 1),b:=lstB (smlS (cntS (cntS (cntS s 9) 1024) 1024) 1),qm:=sclM (lstS (smlS (cntS (cntS (cntS s 9) 1024) 1024) 1)),qs:=sclH (lstS (smlS (cntS (cntS (cntS s 9) 1024) 1024) 1)),qz:=oneV (sclS (lstS (smlS (cntS (cntS (cntS s 9) 1024) 1024) 1))),lo:=oneV (smlS (sclS (lstS (smlS (cntS (cntS (cntS s 9) 1024) 1024) 1))) 1),hi:=oneV (smlS (smlS (sclS (lstS (smlS (cntS (cntS (cntS s 9) 1024) 1024) 1))) 1) 1) }
def ts_4 (s:Rst):Rst:=(cntS (cntS (cntS (cntS (cntS s 9) 1024) 1024) 1024) 1024)
def tn_4 (s:Rst) (n:Nod):Nod:={ n with kd:=cntV s 9,na:=cntV (cntS s 9) 1024,nk:=cntV (cntS (cntS s 9) 1024) 1024,ns:=cntV (cntS (cntS (cntS s 9) 1024) 1024) 1024,np:=cntV (cntS (cntS (cntS (cntS s 9) 1024) 1024) 1024) 1024 }
def ts_6 (s:Rst):Rst:=(smlS (smlS (sclS (smlS (sclS (smlS (smlS (cntS (cntS (cntS s 9) 1024) 1024) 1) 1)) 1)) 1) 1)
def tn_6 (s:Rst) (n:Nod):Nod:={ n with kd:=cntV s 9,na:=cntV (cntS s 9) 1024,nb:=cntV (cntS (cntS s 9) 1024) 1024,za:=oneV (cntS (cntS (cntS s 9) 1024) 1024),zb:=oneV (smlS (cntS (cntS (cntS s 9) 1024) 1024) 1),qm:=sclM (smlS (smlS (cntS (cntS (cntS s 9) 1024) 1024) 1) 1),qs:=sclH (smlS (smlS (cntS (cntS (cntS s 9) 1024) 1024) 1) 1),qz:=oneV (sclS (smlS (smlS (cntS (cntS (cntS s 9) 1024) 1024) 1) 1)),rm:=sclM (smlS (sclS (smlS (smlS (cntS (cntS (cntS s 9) 1024) 1024) 1) 1)) 1),rs:=sclH (smlS (sclS (smlS (smlS (cntS (cntS (cntS s 9) 1024) 1024) 1) 1)) 1),lo:=oneV (sclS (smlS (sclS (smlS (smlS (cntS (cntS (cntS s 9) 1024) 1024) 1) 1)) 1)),hi:=oneV (smlS (sclS (smlS (sclS (smlS (smlS (cntS (cntS (cntS s 9) 1024) 1024) 1) 1)) 1)) 1) }
def ts_7 (s:Rst):Rst:=(smlS (smlS (smlS (sclS (smlS (cntS (cntS s 9) 1024) 1)) 1) 1) 1)
def tn_7 (s:Rst) (n:Nod):Nod:={ n with kd:=cntV s 9,na:=cntV (cntS s 9) 1024,za:=oneV (cntS (cntS s 9) 1024),qm:=sclM (smlS (cntS (cntS s 9) 1024) 1),qs:=sclH (smlS (cntS (cntS s 9) 1024) 1),qz:=oneV (sclS (smlS (cntS (cntS s 9) 1024) 1)),lo:=oneV (smlS (sclS (smlS (cntS (cntS s 9) 1024) 1)) 1),hi:=oneV (smlS (smlS (sclS (smlS (cntS (cntS s 9) 1024) 1)) 1) 1) }
def ts_8 (s:Rst):Rst:=(smlS (cntS (cntS (cntS s 9) 1024) 1024) 1)
def tn_8 (s:Rst) (n:Nod):Nod:={ n with kd:=cntV s 9,na:=cntV (cntS s 9) 1024,np:=cntV (cntS (cntS s 9) 1024) 1024,za:=oneV (cntS (cntS (cntS s 9) 1024) 1024) }
def ts_9 (s:Rst):Rst:=(cntS (cntS s 9) 1024)
def tn_9 (s:Rst) (n:Nod):Nod:={ n with kd:=cntV s 9,na:=cntV (cntS s 9) 1024 }
theorem nodEq_false {a b:Nod} (h:(a.kd != b.kd || a.na != b.na || a.nb != b.nb || a.nk != b.nk || a.ns != b.ns || a.np != b.np || a.no != b.no)=true):false=nodEq a b:=by
 symm
 rw[Bool.eq_false_iff]
 intro h'
 have h':=(nodEq_iff _ _).1 h'
 subst h'
 simp at h
theorem nodEq_rest {a b:Nod} (h:(a.kd != b.kd || a.na != b.na || a.nb != b.nb || a.nk != b.nk || a.ns != b.ns || a.np != b.np || a.no != b.no)=false) :
  (a.za==b.za&&a.zb==b.zb&&a.lo==b.lo&&a.hi==b.hi&&eqNums [(Z_,a.qm,b.qm),(Q_,a.qs,b.qs),(V_,a.qz,b.qz)]&&eqNums [(Z_,a.rm,b.rm),(Q_,a.rs,b.rs),(V_,a.rz,b.rz)]&&decide (a.w=b.w)&&decide (a.b=b.b))=nodEq a b:=by
 simp only[T_,G_] at h
 obtain ⟨⟨⟨⟨⟨⟨h1,h2⟩,h3⟩,h4⟩,h5⟩,h6⟩,h7⟩:=h
 rw[Bool.eq_iff_iff]
 simp only[nodEq,eqNums,h1,h2,h3,h4,h5,h6,h7,P_,E_,I_,true_and,and_true]
 constructor
 ·rintro ⟨⟨⟨⟨⟨⟨⟨q1,q2⟩,q3⟩,q4⟩,q5⟩,q6⟩,q7⟩,q8⟩;exact ⟨⟨⟨⟨q7,q8⟩,q1,q2,q3,q4⟩,q5⟩,q6⟩
 ·rintro ⟨⟨⟨⟨q7,q8⟩,q1,q2,q3,q4⟩,q5⟩,q6⟩;exact ⟨⟨⟨⟨⟨⟨⟨q1,q2⟩,q3⟩,q4⟩,q5⟩,q6⟩,q7⟩,q8⟩
theorem refSame_v (a b:Nod) (hw:a.w.length≤100000) (hb:a.b.length≤100000):VC M_ 115 ([nod a,nod b]) (bv (nodEq a b)):=by
 rcases bft (a.kd != b.kd || a.na != b.na || a.nb != b.nb || a.nk != b.nk || a.ns != b.ns || a.np != b.np || a.no != b.no) with hc0|hc0
 ·have gc0:(((((¬a.kd=b.kd∨¬a.na=b.na)∨¬a.nb=b.nb)∨¬a.nk=b.nk)∨¬a.ns=b.ns)∨¬a.np=b.np)∨¬a.no=b.no:=by simp only[AK_,T_,P_,S_,X_,W_,E_,F_,I_,J_,ne_eq,H_,G_,eqNums,AN_] at hc0;first|exact hc0|omega
  exact (VC.run (fn:=Tryz.f115) (W:=[r_,.r [] [o_,o_,o_,o_,o_,.sel 1,o_,o_,o_,o_,o_,.sel 1,o_,o_,o_,o_,o_,.sel 1,o_,o_,o_,o_,o_,.sel 1,o_,o_,o_,o_,o_,.sel 1,o_,o_,o_,o_,o_,.sel 1],b_,r_]) (r:=bv false) Tryz.func115 (by kernel_rfl) (.c hc0<|.n)).weak (D_ _) (AZ_ (by (exact nodEq_false (by assumption))))
 ·have gc0:(((((a.kd=b.kd∧a.na=b.na)∧a.nb=b.nb)∧a.nk=b.nk)∧a.ns=b.ns)∧a.np=b.np)∧a.no=b.no:=by simp only[AK_,T_,P_,S_,X_,W_,E_,F_,I_,J_,ne_eq,H_,G_,eqNums,AN_] at hc0;first|exact hc0|omega
  have oz3:=@rsame8_v (a.w) (b.w) (by omega)
  have oz4:=@rsame32_v (a.b) (b.b) (by omega)
  exact (VC.run (fn:=Tryz.f115) (W:=[r_,.r [] [o_,o_,o_,o_,o_,.sel 1,o_,o_,o_,o_,o_,.sel 1,o_,o_,o_,o_,o_,.sel 1,o_,o_,o_,o_,o_,.sel 1,o_,o_,o_,o_,o_,.sel 1,o_,o_,o_,o_,o_,.sel 1],d_,.r [] [o_,o_,o_,o_,o_,.sel 2,o_,o_,o_,o_,o_,.sel 2,o_,o_,o_,o_,o_,.sel 2,o_,o_,o_,o_,o_,.v (BA_ (eqNums [(Z_,a.qm,b.qm),(Q_,a.qs,b.qs),(V_,a.qz,b.qz)])),.sel 2,o_,o_,o_,o_,o_,.v (BA_ (eqNums [(Z_,a.rm,b.rm),(Q_,a.rs,b.rs),(V_,a.rz,b.rz)])),.sel 2,o_,o_,o_,o_,o_,.callr (rO oz3),.sel 2,o_,o_,o_,o_,o_,.callr (rO oz4),.sel 2]]) (r:=bv (a.za==b.za&&a.zb==b.zb&&a.lo==b.lo&&a.hi==b.hi&&eqNums [(Z_,a.qm,b.qm),(Q_,a.qs,b.qs),(V_,a.qz,b.qz)]&&eqNums [(Z_,a.rm,b.rm),(Q_,a.rs,b.rs),(V_,a.rz,b.rz)]&&decide (a.w=b.w)&&decide (a.b=b.b))) Tryz.func115 (by kernel_rfl) (.c hc0<|.c (show BinTo M_ BinOp.eql 69 (Operand.tmp 80) (Operand.tmp 82) (CS_ #[AR_ Z_ a.qm,AR_ Q_ a.qs,AR_ V_ a.qz]) (CS_ #[AR_ Z_ b.qm,AR_ Q_ b.qs,AR_ V_ b.qz]) (BA_ (eqNums [(Z_,a.qm,b.qm),(Q_,a.qs,b.qs),(V_,a.qz,b.qz)])) from ((bin_nums (l:=[(Z_,a.qm,b.qm),(Q_,a.qs,b.qs),(V_,a.qz,b.qz)]) (by kernel_rfl) (by kernel_rfl) (by kernel_rfl) (by kernel_rfl) _ _).1))<|.c (show BinTo M_ BinOp.eql 69 (Operand.tmp 87) (Operand.tmp 89) (CS_ #[AR_ Z_ a.rm,AR_ Q_ a.rs,AR_ V_ a.rz]) (CS_ #[AR_ Z_ b.rm,AR_ Q_ b.rs,AR_ V_ b.rz]) (BA_ (eqNums [(Z_,a.rm,b.rm),(Q_,a.rs,b.rs),(V_,a.rz,b.rz)])) from ((bin_nums (l:=[(Z_,a.rm,b.rm),(Q_,a.rs,b.rs),(V_,a.rz,b.rz)]) (by kernel_rfl) (by kernel_rfl) (by kernel_rfl) (by kernel_rfl) _ _).1))<|.c oz3<|.c oz4<|.n)).weak (D_ _) (AZ_ (by (exact nodEq_rest (by assumption))))
def nod0:Nod:=⟨0,0,0,0,0,0,0,0,0,[],[],0,0,0,0,0,0,0,0⟩
def takeS (s:Rst):Rst:=if cntV s 9=1 then ts_1 s else if cntV s 9=2 then ts_2 s else if cntV s 9=3 then ts_3 s else if cntV s 9=4∨cntV s 9=5 then ts_4 s else if cntV s 9=6 then ts_6 s else if cntV s 9=7 then ts_7 s else if cntV s 9=8 then ts_8 s else ts_9 s
def takeN (s:Rst):Nod:=if cntV s 9=1 then tn_1 s nod0 else if cntV s 9=2 then tn_2 s nod0 else if cntV s 9=3 then tn_3 s nod0 else if cntV s 9=4∨cntV s 9=5 then tn_4 s nod0 else if cntV s 9=6 then tn_6 s nod0 else if cntV s 9=7 then tn_7 s nod0 else if cntV s 9=8 then tn_8 s nod0 else tn_9 s nod0
def takeR (s:Rst):Nod×Int:=if (takeS s).2≠0 then (nod0,(takeS s).2) else if checkE (takeN s)≠0 then (nod0,checkE (takeN s)) else (takeN s,0)
def tkS (s:Rst):Nat→Rst
 | 0=>s
 | k+1=>takeS (tkS s k)
theorem tkS_succ (s:Rst) (k:Nat):tkS s (k+1)=tkS (takeS s) k:=by
 induction k with
 | zero=>rfl
 | succ k ih=>rw[tkS,ih];rfl
def takeB:Nat→Rst→Int×Rst
 | 0,s=>(0,s)
 | n+1,s=>if (takeR s).2≠0 then ((takeR s).2,takeS s) else takeB n (takeS s)
theorem takeB_n {n:Nat}:∀ {s:Rst} {m:Nat},m<n→(takeR (tkS s m)).2≠0→(∀ k,k<m→(takeR (tkS s k)).2=0)→takeB n s=((takeR (tkS s m)).2,tkS s (m+1)):=by
 induction n with
 | zero=>intro s m hm;omega
 | succ n ih =>
  intro s m hm hf h
  cases m with
  | zero=>rw[takeB,i_ (by exact hf)];rfl
  | succ m =>
   have h0:(takeR s).2=0:=h 0 (by omega)
   rw[takeB,j_ (by simpa using h0),tkS_succ s m,tkS_succ s (m+1)]
   rw[tkS_succ] at hf
   refine ih (by omega) hf fun k hk=>?_
   rw[←tkS_succ];exact h (k+1) (by omega)
theorem first_of {n:Nat} {p:Nat→Prop}:(∀ k,k<n→p k)∨∃ m,m<n∧¬ p m∧∀ k,k<m→p k:=by
 induction n with
 | zero=>exact .inl fun k hk=>by omega
 | succ n ih =>
  rcases ih with h|⟨m,hm,hf,h⟩
  ·by_cases hp:p n
   ·exact .inl fun k hk=>by
     by_cases hk2:k<n
     ·exact h k hk2
     ·rw[show k=n by omega];exact hp
   ·exact .inr ⟨n,by omega,hp,h⟩
  ·exact .inr ⟨m,by omega,hf,h⟩
def headX (x:Blc):Int:=if x.ex=false∧(0<x.w.length∨0<x.b.length∨x.nd≠0) then 11 else if x.nd<0∨16384<x.w.length∨16384<x.b.length then 3 else 0
def nodesE:List Nod→Int
 | []=>0
 | n::l=>if (nodeP n).2≠0 then (nodeP n).2 else nodesE l
theorem nodesE_y {l:List Nod}:(∀ n∈l,(nodeP n).2=0)→nodesE l=0:=by
 induction l with
 | nil=>intro _;rfl
 | cons n l ih =>
  intro h
  rw[nodesE,j_ (by simpa using h n (by simp))]
  exact ih fun y hy=>h y (by simp[hy])
theorem nodesE_n {l:List Nod}:∀ {m:Nat},m<l.length→(nodeP (l.getD m default)).2≠0→(∀ k,k<m→(nodeP (l.getD k default)).2=0)→nodesE l=(nodeP (l.getD m default)).2:=by
 induction l with
 | nil=>intro m hm;simp at hm
 | cons n l ih =>
  intro m hm hf h
  cases m with
  | zero=>rw[nodesE,i_ (by exact hf)];rfl
  | succ m =>
   have h0:(nodeP n).2=0:=h 0 (by omega)
   rw[nodesE,j_ (by simpa using h0)]
   exact ih (by simpa using hm) hf fun k hk=>h (k+1) (by omega)
def exitL (B:List Int) (x:Blc):List Int:=if x.ex=true then B++putN 1++putN (x.w.length:Int)++smallL x.w++putN (x.b.length:Int)++wideL x.b++putN x.nd else B++putN 0
def blockR (x:Blc):List Int×Int:=if 8<x.n.length then ([],4) else if nodesE x.n≠0 then ([],nodesE x.n) else if headX x≠0 then ([],headX x) else (exitL (accB x.n (putN (x.n.length:Int)) x.n.length) x,0)
theorem headMay_a (x:Blc) (h:x.ex=false) (h2:0<x.w.length∨0<x.b.length∨x.nd≠0):VC M_ 135 ([blc x]) (i64 11):=by
 rcases bft (!x.ex&&(decide (((K_ (row1 .i8) x.w).length:Int)>0) || decide (((K_ (row1 .i32) x.b).length:Int)>0) || x.nd != 0)) with hc0|hc0
 ·have gc0:x.ex=false∧((((K_ (row1 .i8) x.w).length:Int)>0∨((K_ (row1 .i32) x.b).length:Int)>0)∨¬x.nd=0):=by simp only[AK_,T_,P_,S_,X_,W_,E_,F_,I_,J_,ne_eq,H_,G_,eqNums,AN_] at hc0;first|exact hc0|omega
  exact VC.run (fn:=Tryz.f135) (W:=[r_,r_,.r [] [o_,o_,o_,o_,o_,o_,o_,o_,o_,o_,.sel 1,o_,o_,o_,o_,o_,.sel 1,.sel 2],b_,r_]) Tryz.func135 (by kernel_rfl) (.c hc0<|.n)
 ·have gc0:x.ex=true∨(¬((K_ (row1 .i8) x.w).length:Int)>0∧¬((K_ (row1 .i32) x.b).length:Int)>0)∧x.nd=0:=by simp only[AK_,T_,P_,S_,X_,W_,E_,F_,I_,J_,ne_eq,H_,G_,eqNums,AN_] at hc0;first|exact hc0|omega
  rcases bft (decide (x.nd<0) || decide (((K_ (row1 .i8) x.w).length:Int)>16384) || decide (((K_ (row1 .i32) x.b).length:Int)>16384)) with hc1|hc1
  ·have gc1:(x.nd<0∨((K_ (row1 .i8) x.w).length:Int)>16384)∨((K_ (row1 .i32) x.b).length:Int)>16384:=by simp only[AK_,T_,P_,S_,X_,W_,E_,F_,I_,J_,ne_eq,H_,G_,eqNums,AN_] at hc1;first|exact hc1|omega
   exact (VC.run (fn:=Tryz.f135) (W:=[r_,r_,.r [] [o_,o_,o_,o_,o_,o_,o_,o_,o_,o_,.sel 1,o_,o_,o_,o_,o_,.sel 1,.sel 2],d_,.r [] [o_,o_,o_,o_,.sel 1,o_,o_,o_,o_,.sel 1],b_,r_]) (r:=i64 3) Tryz.func135 (by kernel_rfl) (.c hc0<|.c hc1<|.n)).weak (D_ _) (R_ (by (simp_all;done)))
  ·have gc1:(¬x.nd<0∧¬((K_ (row1 .i8) x.w).length:Int)>16384)∧¬((K_ (row1 .i32) x.b).length:Int)>16384:=by simp only[AK_,T_,P_,S_,X_,W_,E_,F_,I_,J_,ne_eq,H_,G_,eqNums,AN_] at hc1;first|exact hc1|omega
   exact (VC.run (fn:=Tryz.f135) (W:=[r_,r_,.r [] [o_,o_,o_,o_,o_,o_,o_,o_,o_,o_,.sel 1,o_,o_,o_,o_,o_,.sel 1,.sel 2],d_,.r [] [o_,o_,o_,o_,.sel 1,o_,o_,o_,o_,.sel 1],d_,r_]) (r:=i64 0) Tryz.func135 (by kernel_rfl) (.c hc0<|.c hc1<|.n)).weak (D_ _) (R_ (by (simp_all;done)))
theorem headMay_b (x:Blc) (h:¬ (x.ex=false∧(0<x.w.length∨0<x.b.length∨x.nd≠0))) (h2:x.nd<0∨16384<x.w.length∨16384<x.b.length):VC M_ 135 ([blc x]) (i64 3):=by
 rcases bft (!x.ex&&(decide (((K_ (row1 .i8) x.w).length:Int)>0) || decide (((K_ (row1 .i32) x.b).length:Int)>0) || x.nd != 0)) with hc0|hc0
 ·have gc0:x.ex=false∧((((K_ (row1 .i8) x.w).length:Int)>0∨((K_ (row1 .i32) x.b).length:Int)>0)∨¬x.nd=0):=by simp only[AK_,T_,P_,S_,X_,W_,E_,F_,I_,J_,ne_eq,H_,G_,eqNums,AN_] at hc0;first|exact hc0|omega
  exact (VC.run (fn:=Tryz.f135) (W:=[r_,r_,.r [] [o_,o_,o_,o_,o_,o_,o_,o_,o_,o_,.sel 1,o_,o_,o_,o_,o_,.sel 1,.sel 2],b_,r_]) (r:=i64 11) Tryz.func135 (by kernel_rfl) (.c hc0<|.n)).weak (D_ _) (R_ (by (simp_all;done)))
 ·have gc0:x.ex=true∨(¬((K_ (row1 .i8) x.w).length:Int)>0∧¬((K_ (row1 .i32) x.b).length:Int)>0)∧x.nd=0:=by simp only[AK_,T_,P_,S_,X_,W_,E_,F_,I_,J_,ne_eq,H_,G_,eqNums,AN_] at hc0;first|exact hc0|omega
  exact VC.run (fn:=Tryz.f135) (W:=[r_,r_,.r [] [o_,o_,o_,o_,o_,o_,o_,o_,o_,o_,.sel 1,o_,o_,o_,o_,o_,.sel 1,.sel 2],d_,.r [] [o_,o_,o_,o_,.sel 1,o_,o_,o_,o_,.sel 1],b_,r_]) Tryz.func135 (by kernel_rfl) (.c hc0<|.c (show (decide (x.nd<0) || decide (((K_ (row1 .i8) x.w).length:Int)>16384) || decide (((K_ (row1 .i32) x.b).length:Int)>16384))=true by (simp;omega))<|.n)
theorem headMay_c (x:Blc) (h:¬ (x.ex=false∧(0<x.w.length∨0<x.b.length∨x.nd≠0))) (h2:¬ (x.nd<0∨16384<x.w.length∨16384<x.b.length)):VC M_ 135 ([blc x]) (i64 0):=by
 rcases bft (!x.ex&&(decide (((K_ (row1 .i8) x.w).length:Int)>0) || decide (((K_ (row1 .i32) x.b).length:Int)>0) || x.nd != 0)) with hc0|hc0
 ·have gc0:x.ex=false∧((((K_ (row1 .i8) x.w).length:Int)>0∨((K_ (row1 .i32) x.b).length:Int)>0)∨¬x.nd=0):=by simp only[AK_,T_,P_,S_,X_,W_,E_,F_,I_,J_,ne_eq,H_,G_,eqNums,AN_] at hc0;first|exact hc0|omega
  exact (VC.run (fn:=Tryz.f135) (W:=[r_,r_,.r [] [o_,o_,o_,o_,o_,o_,o_,o_,o_,o_,.sel 1,o_,o_,o_,o_,o_,.sel 1,.sel 2],b_,r_]) (r:=i64 11) Tryz.func135 (by kernel_rfl) (.c hc0<|.n)).weak (D_ _) (R_ (by (simp_all;done)))
 ·have gc0:x.ex=true∨(¬((K_ (row1 .i8) x.w).length:Int)>0∧¬((K_ (row1 .i32) x.b).length:Int)>0)∧x.nd=0:=by simp only[AK_,T_,P_,S_,X_,W_,E_,F_,I_,J_,ne_eq,H_,G_,eqNums,AN_] at hc0;first|exact hc0|omega
  have oz1:=(decide_eq_false (p:=(x.nd<0)) (by omega))
  exact VC.run (fn:=Tryz.f135) (W:=[r_,r_,.r [] [o_,o_,o_,o_,o_,o_,o_,o_,o_,o_,.sel 1,o_,o_,o_,o_,o_,.sel 1,.sel 2],d_,.r [] [e_,e_,e_,e_,f_,o_,o_,o_,o_,.sel 1],d_,r_]) Tryz.func135 (by kernel_rfl) (.c hc0<|.c oz1<|.c oz1<|.c oz1<|.c oz1<|.c oz1<|.c (show (decide (((K_ (row1 .i8) x.w).length:Int)>16384) || decide (((K_ (row1 .i32) x.b).length:Int)>16384))=false by (simp;omega))<|.n)
theorem headMay_v (x:Blc):VC M_ 135 [blc x] (i64 (headX x)):=by
 unfold headX
 split
 ·rename_i h;exact headMay_a x h.1 h.2
 ·rename_i h
  split
  ·rename_i h2;exact headMay_b x h h2
  ·rename_i h2;exact headMay_c x h h2
end Go.Proofs.YtgimdjfbnbkpgaaGreat
