/- A part of this claim. No condition. -/
import Derived.Test.YtgimdjfbnbkpgaaGreatBundleEncodesG3
set_option maxRecDepth 100000
set_option maxHeartbeats 2000000
set_option linter.unusedVariables false
set_option linter.unusedSimpArgs false
set_option linter.unnecessarySimpa false
namespace Go.Proofs.YtgimdjfbnbkpgaaGreat
open Go.RowKit
open BlkW renaming rows→AG_
open Bool renaming and_eq_true→P_,and_eq_false_iff→S_,or_eq_false_iff→T_,not_eq_false'→U_,not_eq_true'→W_,or_eq_true→Z_,and_true→C_,or_true→DM_
open Exit renaming exit→AF_,ret→CA_
open Int renaming tdiv_eq_ediv_of_nonneg→BF_,tmod_eq_emod_of_nonneg→CX_,mul_nonneg→CC_
open IntKind renaming i64→Q_,i8→V_,i32→Y_
open List renaming map→K_,length_map→N_,length_append→O_,map_replicate→X_,map_append→A_,map_cons→D_,getElem?_eq_getElem→AL_,map_take→AM_,map_drop→AN_,map_nil→AO_,map_set→AP_,getD_eq_getElem?_getD→AU_,length_take→BL_,take→BV_,drop→BW_,length_drop→BX_,getElem_mem→CY_,all_eq_true→CZ_,getElem?_eq_none→CH_
open Nat renaming le_trans→AK_
open Tryz renaming prog→L_
open Value renaming int→AQ_,slice→AY_,bool→BS_,agg→BI_,string→CM_
open Weak renaming int→R_,bool→AZ_,tup→AA_,agg→AD_,nil→CK_,rows→CP_
open WeakL renaming refl→B_
def lb_1 (L:Int→List Int) (n:Nod):List Int:=L n.kd++L n.na++L n.nk++L n.ns++L n.np++L n.no++[IntKind.u8.wrap n.za]++L (n.w.length:Int)++smallL n.w++L (n.b.length:Int)++wideL n.b++L n.qm++L n.qs++[IntKind.u8.wrap n.qz]++[IntKind.u8.wrap n.lo]++[IntKind.u8.wrap n.hi]
theorem lwalk_1 (L:Int→List Int) (n:Nod) (hL:Puts L) (hk:n.kd=1) (hw:n.w.length≤16384) (hb:n.b.length≤16384) (hx:∀ x∈n.b,-2147483648≤x∧x≤2147483647) (hq:In32 n.qm) (hr:In32 n.rm):VM L_ 167 ([.ifc 169 (.ptr 100000 0 0),.ptr 100001 0 0]) ([(100000,.var [.lit (.slice none 0 0)]),(100001,.var (nodC n))]) (.tup []) ([(951,.slc 5 1 ((L n.kd++L n.na++L n.nk++L n.ns++L n.np++L n.no++[IntKind.u8.wrap n.za]++L (n.w.length:Int)++smallL n.w++L (n.b.length:Int)++wideL n.b++L n.qm++L n.qs++[IntKind.u8.wrap n.qz]++[IntKind.u8.wrap n.lo]++[IntKind.u8.wrap n.hi]).map (row1 .u8))),(100000,.var [.own 951]),(100001,.var (nodC n))]):=by
 have q0:=hL.l n.kd
 have q1:=hL.l n.na
 have q2:=hL.l n.nk
 have q3:=hL.l n.ns
 have q4:=hL.l n.np
 have q5:=hL.l n.no
 have q6:([IntKind.u8.wrap n.za]).length=1:=rfl
 have q7:=hL.l (n.w.length:Int)
 have q8:(smallL n.w).length=n.w.length:=N_ _
 have q9:=hL.l (n.b.length:Int)
 have q10:=wideL_len n.b hx
 have q11:=hL.l n.qm
 have q12:=hL.l n.qs
 have q13:([IntKind.u8.wrap n.qz]).length=1:=rfl
 have q14:([IntKind.u8.wrap n.lo]).length=1:=rfl
 have q15:([IntKind.u8.wrap n.hi]).length=1:=rfl
 have r0:(L n.kd).length≤500000:=by (try simp only[O_]);omega
 have r1:(L n.kd++L n.na).length≤500000:=by (try simp only[O_]);omega
 have r2:(L n.kd++L n.na++L n.nk).length≤500000:=by (try simp only[O_]);omega
 have r3:(L n.kd++L n.na++L n.nk++L n.ns).length≤500000:=by (try simp only[O_]);omega
 have r4:(L n.kd++L n.na++L n.nk++L n.ns++L n.np).length≤500000:=by (try simp only[O_]);omega
 have r5:(L n.kd++L n.na++L n.nk++L n.ns++L n.np++L n.no).length≤500000:=by (try simp only[O_]);omega
 have r6:(L n.kd++L n.na++L n.nk++L n.ns++L n.np++L n.no++[IntKind.u8.wrap n.za]).length≤500000:=by (try simp only[O_]);omega
 have r7:(L n.kd++L n.na++L n.nk++L n.ns++L n.np++L n.no++[IntKind.u8.wrap n.za]++L (n.w.length:Int)).length≤500000:=by (try simp only[O_]);omega
 have r8:(L n.kd++L n.na++L n.nk++L n.ns++L n.np++L n.no++[IntKind.u8.wrap n.za]++L (n.w.length:Int)++smallL n.w).length≤500000:=by (try simp only[O_]);omega
 have r9:(L n.kd++L n.na++L n.nk++L n.ns++L n.np++L n.no++[IntKind.u8.wrap n.za]++L (n.w.length:Int)++smallL n.w++L (n.b.length:Int)).length≤500000:=by (try simp only[O_]);omega
 have r10:(L n.kd++L n.na++L n.nk++L n.ns++L n.np++L n.no++[IntKind.u8.wrap n.za]++L (n.w.length:Int)++smallL n.w++L (n.b.length:Int)++wideL n.b).length≤500000:=by (try simp only[O_]);omega
 have r11:(L n.kd++L n.na++L n.nk++L n.ns++L n.np++L n.no++[IntKind.u8.wrap n.za]++L (n.w.length:Int)++smallL n.w++L (n.b.length:Int)++wideL n.b++L n.qm).length≤500000:=by (try simp only[O_]);omega
 have r12:(L n.kd++L n.na++L n.nk++L n.ns++L n.np++L n.no++[IntKind.u8.wrap n.za]++L (n.w.length:Int)++smallL n.w++L (n.b.length:Int)++wideL n.b++L n.qm++L n.qs).length≤500000:=by (try simp only[O_]);omega
 have r13:(L n.kd++L n.na++L n.nk++L n.ns++L n.np++L n.no++[IntKind.u8.wrap n.za]++L (n.w.length:Int)++smallL n.w++L (n.b.length:Int)++wideL n.b++L n.qm++L n.qs++[IntKind.u8.wrap n.qz]).length≤500000:=by (try simp only[O_]);omega
 have r14:(L n.kd++L n.na++L n.nk++L n.ns++L n.np++L n.no++[IntKind.u8.wrap n.za]++L (n.w.length:Int)++smallL n.w++L (n.b.length:Int)++wideL n.b++L n.qm++L n.qs++[IntKind.u8.wrap n.qz]++[IntKind.u8.wrap n.lo]).length≤500000:=by (try simp only[O_]);omega
 have r15:(L n.kd++L n.na++L n.nk++L n.ns++L n.np++L n.no++[IntKind.u8.wrap n.za]++L (n.w.length:Int)++smallL n.w++L (n.b.length:Int)++wideL n.b++L n.qm++L n.qs++[IntKind.u8.wrap n.qz]++[IntKind.u8.wrap n.lo]++[IntKind.u8.wrap n.hi]).length≤500000:=by (try simp only[O_]);omega
 clear q0 q1 q2 q3 q4 q5 q6 q7 q8 q9 q10 q11 q12 q13 q14 q15
 have s0:=AK_ r0 (show 500000≤900000 by decide)
 have u0:=AK_ r0 (show 500000≤1000000 by decide)
 have s1:=AK_ r1 (show 500000≤900000 by decide)
 have u1:=AK_ r1 (show 500000≤1000000 by decide)
 have s2:=AK_ r2 (show 500000≤900000 by decide)
 have u2:=AK_ r2 (show 500000≤1000000 by decide)
 have s3:=AK_ r3 (show 500000≤900000 by decide)
 have u3:=AK_ r3 (show 500000≤1000000 by decide)
 have s4:=AK_ r4 (show 500000≤900000 by decide)
 have u4:=AK_ r4 (show 500000≤1000000 by decide)
 have s5:=AK_ r5 (show 500000≤900000 by decide)
 have u5:=AK_ r5 (show 500000≤1000000 by decide)
 have s6:=AK_ r6 (show 500000≤900000 by decide)
 have u6:=AK_ r6 (show 500000≤1000000 by decide)
 have s7:=AK_ r7 (show 500000≤900000 by decide)
 have u7:=AK_ r7 (show 500000≤1000000 by decide)
 have s8:=AK_ r8 (show 500000≤900000 by decide)
 have u8:=AK_ r8 (show 500000≤1000000 by decide)
 have s9:=AK_ r9 (show 500000≤900000 by decide)
 have u9:=AK_ r9 (show 500000≤1000000 by decide)
 have s10:=AK_ r10 (show 500000≤900000 by decide)
 have u10:=AK_ r10 (show 500000≤1000000 by decide)
 have s11:=AK_ r11 (show 500000≤900000 by decide)
 have u11:=AK_ r11 (show 500000≤1000000 by decide)
 have s12:=AK_ r12 (show 500000≤900000 by decide)
 have u12:=AK_ r12 (show 500000≤1000000 by decide)
 have s13:=AK_ r13 (show 500000≤900000 by decide)
 have u13:=AK_ r13 (show 500000≤1000000 by decide)
 have s14:=AK_ r14 (show 500000≤900000 by decide)
 have u14:=AK_ r14 (show 500000≤1000000 by decide)
 have s15:=AK_ r15 (show 500000≤900000 by decide)
 have u15:=AK_ r15 (show 500000≤1000000 by decide)
 have w5:n.w.length≤100000:=by omega
 have b5:n.b.length≤100000:=by omega
 have oz0:=(show NilNo L_ (169:Nat) "stepwell/pack.number" from (nilNo (f:=92) (by kernel_rfl)))
 have oz1:=@lnum_kd0 (L) (n) (9) hL
 have oz2:=(show MethodIs L_ (169:Nat) "stepwell/pack.number" (methF L_ (169:Nat) "stepwell/pack.number") from (methodIs (by kernel_rfl)))
 have oz4:=@lnum_na (L n.kd) (L) (n) (1024) u0 hL
 have oz6:=@of_1 (n.kd) hk
 have oz7:=@lsides_1 (L n.kd++L n.na) (L) (n) s1 hL hk
 have oz8:=(show true=true by with_reducible rfl)
 have oz9:=@lone_za (L n.kd++L n.na++L n.nk++L n.ns++L n.np++L n.no) (n) u5
 have oz10:=(show false=false by with_reducible rfl)
 have oz12:=@llists_v (L n.kd++L n.na++L n.nk++L n.ns++L n.np++L n.no++[IntKind.u8.wrap n.za]) (L) (n) r6 hL w5 hb hx
 have oz14:=@lscale_q (L n.kd++L n.na++L n.nk++L n.ns++L n.np++L n.no++[IntKind.u8.wrap n.za]++L (n.w.length:Int)++smallL n.w++L (n.b.length:Int)++wideL n.b) (L) (n) s10 hL hq
 have oz15:=@lone_qz (L n.kd++L n.na++L n.nk++L n.ns++L n.np++L n.no++[IntKind.u8.wrap n.za]++L (n.w.length:Int)++smallL n.w++L (n.b.length:Int)++wideL n.b++L n.qm++L n.qs) (n) u12
 have oz17:=@lone_lo (L n.kd++L n.na++L n.nk++L n.ns++L n.np++L n.no++[IntKind.u8.wrap n.za]++L (n.w.length:Int)++smallL n.w++L (n.b.length:Int)++wideL n.b++L n.qm++L n.qs++[IntKind.u8.wrap n.qz]) (n) u13
 have oz18:=@lone_hi (L n.kd++L n.na++L n.nk++L n.ns++L n.np++L n.no++[IntKind.u8.wrap n.za]++L (n.w.length:Int)++smallL n.w++L (n.b.length:Int)++wideL n.b++L n.qm++L n.qs++[IntKind.u8.wrap n.qz]++[IntKind.u8.wrap n.lo]) (n) u14
 exact VM.run (fn:=Tryz.f167) (W:=[.r [] [.callm [(100000,100000),(100001,100001)] [(951,20000)] (rM oz1) (oM oz1)],.r [] [.callm [(20000,950),(100000,100000),(100001,100001)] [(951,20001)] (rM oz4) (oM oz4)],.r [] [.callr (rO oz6)],.r [] [.callm [(20001,950),(100000,100000),(100001,100001)] [(951,20002)] (rM oz7) (oM oz7)],r_,b_,.r [] [.callm [(20002,950),(100000,100000),(100001,100001)] [(951,20003)] (rM oz9) (oM oz9)],r_,d_,r_,b_,.r [] [.callm [(20003,950),(100000,100000),(100001,100001)] [(951,20004)] (rM oz12) (oM oz12)],r_,d_,.r [] [.callm [(20004,950),(100000,100000),(100001,100001)] [(951,20005)] (rM oz14) (oM oz14)],.r [] [.callm [(20005,950),(100000,100000),(100001,100001)] [(951,20006)] (rM oz15) (oM oz15)],r_,d_,.r [] [.callm [(20006,950),(100000,100000),(100001,100001)] [(951,20007)] (rM oz17) (oM oz17)],.r [] [.callm [(20007,950),(100000,100000),(100001,100001)] [(951,20008)] (rM oz18) (oM oz18)]]) (G:=[.drop [4],.ren 20008 951,.sort]) Tryz.func167 (by kernel_rfl) (.c oz0<|.c oz1<|.c oz2<|.c oz0<|.c oz4<|.c oz2<|.c oz6<|.c oz7<|.c oz8<|.c oz9<|.c oz10<|.c oz8<|.c oz12<|.c oz10<|.c oz14<|.c oz15<|.c oz10<|.c oz17<|.c oz18<|.n)
def lb_2 (L:Int→List Int) (n:Nod):List Int:=L n.kd++L n.na++L n.nk++L n.ns++L n.np++[IntKind.u8.wrap n.za]++L (n.w.length:Int)++smallL n.w++L (n.b.length:Int)++wideL n.b++L n.qm++L n.qs++[IntKind.u8.wrap n.qz]++[IntKind.u8.wrap n.lo]++[IntKind.u8.wrap n.hi]
theorem lwalk_2 (L:Int→List Int) (n:Nod) (hL:Puts L) (hk:n.kd=2) (hw:n.w.length≤16384) (hb:n.b.length≤16384) (hx:∀ x∈n.b,-2147483648≤x∧x≤2147483647) (hq:In32 n.qm) (hr:In32 n.rm):VM L_ 167 ([.ifc 169 (.ptr 100000 0 0),.ptr 100001 0 0]) ([(100000,.var [.lit (.slice none 0 0)]),(100001,.var (nodC n))]) (.tup []) ([(951,.slc 5 1 ((L n.kd++L n.na++L n.nk++L n.ns++L n.np++[IntKind.u8.wrap n.za]++L (n.w.length:Int)++smallL n.w++L (n.b.length:Int)++wideL n.b++L n.qm++L n.qs++[IntKind.u8.wrap n.qz]++[IntKind.u8.wrap n.lo]++[IntKind.u8.wrap n.hi]).map (row1 .u8))),(100000,.var [.own 951]),(100001,.var (nodC n))]):=by
 have q0:=hL.l n.kd
 have q1:=hL.l n.na
 have q2:=hL.l n.nk
 have q3:=hL.l n.ns
 have q4:=hL.l n.np
 have q5:([IntKind.u8.wrap n.za]).length=1:=rfl
 have q6:=hL.l (n.w.length:Int)
 have q7:(smallL n.w).length=n.w.length:=N_ _
 have q8:=hL.l (n.b.length:Int)
 have q9:=wideL_len n.b hx
 have q10:=hL.l n.qm
 have q11:=hL.l n.qs
 have q12:([IntKind.u8.wrap n.qz]).length=1:=rfl
 have q13:([IntKind.u8.wrap n.lo]).length=1:=rfl
 have q14:([IntKind.u8.wrap n.hi]).length=1:=rfl
 have r0:(L n.kd).length≤500000:=by (try simp only[O_]);omega
 have r1:(L n.kd++L n.na).length≤500000:=by (try simp only[O_]);omega
 have r2:(L n.kd++L n.na++L n.nk).length≤500000:=by (try simp only[O_]);omega
 have r3:(L n.kd++L n.na++L n.nk++L n.ns).length≤500000:=by (try simp only[O_]);omega
 have r4:(L n.kd++L n.na++L n.nk++L n.ns++L n.np).length≤500000:=by (try simp only[O_]);omega
 have r5:(L n.kd++L n.na++L n.nk++L n.ns++L n.np++[IntKind.u8.wrap n.za]).length≤500000:=by (try simp only[O_]);omega
 have r6:(L n.kd++L n.na++L n.nk++L n.ns++L n.np++[IntKind.u8.wrap n.za]++L (n.w.length:Int)).length≤500000:=by (try simp only[O_]);omega
 have r7:(L n.kd++L n.na++L n.nk++L n.ns++L n.np++[IntKind.u8.wrap n.za]++L (n.w.length:Int)++smallL n.w).length≤500000:=by (try simp only[O_]);omega
 have r8:(L n.kd++L n.na++L n.nk++L n.ns++L n.np++[IntKind.u8.wrap n.za]++L (n.w.length:Int)++smallL n.w++L (n.b.length:Int)).length≤500000:=by (try simp only[O_]);omega
 have r9:(L n.kd++L n.na++L n.nk++L n.ns++L n.np++[IntKind.u8.wrap n.za]++L (n.w.length:Int)++smallL n.w++L (n.b.length:Int)++wideL n.b).length≤500000:=by (try simp only[O_]);omega
 have r10:(L n.kd++L n.na++L n.nk++L n.ns++L n.np++[IntKind.u8.wrap n.za]++L (n.w.length:Int)++smallL n.w++L (n.b.length:Int)++wideL n.b++L n.qm).length≤500000:=by (try simp only[O_]);omega
 have r11:(L n.kd++L n.na++L n.nk++L n.ns++L n.np++[IntKind.u8.wrap n.za]++L (n.w.length:Int)++smallL n.w++L (n.b.length:Int)++wideL n.b++L n.qm++L n.qs).length≤500000:=by (try simp only[O_]);omega
 have r12:(L n.kd++L n.na++L n.nk++L n.ns++L n.np++[IntKind.u8.wrap n.za]++L (n.w.length:Int)++smallL n.w++L (n.b.length:Int)++wideL n.b++L n.qm++L n.qs++[IntKind.u8.wrap n.qz]).length≤500000:=by (try simp only[O_]);omega
 have r13:(L n.kd++L n.na++L n.nk++L n.ns++L n.np++[IntKind.u8.wrap n.za]++L (n.w.length:Int)++smallL n.w++L (n.b.length:Int)++wideL n.b++L n.qm++L n.qs++[IntKind.u8.wrap n.qz]++[IntKind.u8.wrap n.lo]).length≤500000:=by (try simp only[O_]);omega
 have r14:(L n.kd++L n.na++L n.nk++L n.ns++L n.np++[IntKind.u8.wrap n.za]++L (n.w.length:Int)++smallL n.w++L (n.b.length:Int)++wideL n.b++L n.qm++L n.qs++[IntKind.u8.wrap n.qz]++[IntKind.u8.wrap n.lo]++[IntKind.u8.wrap n.hi]).length≤500000:=by (try simp only[O_]);omega
 clear q0 q1 q2 q3 q4 q5 q6 q7 q8 q9 q10 q11 q12 q13 q14
 have s0:=AK_ r0 (show 500000≤900000 by decide)
 have u0:=AK_ r0 (show 500000≤1000000 by decide)
 have s1:=AK_ r1 (show 500000≤900000 by decide)
 have u1:=AK_ r1 (show 500000≤1000000 by decide)
 have s2:=AK_ r2 (show 500000≤900000 by decide)
 have u2:=AK_ r2 (show 500000≤1000000 by decide)
 have s3:=AK_ r3 (show 500000≤900000 by decide)
 have u3:=AK_ r3 (show 500000≤1000000 by decide)
 have s4:=AK_ r4 (show 500000≤900000 by decide)
 have u4:=AK_ r4 (show 500000≤1000000 by decide)
 have s5:=AK_ r5 (show 500000≤900000 by decide)
 have u5:=AK_ r5 (show 500000≤1000000 by decide)
 have s6:=AK_ r6 (show 500000≤900000 by decide)
 have u6:=AK_ r6 (show 500000≤1000000 by decide)
 have s7:=AK_ r7 (show 500000≤900000 by decide)
 have u7:=AK_ r7 (show 500000≤1000000 by decide)
 have s8:=AK_ r8 (show 500000≤900000 by decide)
 have u8:=AK_ r8 (show 500000≤1000000 by decide)
 have s9:=AK_ r9 (show 500000≤900000 by decide)
 have u9:=AK_ r9 (show 500000≤1000000 by decide)
 have s10:=AK_ r10 (show 500000≤900000 by decide)
 have u10:=AK_ r10 (show 500000≤1000000 by decide)
 have s11:=AK_ r11 (show 500000≤900000 by decide)
 have u11:=AK_ r11 (show 500000≤1000000 by decide)
 have s12:=AK_ r12 (show 500000≤900000 by decide)
 have u12:=AK_ r12 (show 500000≤1000000 by decide)
 have s13:=AK_ r13 (show 500000≤900000 by decide)
 have u13:=AK_ r13 (show 500000≤1000000 by decide)
 have s14:=AK_ r14 (show 500000≤900000 by decide)
 have u14:=AK_ r14 (show 500000≤1000000 by decide)
 have w5:n.w.length≤100000:=by omega
 have b5:n.b.length≤100000:=by omega
 have oz0:=(show NilNo L_ (169:Nat) "stepwell/pack.number" from (nilNo (f:=92) (by kernel_rfl)))
 have oz1:=@lnum_kd0 (L) (n) (9) hL
 have oz2:=(show MethodIs L_ (169:Nat) "stepwell/pack.number" (methF L_ (169:Nat) "stepwell/pack.number") from (methodIs (by kernel_rfl)))
 have oz4:=@lnum_na (L n.kd) (L) (n) (1024) u0 hL
 have oz6:=@of_2 (n.kd) hk
 have oz7:=@lsides_2 (L n.kd++L n.na) (L) (n) s1 hL hk
 have oz8:=(show true=true by with_reducible rfl)
 have oz9:=@lone_za (L n.kd++L n.na++L n.nk++L n.ns++L n.np) (n) u4
 have oz10:=(show false=false by with_reducible rfl)
 have oz12:=@llists_v (L n.kd++L n.na++L n.nk++L n.ns++L n.np++[IntKind.u8.wrap n.za]) (L) (n) r5 hL w5 hb hx
 have oz14:=@lscale_q (L n.kd++L n.na++L n.nk++L n.ns++L n.np++[IntKind.u8.wrap n.za]++L (n.w.length:Int)++smallL n.w++L (n.b.length:Int)++wideL n.b) (L) (n) s9 hL hq
 have oz15:=@lone_qz (L n.kd++L n.na++L n.nk++L n.ns++L n.np++[IntKind.u8.wrap n.za]++L (n.w.length:Int)++smallL n.w++L (n.b.length:Int)++wideL n.b++L n.qm++L n.qs) (n) u11
 have oz17:=@lone_lo (L n.kd++L n.na++L n.nk++L n.ns++L n.np++[IntKind.u8.wrap n.za]++L (n.w.length:Int)++smallL n.w++L (n.b.length:Int)++wideL n.b++L n.qm++L n.qs++[IntKind.u8.wrap n.qz]) (n) u12
 have oz18:=@lone_hi (L n.kd++L n.na++L n.nk++L n.ns++L n.np++[IntKind.u8.wrap n.za]++L (n.w.length:Int)++smallL n.w++L (n.b.length:Int)++wideL n.b++L n.qm++L n.qs++[IntKind.u8.wrap n.qz]++[IntKind.u8.wrap n.lo]) (n) u13
 exact VM.run (fn:=Tryz.f167) (W:=[.r [] [.callm [(100000,100000),(100001,100001)] [(951,20000)] (rM oz1) (oM oz1)],.r [] [.callm [(20000,950),(100000,100000),(100001,100001)] [(951,20001)] (rM oz4) (oM oz4)],.r [] [.callr (rO oz6)],.r [] [.callm [(20001,950),(100000,100000),(100001,100001)] [(951,20002)] (rM oz7) (oM oz7)],r_,b_,.r [] [.callm [(20002,950),(100000,100000),(100001,100001)] [(951,20003)] (rM oz9) (oM oz9)],r_,d_,r_,b_,.r [] [.callm [(20003,950),(100000,100000),(100001,100001)] [(951,20004)] (rM oz12) (oM oz12)],r_,d_,.r [] [.callm [(20004,950),(100000,100000),(100001,100001)] [(951,20005)] (rM oz14) (oM oz14)],.r [] [.callm [(20005,950),(100000,100000),(100001,100001)] [(951,20006)] (rM oz15) (oM oz15)],r_,d_,.r [] [.callm [(20006,950),(100000,100000),(100001,100001)] [(951,20007)] (rM oz17) (oM oz17)],.r [] [.callm [(20007,950),(100000,100000),(100001,100001)] [(951,20008)] (rM oz18) (oM oz18)]]) (G:=[.drop [4],.ren 20008 951,.sort]) Tryz.func167 (by kernel_rfl) (.c oz0<|.c oz1<|.c oz2<|.c oz0<|.c oz4<|.c oz2<|.c oz6<|.c oz7<|.c oz8<|.c oz9<|.c oz10<|.c oz8<|.c oz12<|.c oz10<|.c oz14<|.c oz15<|.c oz10<|.c oz17<|.c oz18<|.n)
def lb_3 (L:Int→List Int) (n:Nod):List Int:=L n.kd++L n.na++L n.no++[IntKind.u8.wrap n.za]++L (n.w.length:Int)++smallL n.w++L (n.b.length:Int)++wideL n.b++L n.qm++L n.qs++[IntKind.u8.wrap n.qz]++[IntKind.u8.wrap n.lo]++[IntKind.u8.wrap n.hi]
theorem lwalk_3 (L:Int→List Int) (n:Nod) (hL:Puts L) (hk:n.kd=3) (hw:n.w.length≤16384) (hb:n.b.length≤16384) (hx:∀ x∈n.b,-2147483648≤x∧x≤2147483647) (hq:In32 n.qm) (hr:In32 n.rm):VM L_ 167 ([.ifc 169 (.ptr 100000 0 0),.ptr 100001 0 0]) ([(100000,.var [.lit (.slice none 0 0)]),(100001,.var (nodC n))]) (.tup []) ([(951,.slc 5 1 ((L n.kd++L n.na++L n.no++[IntKind.u8.wrap n.za]++L (n.w.length:Int)++smallL n.w++L (n.b.length:Int)++wideL n.b++L n.qm++L n.qs++[IntKind.u8.wrap n.qz]++[IntKind.u8.wrap n.lo]++[IntKind.u8.wrap n.hi]).map (row1 .u8))),(100000,.var [.own 951]),(100001,.var (nodC n))]):=by
 have q0:=hL.l n.kd
 have q1:=hL.l n.na
 have q2:=hL.l n.no
 have q3:([IntKind.u8.wrap n.za]).length=1:=rfl
 have q4:=hL.l (n.w.length:Int)
 have q5:(smallL n.w).length=n.w.length:=N_ _
 have q6:=hL.l (n.b.length:Int)
 have q7:=wideL_len n.b hx
 have q8:=hL.l n.qm
 have q9:=hL.l n.qs
 have q10:([IntKind.u8.wrap n.qz]).length=1:=rfl
 have q11:([IntKind.u8.wrap n.lo]).length=1:=rfl
 have q12:([IntKind.u8.wrap n.hi]).length=1:=rfl
 have r0:(L n.kd).length≤500000:=by (try simp only[O_]);omega
 have r1:(L n.kd++L n.na).length≤500000:=by (try simp only[O_]);omega
 have r2:(L n.kd++L n.na++L n.no).length≤500000:=by (try simp only[O_]);omega
 have r3:(L n.kd++L n.na++L n.no++[IntKind.u8.wrap n.za]).length≤500000:=by (try simp only[O_]);omega
 have r4:(L n.kd++L n.na++L n.no++[IntKind.u8.wrap n.za]++L (n.w.length:Int)).length≤500000:=by (try simp only[O_]);omega
 have r5:(L n.kd++L n.na++L n.no++[IntKind.u8.wrap n.za]++L (n.w.length:Int)++smallL n.w).length≤500000:=by (try simp only[O_]);omega
 have r6:(L n.kd++L n.na++L n.no++[IntKind.u8.wrap n.za]++L (n.w.length:Int)++smallL n.w++L (n.b.length:Int)).length≤500000:=by (try simp only[O_]);omega
 have r7:(L n.kd++L n.na++L n.no++[IntKind.u8.wrap n.za]++L (n.w.length:Int)++smallL n.w++L (n.b.length:Int)++wideL n.b).length≤500000:=by (try simp only[O_]);omega
 have r8:(L n.kd++L n.na++L n.no++[IntKind.u8.wrap n.za]++L (n.w.length:Int)++smallL n.w++L (n.b.length:Int)++wideL n.b++L n.qm).length≤500000:=by (try simp only[O_]);omega
 have r9:(L n.kd++L n.na++L n.no++[IntKind.u8.wrap n.za]++L (n.w.length:Int)++smallL n.w++L (n.b.length:Int)++wideL n.b++L n.qm++L n.qs).length≤500000:=by (try simp only[O_]);omega
 have r10:(L n.kd++L n.na++L n.no++[IntKind.u8.wrap n.za]++L (n.w.length:Int)++smallL n.w++L (n.b.length:Int)++wideL n.b++L n.qm++L n.qs++[IntKind.u8.wrap n.qz]).length≤500000:=by (try simp only[O_]);omega
 have r11:(L n.kd++L n.na++L n.no++[IntKind.u8.wrap n.za]++L (n.w.length:Int)++smallL n.w++L (n.b.length:Int)++wideL n.b++L n.qm++L n.qs++[IntKind.u8.wrap n.qz]++[IntKind.u8.wrap n.lo]).length≤500000:=by (try simp only[O_]);omega
 have r12:(L n.kd++L n.na++L n.no++[IntKind.u8.wrap n.za]++L (n.w.length:Int)++smallL n.w++L (n.b.length:Int)++wideL n.b++L n.qm++L n.qs++[IntKind.u8.wrap n.qz]++[IntKind.u8.wrap n.lo]++[IntKind.u8.wrap n.hi]).length≤500000:=by (try simp only[O_]);omega
 clear q0 q1 q2 q3 q4 q5 q6 q7 q8 q9 q10 q11 q12
 have s0:=AK_ r0 (show 500000≤900000 by decide)
 have u0:=AK_ r0 (show 500000≤1000000 by decide)
 have s1:=AK_ r1 (show 500000≤900000 by decide)
 have u1:=AK_ r1 (show 500000≤1000000 by decide)
 have s2:=AK_ r2 (show 500000≤900000 by decide)
 have u2:=AK_ r2 (show 500000≤1000000 by decide)
 have s3:=AK_ r3 (show 500000≤900000 by decide)
 have u3:=AK_ r3 (show 500000≤1000000 by decide)
 have s4:=AK_ r4 (show 500000≤900000 by decide)
 have u4:=AK_ r4 (show 500000≤1000000 by decide)
 have s5:=AK_ r5 (show 500000≤900000 by decide)
 have u5:=AK_ r5 (show 500000≤1000000 by decide)
 have s6:=AK_ r6 (show 500000≤900000 by decide)
 have u6:=AK_ r6 (show 500000≤1000000 by decide)
 have s7:=AK_ r7 (show 500000≤900000 by decide)
 have u7:=AK_ r7 (show 500000≤1000000 by decide)
 have s8:=AK_ r8 (show 500000≤900000 by decide)
 have u8:=AK_ r8 (show 500000≤1000000 by decide)
 have s9:=AK_ r9 (show 500000≤900000 by decide)
 have u9:=AK_ r9 (show 500000≤1000000 by decide)
 have s10:=AK_ r10 (show 500000≤900000 by decide)
 have u10:=AK_ r10 (show 500000≤1000000 by decide)
 have s11:=AK_ r11 (show 500000≤900000 by decide)
 have u11:=AK_ r11 (show 500000≤1000000 by decide)
 have s12:=AK_ r12 (show 500000≤900000 by decide)
 have u12:=AK_ r12 (show 500000≤1000000 by decide)
 have w5:n.w.length≤100000:=by omega
 have b5:n.b.length≤100000:=by omega
 have oz0:=(show NilNo L_ (169:Nat) "stepwell/pack.number" from (nilNo (f:=92) (by kernel_rfl)))
 have oz1:=@lnum_kd0 (L) (n) (9) hL
 have oz2:=(show MethodIs L_ (169:Nat) "stepwell/pack.number" (methF L_ (169:Nat) "stepwell/pack.number") from (methodIs (by kernel_rfl)))
 have oz4:=@lnum_na (L n.kd) (L) (n) (1024) u0 hL
 have oz6:=@of_3 (n.kd) hk
 have oz7:=@lsides_3 (L n.kd++L n.na) (L) (n) s1 hL hk
 have oz8:=(show true=true by with_reducible rfl)
 have oz9:=@lone_za (L n.kd++L n.na++L n.no) (n) u2
 have oz10:=(show false=false by with_reducible rfl)
 have oz12:=@llists_v (L n.kd++L n.na++L n.no++[IntKind.u8.wrap n.za]) (L) (n) r3 hL w5 hb hx
 have oz14:=@lscale_q (L n.kd++L n.na++L n.no++[IntKind.u8.wrap n.za]++L (n.w.length:Int)++smallL n.w++L (n.b.length:Int)++wideL n.b) (L) (n) s7 hL hq
 have oz15:=@lone_qz (L n.kd++L n.na++L n.no++[IntKind.u8.wrap n.za]++L (n.w.length:Int)++smallL n.w++L (n.b.length:Int)++wideL n.b++L n.qm++L n.qs) (n) u9
 have oz17:=@lone_lo (L n.kd++L n.na++L n.no++[IntKind.u8.wrap n.za]++L (n.w.length:Int)++smallL n.w++L (n.b.length:Int)++wideL n.b++L n.qm++L n.qs++[IntKind.u8.wrap n.qz]) (n) u10
 have oz18:=@lone_hi (L n.kd++L n.na++L n.no++[IntKind.u8.wrap n.za]++L (n.w.length:Int)++smallL n.w++L (n.b.length:Int)++wideL n.b++L n.qm++L n.qs++[IntKind.u8.wrap n.qz]++[IntKind.u8.wrap n.lo]) (n) u11
 exact VM.run (fn:=Tryz.f167) (W:=[.r [] [.callm [(100000,100000),(100001,100001)] [(951,20000)] (rM oz1) (oM oz1)],.r [] [.callm [(20000,950),(100000,100000),(100001,100001)] [(951,20001)] (rM oz4) (oM oz4)],.r [] [.callr (rO oz6)],.r [] [.callm [(20001,950),(100000,100000),(100001,100001)] [(951,20002)] (rM oz7) (oM oz7)],r_,b_,.r [] [.callm [(20002,950),(100000,100000),(100001,100001)] [(951,20003)] (rM oz9) (oM oz9)],r_,d_,r_,b_,.r [] [.callm [(20003,950),(100000,100000),(100001,100001)] [(951,20004)] (rM oz12) (oM oz12)],r_,d_,.r [] [.callm [(20004,950),(100000,100000),(100001,100001)] [(951,20005)] (rM oz14) (oM oz14)],.r [] [.callm [(20005,950),(100000,100000),(100001,100001)] [(951,20006)] (rM oz15) (oM oz15)],r_,d_,.r [] [.callm [(20006,950),(100000,100000),(100001,100001)] [(951,20007)] (rM oz17) (oM oz17)],.r [] [.callm [(20007,950),(100000,100000),(100001,100001)] [(951,20008)] (rM oz18) (oM oz18)]]) (G:=[.drop [4],.ren 20008 951,.sort]) Tryz.func167 (by kernel_rfl) (.c oz0<|.c oz1<|.c oz2<|.c oz0<|.c oz4<|.c oz2<|.c oz6<|.c oz7<|.c oz8<|.c oz9<|.c oz10<|.c oz8<|.c oz12<|.c oz10<|.c oz14<|.c oz15<|.c oz10<|.c oz17<|.c oz18<|.n)
def lb_4 (L:Int→List Int) (n:Nod):List Int:=L n.kd++L n.na++L n.nk++L n.ns++L n.np
theorem lwalk_4 (L:Int→List Int) (n:Nod) (hL:Puts L) (hk:n.kd=4∨n.kd=5) (hw:n.w.length≤16384) (hb:n.b.length≤16384) (hx:∀ x∈n.b,-2147483648≤x∧x≤2147483647) (hq:In32 n.qm) (hr:In32 n.rm):VM L_ 167 ([.ifc 169 (.ptr 100000 0 0),.ptr 100001 0 0]) ([(100000,.var [.lit (.slice none 0 0)]),(100001,.var (nodC n))]) (.tup []) ([(951,.slc 5 1 ((L n.kd++L n.na++L n.nk++L n.ns++L n.np).map (row1 .u8))),(100000,.var [.own 951]),(100001,.var (nodC n))]):=by
 have q0:=hL.l n.kd
 have q1:=hL.l n.na
 have q2:=hL.l n.nk
 have q3:=hL.l n.ns
 have q4:=hL.l n.np
 have r0:(L n.kd).length≤500000:=by (try simp only[O_]);omega
 have r1:(L n.kd++L n.na).length≤500000:=by (try simp only[O_]);omega
 have r2:(L n.kd++L n.na++L n.nk).length≤500000:=by (try simp only[O_]);omega
 have r3:(L n.kd++L n.na++L n.nk++L n.ns).length≤500000:=by (try simp only[O_]);omega
 have r4:(L n.kd++L n.na++L n.nk++L n.ns++L n.np).length≤500000:=by (try simp only[O_]);omega
 clear q0 q1 q2 q3 q4
 have s0:=AK_ r0 (show 500000≤900000 by decide)
 have u0:=AK_ r0 (show 500000≤1000000 by decide)
 have s1:=AK_ r1 (show 500000≤900000 by decide)
 have u1:=AK_ r1 (show 500000≤1000000 by decide)
 have s2:=AK_ r2 (show 500000≤900000 by decide)
 have u2:=AK_ r2 (show 500000≤1000000 by decide)
 have s3:=AK_ r3 (show 500000≤900000 by decide)
 have u3:=AK_ r3 (show 500000≤1000000 by decide)
 have s4:=AK_ r4 (show 500000≤900000 by decide)
 have u4:=AK_ r4 (show 500000≤1000000 by decide)
 have w5:n.w.length≤100000:=by omega
 have b5:n.b.length≤100000:=by omega
 have oz0:=(show NilNo L_ (169:Nat) "stepwell/pack.number" from (nilNo (f:=92) (by kernel_rfl)))
 have oz1:=@lnum_kd0 (L) (n) (9) hL
 have oz2:=(show MethodIs L_ (169:Nat) "stepwell/pack.number" (methF L_ (169:Nat) "stepwell/pack.number") from (methodIs (by kernel_rfl)))
 have oz4:=@lnum_na (L n.kd) (L) (n) (1024) u0 hL
 have oz6:=@of_4 (n.kd) hk
 have oz7:=@lsides_4 (L n.kd++L n.na) (L) (n) s1 hL hk
 have oz8:=(show false=false by with_reducible rfl)
 exact VM.run (fn:=Tryz.f167) (W:=[.r [] [.callm [(100000,100000),(100001,100001)] [(951,20000)] (rM oz1) (oM oz1)],.r [] [.callm [(20000,950),(100000,100000),(100001,100001)] [(951,20001)] (rM oz4) (oM oz4)],.r [] [.callr (rO oz6)],.r [] [.callm [(20001,950),(100000,100000),(100001,100001)] [(951,20002)] (rM oz7) (oM oz7)],r_,d_,r_,d_,r_,d_,r_,b_]) (G:=[.drop [4],.ren 20002 951,.sort]) Tryz.func167 (by kernel_rfl) (.c oz0<|.c oz1<|.c oz2<|.c oz0<|.c oz4<|.c oz2<|.c oz6<|.c oz7<|.c oz8<|.c oz8<|.c oz8<|.c (show true=true by with_reducible rfl)<|.n)
def lb_6 (L:Int→List Int) (n:Nod):List Int:=L n.kd++L n.na++L n.nb++[IntKind.u8.wrap n.za]++[IntKind.u8.wrap n.zb]++L n.qm++L n.qs++[IntKind.u8.wrap n.qz]++L n.rm++L n.rs++[IntKind.u8.wrap n.lo]++[IntKind.u8.wrap n.hi]
theorem lwalk_6 (L:Int→List Int) (n:Nod) (hL:Puts L) (hk:n.kd=6) (hw:n.w.length≤16384) (hb:n.b.length≤16384) (hx:∀ x∈n.b,-2147483648≤x∧x≤2147483647) (hq:In32 n.qm) (hr:In32 n.rm):VM L_ 167 ([.ifc 169 (.ptr 100000 0 0),.ptr 100001 0 0]) ([(100000,.var [.lit (.slice none 0 0)]),(100001,.var (nodC n))]) (.tup []) ([(951,.slc 5 1 ((L n.kd++L n.na++L n.nb++[IntKind.u8.wrap n.za]++[IntKind.u8.wrap n.zb]++L n.qm++L n.qs++[IntKind.u8.wrap n.qz]++L n.rm++L n.rs++[IntKind.u8.wrap n.lo]++[IntKind.u8.wrap n.hi]).map (row1 .u8))),(100000,.var [.own 951]),(100001,.var (nodC n))]):=by
 have q0:=hL.l n.kd
 have q1:=hL.l n.na
 have q2:=hL.l n.nb
 have q3:([IntKind.u8.wrap n.za]).length=1:=rfl
 have q4:([IntKind.u8.wrap n.zb]).length=1:=rfl
 have q5:=hL.l n.qm
 have q6:=hL.l n.qs
 have q7:([IntKind.u8.wrap n.qz]).length=1:=rfl
 have q8:=hL.l n.rm
 have q9:=hL.l n.rs
 have q10:([IntKind.u8.wrap n.lo]).length=1:=rfl
 have q11:([IntKind.u8.wrap n.hi]).length=1:=rfl
 have r0:(L n.kd).length≤500000:=by (try simp only[O_]);omega
 have r1:(L n.kd++L n.na).length≤500000:=by (try simp only[O_]);omega
 have r2:(L n.kd++L n.na++L n.nb).length≤500000:=by (try simp only[O_]);omega
 have r3:(L n.kd++L n.na++L n.nb++[IntKind.u8.wrap n.za]).length≤500000:=by (try simp only[O_]);omega
 have r4:(L n.kd++L n.na++L n.nb++[IntKind.u8.wrap n.za]++[IntKind.u8.wrap n.zb]).length≤500000:=by (try simp only[O_]);omega
 have r5:(L n.kd++L n.na++L n.nb++[IntKind.u8.wrap n.za]++[IntKind.u8.wrap n.zb]++L n.qm).length≤500000:=by (try simp only[O_]);omega
 have r6:(L n.kd++L n.na++L n.nb++[IntKind.u8.wrap n.za]++[IntKind.u8.wrap n.zb]++L n.qm++L n.qs).length≤500000:=by (try simp only[O_]);omega
 have r7:(L n.kd++L n.na++L n.nb++[IntKind.u8.wrap n.za]++[IntKind.u8.wrap n.zb]++L n.qm++L n.qs++[IntKind.u8.wrap n.qz]).length≤500000:=by (try simp only[O_]);omega
 have r8:(L n.kd++L n.na++L n.nb++[IntKind.u8.wrap n.za]++[IntKind.u8.wrap n.zb]++L n.qm++L n.qs++[IntKind.u8.wrap n.qz]++L n.rm).length≤500000:=by (try simp only[O_]);omega
 have r9:(L n.kd++L n.na++L n.nb++[IntKind.u8.wrap n.za]++[IntKind.u8.wrap n.zb]++L n.qm++L n.qs++[IntKind.u8.wrap n.qz]++L n.rm++L n.rs).length≤500000:=by (try simp only[O_]);omega
 have r10:(L n.kd++L n.na++L n.nb++[IntKind.u8.wrap n.za]++[IntKind.u8.wrap n.zb]++L n.qm++L n.qs++[IntKind.u8.wrap n.qz]++L n.rm++L n.rs++[IntKind.u8.wrap n.lo]).length≤500000:=by (try simp only[O_]);omega
 have r11:(L n.kd++L n.na++L n.nb++[IntKind.u8.wrap n.za]++[IntKind.u8.wrap n.zb]++L n.qm++L n.qs++[IntKind.u8.wrap n.qz]++L n.rm++L n.rs++[IntKind.u8.wrap n.lo]++[IntKind.u8.wrap n.hi]).length≤500000:=by (try simp only[O_]);omega
 clear q0 q1 q2 q3 q4 q5 q6 q7 q8 q9 q10 q11
 have s0:=AK_ r0 (show 500000≤900000 by decide)
 have u0:=AK_ r0 (show 500000≤1000000 by decide)
 have s1:=AK_ r1 (show 500000≤900000 by decide)
 have u1:=AK_ r1 (show 500000≤1000000 by decide)
 have s2:=AK_ r2 (show 500000≤900000 by decide)
 have u2:=AK_ r2 (show 500000≤1000000 by decide)
 have s3:=AK_ r3 (show 500000≤900000 by decide)
 have u3:=AK_ r3 (show 500000≤1000000 by decide)
 have s4:=AK_ r4 (show 500000≤900000 by decide)
 have u4:=AK_ r4 (show 500000≤1000000 by decide)
 have s5:=AK_ r5 (show 500000≤900000 by decide)
 have u5:=AK_ r5 (show 500000≤1000000 by decide)
 have s6:=AK_ r6 (show 500000≤900000 by decide)
 have u6:=AK_ r6 (show 500000≤1000000 by decide)
 have s7:=AK_ r7 (show 500000≤900000 by decide)
 have u7:=AK_ r7 (show 500000≤1000000 by decide)
 have s8:=AK_ r8 (show 500000≤900000 by decide)
 have u8:=AK_ r8 (show 500000≤1000000 by decide)
 have s9:=AK_ r9 (show 500000≤900000 by decide)
 have u9:=AK_ r9 (show 500000≤1000000 by decide)
 have s10:=AK_ r10 (show 500000≤900000 by decide)
 have u10:=AK_ r10 (show 500000≤1000000 by decide)
 have s11:=AK_ r11 (show 500000≤900000 by decide)
 have u11:=AK_ r11 (show 500000≤1000000 by decide)
 have w5:n.w.length≤100000:=by omega
 have b5:n.b.length≤100000:=by omega
 have oz0:=(show NilNo L_ (169:Nat) "stepwell/pack.number" from (nilNo (f:=92) (by kernel_rfl)))
 have oz1:=@lnum_kd0 (L) (n) (9) hL
 have oz2:=(show MethodIs L_ (169:Nat) "stepwell/pack.number" (methF L_ (169:Nat) "stepwell/pack.number") from (methodIs (by kernel_rfl)))
 have oz4:=@lnum_na (L n.kd) (L) (n) (1024) u0 hL
 have oz6:=@of_6 (n.kd) hk
 have oz7:=@lsides_6 (L n.kd++L n.na) (L) (n) s1 hL hk
 have oz8:=(show true=true by with_reducible rfl)
 have oz9:=@lone_za (L n.kd++L n.na++L n.nb) (n) u2
 have oz11:=@lone_zb (L n.kd++L n.na++L n.nb++[IntKind.u8.wrap n.za]) (n) u3
 have oz12:=(show false=false by with_reducible rfl)
 have oz14:=@lscale_q (L n.kd++L n.na++L n.nb++[IntKind.u8.wrap n.za]++[IntKind.u8.wrap n.zb]) (L) (n) s4 hL hq
 have oz15:=@lone_qz (L n.kd++L n.na++L n.nb++[IntKind.u8.wrap n.za]++[IntKind.u8.wrap n.zb]++L n.qm++L n.qs) (n) u6
 have oz17:=@lscale_r (L n.kd++L n.na++L n.nb++[IntKind.u8.wrap n.za]++[IntKind.u8.wrap n.zb]++L n.qm++L n.qs++[IntKind.u8.wrap n.qz]) (L) (n) s7 hL hr
 have oz18:=@lone_lo (L n.kd++L n.na++L n.nb++[IntKind.u8.wrap n.za]++[IntKind.u8.wrap n.zb]++L n.qm++L n.qs++[IntKind.u8.wrap n.qz]++L n.rm++L n.rs) (n) u9
 have oz19:=@lone_hi (L n.kd++L n.na++L n.nb++[IntKind.u8.wrap n.za]++[IntKind.u8.wrap n.zb]++L n.qm++L n.qs++[IntKind.u8.wrap n.qz]++L n.rm++L n.rs++[IntKind.u8.wrap n.lo]) (n) u10
 exact VM.run (fn:=Tryz.f167) (W:=[.r [] [.callm [(100000,100000),(100001,100001)] [(951,20000)] (rM oz1) (oM oz1)],.r [] [.callm [(20000,950),(100000,100000),(100001,100001)] [(951,20001)] (rM oz4) (oM oz4)],.r [] [.callr (rO oz6)],.r [] [.callm [(20001,950),(100000,100000),(100001,100001)] [(951,20002)] (rM oz7) (oM oz7)],r_,b_,.r [] [.callm [(20002,950),(100000,100000),(100001,100001)] [(951,20003)] (rM oz9) (oM oz9)],r_,b_,.r [] [.callm [(20003,950),(100000,100000),(100001,100001)] [(951,20004)] (rM oz11) (oM oz11)],r_,d_,r_,d_,.r [] [.callm [(20004,950),(100000,100000),(100001,100001)] [(951,20005)] (rM oz14) (oM oz14)],.r [] [.callm [(20005,950),(100000,100000),(100001,100001)] [(951,20006)] (rM oz15) (oM oz15)],r_,b_,.r [] [.callm [(20006,950),(100000,100000),(100001,100001)] [(951,20007)] (rM oz17) (oM oz17)],.r [] [.callm [(20007,950),(100000,100000),(100001,100001)] [(951,20008)] (rM oz18) (oM oz18)],.r [] [.callm [(20008,950),(100000,100000),(100001,100001)] [(951,20009)] (rM oz19) (oM oz19)]]) (G:=[.drop [4],.ren 20009 951,.sort]) Tryz.func167 (by kernel_rfl) (.c oz0<|.c oz1<|.c oz2<|.c oz0<|.c oz4<|.c oz2<|.c oz6<|.c oz7<|.c oz8<|.c oz9<|.c oz8<|.c oz11<|.c oz12<|.c oz12<|.c oz14<|.c oz15<|.c oz8<|.c oz17<|.c oz18<|.c oz19<|.n)
def lb_7 (L:Int→List Int) (n:Nod):List Int:=L n.kd++L n.na++[IntKind.u8.wrap n.za]++L n.qm++L n.qs++[IntKind.u8.wrap n.qz]++[IntKind.u8.wrap n.lo]++[IntKind.u8.wrap n.hi]
theorem lwalk_7 (L:Int→List Int) (n:Nod) (hL:Puts L) (hk:n.kd=7) (hw:n.w.length≤16384) (hb:n.b.length≤16384) (hx:∀ x∈n.b,-2147483648≤x∧x≤2147483647) (hq:In32 n.qm) (hr:In32 n.rm):VM L_ 167 ([.ifc 169 (.ptr 100000 0 0),.ptr 100001 0 0]) ([(100000,.var [.lit (.slice none 0 0)]),(100001,.var (nodC n))]) (.tup []) ([(951,.slc 5 1 ((L n.kd++L n.na++[IntKind.u8.wrap n.za]++L n.qm++L n.qs++[IntKind.u8.wrap n.qz]++[IntKind.u8.wrap n.lo]++[IntKind.u8.wrap n.hi]).map (row1 .u8))),(100000,.var [.own 951]),(100001,.var (nodC n))]):=by
 have q0:=hL.l n.kd
 have q1:=hL.l n.na
 have q2:([IntKind.u8.wrap n.za]).length=1:=rfl
 have q3:=hL.l n.qm
 have q4:=hL.l n.qs
 have q5:([IntKind.u8.wrap n.qz]).length=1:=rfl
 have q6:([IntKind.u8.wrap n.lo]).length=1:=rfl
 have q7:([IntKind.u8.wrap n.hi]).length=1:=rfl
 have r0:(L n.kd).length≤500000:=by (try simp only[O_]);omega
 have r1:(L n.kd++L n.na).length≤500000:=by (try simp only[O_]);omega
 have r2:(L n.kd++L n.na++[IntKind.u8.wrap n.za]).length≤500000:=by (try simp only[O_]);omega
 have r3:(L n.kd++L n.na++[IntKind.u8.wrap n.za]++L n.qm).length≤500000:=by (try simp only[O_]);omega
 have r4:(L n.kd++L n.na++[IntKind.u8.wrap n.za]++L n.qm++L n.qs).length≤500000:=by (try simp only[O_]);omega
 have r5:(L n.kd++L n.na++[IntKind.u8.wrap n.za]++L n.qm++L n.qs++[IntKind.u8.wrap n.qz]).length≤500000:=by (try simp only[O_]);omega
 have r6:(L n.kd++L n.na++[IntKind.u8.wrap n.za]++L n.qm++L n.qs++[IntKind.u8.wrap n.qz]++[IntKind.u8.wrap n.lo]).length≤500000:=by (try simp only[O_]);omega
 have r7:(L n.kd++L n.na++[IntKind.u8.wrap n.za]++L n.qm++L n.qs++[IntKind.u8.wrap n.qz]++[IntKind.u8.wrap n.lo]++[IntKind.u8.wrap n.hi]).length≤500000:=by (try simp only[O_]);omega
 clear q0 q1 q2 q3 q4 q5 q6 q7
 have s0:=AK_ r0 (show 500000≤900000 by decide)
 have u0:=AK_ r0 (show 500000≤1000000 by decide)
 have s1:=AK_ r1 (show 500000≤900000 by decide)
 have u1:=AK_ r1 (show 500000≤1000000 by decide)
 have s2:=AK_ r2 (show 500000≤900000 by decide)
 have u2:=AK_ r2 (show 500000≤1000000 by decide)
 have s3:=AK_ r3 (show 500000≤900000 by decide)
 have u3:=AK_ r3 (show 500000≤1000000 by decide)
 have s4:=AK_ r4 (show 500000≤900000 by decide)
 have u4:=AK_ r4 (show 500000≤1000000 by decide)
 have s5:=AK_ r5 (show 500000≤900000 by decide)
 have u5:=AK_ r5 (show 500000≤1000000 by decide)
 have s6:=AK_ r6 (show 500000≤900000 by decide)
 have u6:=AK_ r6 (show 500000≤1000000 by decide)
 have s7:=AK_ r7 (show 500000≤900000 by decide)
 have u7:=AK_ r7 (show 500000≤1000000 by decide)
 have w5:n.w.length≤100000:=by omega
 have b5:n.b.length≤100000:=by omega
 have oz0:=(show NilNo L_ (169:Nat) "stepwell/pack.number" from (nilNo (f:=92) (by kernel_rfl)))
 have oz1:=@lnum_kd0 (L) (n) (9) hL
 have oz2:=(show MethodIs L_ (169:Nat) "stepwell/pack.number" (methF L_ (169:Nat) "stepwell/pack.number") from (methodIs (by kernel_rfl)))
 have oz4:=@lnum_na (L n.kd) (L) (n) (1024) u0 hL
 have oz6:=@of_7 (n.kd) hk
 have oz7:=@lsides_7 (L n.kd++L n.na) (L) (n) s1 hL hk
 have oz9:=@lone_za (L n.kd++L n.na) (n) u1
 have oz10:=(show false=false by with_reducible rfl)
 have oz13:=@lscale_q (L n.kd++L n.na++[IntKind.u8.wrap n.za]) (L) (n) s2 hL hq
 have oz14:=@lone_qz (L n.kd++L n.na++[IntKind.u8.wrap n.za]++L n.qm++L n.qs) (n) u4
 have oz16:=@lone_lo (L n.kd++L n.na++[IntKind.u8.wrap n.za]++L n.qm++L n.qs++[IntKind.u8.wrap n.qz]) (n) u5
 have oz17:=@lone_hi (L n.kd++L n.na++[IntKind.u8.wrap n.za]++L n.qm++L n.qs++[IntKind.u8.wrap n.qz]++[IntKind.u8.wrap n.lo]) (n) u6
 exact VM.run (fn:=Tryz.f167) (W:=[.r [] [.callm [(100000,100000),(100001,100001)] [(951,20000)] (rM oz1) (oM oz1)],.r [] [.callm [(20000,950),(100000,100000),(100001,100001)] [(951,20001)] (rM oz4) (oM oz4)],.r [] [.callr (rO oz6)],.r [] [.callm [(20001,950),(100000,100000),(100001,100001)] [(950,20002)] (rM oz7) (oM oz7)],r_,b_,.r [] [.callm [(20002,950),(100000,100000),(100001,100001)] [(951,20003)] (rM oz9) (oM oz9)],r_,d_,r_,d_,r_,d_,.r [] [.callm [(20003,950),(100000,100000),(100001,100001)] [(951,20004)] (rM oz13) (oM oz13)],.r [] [.callm [(20004,950),(100000,100000),(100001,100001)] [(951,20005)] (rM oz14) (oM oz14)],r_,d_,.r [] [.callm [(20005,950),(100000,100000),(100001,100001)] [(951,20006)] (rM oz16) (oM oz16)],.r [] [.callm [(20006,950),(100000,100000),(100001,100001)] [(951,20007)] (rM oz17) (oM oz17)]]) (G:=[.drop [4],.ren 20007 951,.sort]) Tryz.func167 (by kernel_rfl) (.c oz0<|.c oz1<|.c oz2<|.c oz0<|.c oz4<|.c oz2<|.c oz6<|.c oz7<|.c (show true=true by with_reducible rfl)<|.c oz9<|.c oz10<|.c oz10<|.c oz10<|.c oz13<|.c oz14<|.c oz10<|.c oz16<|.c oz17<|.n)
def lb_8 (L:Int→List Int) (n:Nod):List Int:=L n.kd++L n.na++L n.np++[IntKind.u8.wrap n.za]
theorem lwalk_8 (L:Int→List Int) (n:Nod) (hL:Puts L) (hk:n.kd=8) (hw:n.w.length≤16384) (hb:n.b.length≤16384) (hx:∀ x∈n.b,-2147483648≤x∧x≤2147483647) (hq:In32 n.qm) (hr:In32 n.rm):VM L_ 167 ([.ifc 169 (.ptr 100000 0 0),.ptr 100001 0 0]) ([(100000,.var [.lit (.slice none 0 0)]),(100001,.var (nodC n))]) (.tup []) ([(951,.slc 5 1 ((L n.kd++L n.na++L n.np++[IntKind.u8.wrap n.za]).map (row1 .u8))),(100000,.var [.own 951]),(100001,.var (nodC n))]):=by
 have q0:=hL.l n.kd
 have q1:=hL.l n.na
 have q2:=hL.l n.np
 have q3:([IntKind.u8.wrap n.za]).length=1:=rfl
 have r0:(L n.kd).length≤500000:=by (try simp only[O_]);omega
 have r1:(L n.kd++L n.na).length≤500000:=by (try simp only[O_]);omega
 have r2:(L n.kd++L n.na++L n.np).length≤500000:=by (try simp only[O_]);omega
 have r3:(L n.kd++L n.na++L n.np++[IntKind.u8.wrap n.za]).length≤500000:=by (try simp only[O_]);omega
 clear q0 q1 q2 q3
 have s0:=AK_ r0 (show 500000≤900000 by decide)
 have u0:=AK_ r0 (show 500000≤1000000 by decide)
 have s1:=AK_ r1 (show 500000≤900000 by decide)
 have u1:=AK_ r1 (show 500000≤1000000 by decide)
 have s2:=AK_ r2 (show 500000≤900000 by decide)
 have u2:=AK_ r2 (show 500000≤1000000 by decide)
 have s3:=AK_ r3 (show 500000≤900000 by decide)
 have u3:=AK_ r3 (show 500000≤1000000 by decide)
 have w5:n.w.length≤100000:=by omega
 have b5:n.b.length≤100000:=by omega
 have oz0:=(show NilNo L_ (169:Nat) "stepwell/pack.number" from (nilNo (f:=92) (by kernel_rfl)))
 have oz1:=@lnum_kd0 (L) (n) (9) hL
 have oz2:=(show MethodIs L_ (169:Nat) "stepwell/pack.number" (methF L_ (169:Nat) "stepwell/pack.number") from (methodIs (by kernel_rfl)))
 have oz4:=@lnum_na (L n.kd) (L) (n) (1024) u0 hL
 have oz6:=@of_8 (n.kd) hk
 have oz7:=@lsides_8 (L n.kd++L n.na) (L) (n) s1 hL hk
 have oz8:=(show true=true by with_reducible rfl)
 have oz9:=@lone_za (L n.kd++L n.na++L n.np) (n) u2
 have oz10:=(show false=false by with_reducible rfl)
 exact VM.run (fn:=Tryz.f167) (W:=[.r [] [.callm [(100000,100000),(100001,100001)] [(951,20000)] (rM oz1) (oM oz1)],.r [] [.callm [(20000,950),(100000,100000),(100001,100001)] [(951,20001)] (rM oz4) (oM oz4)],.r [] [.callr (rO oz6)],.r [] [.callm [(20001,950),(100000,100000),(100001,100001)] [(951,20002)] (rM oz7) (oM oz7)],r_,b_,.r [] [.callm [(20002,950),(100000,100000),(100001,100001)] [(951,20003)] (rM oz9) (oM oz9)],r_,d_,r_,d_,r_,b_]) (G:=[.drop [4],.ren 20003 951,.sort]) Tryz.func167 (by kernel_rfl) (.c oz0<|.c oz1<|.c oz2<|.c oz0<|.c oz4<|.c oz2<|.c oz6<|.c oz7<|.c oz8<|.c oz9<|.c oz10<|.c oz10<|.c oz8<|.n)
def lb_9 (L:Int→List Int) (n:Nod):List Int:=L n.kd++L n.na
theorem lwalk_9 (L:Int→List Int) (n:Nod) (hL:Puts L) (hk:n.kd<1∨8<n.kd) (hw:n.w.length≤16384) (hb:n.b.length≤16384) (hx:∀ x∈n.b,-2147483648≤x∧x≤2147483647) (hq:In32 n.qm) (hr:In32 n.rm):VM L_ 167 ([.ifc 169 (.ptr 100000 0 0),.ptr 100001 0 0]) ([(100000,.var [.lit (.slice none 0 0)]),(100001,.var (nodC n))]) (.tup []) ([(951,.slc 5 1 ((L n.kd++L n.na).map (row1 .u8))),(100000,.var [.own 951]),(100001,.var (nodC n))]):=by
 have q0:=hL.l n.kd
 have q1:=hL.l n.na
 have r0:(L n.kd).length≤500000:=by (try simp only[O_]);omega
 have r1:(L n.kd++L n.na).length≤500000:=by (try simp only[O_]);omega
 clear q0 q1
 have s0:=AK_ r0 (show 500000≤900000 by decide)
 have u0:=AK_ r0 (show 500000≤1000000 by decide)
 have s1:=AK_ r1 (show 500000≤900000 by decide)
 have u1:=AK_ r1 (show 500000≤1000000 by decide)
 have w5:n.w.length≤100000:=by omega
 have b5:n.b.length≤100000:=by omega
 have oz0:=(show NilNo L_ (169:Nat) "stepwell/pack.number" from (nilNo (f:=92) (by kernel_rfl)))
 have oz1:=@lnum_kd0 (L) (n) (9) hL
 have oz2:=(show MethodIs L_ (169:Nat) "stepwell/pack.number" (methF L_ (169:Nat) "stepwell/pack.number") from (methodIs (by kernel_rfl)))
 have oz4:=@lnum_na (L n.kd) (L) (n) (1024) u0 hL
 have oz6:=@of_9 (n.kd) hk
 have oz7:=@lsides_9 (L n.kd++L n.na) (L) (n) s1 hL hk
 have oz8:=(show false=false by with_reducible rfl)
 exact VM.run (fn:=Tryz.f167) (W:=[.r [] [.callm [(100000,100000),(100001,100001)] [(951,20000)] (rM oz1) (oM oz1)],.r [] [.callm [(20000,950),(100000,100000),(100001,100001)] [(951,20001)] (rM oz4) (oM oz4)],.r [] [.callr (rO oz6)],.r [] [.callm [(20001,950),(100000,100000),(100001,100001)] [(950,20002)] (rM oz7) (oM oz7)],r_,d_,r_,d_,r_,d_,r_,b_]) (G:=[.drop [4],.ren 20002 951,.sort]) Tryz.func167 (by kernel_rfl) (.c oz0<|.c oz1<|.c oz2<|.c oz0<|.c oz4<|.c oz2<|.c oz6<|.c oz7<|.c oz8<|.c oz8<|.c oz8<|.c (show true=true by with_reducible rfl)<|.n)
def nodeL (L:Int→List Int) (n:Nod):List Int:=if n.kd=1 then lb_1 L n else if n.kd=2 then lb_2 L n else if n.kd=3 then lb_3 L n else if n.kd=4∨n.kd=5 then lb_4 L n else if n.kd=6 then lb_6 L n else if n.kd=7 then lb_7 L n else if n.kd=8 then lb_8 L n else lb_9 L n
theorem lwalk_v (L:Int→List Int) (n:Nod) (hL:Puts L) (hw:n.w.length≤16384) (hb:n.b.length≤16384) (hx:∀ x∈n.b,-2147483648≤x∧x≤2147483647) (hq:In32 n.qm) (hr:In32 n.rm):VM L_ 167 [.ifc 169 (.ptr 100000 0 0),.ptr 100001 0 0] [(100000,.var [.lit (.slice none 0 0)]),(100001,.var (nodC n))] (.tup []) [(951,.slc 5 1 ((nodeL L n).map (row1 .u8))),(100000,.var [.own 951]),(100001,.var (nodC n))]:=by
 by_cases k1:n.kd=1
 ·rw[show nodeL L n=lb_1 L n from by unfold nodeL;rw[i_ k1]]
  exact lwalk_1 L n hL k1 hw hb hx hq hr
 by_cases k2:n.kd=2
 ·rw[show nodeL L n=lb_2 L n from by unfold nodeL;rw[j_ k1,i_ k2]]
  exact lwalk_2 L n hL k2 hw hb hx hq hr
 by_cases k3:n.kd=3
 ·rw[show nodeL L n=lb_3 L n from by unfold nodeL;rw[j_ k1,j_ k2,i_ k3]]
  exact lwalk_3 L n hL k3 hw hb hx hq hr
 by_cases k4:n.kd=4∨n.kd=5
 ·rw[show nodeL L n=lb_4 L n from by unfold nodeL;rw[j_ k1,j_ k2,j_ k3,i_ k4]]
  exact lwalk_4 L n hL k4 hw hb hx hq hr
 by_cases k6:n.kd=6
 ·rw[show nodeL L n=lb_6 L n from by unfold nodeL;rw[j_ k1,j_ k2,j_ k3,j_ k4,i_ k6]]
  exact lwalk_6 L n hL k6 hw hb hx hq hr
 by_cases k7:n.kd=7
 ·rw[show nodeL L n=lb_7 L n from by unfold nodeL;rw[j_ k1,j_ k2,j_ k3,j_ k4,j_ k6,i_ k7]]
  exact lwalk_7 L n hL k7 hw hb hx hq hr
 by_cases k8:n.kd=8
 ·rw[show nodeL L n=lb_8 L n from by unfold nodeL;rw[j_ k1,j_ k2,j_ k3,j_ k4,j_ k6,j_ k7,i_ k8]]
  exact lwalk_8 L n hL k8 hw hb hx hq hr
 rw[show nodeL L n=lb_9 L n from by unfold nodeL;rw[j_ k1,j_ k2,j_ k3,j_ k4,j_ k6,j_ k7,j_ k8]]
 exact lwalk_9 L n hL (by omega) hw hb hx hq hr
theorem in_v (v lo hi:Int)  : VC L_ 238 ([i64 v,i64 lo,i64 hi]) (bv (decide (lo≤v)&&decide (v≤hi))):=by
 exact VC.run (fn:=Tryz.f238) (W:=[r_,.r [] [o_,o_,o_,.sel 2]]) Tryz.func238 (by kernel_rfl) (.n)
def stepsE (n k s p:Int):Int×Int:=if n<1∨1024<n∨k<1∨5<k∨s<1∨4<s∨p<0∨4<p∨k≤p then (0,2) else if n+2*p<k then (0,5) else ((n+2*p-k)/s+1,0)
theorem div4 (a s:Int) (h0:0≤a) (h1:a≤2000) (h2:1≤s):0≤a/s∧a/s≤2000:=⟨Int.ediv_nonneg h0 (by omega),Int.le_trans (Int.ediv_le_self s h0) h1⟩
theorem steps_v (n k s p:Int)  : VC L_ 228 ([i64 n,i64 k,i64 s,i64 p]) (.tup [i64 (stepsE n k s p).1,i64 (stepsE n k s p).2]):=by
 have oz0:=@in_v (n) (1) (1024)
 have oz1:=@in_v (k) (1) (5)
 have oz2:=@in_v (s) (1) (4)
 have oz3:=@in_v (p) (0) (4)
 rcases bft (!(decide (1≤n)&&decide (n≤1024)) || !(decide (1≤k)&&decide (k≤5)) || !(decide (1≤s)&&decide (s≤4)) || !(decide (0≤p)&&decide (p≤4)) || decide (p≥k)) with hc0|hc0
 ·have gc0:((((¬1≤n∨¬n≤1024)∨¬1≤k∨¬k≤5)∨¬1≤s∨¬s≤4)∨¬0≤p∨¬p≤4)∨p≥k:=by simp only[Z_,T_,P_,S_,W_,U_,E_,F_,I_,J_,ne_eq,H_,G_,eqNums,C_] at hc0;first|exact hc0|omega
  exact (VC.run (fn:=Tryz.f228) (W:=[r_,.r [] [.callr (rO oz0),o_,o_,.callr (rO oz1),o_,.sel 1,o_,o_,.callr (rO oz2),o_,.sel 1,o_,o_,.callr (rO oz3),o_,.sel 1,o_,o_,o_,.sel 1],b_,r_]) (r:=AV.tup [i64 0,i64 2]) Tryz.func228 (by kernel_rfl) (.c oz0<|.c oz1<|.c oz2<|.c oz3<|.c hc0<|.n)).to (by (simp only[stepsE];rw[i_ (by omega)]))
 ·have gc0:((((1≤n∧n≤1024)∧1≤k∧k≤5)∧1≤s∧s≤4)∧0≤p∧p≤4)∧¬p≥k:=by simp only[Z_,T_,P_,S_,W_,U_,E_,F_,I_,J_,ne_eq,H_,G_,eqNums,C_] at hc0;first|exact hc0|omega
  have oz5:=(i6n (2*p) (by omega))
  have oz6:=(i6n (n+2*p) (by omega))
  rcases bft (decide (k>n+2*p)) with hc1|hc1
  ·have gc1:=of_decide_eq_true hc1
   exact (VC.run (fn:=Tryz.f228) (W:=[r_,.r [] [.callr (rO oz0),o_,o_,.callr (rO oz1),o_,.sel 1,o_,o_,.callr (rO oz2),o_,.sel 1,o_,o_,.callr (rO oz3),o_,.sel 1,o_,o_,o_,.sel 1],d_,.r [] [.n (nO oz5),.n (nO oz6)],b_,r_]) (r:=AV.tup [i64 0,i64 5]) Tryz.func228 (by kernel_rfl) (.c oz0<|.c oz1<|.c oz2<|.c oz3<|.c hc0<|.c oz5<|.c oz6<|.c hc1<|.n)).to (by (simp only[stepsE];rw[j_ (by omega),i_ (by omega)]))
  ·have gc1:=of_decide_eq_false hc1
   have oz12:=(show IntKind.i64.wrap ((n+2*p-k).tdiv s)=(n+2*p-k)/s from (Eq.trans (congrArg _ (BF_ (by omega))) (by with_reducible exact i6n _ (by have:=div4 (n+2*p-k) s (by omega) (by omega) (by omega);omega))))
   have oz13:=(show IntKind.i64.wrap ((n+2*p-k)/s+1)=(n+2*p-k)/s+1 by with_reducible exact i6n _ (by have:=div4 (n+2*p-k) s (by omega) (by omega) (by omega);omega))
   exact (VC.run (fn:=Tryz.f228) (W:=[r_,.r [] [.callr (rO oz0),o_,o_,.callr (rO oz1),o_,.sel 1,o_,o_,.callr (rO oz2),o_,.sel 1,o_,o_,.callr (rO oz3),o_,.sel 1,o_,o_,o_,.sel 1],d_,.r [] [.n (nO oz5),.n (nO oz6)],d_,.r [] [.n (nO oz5),.n (nO oz6),.n (n+2*p-k),.n ((n+2*p-k)/s),.n (nO oz13)]]) (r:=AV.tup [i64 ((n+2*p-k)/s+1),i64 0]) Tryz.func228 (by kernel_rfl) (.c oz0<|.c oz1<|.c oz2<|.c oz3<|.c hc0<|.c oz5<|.c oz6<|.c hc1<|.c oz5<|.c oz6<|.c (i6n (n+2*p-k) (by omega))<|.c (show s≠0 by omega)<|.c oz12<|.c oz13<|.n)).to (by (simp only[stepsE];rw[j_ (by omega),j_ (by omega)]))
theorem succ_mul' (k:Nat) (s:Int):((k+1:Nat):Int)*s=k*s+s:=by rw[Int.natCast_add,Int.add_mul];simp
def stepsM (n w s p:Int):Nat:=(if n+2*p<w then 0 else (n+2*p-w)/s+1).toNat
structure StepsOk (n w s p:Int):Prop where
 n0:1≤n
 n1:n≤1024
 w0:1≤w
 w1:w≤5
 s0:1≤s
 s1:s≤4
 p0:0≤p
 p1:p≤4
theorem stepsM_le {n w s p:Int} (h:StepsOk n w s p):(stepsM n w s p:Int)≤1040:=by
 obtain ⟨h1,h2,h3,h4,h5,h6,h7,h8⟩:=h
 unfold stepsM
 split
 ·simp
 ·have:=div4 (n+2*p-w) s (by omega) (by omega) h5
  have h9:=Int.ediv_le_self s (show 0≤n+2*p-w by omega)
  omega
theorem stepsM_lt {n w s p:Int} (h:StepsOk n w s p) {k:Nat} (hk:k<stepsM n w s p):(k:Int)*s-p+w≤n+p:=by
 obtain ⟨h1,h2,h3,h4,h5,h6,h7,h8⟩:=h
 unfold stepsM at hk
 split at hk
 ·simp at hk
 ·have h10:(k:Int)≤(n+2*p-w)/s:=by omega
  have h9:=Int.mul_le_of_le_ediv (by omega:0<s) h10
  omega
theorem stepsM_end {n w s p:Int} (h:StepsOk n w s p):n+p<(stepsM n w s p:Int)*s-p+w:=by
 obtain ⟨h1,h2,h3,h4,h5,h6,h7,h8⟩:=h
 unfold stepsM
 split
 ·simp;omega
 ·have h9:=Int.lt_ediv_add_one_mul_self (n+2*p-w) (by omega:0<s)
  have h10:=div4 (n+2*p-w) s (by omega) (by omega) h5
  rw[Int.toNat_of_nonneg (by omega)]
  omega
noncomputable def refSteps_l_I (n w s p:Int) (k:Nat):VS:=stt 64 [(0,i64 n),(1,i64 w),(2,i64 s),(3,i64 p),(10,i64 k),(11,i64 (k*s-p))] []
noncomputable def refSteps_l_Z (n w s p:Int):VS:=refSteps_l_I n w s p (stepsM n w s p)
theorem refSteps_l_s (n w s p:Int) (h:StepsOk n w s p) (k:Nat) (hk:k<stepsM n w s p):VT L_ (fnC Tryz.f152 [1,1,1,0,1,0,0]) (refSteps_l_I n w s p k) .normal (refSteps_l_I n w s p (k+1)):=by
 have h0:=stepsM_lt h hk
 have h2:0≤(k:Int)*s:=CC_ (by omega) (by have:=h.s0;omega)
 have h1:=stepsM_le h
 obtain ⟨g1,g2,g3,g4,g5,g6,g7,g8⟩:=h
 exact VT.run (W:=[.r [] [.n ((↑k:Int)*s-p+w),.n (n+p)],b_,.r [] [.n ((↑k:Int)+1)],.r [] [.n ((↑k:Int)*s-p+s)]]) (G:=[.any (rg [(49,12)]),.weak 10 (i64 (↑(k+1):Int)),.weak 11 (i64 ((↑(k+1):Int)*s-p)),.sort]) (by kernel_rfl) (.c (i6n ((↑k:Int)*s-p+w) (by omega))<|.c (i6n (n+p) (by omega))<|.c (decide_eq_true (p:=((↑k:Int)*s-p+w≤n+p)) (by omega))<|.c (i6n ((↑k:Int)+1) (by omega))<|.c (i6n ((↑k:Int)*s-p+s) (by omega))<|.c (wS_ k)<|.c (R_ (k:=.i64) (show (((↑k:Int)*s-p+s):Int)=((↑(k+1):Int)*s-p) from (by (rw[succ_mul'];omega))))<|.n)
theorem refSteps_l_e (n w s p:Int) (h:StepsOk n w s p):VT L_ (fnC Tryz.f152 [1,1,1,0,1,0,0]) (refSteps_l_I n w s p (stepsM n w s p)) (.exit 0) (refSteps_l_Z n w s p):=by
 have h0:=stepsM_end h
 have h3:0≤(stepsM n w s p:Int)*s:=CC_ (by omega) (by have:=h.s0;omega)
 have h1:=stepsM_le h
 have h2:(stepsM n w s p:Int)*s≤1040*4:=Int.mul_le_mul h1 h.s1 (by have:=h.s0;omega) (by omega)
 obtain ⟨g1,g2,g3,g4,g5,g6,g7,g8⟩:=h
 have oz0:=(i6n ((↑(stepsM n w s p):Int)*s-p+w) (by omega))
 exact VT.run (W:=[.r [] [.n (nO oz0),.n (n+p)],d_]) (G:=[.any (rg [(49,7)]),.sort]) (by kernel_rfl) (.c oz0<|.c (i6n (n+p) (by omega))<|.c (decide_eq_false (p:=((↑(stepsM n w s p):Int)*s-p+w≤n+p)) (by omega))<|.n)
theorem refSteps_l (n w s p:Int) (h:StepsOk n w s p):VT L_ (fnC Tryz.f152 [1,1,1,0,1,0]) (refSteps_l_I n w s p 0) (.exit 0) (refSteps_l_Z n w s p) :=
 VT.loop (fun k=>refSteps_l_I n w s p k) (stepsM n w s p) (fun k hk=>refSteps_l_s n w s p h k hk) (refSteps_l_e n w s p h) (by intro h;cases h)
theorem stepsE_ok {n w s p:Int} (h:StepsOk n w s p) (hw:p<w):(if (stepsM n w s p:Int)=0 then ((0:Int),(5:Int)) else ((stepsM n w s p:Int),0))=stepsE n w s p:=by
 have hd:=div4 (n+2*p-w) s
 obtain ⟨h1,h2,h3,h4,h5,h6,h7,h8⟩:=h
 unfold stepsM stepsE
 rw[j_ (by omega:¬ (n<1∨1024<n∨w<1∨5<w∨s<1∨4<s∨p<0∨4<p∨w≤p))]
 by_cases h:n+2*p<w
 ·rw[i_ h,i_ h];simp
 ·have:=hd (by omega) (by omega) h5
  rw[j_ h,j_ h,j_ (by omega)]
  rw[Int.toNat_of_nonneg (by omega)]
theorem refSteps_v (n k s p:Int)  : VC L_ 152 ([i64 n,i64 k,i64 s,i64 p]) (.tup [i64 (stepsE n k s p).1,i64 (stepsE n k s p).2]):=by
 rcases bft (decide (n<1) || decide (n>1024) || decide (k<1) || decide (k>5) || decide (s<1) || decide (s>4) || decide (p<0) || decide (p>4) || decide (p≥k)) with hc0|hc0
 ·have gc0:(((((((n<1∨n>1024)∨k<1)∨k>5)∨s<1)∨s>4)∨p<0)∨p>4)∨p≥k:=by simp only[Z_,T_,P_,S_,W_,U_,E_,F_,I_,J_,ne_eq,H_,G_,eqNums,C_] at hc0;first|exact hc0|omega
  exact (VC.run (fn:=Tryz.f152) (W:=[r_,.r [] [o_,o_,.sel 1,o_,o_,.sel 1,o_,o_,.sel 1,o_,o_,.sel 1,o_,o_,.sel 1,o_,o_,.sel 1,o_,o_,.sel 1,o_,o_,o_,.sel 1],b_,r_]) (r:=AV.tup [i64 0,i64 2]) Tryz.func152 (by kernel_rfl) (.c hc0<|.n)).to (by (simp only[stepsE];rw[i_ (by omega)]))
 ·have gc0:(((((((¬n<1∧¬n>1024)∧¬k<1)∧¬k>5)∧¬s<1)∧¬s>4)∧¬p<0)∧¬p>4)∧¬p≥k:=by simp only[Z_,T_,P_,S_,W_,U_,E_,F_,I_,J_,ne_eq,H_,G_,eqNums,C_] at hc0;first|exact hc0|omega
  have oz1:=(i6n (0-p) (by omega))
  have oz2:=w0_
  have oz3:=(R_ (k:=.i64) (show ((0-p):Int)=((↑0:Int)*s-p) from (by omega)))
  have oz4:=@refSteps_l (n) (k) (s) (p) (by (constructor<;>omega))
  rcases bft ((↑(stepsM n k s p):Int)==0) with hc1|hc1
  ·have gc1:(↑(stepsM n k s p):Int)=0:=bet hc1
   exact (VC.run (fn:=Tryz.f152) (W:=[r_,.r [] [o_,o_,.sel 1,o_,o_,.sel 1,o_,o_,.sel 1,o_,o_,.sel 1,o_,o_,.sel 1,o_,o_,.sel 1,o_,o_,.sel 1,o_,o_,o_,.sel 1],d_,r_,.r [] [.n (nO oz1)],.code [.any [8,9,12,13,14,17,18,21,22,25,26,29,30,33,34,37,38,41,42,46,47,48],.weak 10 (wO oz2),.weak 11 (wO oz3),.sort] (AF_ 0) (zO oz4),r_,b_,r_]) (r:=AV.tup [i64 0,i64 5]) Tryz.func152 (by kernel_rfl) (.c hc0<|.c oz1<|.c oz2<|.c oz3<|.c oz4<|.c hc1<|.n)).weak (B_ _) (AA_ (.cons (R_ (by (rw[←stepsE_ok (by constructor<;>omega) (by omega),i_ (by omega)]))) (.cons (R_ (by (rw[←stepsE_ok (by constructor<;>omega) (by omega),i_ (by omega)]))) .nil)))
  ·have gc1:¬(↑(stepsM n k s p):Int)=0:=bef hc1
   exact (VC.run (fn:=Tryz.f152) (W:=[r_,.r [] [o_,o_,.sel 1,o_,o_,.sel 1,o_,o_,.sel 1,o_,o_,.sel 1,o_,o_,.sel 1,o_,o_,.sel 1,o_,o_,.sel 1,o_,o_,o_,.sel 1],d_,r_,.r [] [.n (nO oz1)],.code [.any [8,9,12,13,14,17,18,21,22,25,26,29,30,33,34,37,38,41,42,46,47,48],.weak 10 (wO oz2),.weak 11 (wO oz3),.sort] (AF_ 0) (zO oz4),r_,d_,r_]) (r:=AV.tup [i64 (↑(stepsM n k s p):Int),i64 0]) Tryz.func152 (by kernel_rfl) (.c hc0<|.c oz1<|.c oz2<|.c oz3<|.c oz4<|.c hc1<|.n)).weak (B_ _) (AA_ (.cons (R_ (by (rw[←stepsE_ok (by constructor<;>omega) (by omega),j_ (by omega)]))) (.cons (R_ (by (rw[←stepsE_ok (by constructor<;>omega) (by omega),j_ (by omega)]))) .nil)))
theorem stepsE_bd (n k s p:Int):0≤(stepsE n k s p).1∧(stepsE n k s p).1≤2001∧0≤(stepsE n k s p).2∧(stepsE n k s p).2≤5:=by
 unfold stepsE;split
 ·simp
 ·split
  ·simp
  ·have:=div4 (n+2*p-k) s (by omega) (by omega) (by omega)
   simp only;omega
structure Shp where
 h:Int
 x:Int
 c:Int
structure Shp.Ok (s:Shp):Prop where
 h:In64 s.h
 x:In64 s.x
 c:In64 s.c
theorem Shp.mk_ok {a b c:Int} (x:In64 a) (y:In64 b) (z:In64 c):Shp.Ok ⟨a,b,c⟩:=⟨x,y,z⟩
abbrev shp (s:Shp):AV:=.agg [i64 s.h,i64 s.x,i64 s.c]
def slideE (t:Shp) (k s p o:Int):Shp×Int :=
 if ¬ 0<elems t.h t.x t.c then (⟨0,0,0⟩,5) else if (stepsE t.h k s p).2≠0 then (⟨0,0,0⟩,(stepsE t.h k s p).2) else if (stepsE t.x k s p).2≠0 then (⟨0,0,0⟩,(stepsE t.x k s p).2)
 else if ¬ 0<elems (stepsE t.h k s p).1 (stepsE t.x k s p).1 o then (⟨0,0,0⟩,5) else (⟨(stepsE t.h k s p).1,(stepsE t.x k s p).1,o⟩,0)
theorem sRight_v (t:Shp) (ok:t.Ok):VC L_ 99 ([shp t]) (bv (decide (0<elems t.h t.x t.c))):=by
 have q1:=ok.h
 have q2:=ok.x
 have q3:=ok.c
 have oz0:=@elems_v (t.h) (t.x) (t.c) q1 q2 q3
 exact VC.run (fn:=Tryz.f99) (W:=[r_,.r [] [.callr (rO oz0)]]) Tryz.func99 (by kernel_rfl) (.c oz0<|.n)
theorem slide_v (t:Shp) (k s p o:Int) (ok:t.Ok) (ho:In64 o):VC L_ 212 ([shp t,i64 k,i64 s,i64 p,i64 o]) (.tup [shp (slideE t k s p o).1,i64 (slideE t k s p o).2]):=by
 have q1:=ok.h
 have q2:=ok.x
 have q3:=ok.c
 have q4:=stepsE_bd t.h k s p
 have q5:=stepsE_bd t.x k s p
 have oz0:=@sRight_v (t) ok
 rcases bft (!decide (0<elems t.h t.x t.c)) with hc0|hc0
 ·have gc0:=bnt hc0
  exact (VC.run (fn:=Tryz.f212) (W:=[r_,.r [] [.callr (rO oz0)],b_,r_]) (r:=AV.tup [AV.agg [i64 0,i64 0,i64 0],i64 5]) Tryz.func212 (by kernel_rfl) (.c oz0<|.c hc0<|.n)).to (by (simp only[slideE];rw[i_ (by omega)]))
 ·have gc0:=bnf hc0
  have oz2:=@steps_v (t.h) (k) (s) (p)
  rcases bft ((stepsE t.h k s p).snd != 0) with hc1|hc1
  ·have gc1:¬(stepsE t.h k s p).snd=0:=bdt hc1
   exact (VC.run (fn:=Tryz.f212) (W:=[r_,.r [] [.callr (rO oz0)],d_,.r [] [.callr (rO oz2)],r_,b_,r_]) (r:=AV.tup [AV.agg [i64 0,i64 0,i64 0],i64 (stepsE t.h k s p).snd]) Tryz.func212 (by kernel_rfl) (.c oz0<|.c hc0<|.c oz2<|.c hc1<|.n)).to (by (simp only[slideE];rw[j_ (by omega),i_ (by omega)]))
  ·have gc1:(stepsE t.h k s p).snd=0:=bdf hc1
   have oz4:=@steps_v (t.x) (k) (s) (p)
   rcases bft ((stepsE t.x k s p).snd != 0) with hc2|hc2
   ·have gc2:¬(stepsE t.x k s p).snd=0:=bdt hc2
    exact (VC.run (fn:=Tryz.f212) (W:=[r_,.r [] [.callr (rO oz0)],d_,.r [] [.callr (rO oz2)],r_,d_,.r [] [.callr (rO oz4)],r_,b_,r_]) (r:=AV.tup [AV.agg [i64 0,i64 0,i64 0],i64 (stepsE t.x k s p).snd]) Tryz.func212 (by kernel_rfl) (.c oz0<|.c hc0<|.c oz2<|.c hc1<|.c oz4<|.c hc2<|.n)).to (by (simp only[slideE];rw[j_ (by omega),j_ (by omega),i_ (by omega)]))
   ·have gc2:(stepsE t.x k s p).snd=0:=bdf hc2
    have oz6:=@sRight_v (Shp.mk (stepsE t.h k s p).fst (stepsE t.x k s p).fst o) (by (exact Shp.mk_ok ⟨by omega,by omega⟩ ⟨by omega,by omega⟩ ho))
    rcases bft (!decide (0<elems (stepsE t.h k s p).fst (stepsE t.x k s p).fst o)) with hc3|hc3
    ·have gc3:=bnt hc3
     exact (VC.run (fn:=Tryz.f212) (W:=[r_,.r [] [.callr (rO oz0)],d_,.r [] [.callr (rO oz2)],r_,d_,.r [] [.callr (rO oz4)],r_,d_,r_,.r [] [.callr (rO oz6)],b_,r_]) (r:=AV.tup [AV.agg [i64 0,i64 0,i64 0],i64 5]) Tryz.func212 (by kernel_rfl) (.c oz0<|.c hc0<|.c oz2<|.c hc1<|.c oz4<|.c hc2<|.c oz6<|.c hc3<|.n)).to (by (simp only[slideE];rw[j_ (by omega),j_ (by omega),j_ (by omega),i_ (by omega)]))
    ·have gc3:=bnf hc3
     exact (VC.run (fn:=Tryz.f212) (W:=[r_,.r [] [.callr (rO oz0)],d_,.r [] [.callr (rO oz2)],r_,d_,.r [] [.callr (rO oz4)],r_,d_,r_,.r [] [.callr (rO oz6)],d_,r_]) (r:=AV.tup [AV.agg [i64 (stepsE t.h k s p).fst,i64 (stepsE t.x k s p).fst,i64 o],i64 0]) Tryz.func212 (by kernel_rfl) (.c oz0<|.c hc0<|.c oz2<|.c hc1<|.c oz4<|.c hc2<|.c oz6<|.c hc3<|.n)).to (by (simp only[slideE];rw[j_ (by omega),j_ (by omega),j_ (by omega),j_ (by omega)]))
theorem refSlide_v (t:Shp) (k s p o:Int) (ok:t.Ok) (ho:In64 o):VC L_ 112 ([shp t,i64 k,i64 s,i64 p,i64 o]) (.tup [shp (slideE t k s p o).1,i64 (slideE t k s p o).2]):=by
 have q1:=ok.h
 have q2:=ok.x
 have q3:=ok.c
 have q4:=stepsE_bd t.h k s p
 have q5:=stepsE_bd t.x k s p
 have q6:=elems_bd t.h t.x t.c
 have q7:=elems_bd (stepsE t.h k s p).1 (stepsE t.x k s p).1 o
 have oz0:=@refElems_v (t.h) (t.x) (t.c) q1 q2 q3
 rcases bft (elems t.h t.x t.c==0) with hc0|hc0
 ·have gc0:elems t.h t.x t.c=0:=bet hc0
  exact (VC.run (fn:=Tryz.f112) (W:=[r_,.r [] [.callr (rO oz0)],b_,r_]) (r:=AV.tup [AV.agg [i64 0,i64 0,i64 0],i64 5]) Tryz.func112 (by kernel_rfl) (.c oz0<|.c hc0<|.n)).to (by (simp only[slideE];rw[i_ (by omega)]))
 ·have gc0:¬elems t.h t.x t.c=0:=bef hc0
  have oz2:=@refSteps_v (t.h) (k) (s) (p)
  rcases bft ((stepsE t.h k s p).snd != 0) with hc1|hc1
  ·have gc1:¬(stepsE t.h k s p).snd=0:=bdt hc1
   exact (VC.run (fn:=Tryz.f112) (W:=[r_,.r [] [.callr (rO oz0)],d_,.r [] [.callr (rO oz2)],r_,b_,r_]) (r:=AV.tup [AV.agg [i64 0,i64 0,i64 0],i64 (stepsE t.h k s p).snd]) Tryz.func112 (by kernel_rfl) (.c oz0<|.c hc0<|.c oz2<|.c hc1<|.n)).to (by (simp only[slideE];rw[j_ (by omega),i_ (by omega)]))
  ·have gc1:(stepsE t.h k s p).snd=0:=bdf hc1
   have oz4:=@refSteps_v (t.x) (k) (s) (p)
   rcases bft ((stepsE t.x k s p).snd != 0) with hc2|hc2
   ·have gc2:¬(stepsE t.x k s p).snd=0:=bdt hc2
    exact (VC.run (fn:=Tryz.f112) (W:=[r_,.r [] [.callr (rO oz0)],d_,.r [] [.callr (rO oz2)],r_,d_,.r [] [.callr (rO oz4)],r_,b_,r_]) (r:=AV.tup [AV.agg [i64 0,i64 0,i64 0],i64 (stepsE t.x k s p).snd]) Tryz.func112 (by kernel_rfl) (.c oz0<|.c hc0<|.c oz2<|.c hc1<|.c oz4<|.c hc2<|.n)).to (by (simp only[slideE];rw[j_ (by omega),j_ (by omega),i_ (by omega)]))
   ·have gc2:(stepsE t.x k s p).snd=0:=bdf hc2
    have oz6:=@refElems_v ((stepsE t.h k s p).fst) ((stepsE t.x k s p).fst) (o) (by omega) (by omega) ho
    rcases bft (elems (stepsE t.h k s p).fst (stepsE t.x k s p).fst o==0) with hc3|hc3
    ·have gc3:elems (stepsE t.h k s p).fst (stepsE t.x k s p).fst o=0:=bet hc3
     exact (VC.run (fn:=Tryz.f112) (W:=[r_,.r [] [.callr (rO oz0)],d_,.r [] [.callr (rO oz2)],r_,d_,.r [] [.callr (rO oz4)],r_,d_,r_,.r [] [.callr (rO oz6)],b_,r_]) (r:=AV.tup [AV.agg [i64 0,i64 0,i64 0],i64 5]) Tryz.func112 (by kernel_rfl) (.c oz0<|.c hc0<|.c oz2<|.c hc1<|.c oz4<|.c hc2<|.c oz6<|.c hc3<|.n)).to (by (simp only[slideE];rw[j_ (by omega),j_ (by omega),j_ (by omega),i_ (by omega)]))
    ·have gc3:¬elems (stepsE t.h k s p).fst (stepsE t.x k s p).fst o=0:=bef hc3
     exact (VC.run (fn:=Tryz.f112) (W:=[r_,.r [] [.callr (rO oz0)],d_,.r [] [.callr (rO oz2)],r_,d_,.r [] [.callr (rO oz4)],r_,d_,r_,.r [] [.callr (rO oz6)],d_,r_]) (r:=AV.tup [AV.agg [i64 (stepsE t.h k s p).fst,i64 (stepsE t.x k s p).fst,i64 o],i64 0]) Tryz.func112 (by kernel_rfl) (.c oz0<|.c hc0<|.c oz2<|.c hc1<|.c oz4<|.c hc2<|.c oz6<|.c hc3<|.n)).to (by (simp only[slideE];rw[j_ (by omega),j_ (by omega),j_ (by omega),j_ (by omega)]))
theorem mul_bd {a b A B:Int} (a0:0≤a) (a1:a≤A) (b0:0≤b) (b1:b≤B):0≤a*b∧a*b≤A*B :=
 ⟨CC_ a0 b0,Int.mul_le_mul a1 b1 b0 (by omega)⟩
theorem slideE_ok {t:Shp} {k s p o:Int} (h:(slideE t k s p o).2=0):0<elems t.h t.x t.c∧1≤k∧k≤5∧1≤s∧s≤4∧0≤p∧p≤4∧p<k∧t.h+2*p≥k∧t.x+2*p≥k ∧
  (slideE t k s p o).1=⟨(t.h+2*p-k)/s+1,(t.x+2*p-k)/s+1,o⟩∧0<elems ((t.h+2*p-k)/s+1) ((t.x+2*p-k)/s+1) o:=by
 have step:∀ n,(stepsE n k s p).2=0→(1≤n∧1≤k∧k≤5∧1≤s∧s≤4∧0≤p∧p≤4∧p<k∧n+2*p≥k)∧(stepsE n k s p).1=(n+2*p-k)/s+1:=by
  intro n hn
  unfold stepsE at hn ⊢
  split at hn
  ·simp at hn
  ·split at hn
   ·simp at hn
   ·rename_i h1 h2
    rw[j_ h1,j_ h2]
    exact ⟨by omega,rfl⟩
 unfold slideE at h ⊢
 split at h
 ·simp at h
 ·split at h
  ·rename_i h1 h2;exact absurd h h2
  ·split at h
   ·rename_i h1 h2 h3;exact absurd h h3
   ·split at h
    ·simp at h
    ·rename_i h1 h2 h3 h4
     have a1:=step t.h (by omega)
     have a2:=step t.x (by omega)
     rw[j_ h1,j_ h2,j_ h3,j_ h4]
     rw[a1.2,a2.2] at h4 ⊢
     refine ⟨by omega,by omega,by omega,by omega,by omega,by omega,by omega,by omega,by omega,by omega,rfl,by omega⟩
theorem elems_ok {h x c:Int} (q:0<elems h x c):1≤h∧h≤16∧1≤x∧x≤16∧1≤c∧c≤1024∧h*x*c≤1024∧elems h x c=h*x*c:=by
 unfold elems at q ⊢
 split at q
 ·rename_i g;rw[i_ g];obtain ⟨g1,g2,g3,g4,g5,g6,g7⟩:=g;exact ⟨g1,g2,g3,g4,g5,g6,g7,rfl⟩
 ·omega
theorem wts_bd {t:Shp} {k s p o:Int} (h:(slideE t k s p o).2=0):(0≤o*k∧o*k≤5120)∧(0≤o*k*k∧o*k*k≤25600)∧(0≤o*k*k*t.c∧o*k*k*t.c≤26214400):=by
 have h1:=slideE_ok h
 have h2:=elems_ok h1.1
 have h3:=elems_ok h1.2.2.2.2.2.2.2.2.2.2.2
 have a1:=mul_bd (A:=1024) (B:=5) (a:=o) (b:=k) (by omega) (by omega) (by omega) (by omega)
 have a2:=mul_bd (A:=5120) (B:=5) (a:=o*k) (b:=k) (by omega) (by omega) (by omega) (by omega)
 have a3:=mul_bd (A:=25600) (B:=1024) (a:=o*k*k) (b:=t.c) (by omega) (by omega) (by omega) (by omega)
 omega
def convE (t:Shp) (n:Nod):Shp×Int :=
 if (slideE t n.nk n.ns n.np n.no).2≠0 then (⟨0,0,0⟩,(slideE t n.nk n.ns n.np n.no).2)
 else if (n.w.length:Int)≠n.no*n.nk*n.nk*t.c∨16384<(n.w.length:Int)∨(n.b.length:Int)≠n.no then (⟨0,0,0⟩,9) else ((slideE t n.nk n.ns n.np n.no).1,0)
theorem convShape_v (t:Shp) (n:Nod) (ok:t.Ok) (okn:n.Ok):VC L_ 209 ([shp t,nod n]) (.tup [shp (convE t n).1,i64 (convE t n).2]):=by
 have q2:=okn.no
 have oz0:=@slide_v (t) (n.nk) (n.ns) (n.np) (n.no) ok q2
 rcases bft ((slideE t n.nk n.ns n.np n.no).snd != 0) with hc0|hc0
 ·have gc0:¬(slideE t n.nk n.ns n.np n.no).snd=0:=bdt hc0
  exact (VC.run (fn:=Tryz.f209) (W:=[r_,.r [] [.callr (rO oz0)],r_,b_,r_]) (r:=AV.tup [AV.agg [i64 0,i64 0,i64 0],i64 (slideE t n.nk n.ns n.np n.no).snd]) Tryz.func209 (by kernel_rfl) (.c oz0<|.c hc0<|.n)).to (by (simp only[convE];rw[i_ (by omega)]))
 ·have gc0:(slideE t n.nk n.ns n.np n.no).snd=0:=bdf hc0
  have oz2:=(show IntKind.i64.wrap (n.no*n.nk)=n.no*n.nk by with_reducible exact i6n _ (by have:=wts_bd (t:=t) (k:=n.nk) (s:=n.ns) (p:=n.np) (o:=n.no) (by omega);omega))
  have oz3:=(show IntKind.i64.wrap (n.no*n.nk*n.nk)=n.no*n.nk*n.nk by with_reducible exact i6n _ (by have:=wts_bd (t:=t) (k:=n.nk) (s:=n.ns) (p:=n.np) (o:=n.no) (by omega);omega))
  rcases bft (((K_ (row1 .i8) n.w).length:Int) != n.no*n.nk*n.nk*t.c || decide (((K_ (row1 .i8) n.w).length:Int)>16384) || ((K_ (row1 .i32) n.b).length:Int) != n.no) with hc1|hc1
  ·have gc1:(¬((K_ (row1 .i8) n.w).length:Int)=n.no*n.nk*n.nk*t.c∨((K_ (row1 .i8) n.w).length:Int)>16384)∨¬((K_ (row1 .i32) n.b).length:Int)=n.no:=by simp only[Z_,T_,P_,S_,W_,U_,E_,F_,I_,J_,ne_eq,H_,G_,eqNums,C_] at hc1;first|exact hc1|omega
   have oz4:=(show IntKind.i64.wrap (n.no*n.nk*n.nk*t.c)=n.no*n.nk*n.nk*t.c by with_reducible exact i6n _ (by have:=wts_bd (t:=t) (k:=n.nk) (s:=n.ns) (p:=n.np) (o:=n.no) (by omega);omega))
   exact (VC.run (fn:=Tryz.f209) (W:=[r_,.r [] [.callr (rO oz0)],r_,d_,.r [] [.n (nO oz2),.n (nO oz3),.n (nO oz4),o_,o_,o_,o_,.sel 1,o_,o_,o_,o_,o_,o_,.sel 1],b_,r_]) (r:=AV.tup [AV.agg [i64 0,i64 0,i64 0],i64 9]) Tryz.func209 (by kernel_rfl) (.c oz0<|.c hc0<|.c oz2<|.c oz3<|.c oz4<|.c hc1<|.n)).to (by (simp only[convE,N_] at *;rw[j_ (by omega),i_ (by omega)]))
  ·have gc1:(((K_ (row1 .i8) n.w).length:Int)=n.no*n.nk*n.nk*t.c∧¬((K_ (row1 .i8) n.w).length:Int)>16384)∧((K_ (row1 .i32) n.b).length:Int)=n.no:=by simp only[Z_,T_,P_,S_,W_,U_,E_,F_,I_,J_,ne_eq,H_,G_,eqNums,C_] at hc1;first|exact hc1|omega
   exact (VC.run (fn:=Tryz.f209) (W:=[r_,.r [] [.callr (rO oz0)],r_,d_,.r [] [.n (nO oz2),.n (nO oz3),.n (n.no*n.nk*n.nk*t.c),o_,o_,o_,o_,.sel 1,o_,o_,o_,o_,o_,o_,.sel 1],d_,r_]) (r:=AV.tup [AV.agg [i64 (slideE t n.nk n.ns n.np n.no).fst.h,i64 (slideE t n.nk n.ns n.np n.no).fst.x,i64 (slideE t n.nk n.ns n.np n.no).fst.c],i64 0]) Tryz.func209 (by kernel_rfl) (.c oz0<|.c hc0<|.c oz2<|.c oz3<|.c (i6n (n.no*n.nk*n.nk*t.c) (by omega))<|.c hc1<|.n)).to (by (simp only[convE,N_] at *;rw[j_ (by omega),j_ (by omega)]))
theorem refConvShape_v (t:Shp) (n:Nod) (ok:t.Ok) (okn:n.Ok):VC L_ 109 ([shp t,nod n]) (.tup [shp (convE t n).1,i64 (convE t n).2]):=by
 have q2:=okn.no
 have oz0:=@refSlide_v (t) (n.nk) (n.ns) (n.np) (n.no) ok q2
 rcases bft ((slideE t n.nk n.ns n.np n.no).snd != 0) with hc0|hc0
 ·have gc0:¬(slideE t n.nk n.ns n.np n.no).snd=0:=bdt hc0
  exact (VC.run (fn:=Tryz.f109) (W:=[r_,.r [] [.callr (rO oz0)],r_,b_,r_]) (r:=AV.tup [AV.agg [i64 0,i64 0,i64 0],i64 (slideE t n.nk n.ns n.np n.no).snd]) Tryz.func109 (by kernel_rfl) (.c oz0<|.c hc0<|.n)).to (by (simp only[convE];rw[i_ (by omega)]))
 ·have gc0:(slideE t n.nk n.ns n.np n.no).snd=0:=bdf hc0
  have oz2:=(show IntKind.i64.wrap (n.no*n.nk)=n.no*n.nk by with_reducible exact i6n _ (by have:=wts_bd (t:=t) (k:=n.nk) (s:=n.ns) (p:=n.np) (o:=n.no) (by omega);omega))
  have oz3:=(show IntKind.i64.wrap (n.no*n.nk*n.nk)=n.no*n.nk*n.nk by with_reducible exact i6n _ (by have:=wts_bd (t:=t) (k:=n.nk) (s:=n.ns) (p:=n.np) (o:=n.no) (by omega);omega))
  rcases bft (((K_ (row1 .i8) n.w).length:Int) != n.no*n.nk*n.nk*t.c || decide (((K_ (row1 .i8) n.w).length:Int)>16384) || ((K_ (row1 .i32) n.b).length:Int) != n.no) with hc1|hc1
  ·have gc1:(¬((K_ (row1 .i8) n.w).length:Int)=n.no*n.nk*n.nk*t.c∨((K_ (row1 .i8) n.w).length:Int)>16384)∨¬((K_ (row1 .i32) n.b).length:Int)=n.no:=by simp only[Z_,T_,P_,S_,W_,U_,E_,F_,I_,J_,ne_eq,H_,G_,eqNums,C_] at hc1;first|exact hc1|omega
   have oz4:=(show IntKind.i64.wrap (n.no*n.nk*n.nk*t.c)=n.no*n.nk*n.nk*t.c by with_reducible exact i6n _ (by have:=wts_bd (t:=t) (k:=n.nk) (s:=n.ns) (p:=n.np) (o:=n.no) (by omega);omega))
   exact (VC.run (fn:=Tryz.f109) (W:=[r_,.r [] [.callr (rO oz0)],r_,d_,.r [] [.n (nO oz2),.n (nO oz3),.n (nO oz4),o_,o_,o_,o_,.sel 1,o_,o_,o_,o_,o_,o_,.sel 1],b_,r_]) (r:=AV.tup [AV.agg [i64 0,i64 0,i64 0],i64 9]) Tryz.func109 (by kernel_rfl) (.c oz0<|.c hc0<|.c oz2<|.c oz3<|.c oz4<|.c hc1<|.n)).to (by (simp only[convE,N_] at *;rw[j_ (by omega),i_ (by omega)]))
  ·have gc1:(((K_ (row1 .i8) n.w).length:Int)=n.no*n.nk*n.nk*t.c∧¬((K_ (row1 .i8) n.w).length:Int)>16384)∧((K_ (row1 .i32) n.b).length:Int)=n.no:=by simp only[Z_,T_,P_,S_,W_,U_,E_,F_,I_,J_,ne_eq,H_,G_,eqNums,C_] at hc1;first|exact hc1|omega
   exact (VC.run (fn:=Tryz.f109) (W:=[r_,.r [] [.callr (rO oz0)],r_,d_,.r [] [.n (nO oz2),.n (nO oz3),.n (n.no*n.nk*n.nk*t.c),o_,o_,o_,o_,.sel 1,o_,o_,o_,o_,o_,o_,.sel 1],d_,r_]) (r:=AV.tup [AV.agg [i64 (slideE t n.nk n.ns n.np n.no).fst.h,i64 (slideE t n.nk n.ns n.np n.no).fst.x,i64 (slideE t n.nk n.ns n.np n.no).fst.c],i64 0]) Tryz.func109 (by kernel_rfl) (.c oz0<|.c hc0<|.c oz2<|.c oz3<|.c (i6n (n.no*n.nk*n.nk*t.c) (by omega))<|.c hc1<|.n)).to (by (simp only[convE,N_] at *;rw[j_ (by omega),j_ (by omega)]))
theorem gt_of {P:Int→Prop} {l:List Int} (h:∀ v∈l,P v) (h0:P 0) (i:Nat):P (l.getD i 0):=by
 rw[AU_]
 by_cases hi:i<l.length
 ·rw[AL_ hi];exact h _ (CY_ hi)
 ·rw[CH_ (by omega)];exact h0
theorem gt8 {l:List Int} (h:∀ v∈l,In8 v) (i:Nat) : -128≤l.getD i 0∧l.getD i 0≤127:=gt_of h ⟨by decide,by decide⟩ i
theorem gt32 {l:List Int} (h:∀ v∈l,In32 v) (i:Nat) : -2147483648≤l.getD i 0∧l.getD i 0≤2147483647:=gt_of h ⟨by decide,by decide⟩ i
theorem prod_bd {a b:Int} (h : -128≤a∧a≤127) (h' : -255≤b∧b≤255) : -32640≤a*b∧a*b≤32640:=by
 have h1:(a+128)*(255-b)≥0:=CC_ (by omega) (by omega)
 have h2:(128-a)*(255+b)≥0:=CC_ (by omega) (by omega)
 have h3:(a+128)*(255+b)≥0:=CC_ (by omega) (by omega)
 have h4:(128-a)*(255-b)≥0:=CC_ (by omega) (by omega)
 simp only[Int.add_mul,Int.sub_mul,Int.mul_add,Int.mul_sub] at h1 h2 h3 h4
 omega
structure Rng where
 lo:Int
 hi:Int
instance:Inhabited Rng:=⟨⟨0,0⟩⟩
abbrev rngC (r:Rng):List AV:=[i64 r.lo,i64 r.hi]
abbrev rng (r:Rng):AV:=.agg (rngC r)
def foldR (a:Int) (l:List Int):Nat→Rng
 | 0=>⟨a,a⟩
 | k+1=>⟨min (foldR a l k).lo (l.getD k 0),max (foldR a l k).hi (l.getD k 0)⟩
noncomputable def of_l_I (a:Int) (l:List Int) (k:Nat):VS:=stt 28 [(4,.ptr 4 0 0),(5,.ptr 5 0 0),(11,ints .i64 l),(12,i64 l.length),(13,i64 k)] [(4,.var [i64 0,i64 0]),(5,.var (rngC (foldR a l k)))]
noncomputable def of_l_Z (a:Int) (l:List Int):VS:=of_l_I a l (l.length)
theorem of_l_s (a:Int) (l:List Int) (hl:l.length≤1000) (k:Nat) (hk:k<l.length):VT L_ (fnC Tryz.f237 [1,1,0,1,0,0]) (of_l_I a l k) .normal (of_l_I a l (k+1)):=by
 exact VT.run (W:=[r_,b_,.r [] [.row [i64 (l.getD k 0)]],r_,.r [] [.n ((↑k:Int)+1)]]) (G:=[.any (rg [(7,1),(14,13)]),.weak 13 (i64 (↑(k+1):Int)),.blk 5 (Blk.var [i64 (foldR a l (k+1)).lo,i64 (foldR a l (k+1)).hi]),.sort]) (by kernel_rfl) (.c (decide_eq_true (p:=((↑k:Int)<(l.length:Int))) (by omega))<|.c (show 0≤(↑k:Int) by omega)<|.c (map_at (row1 .i64) (0) (l:=l) (i:=k) hk)<|.c (i6n ((↑k:Int)+1) (by omega))<|.c (wS_ k)<|.c (show BlkW (Blk.var [i64 (if l.getD k 0<(foldR a l k).lo then l.getD k 0 else (foldR a l k).lo),i64 (if l.getD k 0>(foldR a l k).hi then l.getD k 0 else (foldR a l k).hi)]) (Blk.var [i64 (foldR a l (k+1)).lo,i64 (foldR a l (k+1)).hi]) from (BlkW.var (m:=[i64 (foldR a l (k+1)).lo,i64 (foldR a l (k+1)).hi]) (.cons (R_ (by (simp only[foldR];split<;>omega))) (.cons (R_ (by (simp only[foldR];split<;>omega))) .nil))))<|.n)
theorem of_l_e (a:Int) (l:List Int) (hl:l.length≤1000):VT L_ (fnC Tryz.f237 [1,1,0,1,0,0]) (of_l_I a l (l.length)) (.exit 0) (of_l_Z a l):=by
 exact VT.run (W:=[r_,d_]) (G:=[.any [14],.sort]) (by kernel_rfl) (.c (decide_eq_false (p:=((l.length:Int)<(l.length:Int))) (by omega))<|.n)
theorem of_l (a:Int) (l:List Int) (hl:l.length≤1000):VT L_ (fnC Tryz.f237 [1,1,0,1,0]) (of_l_I a l 0) (.exit 0) (of_l_Z a l) :=
 VT.loop (fun k=>of_l_I a l k) (l.length) (fun k hk=>of_l_s a l hl k hk) (of_l_e a l hl) (by intro h;cases h)
theorem of_v (a:Int) (l:List Int) (hl:l.length≤1000):VC L_ 237 ([i64 a,ints .i64 l]) (rng (foldR a l l.length)):=by
 have oz0:=(R_ (k:=.i64) (show ((((K_ (row1 .i64) l).length:Int)):Int)=((l.length:Int)) from (by (simp;done))))
 have oz3:=@of_l (a) (l) hl
 exact VC.run (fn:=Tryz.f237) (W:=[r_,r_,r_,.code [.any [0,1,8,9,10],.weak 12 (wO oz0),.weak 13 (i64 (↑0:Int)),.blk 5 (Blk.var [i64 (foldR a l 0).lo,i64 (foldR a l 0).hi]),.sort] (AF_ 0) (zO oz3),r_]) Tryz.func237 (by kernel_rfl) (.c oz0<|.c w0_<|.c (show BlkW (Blk.var [i64 a,i64 a]) (Blk.var [i64 (foldR a l 0).lo,i64 (foldR a l 0).hi]) from (BlkW.var (m:=[i64 (foldR a l 0).lo,i64 (foldR a l 0).hi]) (.cons (.refl _) (.cons (R_ (by rfl)) .nil))))<|.c oz3<|.n)
theorem of1_v (a b:Int):VC L_ 237 [i64 a,.sl 1 [[i64 b]]] (rng ⟨min a b,max a b⟩):=of_v a [b] (by simp)
theorem of2_v (a b c:Int):VC L_ 237 [i64 a,.sl 1 [[i64 b],[i64 c]]] (rng ⟨min (min a b) c,max (max a b) c⟩):=of_v a [b,c] (by simp)
def spA (v lo hi z:Int) (g:Bool):Rng:=if g=true then ⟨min (min 0 (min (v*(lo-z)) (v*(hi-z)))) (max (v*(lo-z)) (v*(hi-z))),max (max 0 (min (v*(lo-z)) (v*(hi-z)))) (max (v*(lo-z)) (v*(hi-z)))⟩
 else ⟨min (v*(lo-z)) (v*(hi-z)),max (v*(lo-z)) (v*(hi-z))⟩
def rowR (w:List Int) (bias lo hi z:Int) (g:Bool):Nat→Rng
 | 0=>⟨bias,bias⟩
 | k+1=>⟨(rowR w bias lo hi z g k).lo+(spA (w.getD k 0) lo hi z g).lo,(rowR w bias lo hi z g k).hi+(spA (w.getD k 0) lo hi z g).hi⟩
theorem spA_bd {v lo hi z:Int} (g:Bool) (hv:In8 v) (h1:In8 lo) (h2:In8 hi) (h3:In8 z) : -32640≤(spA v lo hi z g).lo∧(spA v lo hi z g).lo≤32640 ∧ -32640≤(spA v lo hi z g).hi∧(spA v lo hi z g).hi≤32640:=by
 unfold In8 at *
 have a:=prod_bd (a:=v) (b:=lo-z) hv (by omega)
 have b:=prod_bd (a:=v) (b:=hi-z) hv (by omega)
 unfold spA;split<;>simp only<;>omega
theorem rowR_bd {w:List Int} {bias lo hi z:Int} (g:Bool) (hw:∀ v∈w,In8 v) (hb:In32 bias) (h1:In8 lo) (h2:In8 hi) (h3:In8 z):∀ k:Nat,-2147483648-32640*k≤(rowR w bias lo hi z g k).lo∧(rowR w bias lo hi z g k).lo≤2147483647+32640*k ∧ -2147483648-32640*k≤(rowR w bias lo hi z g k).hi∧(rowR w bias lo hi z g k).hi≤2147483647+32640*k
 | 0=>by unfold In32 at hb;simp only[rowR];omega
 | k+1=>by
  have:=rowR_bd g hw hb h1 h2 h3 k
  have:=spA_bd g (v:=w.getD k 0) (gt_of hw (by unfold In8;omega) k) h1 h2 h3
  simp only[rowR];omega
noncomputable def row_l_I (w:List Int) (bias lo hi z:Int) (g:Bool) (k:Nat):VS:=stt 66 [(2,i8 lo),(3,i8 hi),(4,i8 z),(5,bv g),(12,.ptr 12 0 0),(13,.ptr 13 0 0),(22,ints .i8 w),(23,i64 w.length),(24,i64 k)] [(12,.var [i64 0,i64 0]),(13,.var (rngC (rowR w bias lo hi z g k)))]
noncomputable def row_l_Z (w:List Int) (bias lo hi z:Int) (g:Bool):VS:=row_l_I w bias lo hi z g (w.length)
theorem row_l_s (w:List Int) (bias lo hi z:Int) (g:Bool) (hw:∀ v∈w,In8 v) (wl:w.length≤1000000) (hb:In32 bias) (h1:In8 lo) (h2:In8 hi) (h3:In8 z) (k:Nat) (hk:k<w.length):VT L_ (fnC Tryz.f227 [1,1,0,1,0,0]) (row_l_I w bias lo hi z g k) .normal (row_l_I w bias lo hi z g (k+1)):=by
 have q1:=gt8 hw k
 have q2:=rowR_bd g hw hb h1 h2 h3 k
 have q3:=spA_bd g (v:=w.getD k 0) (gt_of hw (by unfold In8;omega) k) h1 h2 h3
 unfold In8 at h1 h2 h3
 have q4:=prod_bd (a:=w.getD k 0) (b:=lo-z) q1 (by omega)
 have q5:=prod_bd (a:=w.getD k 0) (b:=hi-z) q1 (by omega)
 have oz0:=(decide_eq_true (p:=((↑k:Int)<(w.length:Int))) (by omega))
 have oz1:=(show 0≤(↑k:Int) by omega)
 have oz2:=(map_at (row1 .i8) (0) (l:=w) (i:=k) hk)
 have oz3:=(i6n (w.getD k 0) (by omega))
 have oz4:=(i6n lo (by omega))
 have oz5:=(i6n z (by omega))
 have oz6:=(i6n (lo-z) (by omega))
 have oz7:=(i6n (w.getD k 0*(lo-z)) (by omega))
 have oz9:=(i6n hi (by omega))
 have oz11:=(i6n (hi-z) (by omega))
 have oz12:=(i6n (w.getD k 0*(hi-z)) (by omega))
 have oz13:=@of1_v (w.getD k 0*(lo-z)) (w.getD k 0*(hi-z))
 rcases bft (g) with hc0|hc0
 ·have gc0:g=true:=by first|exact hc0|exact of_decide_eq_true hc0|exact of_decide_eq_false hc0|simpa [eqNums] using hc0|(simp[eqNums] at hc0 ⊢;first|done|assumption|omega)
  have oz15:=@of2_v (0) (min (w.getD k 0*(lo-z)) (w.getD k 0*(hi-z))) (max (w.getD k 0*(lo-z)) (w.getD k 0*(hi-z)))
  have oz16:=(show IntKind.i64.wrap ((rowR w bias lo hi z g k).lo+(Rng.mk (min (min 0 (min (w.getD k 0*(lo-z)) (w.getD k 0*(hi-z)))) (max (w.getD k 0*(lo-z)) (w.getD k 0*(hi-z)))) (max (max 0 (min (w.getD k 0*(lo-z)) (w.getD k 0*(hi-z)))) (max (w.getD k 0*(lo-z)) (w.getD k 0*(hi-z))))).lo)=(rowR w bias lo hi z g k).lo+(Rng.mk (min (min 0 (min (w.getD k 0*(lo-z)) (w.getD k 0*(hi-z)))) (max (w.getD k 0*(lo-z)) (w.getD k 0*(hi-z)))) (max (max 0 (min (w.getD k 0*(lo-z)) (w.getD k 0*(hi-z)))) (max (w.getD k 0*(lo-z)) (w.getD k 0*(hi-z))))).lo by (refine i6n _ ?_;unfold spA at q3;split at q3<;>simp_all<;>omega))
  have oz17:=(show IntKind.i64.wrap ((rowR w bias lo hi z g k).hi+(Rng.mk (min (min 0 (min (w.getD k 0*(lo-z)) (w.getD k 0*(hi-z)))) (max (w.getD k 0*(lo-z)) (w.getD k 0*(hi-z)))) (max (max 0 (min (w.getD k 0*(lo-z)) (w.getD k 0*(hi-z)))) (max (w.getD k 0*(lo-z)) (w.getD k 0*(hi-z))))).hi)=(rowR w bias lo hi z g k).hi+(Rng.mk (min (min 0 (min (w.getD k 0*(lo-z)) (w.getD k 0*(hi-z)))) (max (w.getD k 0*(lo-z)) (w.getD k 0*(hi-z)))) (max (max 0 (min (w.getD k 0*(lo-z)) (w.getD k 0*(hi-z)))) (max (w.getD k 0*(lo-z)) (w.getD k 0*(hi-z))))).hi by (refine i6n _ ?_;unfold spA at q3;split at q3<;>simp_all<;>omega))
  exact VT.run (W:=[r_,b_,.r [] [.row (sO oz2)],.r [] [.n (nO oz3),.n (nO oz4),.n (nO oz5),.n (nO oz6),.n (nO oz7),.n (nO oz3),.n (nO oz9),.n (nO oz5),.n (nO oz11),.n (nO oz12),.callr (rO oz13)],r_,b_,.r [] [.callr (rO oz15)],.r [] [.n (nO oz16),.n (nO oz17)],.r [] [.n ((↑k:Int)+1)]]) (G:=[.any (rg [(15,2),(25,40)]),.drop [44,16,51],.weak 24 (i64 (↑(k+1):Int)),.blk 13 (Blk.var [i64 (rowR w bias lo hi z g (k+1)).lo,i64 (rowR w bias lo hi z g (k+1)).hi]),.sort]) (by kernel_rfl) (.c oz0<|.c oz1<|.c oz2<|.c oz3<|.c oz4<|.c oz5<|.c oz6<|.c oz7<|.c oz3<|.c oz9<|.c oz5<|.c oz11<|.c oz12<|.c oz13<|.c hc0<|.c oz15<|.c oz16<|.c oz17<|.c (i6n ((↑k:Int)+1) (by omega))<|.c (wS_ k)<|.c (show BlkW (Blk.var [i64 ((rowR w bias lo hi z g k).lo+(Rng.mk (min (min 0 (min (w.getD k 0*(lo-z)) (w.getD k 0*(hi-z)))) (max (w.getD k 0*(lo-z)) (w.getD k 0*(hi-z)))) (max (max 0 (min (w.getD k 0*(lo-z)) (w.getD k 0*(hi-z)))) (max (w.getD k 0*(lo-z)) (w.getD k 0*(hi-z))))).lo),i64 ((rowR w bias lo hi z g k).hi+(Rng.mk (min (min 0 (min (w.getD k 0*(lo-z)) (w.getD k 0*(hi-z)))) (max (w.getD k 0*(lo-z)) (w.getD k 0*(hi-z)))) (max (max 0 (min (w.getD k 0*(lo-z)) (w.getD k 0*(hi-z)))) (max (w.getD k 0*(lo-z)) (w.getD k 0*(hi-z))))).hi)]) (Blk.var [i64 (rowR w bias lo hi z g (k+1)).lo,i64 (rowR w bias lo hi z g (k+1)).hi]) from (BlkW.var (m:=[i64 (rowR w bias lo hi z g (k+1)).lo,i64 (rowR w bias lo hi z g (k+1)).hi]) (.cons (R_ (by (simp_all[rowR,spA];done))) (.cons (R_ (by (simp_all[rowR,spA];done))) .nil))))<|.n)
 ·have gc0:g=false:=by first|exact hc0|exact of_decide_eq_true hc0|exact of_decide_eq_false hc0|simpa [eqNums] using hc0|(simp[eqNums] at hc0 ⊢;first|done|assumption|omega)
  have oz15:=(show IntKind.i64.wrap ((rowR w bias lo hi z g k).lo+(Rng.mk (min (w.getD k 0*(lo-z)) (w.getD k 0*(hi-z))) (max (w.getD k 0*(lo-z)) (w.getD k 0*(hi-z)))).lo)=(rowR w bias lo hi z g k).lo+(Rng.mk (min (w.getD k 0*(lo-z)) (w.getD k 0*(hi-z))) (max (w.getD k 0*(lo-z)) (w.getD k 0*(hi-z)))).lo by (refine i6n _ ?_;unfold spA at q3;split at q3<;>simp_all<;>omega))
  have oz16:=(show IntKind.i64.wrap ((rowR w bias lo hi z g k).hi+(Rng.mk (min (w.getD k 0*(lo-z)) (w.getD k 0*(hi-z))) (max (w.getD k 0*(lo-z)) (w.getD k 0*(hi-z)))).hi)=(rowR w bias lo hi z g k).hi+(Rng.mk (min (w.getD k 0*(lo-z)) (w.getD k 0*(hi-z))) (max (w.getD k 0*(lo-z)) (w.getD k 0*(hi-z)))).hi by (refine i6n _ ?_;unfold spA at q3;split at q3<;>simp_all<;>omega))
  exact VT.run (W:=[r_,b_,.r [] [.row (sO oz2)],.r [] [.n (nO oz3),.n (nO oz4),.n (nO oz5),.n (nO oz6),.n (nO oz7),.n (nO oz3),.n (nO oz9),.n (nO oz5),.n (nO oz11),.n (nO oz12),.callr (rO oz13)],r_,d_,.r [] [.n (nO oz15),.n (nO oz16)],.r [] [.n ((↑k:Int)+1)]]) (G:=[.any (rg [(15,2),(25,22),(53,12)]),.drop [44,16],.weak 24 (i64 (↑(k+1):Int)),.blk 13 (Blk.var [i64 (rowR w bias lo hi z g (k+1)).lo,i64 (rowR w bias lo hi z g (k+1)).hi]),.sort]) (by kernel_rfl) (.c oz0<|.c oz1<|.c oz2<|.c oz3<|.c oz4<|.c oz5<|.c oz6<|.c oz7<|.c oz3<|.c oz9<|.c oz5<|.c oz11<|.c oz12<|.c oz13<|.c hc0<|.c oz15<|.c oz16<|.c (i6n ((↑k:Int)+1) (by omega))<|.c (wS_ k)<|.c (show BlkW (Blk.var [i64 ((rowR w bias lo hi z g k).lo+(Rng.mk (min (w.getD k 0*(lo-z)) (w.getD k 0*(hi-z))) (max (w.getD k 0*(lo-z)) (w.getD k 0*(hi-z)))).lo),i64 ((rowR w bias lo hi z g k).hi+(Rng.mk (min (w.getD k 0*(lo-z)) (w.getD k 0*(hi-z))) (max (w.getD k 0*(lo-z)) (w.getD k 0*(hi-z)))).hi)]) (Blk.var [i64 (rowR w bias lo hi z g (k+1)).lo,i64 (rowR w bias lo hi z g (k+1)).hi]) from (BlkW.var (m:=[i64 (rowR w bias lo hi z g (k+1)).lo,i64 (rowR w bias lo hi z g (k+1)).hi]) (.cons (R_ (by (simp_all[rowR,spA];done))) (.cons (R_ (by (simp_all[rowR,spA];done))) .nil))))<|.n)
theorem row_l_e (w:List Int) (bias lo hi z:Int) (g:Bool) (hw:∀ v∈w,In8 v) (wl:w.length≤1000000) (hb:In32 bias) (h1:In8 lo) (h2:In8 hi) (h3:In8 z):VT L_ (fnC Tryz.f227 [1,1,0,1,0,0]) (row_l_I w bias lo hi z g (w.length)) (.exit 0) (row_l_Z w bias lo hi z g):=by
 exact VT.run (W:=[r_,d_]) (G:=[.any [25],.sort]) (by kernel_rfl) (.c (decide_eq_false (p:=((w.length:Int)<(w.length:Int))) (by omega))<|.n)
theorem row_l (w:List Int) (bias lo hi z:Int) (g:Bool) (hw:∀ v∈w,In8 v) (wl:w.length≤1000000) (hb:In32 bias) (h1:In8 lo) (h2:In8 hi) (h3:In8 z):VT L_ (fnC Tryz.f227 [1,1,0,1,0]) (row_l_I w bias lo hi z g 0) (.exit 0) (row_l_Z w bias lo hi z g) :=
 VT.loop (fun k=>row_l_I w bias lo hi z g k) (w.length) (fun k hk=>row_l_s w bias lo hi z g hw wl hb h1 h2 h3 k hk) (row_l_e w bias lo hi z g hw wl hb h1 h2 h3) (by intro h;cases h)
theorem row_v (w:List Int) (bias lo hi z:Int) (g:Bool) (hw:∀ v∈w,In8 v) (wl:w.length≤1000000) (hb:In32 bias) (h1:In8 lo) (h2:In8 hi) (h3:In8 z):VC L_ 227 ([ints .i8 w,i32 bias,i8 lo,i8 hi,i8 z,bv g]) (rng (rowR w bias lo hi z g w.length)):=by
 obtain ⟨b1,b2⟩:=id hb
 have oz0:=(i6n bias (by omega))
 have oz2:=(R_ (k:=.i64) (show ((((K_ (row1 .i8) w).length:Int)):Int)=((w.length:Int)) from (by (simp;done))))
 have oz5:=@row_l (w) (bias) (lo) (hi) (z) (g) hw wl hb h1 h2 h3
 exact VC.run (fn:=Tryz.f227) (W:=[r_,.r [] [.n (nO oz0),.n (nO oz0)],r_,.code [.any (rg [(0,2),(17,5)]),.weak 23 (wO oz2),.weak 24 (i64 (↑0:Int)),.blk 13 (Blk.var [i64 (rowR w bias lo hi z g 0).lo,i64 (rowR w bias lo hi z g 0).hi]),.sort] (AF_ 0) (zO oz5),r_]) Tryz.func227 (by kernel_rfl) (.c oz0<|.c oz0<|.c oz2<|.c w0_<|.c (show BlkW (Blk.var [i64 bias,i64 bias]) (Blk.var [i64 (rowR w bias lo hi z g 0).lo,i64 (rowR w bias lo hi z g 0).hi]) from (BlkW.var (m:=[i64 (rowR w bias lo hi z g 0).lo,i64 (rowR w bias lo hi z g 0).hi]) (.cons (.refl _) (.cons (R_ (by rfl)) .nil))))<|.c oz5<|.n)
def spRow (w:List Int) (b:List Int) (lo hi z:Int) (g:Bool) (o:Nat):Rng :=
 rowR (BV_ ((((o:Int)+1)*((w.length:Int)/(b.length:Int))).toNat-((o:Int)*((w.length:Int)/(b.length:Int))).toNat) (BW_ ((o:Int)*((w.length:Int)/(b.length:Int))).toNat w)) (b.getD o 0) lo hi z g
  (BV_ ((((o:Int)+1)*((w.length:Int)/(b.length:Int))).toNat-((o:Int)*((w.length:Int)/(b.length:Int))).toNat) (BW_ ((o:Int)*((w.length:Int)/(b.length:Int))).toNat w)).length
def allR (w:List Int) (b:List Int) (lo hi z:Int) (g:Bool) (k:Nat):List Rng:=(List.range k).map (spRow w b lo hi z g)
def sharedB (w b:List Int):Bool:=decide (0<b.length)&&decide ((w.length:Int) % (b.length:Int)=0)
theorem mem_td {α:Type} {l:List α} {a n:Nat} {v:α} (h:v∈BV_ n (BW_ a l)):v∈l:=List.mem_of_mem_drop (List.mem_of_mem_take h)
theorem share_bd {m n k:Nat} (hk:k<n):0≤(k:Int)*((m:Int)/(n:Int))∧((k:Int)+1)*((m:Int)/(n:Int))≤m∧((k:Int)+1)*((m:Int)/(n:Int))=(k:Int)*((m:Int)/(n:Int))+(m:Int)/(n:Int)∧0≤(m:Int)/(n:Int)∧(m:Int)/(n:Int)≤m:=by
 have h0:0≤(m:Int)/(n:Int):=Int.ediv_nonneg (by omega) (by omega)
 refine ⟨CC_ (by omega) h0,?_,by rw[Int.add_mul,Int.one_mul],h0,Int.ediv_le_self _ (by omega)⟩
 have h1:((k:Int)+1)*((m:Int)/(n:Int))≤(n:Int)*((m:Int)/(n:Int)):=Int.mul_le_mul_of_nonneg_right (by omega) h0
 have h2:(n:Int)*((m:Int)/(n:Int))≤m:=Int.mul_ediv_self_le (by omega)
 omega
noncomputable def all_l_I (n:Nod) (lo hi:Int) (k:Nat):VS:=stt 64 [(1,i8 lo),(2,i8 hi),(3,.ptr 3 0 0),(7,i64 ((n.w.length:Int)/(n.b.length:Int))),(8,.own 900),(33,ints .i32 n.b),(34,i64 n.b.length),(35,i64 k)] [(3,.var (nodC n)),(900,.slc 321 2 ((allR n.w n.b lo hi n.za (decide (n.np>0)) k).map rngC))]
noncomputable def all_l_Z (n:Nod) (lo hi:Int):VS:=all_l_I n lo hi (n.b.length)
theorem all_l_s (n:Nod) (lo hi:Int) (ok:n.Ok) (h1:In8 lo) (h2:In8 hi) (wl:n.w.length≤100000) (bl:n.b.length≤100000) (b0:0<n.b.length) (k:Nat) (hk:k<n.b.length):VT L_ (fnC Tryz.f206 [1,1,1,1,0,1,0,0]) (all_l_I n lo hi k) .normal (all_l_I n lo hi (k+1)):=by
 have q1:=share_bd (m:=n.w.length) hk
 have q2:=gt32 ok.b k
 have q3:(allR n.w n.b lo hi n.za (decide (n.np>0)) k).length=k:=by simp[allR]
 have oz3:=(i6n ((↑k:Int)*((n.w.length:Int)/(n.b.length:Int))) (by omega))
 have oz4:=(i6n ((↑k:Int)+1) (by omega))
 have oz5:=(i6n (((↑k:Int)+1)*((n.w.length:Int)/(n.b.length:Int))) (by omega))
 have oz11:=@row_v (BV_ ((((↑k:Int)+1)*((n.w.length:Int)/(n.b.length:Int))).toNat-((↑k:Int)*((n.w.length:Int)/(n.b.length:Int))).toNat) (BW_ ((↑k:Int)*((n.w.length:Int)/(n.b.length:Int))).toNat n.w)) (n.b.getD k 0) (lo) (hi) (n.za) (decide (n.np>0)) (by (exact fun v hv=>ok.w v (mem_td hv))) (by (rw[BL_,BX_];omega)) q2 h1 h2 (by (exact ok.za))
 exact VT.run (W:=[r_,b_,.r [] [.row [i32 (n.b.getD k 0)]],.r [] [.n (nO oz3),.n (nO oz4),.n (nO oz5),.nats ((↑k:Int)*((n.w.length:Int)/(n.b.length:Int))).toNat (((↑k:Int)+1)*((n.w.length:Int)/(n.b.length:Int))).toNat,.call (aO oz11) (rO oz11)],.r [] [.n (nO oz4)]]) (G:=[.any (rg [(9,2),(36,27)]),.drop [60],.ren 61 900,.weak 35 (i64 (↑(k+1):Int)),.blk 900 (Blk.slc 321 2 (K_ rngC (allR n.w n.b lo hi n.za (decide (n.np>0)) (k+1)))),.sort]) (by kernel_rfl) (.c (decide_eq_true (p:=((↑k:Int)<(n.b.length:Int))) (by omega))<|.c (show 0≤(↑k:Int) by omega)<|.c (map_at (row1 .i32) (0) (l:=n.b) (i:=k) hk)<|.c oz3<|.c oz4<|.c oz5<|.c (show (↑k:Int)*((n.w.length:Int)/(n.b.length:Int))=(↑((↑k:Int)*((n.w.length:Int)/(n.b.length:Int))).toNat:Int) by omega)<|.c (show ((↑k:Int)+1)*((n.w.length:Int)/(n.b.length:Int))=(↑(((↑k:Int)+1)*((n.w.length:Int)/(n.b.length:Int))).toNat:Int) by omega)<|.c (show ((↑k:Int)*((n.w.length:Int)/(n.b.length:Int))).toNat≤(((↑k:Int)+1)*((n.w.length:Int)/(n.b.length:Int))).toNat by omega)<|.c (show (((↑k:Int)+1)*((n.w.length:Int)/(n.b.length:Int))).toNat≤(K_ (row1 .i8) n.w).length by (simp;omega))<|.c (show WeakL [AV.sl 1 (BV_ ((((↑k:Int)+1)*((n.w.length:Int)/(n.b.length:Int))).toNat-((↑k:Int)*((n.w.length:Int)/(n.b.length:Int))).toNat) (BW_ ((↑k:Int)*((n.w.length:Int)/(n.b.length:Int))).toNat (K_ (row1 .i8) n.w))),i32 (n.b.getD k 0),i8 lo,i8 hi,i8 n.za,bv (decide (n.np>0))] [AV.sl 1 (K_ (row1 .i8) (BV_ ((((↑k:Int)+1)*((n.w.length:Int)/(n.b.length:Int))).toNat-((↑k:Int)*((n.w.length:Int)/(n.b.length:Int))).toNat) (BW_ ((↑k:Int)*((n.w.length:Int)/(n.b.length:Int))).toNat n.w))),i32 (n.b.getD k 0),i8 lo,i8 hi,i8 n.za,bv (decide (n.np>0))] from (.cons (CP_ (rows_to (row1 .i8) (r:=BV_ ((((↑k:Int)+1)*((n.w.length:Int)/(n.b.length:Int))).toNat-((↑k:Int)*((n.w.length:Int)/(n.b.length:Int))).toNat) (BW_ ((↑k:Int)*((n.w.length:Int)/(n.b.length:Int))).toNat (K_ (row1 .i8) n.w))) (l:=BV_ ((((↑k:Int)+1)*((n.w.length:Int)/(n.b.length:Int))).toNat-((↑k:Int)*((n.w.length:Int)/(n.b.length:Int))).toNat) (BW_ ((↑k:Int)*((n.w.length:Int)/(n.b.length:Int))).toNat n.w)) (m:=BV_ ((((↑k:Int)+1)*((n.w.length:Int)/(n.b.length:Int))).toNat-((↑k:Int)*((n.w.length:Int)/(n.b.length:Int))).toNat) (BW_ ((↑k:Int)*((n.w.length:Int)/(n.b.length:Int))).toNat n.w)) (by first|(simp only[A_,D_,AO_,AP_,X_,AM_,AN_];done)|rfl|(simp only[A_,D_,AO_,AP_,X_,AM_,AN_];rfl)) rfl)) (.cons (.refl _) (.cons (.refl _) (.cons (.refl _) (.cons (.refl _) (.cons (.refl _) .nil)))))))<|.c oz11<|.c (show ((K_ rngC (allR n.w n.b lo hi n.za (decide (n.np>0)) k)).length+1)*16≤140737488355328 by (simp only[N_] at *;omega))<|.c (show (K_ rngC (allR n.w n.b lo hi n.za (decide (n.np>0)) k)).length+1≤9223372036854775807 by (simp only[N_] at *;omega))<|.c oz4<|.c (wS_ k)<|.c (show BlkW (Blk.slc 321 2 (K_ rngC (allR n.w n.b lo hi n.za (decide (n.np>0)) k)++[[i64 (rowR (BV_ ((((↑k:Int)+1)*((n.w.length:Int)/(n.b.length:Int))).toNat-((↑k:Int)*((n.w.length:Int)/(n.b.length:Int))).toNat) (BW_ ((↑k:Int)*((n.w.length:Int)/(n.b.length:Int))).toNat n.w)) (n.b.getD k 0) lo hi n.za (decide (n.np>0)) (BV_ ((((↑k:Int)+1)*((n.w.length:Int)/(n.b.length:Int))).toNat-((↑k:Int)*((n.w.length:Int)/(n.b.length:Int))).toNat) (BW_ ((↑k:Int)*((n.w.length:Int)/(n.b.length:Int))).toNat n.w)).length).lo,i64 (rowR (BV_ ((((↑k:Int)+1)*((n.w.length:Int)/(n.b.length:Int))).toNat-((↑k:Int)*((n.w.length:Int)/(n.b.length:Int))).toNat) (BW_ ((↑k:Int)*((n.w.length:Int)/(n.b.length:Int))).toNat n.w)) (n.b.getD k 0) lo hi n.za (decide (n.np>0)) (BV_ ((((↑k:Int)+1)*((n.w.length:Int)/(n.b.length:Int))).toNat-((↑k:Int)*((n.w.length:Int)/(n.b.length:Int))).toNat) (BW_ ((↑k:Int)*((n.w.length:Int)/(n.b.length:Int))).toNat n.w)).length).hi]])) (Blk.slc 321 2 (K_ rngC (allR n.w n.b lo hi n.za (decide (n.np>0)) (k+1)))) from (AG_ (e:=321) (z:=2) (rows_to (rngC) (r:=K_ rngC (allR n.w n.b lo hi n.za (decide (n.np>0)) k)++[[i64 (rowR (BV_ ((((↑k:Int)+1)*((n.w.length:Int)/(n.b.length:Int))).toNat-((↑k:Int)*((n.w.length:Int)/(n.b.length:Int))).toNat) (BW_ ((↑k:Int)*((n.w.length:Int)/(n.b.length:Int))).toNat n.w)) (n.b.getD k 0) lo hi n.za (decide (n.np>0)) (BV_ ((((↑k:Int)+1)*((n.w.length:Int)/(n.b.length:Int))).toNat-((↑k:Int)*((n.w.length:Int)/(n.b.length:Int))).toNat) (BW_ ((↑k:Int)*((n.w.length:Int)/(n.b.length:Int))).toNat n.w)).length).lo,i64 (rowR (BV_ ((((↑k:Int)+1)*((n.w.length:Int)/(n.b.length:Int))).toNat-((↑k:Int)*((n.w.length:Int)/(n.b.length:Int))).toNat) (BW_ ((↑k:Int)*((n.w.length:Int)/(n.b.length:Int))).toNat n.w)) (n.b.getD k 0) lo hi n.za (decide (n.np>0)) (BV_ ((((↑k:Int)+1)*((n.w.length:Int)/(n.b.length:Int))).toNat-((↑k:Int)*((n.w.length:Int)/(n.b.length:Int))).toNat) (BW_ ((↑k:Int)*((n.w.length:Int)/(n.b.length:Int))).toNat n.w)).length).hi]]) (l:=allR n.w n.b lo hi n.za (decide (n.np>0)) k++[Rng.mk (rowR (BV_ ((((↑k:Int)+1)*((n.w.length:Int)/(n.b.length:Int))).toNat-((↑k:Int)*((n.w.length:Int)/(n.b.length:Int))).toNat) (BW_ ((↑k:Int)*((n.w.length:Int)/(n.b.length:Int))).toNat n.w)) (n.b.getD k 0) lo hi n.za (decide (n.np>0)) (BV_ ((((↑k:Int)+1)*((n.w.length:Int)/(n.b.length:Int))).toNat-((↑k:Int)*((n.w.length:Int)/(n.b.length:Int))).toNat) (BW_ ((↑k:Int)*((n.w.length:Int)/(n.b.length:Int))).toNat n.w)).length).lo (rowR (BV_ ((((↑k:Int)+1)*((n.w.length:Int)/(n.b.length:Int))).toNat-((↑k:Int)*((n.w.length:Int)/(n.b.length:Int))).toNat) (BW_ ((↑k:Int)*((n.w.length:Int)/(n.b.length:Int))).toNat n.w)) (n.b.getD k 0) lo hi n.za (decide (n.np>0)) (BV_ ((((↑k:Int)+1)*((n.w.length:Int)/(n.b.length:Int))).toNat-((↑k:Int)*((n.w.length:Int)/(n.b.length:Int))).toNat) (BW_ ((↑k:Int)*((n.w.length:Int)/(n.b.length:Int))).toNat n.w)).length).hi]) (m:=allR n.w n.b lo hi n.za (decide (n.np>0)) (k+1)) (by first|(simp only[A_,D_,AO_,AP_,X_,AM_,AN_];done)|rfl|(simp only[A_,D_,AO_,AP_,X_,AM_,AN_];rfl)|(simp only[A_,D_,AO_,AP_,X_,AM_,AN_,rngC,ints];done)) (show (allR n.w n.b lo hi n.za (decide (n.np>0)) k++[Rng.mk (rowR (BV_ ((((↑k:Int)+1)*((n.w.length:Int)/(n.b.length:Int))).toNat-((↑k:Int)*((n.w.length:Int)/(n.b.length:Int))).toNat) (BW_ ((↑k:Int)*((n.w.length:Int)/(n.b.length:Int))).toNat n.w)) (n.b.getD k 0) lo hi n.za (decide (n.np>0)) (BV_ ((((↑k:Int)+1)*((n.w.length:Int)/(n.b.length:Int))).toNat-((↑k:Int)*((n.w.length:Int)/(n.b.length:Int))).toNat) (BW_ ((↑k:Int)*((n.w.length:Int)/(n.b.length:Int))).toNat n.w)).length).lo (rowR (BV_ ((((↑k:Int)+1)*((n.w.length:Int)/(n.b.length:Int))).toNat-((↑k:Int)*((n.w.length:Int)/(n.b.length:Int))).toNat) (BW_ ((↑k:Int)*((n.w.length:Int)/(n.b.length:Int))).toNat n.w)) (n.b.getD k 0) lo hi n.za (decide (n.np>0)) (BV_ ((((↑k:Int)+1)*((n.w.length:Int)/(n.b.length:Int))).toNat-((↑k:Int)*((n.w.length:Int)/(n.b.length:Int))).toNat) (BW_ ((↑k:Int)*((n.w.length:Int)/(n.b.length:Int))).toNat n.w)).length).hi])=(allR n.w n.b lo hi n.za (decide (n.np>0)) (k+1)) from (by (rw[allR,allR,List.range_succ,A_];rfl))))))<|.n)
theorem all_l_e (n:Nod) (lo hi:Int) (ok:n.Ok) (h1:In8 lo) (h2:In8 hi) (wl:n.w.length≤100000) (bl:n.b.length≤100000) (b0:0<n.b.length):VT L_ (fnC Tryz.f206 [1,1,1,1,0,1,0,0]) (all_l_I n lo hi (n.b.length)) (.exit 0) (all_l_Z n lo hi):=by
 exact VT.run (W:=[r_,d_]) (G:=[.any [36],.sort]) (by kernel_rfl) (.c (decide_eq_false (p:=((n.b.length:Int)<(n.b.length:Int))) (by omega))<|.n)
theorem all_l (n:Nod) (lo hi:Int) (ok:n.Ok) (h1:In8 lo) (h2:In8 hi) (wl:n.w.length≤100000) (bl:n.b.length≤100000) (b0:0<n.b.length):VT L_ (fnC Tryz.f206 [1,1,1,1,0,1,0]) (all_l_I n lo hi 0) (.exit 0) (all_l_Z n lo hi) :=
 VT.loop (fun k=>all_l_I n lo hi k) (n.b.length) (fun k hk=>all_l_s n lo hi ok h1 h2 wl bl b0 k hk) (all_l_e n lo hi ok h1 h2 wl bl b0) (by intro h;cases h)
theorem all_v (n:Nod) (lo hi:Int) (ok:n.Ok) (h1:In8 lo) (h2:In8 hi) (wl:n.w.length≤100000) (bl:n.b.length≤100000):VC L_ 206 ([nod n,i8 lo,i8 hi]) (.sl 2 ((allR n.w n.b lo hi n.za (decide (n.np>0)) (if sharedB n.w n.b=true then n.b.length else 0)).map rngC)):=by
 have q1:(n.b.length:Int)≠0→(0≤(n.w.length:Int)/(n.b.length:Int)∧(n.w.length:Int)/(n.b.length:Int)≤n.w.length):=fun h=>⟨Int.ediv_nonneg (by omega) (by omega),Int.ediv_le_self _ (by omega)⟩
 have q4:(n.b.length:Int)≠0→0≤(n.w.length:Int) % (n.b.length:Int)∧(n.w.length:Int) % (n.b.length:Int)<(n.b.length:Int):=fun h=>⟨Int.emod_nonneg _ h,Int.emod_lt_of_pos _ (by omega)⟩
 have oz0:=(show (!((K_ (row1 .i32) n.b).length:Int)==0)=true→((K_ (row1 .i32) n.b).length:Int)≠0 from (fun hc0=>have gc0:¬((K_ (row1 .i32) n.b).length:Int)=0:=(by first|exact hc0|exact of_decide_eq_true hc0|exact of_decide_eq_false hc0|simpa [eqNums] using hc0|(simp[eqNums] at hc0 ⊢;first|done|assumption|omega));(by with_reducible assumption)))
 have oz1:=(show (!((K_ (row1 .i32) n.b).length:Int)==0)=true→((K_ (row1 .i8) n.w).length:Int).tmod ((K_ (row1 .i32) n.b).length:Int)=((K_ (row1 .i8) n.w).length:Int) % ((K_ (row1 .i32) n.b).length:Int) from (fun hc0=>have gc0:¬((K_ (row1 .i32) n.b).length:Int)=0:=(by first|exact hc0|exact of_decide_eq_true hc0|exact of_decide_eq_false hc0|simpa [eqNums] using hc0|(simp[eqNums] at hc0 ⊢;first|done|assumption|omega));(CX_ (by omega))))
 rcases bft (((K_ (row1 .i32) n.b).length:Int)==0 || ((K_ (row1 .i8) n.w).length:Int) % ((K_ (row1 .i32) n.b).length:Int) != 0) with hc0|hc0
 ·have gc0:((K_ (row1 .i32) n.b).length:Int)=0∨¬((K_ (row1 .i8) n.w).length:Int) % ((K_ (row1 .i32) n.b).length:Int)=0:=by simp only[Z_,T_,P_,S_,W_,U_,E_,F_,I_,J_,ne_eq,H_,G_,eqNums,C_] at hc0;first|exact hc0|omega
  exact (VC.run (fn:=Tryz.f206) (W:=[r_,.r [] [o_,o_,o_,o_,o_,o_,p_,.n (((K_ (row1 .i8) n.w).length:Int) % ((K_ (row1 .i32) n.b).length:Int)),o_,.sel 1],b_,r_]) (r:=AV.lit (AY_ none 0 0)) Tryz.func206 (by kernel_rfl) (.c oz0<|.c oz1<|.c hc0<|.n)).weak (B_ _) (Weak.nilr (show []=(K_ rngC (allR n.w n.b lo hi n.za (decide (n.np>0)) (if sharedB n.w n.b=true then n.b.length else 0))) from (by (simp only[N_] at *;simp only[sharedB,P_,E_];rw[j_ (by omega)];rfl))))
 ·have gc0:¬((K_ (row1 .i32) n.b).length:Int)=0∧((K_ (row1 .i8) n.w).length:Int) % ((K_ (row1 .i32) n.b).length:Int)=0:=by simp only[Z_,T_,P_,S_,W_,U_,E_,F_,I_,J_,ne_eq,H_,G_,eqNums,C_] at hc0;first|exact hc0|omega
  have oz4:=(show IntKind.i64.wrap (((K_ (row1 .i8) n.w).length:Int).tdiv ((K_ (row1 .i32) n.b).length:Int))=((K_ (row1 .i8) n.w).length:Int)/((K_ (row1 .i32) n.b).length:Int) from (Eq.trans (congrArg _ (BF_ (by omega))) (by with_reducible exact i6n _ (by simp only[N_] at *;have:=q1 (by omega);omega))))
  have oz5:=(R_ (k:=.i64) (show ((((K_ (row1 .i8) n.w).length:Int)/((K_ (row1 .i32) n.b).length:Int)):Int)=((n.w.length:Int)/(n.b.length:Int)) from (by (simp;done))))
  have oz6:=(R_ (k:=.i64) (show ((((K_ (row1 .i32) n.b).length:Int)):Int)=((n.b.length:Int)) from (by (simp;done))))
  have oz8:=@all_l (n) (lo) (hi) ok h1 h2 wl bl (by (simp only[N_] at *;omega))
  exact (VC.run (fn:=Tryz.f206) (W:=[r_,.r [] [o_,o_,o_,o_,o_,o_,p_,.n (((K_ (row1 .i8) n.w).length:Int) % ((K_ (row1 .i32) n.b).length:Int)),o_,.sel 1],d_,.r [] [.n (((K_ (row1 .i8) n.w).length:Int)/((K_ (row1 .i32) n.b).length:Int))],r_,r_,.code [.any (rg [(0,1),(6,1),(11,5),(24,9)]),.weak 7 (wO oz5),.weak 34 (wO oz6),.weak 35 (i64 (↑0:Int)),.nils 8 900 321 2,.sort] (AF_ 0) (zO oz8),r_]) (r:=AV.sl 2 (K_ rngC (allR n.w n.b lo hi n.za (decide (n.np>0)) n.b.length))) Tryz.func206 (by kernel_rfl) (.c oz0<|.c oz1<|.c hc0<|.c (show ((K_ (row1 .i32) n.b).length:Int)≠0 by omega)<|.c oz4<|.c oz5<|.c oz6<|.c w0_<|.c oz8<|.n)).weak (B_ _) (CP_ (rows_to (rngC) (r:=K_ rngC (allR n.w n.b lo hi n.za (decide (n.np>0)) n.b.length)) (l:=allR n.w n.b lo hi n.za (decide (n.np>0)) n.b.length) (m:=allR n.w n.b lo hi n.za (decide (n.np>0)) (if sharedB n.w n.b=true then n.b.length else 0)) rfl (show (allR n.w n.b lo hi n.za (decide (n.np>0)) n.b.length)=(allR n.w n.b lo hi n.za (decide (n.np>0)) (if sharedB n.w n.b=true then n.b.length else 0)) from (by (simp only[N_] at *;simp only[sharedB,P_,E_];rw[i_ (by omega)])))))
def holdB (r:Rng):Bool:=decide (-2147483648≤r.lo)&&decide (r.hi≤2147483647)
theorem first_fail {p:Nat→Bool}:∀ n,(∃ k,k<n∧p k=false)→∃ m,m<n∧p m=false∧∀ k,k<m→p k=true
 | 0,⟨k,h,_⟩=>by omega
 | n+1,⟨k,h,hp⟩=>by
  by_cases hq:∃ k,k<n∧p k=false
  ·obtain ⟨m,h1,h2,h3⟩:=first_fail n hq;exact ⟨m,by omega,h2,h3⟩
  ·have hk:k=n:=by
    apply cbc;intro hne;exact hq ⟨k,by omega,hp⟩
   subst hk
   refine ⟨k,by omega,hp,fun j hj=>?_⟩
   cases hpj:p j with
   | true=>rfl
   | false=>exact absurd ⟨j,hj,hpj⟩ hq
theorem all_or (p:Nat→Bool) (n:Nat):(∀ k,k<n→p k=true)∨∃ m,m<n∧p m=false∧∀ k,k<m→p k=true:=by
 by_cases hq:∃ k,k<n∧p k=false
 ·exact .inr (first_fail n hq)
 ·refine .inl fun k hk=>?_
  cases hpk:p k with
  | true=>rfl
  | false=>exact absurd ⟨k,hk,hpk⟩ hq
theorem all_getD {α:Type} [Inhabited α] {l:List α} {p:α→Bool}:l.all p=true↔∀ k,k<l.length→p (l.getD k default)=true:=by
 rw[CZ_]
 constructor
 ·intro h k hk
  rw[AU_,AL_ hk];exact h _ (CY_ hk)
 ·intro h x hx
  obtain ⟨i,hi,rfl⟩:=List.getElem_of_mem hx
  have:=h i hi
  rwa [AU_,AL_ hi] at this
noncomputable def holds_ly_I (l:List Rng) (k:Nat):VS:=stt 20 [(5,.sl 2 (l.map rngC)),(6,i64 l.length),(7,i64 k)] []
noncomputable def holds_ly_Z (l:List Rng):VS:=holds_ly_I l (l.length)
theorem holds_ly_s (l:List Rng) (hl:l.length≤1000000) (h:∀ k,k<l.length→holdB (l.getD k default)=true) (k:Nat) (hk:k<l.length):VT L_ (fnC Tryz.f207 [1,0,1,0,0]) (holds_ly_I l k) .normal (holds_ly_I l (k+1)):=by
 have q:=h k hk
 simp only[holdB,P_,E_] at q
 have oz2:=(map_at (rngC) (default) (l:=l) (i:=k) hk)
 have oz3:=(decide_eq_false (p:=((l.getD k default).lo < -2147483648)) (by omega))
 exact VT.run (W:=[r_,b_,.r [] [.row (sO oz2)],.r [] [e_,e_,e_,f_],d_,.r [] [.n ((↑k:Int)+1)]]) (G:=[.any (rg [(4,1),(8,12)]),.drop [4],.weak 7 (i64 (↑(k+1):Int)),.sort]) (by kernel_rfl) (.c (decide_eq_true (p:=((↑k:Int)<(l.length:Int))) (by omega))<|.c (show 0≤(↑k:Int) by omega)<|.c oz2<|.c oz3<|.c oz3<|.c oz3<|.c oz3<|.c (decide_eq_false (p:=((l.getD k default).hi>2147483647)) (by omega))<|.c (i6n ((↑k:Int)+1) (by omega))<|.c (wS_ k)<|.n)
theorem holds_ly_e (l:List Rng) (hl:l.length≤1000000) (h:∀ k,k<l.length→holdB (l.getD k default)=true):VT L_ (fnC Tryz.f207 [1,0,1,0,0]) (holds_ly_I l (l.length)) (.exit 0) (holds_ly_Z l):=by
 exact VT.run (W:=[r_,d_]) (G:=[.any [8],.sort]) (by kernel_rfl) (.c (decide_eq_false (p:=((l.length:Int)<(l.length:Int))) (by omega))<|.n)
theorem holds_ly (l:List Rng) (hl:l.length≤1000000) (h:∀ k,k<l.length→holdB (l.getD k default)=true):VT L_ (fnC Tryz.f207 [1,0,1,0]) (holds_ly_I l 0) (.exit 0) (holds_ly_Z l) :=
 VT.loop (fun k=>holds_ly_I l k) (l.length) (fun k hk=>holds_ly_s l hl h k hk) (holds_ly_e l hl h) (by intro h;cases h)
noncomputable def holds_ln_I (l:List Rng) (m:Nat) (k:Nat):VS:=stt 20 [(5,.sl 2 (l.map rngC)),(6,i64 l.length),(7,i64 k)] []
noncomputable def holds_ln_Z (l:List Rng) (m:Nat):VS:=stt 20 [(2,bv false)] []
theorem holds_ln_s (l:List Rng) (m:Nat) (hl:l.length≤1000000) (hm:m<l.length) (hf:holdB (l.getD m default)=false) (h:∀ k,k<m→holdB (l.getD k default)=true) (k:Nat) (hk:k<m):VT L_ (fnC Tryz.f207 [1,0,1,0,0]) (holds_ln_I l m k) .normal (holds_ln_I l m (k+1)):=by
 have q:=h k hk
 simp only[holdB,P_,E_] at q
 have oz2:=(map_at (rngC) (default) (l:=l) (i:=k) (by omega))
 have oz3:=(decide_eq_false (p:=((l.getD k default).lo < -2147483648)) (by omega))
 exact VT.run (W:=[r_,b_,.r [] [.row (sO oz2)],.r [] [e_,e_,e_,f_],d_,.r [] [.n ((↑k:Int)+1)]]) (G:=[.any (rg [(4,1),(8,12)]),.drop [4],.weak 7 (i64 (↑(k+1):Int)),.sort]) (by kernel_rfl) (.c (decide_eq_true (p:=((↑k:Int)<(l.length:Int))) (by omega))<|.c (show 0≤(↑k:Int) by omega)<|.c oz2<|.c oz3<|.c oz3<|.c oz3<|.c oz3<|.c (decide_eq_false (p:=((l.getD k default).hi>2147483647)) (by omega))<|.c (i6n ((↑k:Int)+1) (by omega))<|.c (wS_ k)<|.n)
theorem holds_ln_e (l:List Rng) (m:Nat) (hl:l.length≤1000000) (hm:m<l.length) (hf:holdB (l.getD m default)=false) (h:∀ k,k<m→holdB (l.getD k default)=true):VT L_ (fnC Tryz.f207 [1,0,1,0,0]) (holds_ln_I l m (m)) (.ret) (holds_ln_Z l m):=by
 simp only[holdB,S_,F_] at hf
 have oz2:=(map_at (rngC) (default) (l:=l) (i:=m) hm)
 exact VT.run (W:=[r_,b_,.r [] [.row (sO oz2)],.r [] [o_,o_,o_,.sel 1],b_,r_]) (G:=[.any (rg [(4,11),(18,1)]),.drop [4],.sort]) (by kernel_rfl) (.c (decide_eq_true (p:=((↑m:Int)<(l.length:Int))) (by omega))<|.c (show 0≤(↑m:Int) by omega)<|.c oz2<|.c (show (decide ((l.getD m default).lo < -2147483648) || decide ((l.getD m default).hi>2147483647))=true by (simp at *;omega))<|.n)
theorem holds_ln (l:List Rng) (m:Nat) (hl:l.length≤1000000) (hm:m<l.length) (hf:holdB (l.getD m default)=false) (h:∀ k,k<m→holdB (l.getD k default)=true):VT L_ (fnC Tryz.f207 [1,0,1,0]) (holds_ln_I l m 0) (.ret) (holds_ln_Z l m) :=
 VT.loop (fun k=>holds_ln_I l m k) (m) (fun k hk=>holds_ln_s l m hl hm hf h k hk) (holds_ln_e l m hl hm hf h) (by intro h;cases h)
theorem holds_y (l:List Rng) (hl:l.length≤1000000) (h:∀ k,k<l.length→holdB (l.getD k default)=true):VC L_ 207 ([.sl 2 (l.map rngC)]) (bv true):=by
 have oz2:=@holds_ly (l) hl h
 exact VC.run (fn:=Tryz.f207) (W:=[r_,r_,.code [.any [0,2],.weak 6 (i64 (l.length:Int)),.weak 7 (i64 (↑0:Int)),.sort] (AF_ 0) (zO oz2),r_]) Tryz.func207 (by kernel_rfl) (.c (R_ (k:=.i64) (show ((((K_ rngC l).length:Int)):Int)=((l.length:Int)) from (by (simp;done))))<|.c w0_<|.c oz2<|.n)
theorem holds_n (l:List Rng) (m:Nat) (hl:l.length≤1000000) (hm:m<l.length) (hf:holdB (l.getD m default)=false) (h:∀ k,k<m→holdB (l.getD k default)=true):VC L_ 207 ([.sl 2 (l.map rngC)]) (bv false):=by
 have oz2:=@holds_ln (l) (m) hl hm hf h
 exact VC.run (fn:=Tryz.f207) (W:=[r_,r_,.code [.any [0,2],.weak 6 (i64 (l.length:Int)),.weak 7 (i64 (↑0:Int)),.sort] (CA_) (zO oz2)]) Tryz.func207 (by kernel_rfl) (.c (R_ (k:=.i64) (show ((((K_ rngC l).length:Int)):Int)=((l.length:Int)) from (by (simp;done))))<|.c w0_<|.c oz2<|.n)
theorem holds_v (l:List Rng) (hl:l.length≤1000000):VC L_ 207 [.sl 2 (l.map rngC)] (bv (l.all holdB)):=by
 rcases all_or (fun k=>holdB (l.getD k default)) l.length with h|⟨m,h1,h2,h3⟩
 ·rw[all_getD.2 h];exact holds_y l hl h
 ·have:l.all holdB=false:=by
   cases e:l.all holdB with
   | false=>rfl
   | true=>have:=all_getD.1 e m h1;exact absurd (this.symm.trans h2) (by simp)
  rw[this];exact holds_n l m hl h1 h2 h3
theorem clone32_a   : VC L_ 68 ([nilv]) (ints .i32 []):=by
 exact (VC.run (fn:=Tryz.f68) (W:=[r_,r_,b_,r_]) (r:=AV.lit (AY_ none 0 0)) Tryz.func68 (by kernel_rfl) (.c (show true=true by with_reducible rfl)<|.n)).weak (B_ _) (CK_ _)
theorem clone32_b (a:Addr) (cap:Nat) (h:cap≤maxLen):VC L_ 68 ([.lit (.slice (some a) 0 cap)]) (ints .i32 []):=by
 exact VC.run (fn:=Tryz.f68) (W:=[r_,r_,d_,.r [] [.code Exit.normal (VS.mk [AV.sl 1 []] [])]]) Tryz.func68 (by kernel_rfl) (.c (show false=false by with_reducible rfl)<|.c (show Weak (AV.lit (AY_ (some a) 0 cap)) (AV.sl 1 []) from (Weak.empty _ _ (by assumption)))<|.c (show ((0:Nat)+(0:Nat))*(4:Nat)≤(140737488355328:Nat) by omega)<|.c (show (0:Nat)+(0:Nat)≤(9223372036854775807:Nat) by omega)<|.n)
theorem clone32_c (l:List Int) (h:l≠[]) (hl:l.length≤1000000):VC L_ 68 ([ints .i32 l]) (ints .i32 l):=by
 exact (VC.run (fn:=Tryz.f68) (W:=[r_,r_,d_,r_]) (r:=AV.sl 1 ([]++K_ (row1 .i32) l)) Tryz.func68 (by kernel_rfl) (.c (show K_ (row1 .i32) l≠[] by (simp;omega))<|.c (show false=false by with_reducible rfl)<|.c (show (0+(K_ (row1 .i32) l).length)*4≤140737488355328 by (simp;omega))<|.c (show 0+(K_ (row1 .i32) l).length≤9223372036854775807 by (simp;omega))<|.n)).weak (B_ _) (CP_ (rows_to (row1 .i32) (r:=[]++K_ (row1 .i32) l) (l:=[]++l) (m:=l) (by first|(simp only[A_,D_,AO_,AP_,X_,AM_,AN_];done)|rfl|(simp only[A_,D_,AO_,AP_,X_,AM_,AN_];rfl)) (show ([]++l)=(l) from (by (simp;done)))))
theorem clone32_v (l:List Int) (hl:l.length≤1000000):VC L_ 68 [ints .i32 l] (ints .i32 l):=by
 cases l with
 | nil=>exact VC.empty1 clone32_a fun a cap h=>clone32_b a cap h
 | cons x l=>exact clone32_c _ (by simp) hl
theorem clone8_a   : VC L_ 67 ([nilv]) (ints .i8 []):=by
 exact (VC.run (fn:=Tryz.f67) (W:=[r_,r_,b_,r_]) (r:=AV.lit (AY_ none 0 0)) Tryz.func67 (by kernel_rfl) (.c (show true=true by with_reducible rfl)<|.n)).weak (B_ _) (CK_ _)
theorem clone8_b (a:Addr) (cap:Nat) (h:cap≤maxLen):VC L_ 67 ([.lit (.slice (some a) 0 cap)]) (ints .i8 []):=by
 exact VC.run (fn:=Tryz.f67) (W:=[r_,r_,d_,.r [] [.code Exit.normal (VS.mk [AV.sl 1 []] [])]]) Tryz.func67 (by kernel_rfl) (.c (show false=false by with_reducible rfl)<|.c (show Weak (AV.lit (AY_ (some a) 0 cap)) (AV.sl 1 []) from (Weak.empty _ _ (by assumption)))<|.c (show ((0:Nat)+(0:Nat))*(1:Nat)≤(140737488355328:Nat) by omega)<|.c (show (0:Nat)+(0:Nat)≤(9223372036854775807:Nat) by omega)<|.n)
theorem clone8_c (l:List Int) (h:l≠[]) (hl:l.length≤1000000):VC L_ 67 ([ints .i8 l]) (ints .i8 l):=by
 exact (VC.run (fn:=Tryz.f67) (W:=[r_,r_,d_,r_]) (r:=AV.sl 1 ([]++K_ (row1 .i8) l)) Tryz.func67 (by kernel_rfl) (.c (show K_ (row1 .i8) l≠[] by (simp;omega))<|.c (show false=false by with_reducible rfl)<|.c (show (0+(K_ (row1 .i8) l).length)*1≤140737488355328 by (simp;omega))<|.c (show 0+(K_ (row1 .i8) l).length≤9223372036854775807 by (simp;omega))<|.n)).weak (B_ _) (CP_ (rows_to (row1 .i8) (r:=[]++K_ (row1 .i8) l) (l:=[]++l) (m:=l) (by first|(simp only[A_,D_,AO_,AP_,X_,AM_,AN_];done)|rfl|(simp only[A_,D_,AO_,AP_,X_,AM_,AN_];rfl)) (show ([]++l)=(l) from (by (simp;done)))))
theorem clone8_v (l:List Int) (hl:l.length≤1000000):VC L_ 67 [ints .i8 l] (ints .i8 l):=by
 cases l with
 | nil=>exact VC.empty1 clone8_a fun a cap h=>clone8_b a cap h
 | cons x l=>exact clone8_c _ (by simp) hl
def kindNames:List ByteArray:=[⟨#[]⟩,⟨#[99,111,110,118]⟩,⟨#[100,101,112,116,104]⟩,⟨#[100,101,110,115,101]⟩,⟨#[109,97,120,112,111,111,108]⟩,⟨#[97,118,103,112,111,111,108]⟩,⟨#[106,111,105,110]⟩,⟨#[97,99,116]⟩,⟨#[112,97,100]⟩,⟨#[102,108,97,116]⟩]
def nameS (k:Int):ByteArray:=kindNames.getD k.toNat ⟨#[]⟩
abbrev strv (s:ByteArray):AV:=.lit (.string s)
theorem name_row {k:Int} (h1:k<10):([[strv ⟨#[]⟩],[strv ⟨#[99,111,110,118]⟩],[strv ⟨#[100,101,112,116,104]⟩],[strv ⟨#[100,101,110,115,101]⟩],[strv ⟨#[109,97,120,112,111,111,108]⟩],[strv ⟨#[97,118,103,112,111,111,108]⟩],[strv ⟨#[106,111,105,110]⟩],[strv ⟨#[97,99,116]⟩],[strv ⟨#[112,97,100]⟩],[strv ⟨#[102,108,97,116]⟩]]:List (List AV))[k.toNat]? = some [strv (nameS k)] :=
 map_at (fun s=>[strv s]) ⟨#[]⟩ (l:=kindNames) (i:=k.toNat) (by show k.toNat<10;omega)
theorem name_out {k:Int} (h:k<0∨10≤k):nameS k=⟨#[]⟩:=by
 unfold nameS
 rcases h with h|h
 ·rw[show k.toNat=0 by omega];rfl
 ·rw[AU_,CH_ (by show 10≤k.toNat;omega)];rfl
theorem name_in {k:Int} (h0:1≤k) (h1:k≤9):nameS k≠⟨#[]⟩:=by
 have:k=1∨k=2∨k=3∨k=4∨k=5∨k=6∨k=7∨k=8∨k=9:=by omega
 rcases this with rfl|rfl|rfl|rfl|rfl|rfl|rfl|rfl|rfl<;>(intro h;exact absurd (congrArg (fun b:ByteArray=>b.size) h) (by decide))
theorem nameEq_in {k:Int} (h0:1≤k) (h1:k≤9):((nameS k).toList==(ByteArray.mk #[]).toList)=false:=by
 have:k=1∨k=2∨k=3∨k=4∨k=5∨k=6∨k=7∨k=8∨k=9:=by omega
 have e1:((nameS 1).toList==(ByteArray.mk #[]).toList)=false:=by kernel_rfl
 have e2:((nameS 2).toList==(ByteArray.mk #[]).toList)=false:=by kernel_rfl
 have e3:((nameS 3).toList==(ByteArray.mk #[]).toList)=false:=by kernel_rfl
 have e4:((nameS 4).toList==(ByteArray.mk #[]).toList)=false:=by kernel_rfl
 have e5:((nameS 5).toList==(ByteArray.mk #[]).toList)=false:=by kernel_rfl
 have e6:((nameS 6).toList==(ByteArray.mk #[]).toList)=false:=by kernel_rfl
 have e7:((nameS 7).toList==(ByteArray.mk #[]).toList)=false:=by kernel_rfl
 have e8:((nameS 8).toList==(ByteArray.mk #[]).toList)=false:=by kernel_rfl
 have e9:((nameS 9).toList==(ByteArray.mk #[]).toList)=false:=by kernel_rfl
 rcases this with rfl|rfl|rfl|rfl|rfl|rfl|rfl|rfl|rfl<;>assumption
theorem nameEq_out {k:Int} (h:k<1∨9<k):((nameS k).toList==(ByteArray.mk #[]).toList)=true:=by
 have:nameS k=⟨#[]⟩:=by
  by_cases h0:k=0
  ·subst h0;rfl
  ·exact name_out (by omega)
 rw[this];exact beq_self_eq_true _
theorem name_v (k:Int) (hk:In64 k):VC L_ 193 ([i64 k]) (strv (nameS k)):=by
 rcases bft (decide (k<0) || decide (k≥10)) with hc0|hc0
 ·have gc0:k<0∨k≥10:=by simp only[Z_,T_,P_,S_,W_,U_,E_,F_,I_,J_,ne_eq,H_,G_,eqNums,C_] at hc0;first|exact hc0|omega
  exact (VC.run (fn:=Tryz.f193) (W:=[r_,r_,.r [] [o_,o_,.sel 1],b_,r_]) (r:=AV.lit (CM_ (ByteArray.mk #[]))) Tryz.func193 (by kernel_rfl) (.c hc0<|.n)).weak (B_ _) (Weak.str (show ((ByteArray.mk #[]):ByteArray)=(nameS k) from (by (rw[name_out (by omega)]))))
 ·have gc0:¬k<0∧¬k≥10:=by simp only[Z_,T_,P_,S_,W_,U_,E_,F_,I_,J_,ne_eq,H_,G_,eqNums,C_] at hc0;first|exact hc0|omega
  have oz3:=(show [[AV.lit (CM_ (ByteArray.mk #[]))],[AV.lit (CM_ (ByteArray.mk #[99,111,110,118]))],[AV.lit (CM_ (ByteArray.mk #[100,101,112,116,104]))],[AV.lit (CM_ (ByteArray.mk #[100,101,110,115,101]))],[AV.lit (CM_ (ByteArray.mk #[109,97,120,112,111,111,108]))],[AV.lit (CM_ (ByteArray.mk #[97,118,103,112,111,111,108]))],[AV.lit (CM_ (ByteArray.mk #[106,111,105,110]))],[AV.lit (CM_ (ByteArray.mk #[97,99,116]))],[AV.lit (CM_ (ByteArray.mk #[112,97,100]))],[AV.lit (CM_ (ByteArray.mk #[102,108,97,116]))]][k.toNat]? = some [strv (nameS k)] by (exact name_row (by omega)))
  exact VC.run (fn:=Tryz.f193) (W:=[r_,r_,.r [] [o_,o_,.sel 1],d_,.r [] [.row (sO oz3)]]) Tryz.func193 (by kernel_rfl) (.c hc0<|.c (show 0≤k by omega)<|.c (show k<(↑10:Int) by omega)<|.c oz3<|.n)
theorem refName_v (k:Int) (hk:In64 k):VC L_ 105 ([i64 k]) (strv (nameS k)):=by
 rcases bft (decide (k<0) || decide (k>9)) with hc0|hc0
 ·have gc0:k<0∨k>9:=by simp only[Z_,T_,P_,S_,W_,U_,E_,F_,I_,J_,ne_eq,H_,G_,eqNums,C_] at hc0;first|exact hc0|omega
  exact (VC.run (fn:=Tryz.f105) (W:=[r_,r_,.r [] [o_,o_,.sel 1],b_,r_]) (r:=AV.lit (CM_ (ByteArray.mk #[]))) Tryz.func105 (by kernel_rfl) (.c hc0<|.n)).weak (B_ _) (Weak.str (show ((ByteArray.mk #[]):ByteArray)=(nameS k) from (by (rw[name_out (by omega)]))))
 ·have gc0:¬k<0∧¬k>9:=by simp only[Z_,T_,P_,S_,W_,U_,E_,F_,I_,J_,ne_eq,H_,G_,eqNums,C_] at hc0;first|exact hc0|omega
  have oz3:=(show [[AV.lit (CM_ (ByteArray.mk #[]))],[AV.lit (CM_ (ByteArray.mk #[99,111,110,118]))],[AV.lit (CM_ (ByteArray.mk #[100,101,112,116,104]))],[AV.lit (CM_ (ByteArray.mk #[100,101,110,115,101]))],[AV.lit (CM_ (ByteArray.mk #[109,97,120,112,111,111,108]))],[AV.lit (CM_ (ByteArray.mk #[97,118,103,112,111,111,108]))],[AV.lit (CM_ (ByteArray.mk #[106,111,105,110]))],[AV.lit (CM_ (ByteArray.mk #[97,99,116]))],[AV.lit (CM_ (ByteArray.mk #[112,97,100]))],[AV.lit (CM_ (ByteArray.mk #[102,108,97,116]))]][k.toNat]? = some [strv (nameS k)] by (exact name_row (by omega)))
  exact VC.run (fn:=Tryz.f105) (W:=[r_,r_,.r [] [o_,o_,.sel 1],d_,.r [] [.row (sO oz3)]]) Tryz.func105 (by kernel_rfl) (.c hc0<|.c (show 0≤k by omega)<|.c (show k<(↑10:Int) by omega)<|.c oz3<|.n)
theorem getD_ext {l m:List Int} (hl:l.length=m.length) (h:∀ k,k<l.length→(l.getD k 0==m.getD k 0)=true):l=m:=by
 apply List.ext_getElem hl
 intro i h1 h2
 have:=h i h1
 rw[I_,AU_,AU_,AL_ h1,AL_ h2] at this
 simpa using this
theorem list_cases (l m:List Int):l.length≠m.length∨l=m∨(l.length=m.length∧∃ k,k<l.length∧l.getD k 0≠m.getD k 0∧∀ j,j<k→l.getD j 0=m.getD j 0):=by
 by_cases hl:l.length=m.length
 ·rcases all_or (fun k=>l.getD k 0==m.getD k 0) l.length with h|⟨k,h1,h2,h3⟩
  ·exact .inr (.inl (getD_ext hl h))
  ·exact .inr (.inr ⟨hl,k,h1,by simpa using h2,fun j hj=>by simpa using h3 j hj⟩)
 ·exact .inl hl
theorem VC.alike {P:Program} {f:Nat} {k:IntKind} {l m:List Int} (h1:l.length≠m.length→VC P f [ints k l,ints k m] (bv false)) (h2:VC P f [ints k l,ints k l] (bv true)) (h3:∀ i,l.length=m.length→i<l.length→l.getD i 0≠m.getD i 0→(∀ j,j<i→l.getD j 0=m.getD j 0)→VC P f [ints k l,ints k m] (bv false)):VC P f [ints k l,ints k m] (bv (decide (l=m))):=by
 rcases list_cases l m with h|rfl|⟨h,i,a,b,c⟩
 ·rw[decide_eq_false (fun e=>h (by rw[e]))];exact h1 h
 ·rw[decide_eq_true rfl];exact h2
 ·rw[decide_eq_false (fun e=>b (by rw[e]))];exact h3 i h a b c
noncomputable def eq8_ly_I (l:List Int) (k:Nat):VS:=stt 26 [(0,ints .i8 l),(1,ints .i8 l),(12,i64 l.length),(13,i64 k)] []
noncomputable def eq8_ly_Z (l:List Int):VS:=eq8_ly_I l (l.length)
theorem eq8_ly_s (l:List Int) (hl:l.length≤1000000) (k:Nat) (hk:k<l.length):VT L_ (fnC Tryz.f139 [1,1,0,1,0,0]) (eq8_ly_I l k) .normal (eq8_ly_I l (k+1)):=by
 have oz1:=(show 0≤(↑k:Int) by omega)
 have oz2:=(map_at (row1 .i8) (0) (l:=l) (i:=k) hk)
 exact VT.run (W:=[r_,b_,r_,.r [] [.row (sO oz2),.row (sO oz2)],d_,.r [] [.n ((↑k:Int)+1)]]) (G:=[.any (rg [(5,1),(14,12)]),.weak 13 (i64 (↑(k+1):Int)),.sort]) (by kernel_rfl) (.c (decide_eq_true (p:=((↑k:Int)<(l.length:Int))) (by omega))<|.c oz1<|.c oz2<|.c oz1<|.c oz2<|.c (show (l.getD k 0 != l.getD k 0)=false by (simp;done))<|.c (i6n ((↑k:Int)+1) (by omega))<|.c (wS_ k)<|.n)
theorem eq8_ly_e (l:List Int) (hl:l.length≤1000000):VT L_ (fnC Tryz.f139 [1,1,0,1,0,0]) (eq8_ly_I l (l.length)) (.exit 0) (eq8_ly_Z l):=by
 exact VT.run (W:=[r_,d_]) (G:=[.any [14],.sort]) (by kernel_rfl) (.c (decide_eq_false (p:=((l.length:Int)<(l.length:Int))) (by omega))<|.n)
theorem eq8_ly (l:List Int) (hl:l.length≤1000000):VT L_ (fnC Tryz.f139 [1,1,0,1,0]) (eq8_ly_I l 0) (.exit 0) (eq8_ly_Z l) :=
 VT.loop (fun k=>eq8_ly_I l k) (l.length) (fun k hk=>eq8_ly_s l hl k hk) (eq8_ly_e l hl) (by intro h;cases h)
noncomputable def eq8_ln_I (l m:List Int) (i:Nat) (k:Nat):VS:=stt 26 [(0,ints .i8 l),(1,ints .i8 m),(12,i64 l.length),(13,i64 k)] []
noncomputable def eq8_ln_Z (l m:List Int) (i:Nat):VS:=stt 26 [(4,bv false)] []
theorem eq8_ln_s (l m:List Int) (i:Nat) (hl:l.length≤1000000) (hm:l.length=m.length) (hi:i<l.length) (hne:l.getD i 0≠m.getD i 0) (h:∀ j,j<i→l.getD j 0=m.getD j 0) (k:Nat) (hk:k<i):VT L_ (fnC Tryz.f139 [1,1,0,1,0,0]) (eq8_ln_I l m i k) .normal (eq8_ln_I l m i (k+1)):=by
 have q:=h k hk
 have oz1:=(show 0≤(↑k:Int) by omega)
 exact VT.run (W:=[r_,b_,r_,.r [] [.row [i8 (l.getD k 0)],.row [i8 (m.getD k 0)]],d_,.r [] [.n ((↑k:Int)+1)]]) (G:=[.any (rg [(5,1),(14,12)]),.weak 13 (i64 (↑(k+1):Int)),.sort]) (by kernel_rfl) (.c (decide_eq_true (p:=((↑k:Int)<(l.length:Int))) (by omega))<|.c oz1<|.c (map_at (row1 .i8) (0) (l:=l) (i:=k) (by omega))<|.c oz1<|.c (map_at (row1 .i8) (0) (l:=m) (i:=k) (by omega))<|.c (show (l.getD k 0 != m.getD k 0)=false by (simp at *;omega))<|.c (i6n ((↑k:Int)+1) (by omega))<|.c (wS_ k)<|.n)
theorem eq8_ln_e (l m:List Int) (i:Nat) (hl:l.length≤1000000) (hm:l.length=m.length) (hi:i<l.length) (hne:l.getD i 0≠m.getD i 0) (h:∀ j,j<i→l.getD j 0=m.getD j 0):VT L_ (fnC Tryz.f139 [1,1,0,1,0,0]) (eq8_ln_I l m i (i)) (.ret) (eq8_ln_Z l m i):=by
 have oz1:=(show 0≤(↑i:Int) by omega)
 exact VT.run (W:=[r_,b_,r_,.r [] [.row [i8 (l.getD i 0)],.row [i8 (m.getD i 0)]],b_,r_]) (G:=[.any (rg [(0,2),(5,1),(12,13)]),.sort]) (by kernel_rfl) (.c (decide_eq_true (p:=((↑i:Int)<(l.length:Int))) (by omega))<|.c oz1<|.c (map_at (row1 .i8) (0) (l:=l) (i:=i) hi)<|.c oz1<|.c (map_at (row1 .i8) (0) (l:=m) (i:=i) (by omega))<|.c (show (l.getD i 0 != m.getD i 0)=true by (simp at *;omega))<|.n)
theorem eq8_ln (l m:List Int) (i:Nat) (hl:l.length≤1000000) (hm:l.length=m.length) (hi:i<l.length) (hne:l.getD i 0≠m.getD i 0) (h:∀ j,j<i→l.getD j 0=m.getD j 0):VT L_ (fnC Tryz.f139 [1,1,0,1,0]) (eq8_ln_I l m i 0) (.ret) (eq8_ln_Z l m i) :=
 VT.loop (fun k=>eq8_ln_I l m i k) (i) (fun k hk=>eq8_ln_s l m i hl hm hi hne h k hk) (eq8_ln_e l m i hl hm hi hne h) (by intro h;cases h)
theorem eq8_d (l m:List Int) (hl:l.length≤1000000) (hm:l.length≠m.length):VC L_ 139 ([ints .i8 l,ints .i8 m]) (bv false):=by
 exact VC.run (fn:=Tryz.f139) (W:=[r_,r_,b_,r_]) Tryz.func139 (by kernel_rfl) (.c (show (((K_ (row1 .i8) l).length:Int) != ((K_ (row1 .i8) m).length:Int))=true by (simp;omega))<|.n)
theorem eq8_y (l:List Int) (hl:l.length≤1000000):VC L_ 139 ([ints .i8 l,ints .i8 l]) (bv true):=by
 have oz1:=(R_ (k:=.i64) (show ((((K_ (row1 .i8) l).length:Int)):Int)=((l.length:Int)) from (by (simp;done))))
 have oz3:=@eq8_ly (l) hl
 exact VC.run (fn:=Tryz.f139) (W:=[r_,r_,d_,r_,.code [.any (rg [(4,1),(6,6)]),.weak 12 (wO oz1),.weak 13 (i64 (↑0:Int)),.sort] (AF_ 0) (zO oz3),r_]) Tryz.func139 (by kernel_rfl) (.c (show (((K_ (row1 .i8) l).length:Int) != ((K_ (row1 .i8) l).length:Int))=false by (simp;done))<|.c oz1<|.c w0_<|.c oz3<|.n)
theorem eq8_n (l m:List Int) (i:Nat) (hl:l.length≤1000000) (hm:l.length=m.length) (hi:i<l.length) (hne:l.getD i 0≠m.getD i 0) (h:∀ j,j<i→l.getD j 0=m.getD j 0):VC L_ 139 ([ints .i8 l,ints .i8 m]) (bv false):=by
 have oz1:=(R_ (k:=.i64) (show ((((K_ (row1 .i8) l).length:Int)):Int)=((l.length:Int)) from (by (simp;done))))
 have oz3:=@eq8_ln (l) (m) (i) hl hm hi hne h
 exact VC.run (fn:=Tryz.f139) (W:=[r_,r_,d_,r_,.code [.any (rg [(4,1),(6,6)]),.weak 12 (wO oz1),.weak 13 (i64 (↑0:Int)),.sort] (CA_) (zO oz3)]) Tryz.func139 (by kernel_rfl) (.c (show (((K_ (row1 .i8) l).length:Int) != ((K_ (row1 .i8) m).length:Int))=false by (simp;omega))<|.c oz1<|.c w0_<|.c oz3<|.n)
theorem eq8_v (l m:List Int) (hl:l.length≤1000000):VC L_ 139 [ints .i8 l,ints .i8 m] (bv (decide (l=m))) :=
 VC.alike (eq8_d l m hl) (eq8_y l hl) fun i h a b c=>eq8_n l m i hl h a b c
noncomputable def eq32_ly_I (l:List Int) (k:Nat):VS:=stt 26 [(0,ints .i32 l),(1,ints .i32 l),(12,i64 l.length),(13,i64 k)] []
noncomputable def eq32_ly_Z (l:List Int):VS:=eq32_ly_I l (l.length)
theorem eq32_ly_s (l:List Int) (hl:l.length≤1000000) (k:Nat) (hk:k<l.length):VT L_ (fnC Tryz.f140 [1,1,0,1,0,0]) (eq32_ly_I l k) .normal (eq32_ly_I l (k+1)):=by
 have oz1:=(show 0≤(↑k:Int) by omega)
 have oz2:=(map_at (row1 .i32) (0) (l:=l) (i:=k) hk)
 exact VT.run (W:=[r_,b_,r_,.r [] [.row (sO oz2),.row (sO oz2)],d_,.r [] [.n ((↑k:Int)+1)]]) (G:=[.any (rg [(5,1),(14,12)]),.weak 13 (i64 (↑(k+1):Int)),.sort]) (by kernel_rfl) (.c (decide_eq_true (p:=((↑k:Int)<(l.length:Int))) (by omega))<|.c oz1<|.c oz2<|.c oz1<|.c oz2<|.c (show (l.getD k 0 != l.getD k 0)=false by (simp;done))<|.c (i6n ((↑k:Int)+1) (by omega))<|.c (wS_ k)<|.n)
theorem eq32_ly_e (l:List Int) (hl:l.length≤1000000):VT L_ (fnC Tryz.f140 [1,1,0,1,0,0]) (eq32_ly_I l (l.length)) (.exit 0) (eq32_ly_Z l):=by
 exact VT.run (W:=[r_,d_]) (G:=[.any [14],.sort]) (by kernel_rfl) (.c (decide_eq_false (p:=((l.length:Int)<(l.length:Int))) (by omega))<|.n)
theorem eq32_ly (l:List Int) (hl:l.length≤1000000):VT L_ (fnC Tryz.f140 [1,1,0,1,0]) (eq32_ly_I l 0) (.exit 0) (eq32_ly_Z l) :=
 VT.loop (fun k=>eq32_ly_I l k) (l.length) (fun k hk=>eq32_ly_s l hl k hk) (eq32_ly_e l hl) (by intro h;cases h)
noncomputable def eq32_ln_I (l m:List Int) (i:Nat) (k:Nat):VS:=stt 26 [(0,ints .i32 l),(1,ints .i32 m),(12,i64 l.length),(13,i64 k)] []
noncomputable def eq32_ln_Z (l m:List Int) (i:Nat):VS:=stt 26 [(4,bv false)] []
theorem eq32_ln_s (l m:List Int) (i:Nat) (hl:l.length≤1000000) (hm:l.length=m.length) (hi:i<l.length) (hne:l.getD i 0≠m.getD i 0) (h:∀ j,j<i→l.getD j 0=m.getD j 0) (k:Nat) (hk:k<i):VT L_ (fnC Tryz.f140 [1,1,0,1,0,0]) (eq32_ln_I l m i k) .normal (eq32_ln_I l m i (k+1)):=by
 have q:=h k hk
 have oz1:=(show 0≤(↑k:Int) by omega)
 exact VT.run (W:=[r_,b_,r_,.r [] [.row [i32 (l.getD k 0)],.row [i32 (m.getD k 0)]],d_,.r [] [.n ((↑k:Int)+1)]]) (G:=[.any (rg [(5,1),(14,12)]),.weak 13 (i64 (↑(k+1):Int)),.sort]) (by kernel_rfl) (.c (decide_eq_true (p:=((↑k:Int)<(l.length:Int))) (by omega))<|.c oz1<|.c (map_at (row1 .i32) (0) (l:=l) (i:=k) (by omega))<|.c oz1<|.c (map_at (row1 .i32) (0) (l:=m) (i:=k) (by omega))<|.c (show (l.getD k 0 != m.getD k 0)=false by (simp at *;omega))<|.c (i6n ((↑k:Int)+1) (by omega))<|.c (wS_ k)<|.n)
theorem eq32_ln_e (l m:List Int) (i:Nat) (hl:l.length≤1000000) (hm:l.length=m.length) (hi:i<l.length) (hne:l.getD i 0≠m.getD i 0) (h:∀ j,j<i→l.getD j 0=m.getD j 0):VT L_ (fnC Tryz.f140 [1,1,0,1,0,0]) (eq32_ln_I l m i (i)) (.ret) (eq32_ln_Z l m i):=by
 have oz1:=(show 0≤(↑i:Int) by omega)
 exact VT.run (W:=[r_,b_,r_,.r [] [.row [i32 (l.getD i 0)],.row [i32 (m.getD i 0)]],b_,r_]) (G:=[.any (rg [(0,2),(5,1),(12,13)]),.sort]) (by kernel_rfl) (.c (decide_eq_true (p:=((↑i:Int)<(l.length:Int))) (by omega))<|.c oz1<|.c (map_at (row1 .i32) (0) (l:=l) (i:=i) hi)<|.c oz1<|.c (map_at (row1 .i32) (0) (l:=m) (i:=i) (by omega))<|.c (show (l.getD i 0 != m.getD i 0)=true by (simp at *;omega))<|.n)
theorem eq32_ln (l m:List Int) (i:Nat) (hl:l.length≤1000000) (hm:l.length=m.length) (hi:i<l.length) (hne:l.getD i 0≠m.getD i 0) (h:∀ j,j<i→l.getD j 0=m.getD j 0):VT L_ (fnC Tryz.f140 [1,1,0,1,0]) (eq32_ln_I l m i 0) (.ret) (eq32_ln_Z l m i) :=
 VT.loop (fun k=>eq32_ln_I l m i k) (i) (fun k hk=>eq32_ln_s l m i hl hm hi hne h k hk) (eq32_ln_e l m i hl hm hi hne h) (by intro h;cases h)
theorem eq32_d (l m:List Int) (hl:l.length≤1000000) (hm:l.length≠m.length):VC L_ 140 ([ints .i32 l,ints .i32 m]) (bv false):=by
 exact VC.run (fn:=Tryz.f140) (W:=[r_,r_,b_,r_]) Tryz.func140 (by kernel_rfl) (.c (show (((K_ (row1 .i32) l).length:Int) != ((K_ (row1 .i32) m).length:Int))=true by (simp;omega))<|.n)
theorem eq32_y (l:List Int) (hl:l.length≤1000000):VC L_ 140 ([ints .i32 l,ints .i32 l]) (bv true):=by
 have oz1:=(R_ (k:=.i64) (show ((((K_ (row1 .i32) l).length:Int)):Int)=((l.length:Int)) from (by (simp;done))))
 have oz3:=@eq32_ly (l) hl
 exact VC.run (fn:=Tryz.f140) (W:=[r_,r_,d_,r_,.code [.any (rg [(4,1),(6,6)]),.weak 12 (wO oz1),.weak 13 (i64 (↑0:Int)),.sort] (AF_ 0) (zO oz3),r_]) Tryz.func140 (by kernel_rfl) (.c (show (((K_ (row1 .i32) l).length:Int) != ((K_ (row1 .i32) l).length:Int))=false by (simp;done))<|.c oz1<|.c w0_<|.c oz3<|.n)
theorem eq32_n (l m:List Int) (i:Nat) (hl:l.length≤1000000) (hm:l.length=m.length) (hi:i<l.length) (hne:l.getD i 0≠m.getD i 0) (h:∀ j,j<i→l.getD j 0=m.getD j 0):VC L_ 140 ([ints .i32 l,ints .i32 m]) (bv false):=by
 have oz1:=(R_ (k:=.i64) (show ((((K_ (row1 .i32) l).length:Int)):Int)=((l.length:Int)) from (by (simp;done))))
 have oz3:=@eq32_ln (l) (m) (i) hl hm hi hne h
 exact VC.run (fn:=Tryz.f140) (W:=[r_,r_,d_,r_,.code [.any (rg [(4,1),(6,6)]),.weak 12 (wO oz1),.weak 13 (i64 (↑0:Int)),.sort] (CA_) (zO oz3)]) Tryz.func140 (by kernel_rfl) (.c (show (((K_ (row1 .i32) l).length:Int) != ((K_ (row1 .i32) m).length:Int))=false by (simp;omega))<|.c oz1<|.c w0_<|.c oz3<|.n)
theorem eq32_v (l m:List Int) (hl:l.length≤1000000):VC L_ 140 [ints .i32 l,ints .i32 m] (bv (decide (l=m))) :=
 VC.alike (eq32_d l m hl) (eq32_y l hl) fun i h a b c=>eq32_n l m i hl h a b c
noncomputable def rsame8_ly_I (l:List Int) (k:Nat):VS:=stt 26 [(0,ints .i8 l),(1,ints .i8 l),(5,i64 k)] []
noncomputable def rsame8_ly_Z (l:List Int):VS:=rsame8_ly_I l (l.length)
theorem rsame8_ly_s (l:List Int) (hl:l.length≤1000000) (k:Nat) (hk:k<l.length):VT L_ (fnC Tryz.f113 [1,1,0,1,0,0]) (rsame8_ly_I l k) .normal (rsame8_ly_I l (k+1)):=by
 have oz1:=(show 0≤(↑k:Int) by omega)
 have oz2:=(map_at (row1 .i8) (0) (l:=l) (i:=k) hk)
 exact VT.run (W:=[r_,b_,.r [] [.row (sO oz2),.row (sO oz2)],d_,.r [] [.n ((↑k:Int)+1)]]) (G:=[.any (rg [(11,15)]),.weak 5 (i64 (↑(k+1):Int)),.sort]) (by kernel_rfl) (.c (show decide ((↑k:Int)<((K_ (row1 .i8) l).length:Int))=true by (simp;omega))<|.c oz1<|.c oz2<|.c oz1<|.c oz2<|.c (show (l.getD k 0 != l.getD k 0)=false by (simp;done))<|.c (i6n ((↑k:Int)+1) (by omega))<|.c (wS_ k)<|.n)
theorem rsame8_ly_e (l:List Int) (hl:l.length≤1000000):VT L_ (fnC Tryz.f113 [1,1,0,1,0,0]) (rsame8_ly_I l (l.length)) (.exit 0) (rsame8_ly_Z l):=by
 exact VT.run (W:=[r_,d_]) (G:=[.any (rg [(11,4)]),.sort]) (by kernel_rfl) (.c (show decide ((l.length:Int)<((K_ (row1 .i8) l).length:Int))=false by (simp;done))<|.n)
theorem rsame8_ly (l:List Int) (hl:l.length≤1000000):VT L_ (fnC Tryz.f113 [1,1,0,1,0]) (rsame8_ly_I l 0) (.exit 0) (rsame8_ly_Z l) :=
 VT.loop (fun k=>rsame8_ly_I l k) (l.length) (fun k hk=>rsame8_ly_s l hl k hk) (rsame8_ly_e l hl) (by intro h;cases h)
noncomputable def rsame8_ln_I (l m:List Int) (i:Nat) (k:Nat):VS:=stt 26 [(0,ints .i8 l),(1,ints .i8 m),(5,i64 k)] []
noncomputable def rsame8_ln_Z (l m:List Int) (i:Nat):VS:=stt 26 [(4,bv false)] []
theorem rsame8_ln_s (l m:List Int) (i:Nat) (hl:l.length≤1000000) (hm:l.length=m.length) (hi:i<l.length) (hne:l.getD i 0≠m.getD i 0) (h:∀ j,j<i→l.getD j 0=m.getD j 0) (k:Nat) (hk:k<i):VT L_ (fnC Tryz.f113 [1,1,0,1,0,0]) (rsame8_ln_I l m i k) .normal (rsame8_ln_I l m i (k+1)):=by
 have q:=h k hk
 have oz1:=(show 0≤(↑k:Int) by omega)
 exact VT.run (W:=[r_,b_,.r [] [.row [i8 (l.getD k 0)],.row [i8 (m.getD k 0)]],d_,.r [] [.n ((↑k:Int)+1)]]) (G:=[.any (rg [(11,15)]),.weak 5 (i64 (↑(k+1):Int)),.sort]) (by kernel_rfl) (.c (show decide ((↑k:Int)<((K_ (row1 .i8) l).length:Int))=true by (simp;omega))<|.c oz1<|.c (map_at (row1 .i8) (0) (l:=l) (i:=k) (by omega))<|.c oz1<|.c (map_at (row1 .i8) (0) (l:=m) (i:=k) (by omega))<|.c (show (l.getD k 0 != m.getD k 0)=false by (simp at *;omega))<|.c (i6n ((↑k:Int)+1) (by omega))<|.c (wS_ k)<|.n)
theorem rsame8_ln_e (l m:List Int) (i:Nat) (hl:l.length≤1000000) (hm:l.length=m.length) (hi:i<l.length) (hne:l.getD i 0≠m.getD i 0) (h:∀ j,j<i→l.getD j 0=m.getD j 0):VT L_ (fnC Tryz.f113 [1,1,0,1,0,0]) (rsame8_ln_I l m i (i)) (.ret) (rsame8_ln_Z l m i):=by
 have oz1:=(show 0≤(↑i:Int) by omega)
 exact VT.run (W:=[r_,b_,.r [] [.row [i8 (l.getD i 0)],.row [i8 (m.getD i 0)]],b_,r_]) (G:=[.any (rg [(0,2),(5,1),(11,4),(17,9)]),.sort]) (by kernel_rfl) (.c (show decide ((↑i:Int)<((K_ (row1 .i8) l).length:Int))=true by (simp;omega))<|.c oz1<|.c (map_at (row1 .i8) (0) (l:=l) (i:=i) hi)<|.c oz1<|.c (map_at (row1 .i8) (0) (l:=m) (i:=i) (by omega))<|.c (show (l.getD i 0 != m.getD i 0)=true by (simp at *;omega))<|.n)
theorem rsame8_ln (l m:List Int) (i:Nat) (hl:l.length≤1000000) (hm:l.length=m.length) (hi:i<l.length) (hne:l.getD i 0≠m.getD i 0) (h:∀ j,j<i→l.getD j 0=m.getD j 0):VT L_ (fnC Tryz.f113 [1,1,0,1,0]) (rsame8_ln_I l m i 0) (.ret) (rsame8_ln_Z l m i) :=
 VT.loop (fun k=>rsame8_ln_I l m i k) (i) (fun k hk=>rsame8_ln_s l m i hl hm hi hne h k hk) (rsame8_ln_e l m i hl hm hi hne h) (by intro h;cases h)
theorem rsame8_d (l m:List Int) (hl:l.length≤1000000) (hm:l.length≠m.length):VC L_ 113 ([ints .i8 l,ints .i8 m]) (bv false):=by
 exact VC.run (fn:=Tryz.f113) (W:=[r_,r_,b_,r_]) Tryz.func113 (by kernel_rfl) (.c (show (((K_ (row1 .i8) l).length:Int) != ((K_ (row1 .i8) m).length:Int))=true by (simp;omega))<|.n)
theorem rsame8_y (l:List Int) (hl:l.length≤1000000):VC L_ 113 ([ints .i8 l,ints .i8 l]) (bv true):=by
 have oz2:=@rsame8_ly (l) hl
 exact VC.run (fn:=Tryz.f113) (W:=[r_,r_,d_,r_,.code [.any [4,6,7,8,9,10],.weak 5 (i64 (↑0:Int)),.sort] (AF_ 0) (zO oz2),r_]) Tryz.func113 (by kernel_rfl) (.c (show (((K_ (row1 .i8) l).length:Int) != ((K_ (row1 .i8) l).length:Int))=false by (simp;done))<|.c w0_<|.c oz2<|.n)
theorem rsame8_n (l m:List Int) (i:Nat) (hl:l.length≤1000000) (hm:l.length=m.length) (hi:i<l.length) (hne:l.getD i 0≠m.getD i 0) (h:∀ j,j<i→l.getD j 0=m.getD j 0):VC L_ 113 ([ints .i8 l,ints .i8 m]) (bv false):=by
 have oz2:=@rsame8_ln (l) (m) (i) hl hm hi hne h
 exact VC.run (fn:=Tryz.f113) (W:=[r_,r_,d_,r_,.code [.any [4,6,7,8,9,10],.weak 5 (i64 (↑0:Int)),.sort] (CA_) (zO oz2)]) Tryz.func113 (by kernel_rfl) (.c (show (((K_ (row1 .i8) l).length:Int) != ((K_ (row1 .i8) m).length:Int))=false by (simp;omega))<|.c w0_<|.c oz2<|.n)
theorem rsame8_v (l m:List Int) (hl:l.length≤1000000):VC L_ 113 [ints .i8 l,ints .i8 m] (bv (decide (l=m))) :=
 VC.alike (rsame8_d l m hl) (rsame8_y l hl) fun i h a b c=>rsame8_n l m i hl h a b c
noncomputable def rsame32_ly_I (l:List Int) (k:Nat):VS:=stt 26 [(0,ints .i32 l),(1,ints .i32 l),(5,i64 k)] []
noncomputable def rsame32_ly_Z (l:List Int):VS:=rsame32_ly_I l (l.length)
theorem rsame32_ly_s (l:List Int) (hl:l.length≤1000000) (k:Nat) (hk:k<l.length):VT L_ (fnC Tryz.f114 [1,1,0,1,0,0]) (rsame32_ly_I l k) .normal (rsame32_ly_I l (k+1)):=by
 have oz1:=(show 0≤(↑k:Int) by omega)
 have oz2:=(map_at (row1 .i32) (0) (l:=l) (i:=k) hk)
 exact VT.run (W:=[r_,b_,.r [] [.row (sO oz2),.row (sO oz2)],d_,.r [] [.n ((↑k:Int)+1)]]) (G:=[.any (rg [(11,15)]),.weak 5 (i64 (↑(k+1):Int)),.sort]) (by kernel_rfl) (.c (show decide ((↑k:Int)<((K_ (row1 .i32) l).length:Int))=true by (simp;omega))<|.c oz1<|.c oz2<|.c oz1<|.c oz2<|.c (show (l.getD k 0 != l.getD k 0)=false by (simp;done))<|.c (i6n ((↑k:Int)+1) (by omega))<|.c (wS_ k)<|.n)
theorem rsame32_ly_e (l:List Int) (hl:l.length≤1000000):VT L_ (fnC Tryz.f114 [1,1,0,1,0,0]) (rsame32_ly_I l (l.length)) (.exit 0) (rsame32_ly_Z l):=by
 exact VT.run (W:=[r_,d_]) (G:=[.any (rg [(11,4)]),.sort]) (by kernel_rfl) (.c (show decide ((l.length:Int)<((K_ (row1 .i32) l).length:Int))=false by (simp;done))<|.n)
theorem rsame32_ly (l:List Int) (hl:l.length≤1000000):VT L_ (fnC Tryz.f114 [1,1,0,1,0]) (rsame32_ly_I l 0) (.exit 0) (rsame32_ly_Z l) :=
 VT.loop (fun k=>rsame32_ly_I l k) (l.length) (fun k hk=>rsame32_ly_s l hl k hk) (rsame32_ly_e l hl) (by intro h;cases h)
noncomputable def rsame32_ln_I (l m:List Int) (i:Nat) (k:Nat):VS:=stt 26 [(0,ints .i32 l),(1,ints .i32 m),(5,i64 k)] []
noncomputable def rsame32_ln_Z (l m:List Int) (i:Nat):VS:=stt 26 [(4,bv false)] []
theorem rsame32_ln_s (l m:List Int) (i:Nat) (hl:l.length≤1000000) (hm:l.length=m.length) (hi:i<l.length) (hne:l.getD i 0≠m.getD i 0) (h:∀ j,j<i→l.getD j 0=m.getD j 0) (k:Nat) (hk:k<i):VT L_ (fnC Tryz.f114 [1,1,0,1,0,0]) (rsame32_ln_I l m i k) .normal (rsame32_ln_I l m i (k+1)):=by
 have q:=h k hk
 have oz1:=(show 0≤(↑k:Int) by omega)
 exact VT.run (W:=[r_,b_,.r [] [.row [i32 (l.getD k 0)],.row [i32 (m.getD k 0)]],d_,.r [] [.n ((↑k:Int)+1)]]) (G:=[.any (rg [(11,15)]),.weak 5 (i64 (↑(k+1):Int)),.sort]) (by kernel_rfl) (.c (show decide ((↑k:Int)<((K_ (row1 .i32) l).length:Int))=true by (simp;omega))<|.c oz1<|.c (map_at (row1 .i32) (0) (l:=l) (i:=k) (by omega))<|.c oz1<|.c (map_at (row1 .i32) (0) (l:=m) (i:=k) (by omega))<|.c (show (l.getD k 0 != m.getD k 0)=false by (simp at *;omega))<|.c (i6n ((↑k:Int)+1) (by omega))<|.c (wS_ k)<|.n)
theorem rsame32_ln_e (l m:List Int) (i:Nat) (hl:l.length≤1000000) (hm:l.length=m.length) (hi:i<l.length) (hne:l.getD i 0≠m.getD i 0) (h:∀ j,j<i→l.getD j 0=m.getD j 0):VT L_ (fnC Tryz.f114 [1,1,0,1,0,0]) (rsame32_ln_I l m i (i)) (.ret) (rsame32_ln_Z l m i):=by
 have oz1:=(show 0≤(↑i:Int) by omega)
 exact VT.run (W:=[r_,b_,.r [] [.row [i32 (l.getD i 0)],.row [i32 (m.getD i 0)]],b_,r_]) (G:=[.any (rg [(0,2),(5,1),(11,4),(17,9)]),.sort]) (by kernel_rfl) (.c (show decide ((↑i:Int)<((K_ (row1 .i32) l).length:Int))=true by (simp;omega))<|.c oz1<|.c (map_at (row1 .i32) (0) (l:=l) (i:=i) hi)<|.c oz1<|.c (map_at (row1 .i32) (0) (l:=m) (i:=i) (by omega))<|.c (show (l.getD i 0 != m.getD i 0)=true by (simp at *;omega))<|.n)
theorem rsame32_ln (l m:List Int) (i:Nat) (hl:l.length≤1000000) (hm:l.length=m.length) (hi:i<l.length) (hne:l.getD i 0≠m.getD i 0) (h:∀ j,j<i→l.getD j 0=m.getD j 0):VT L_ (fnC Tryz.f114 [1,1,0,1,0]) (rsame32_ln_I l m i 0) (.ret) (rsame32_ln_Z l m i) :=
 VT.loop (fun k=>rsame32_ln_I l m i k) (i) (fun k hk=>rsame32_ln_s l m i hl hm hi hne h k hk) (rsame32_ln_e l m i hl hm hi hne h) (by intro h;cases h)
theorem rsame32_d (l m:List Int) (hl:l.length≤1000000) (hm:l.length≠m.length):VC L_ 114 ([ints .i32 l,ints .i32 m]) (bv false):=by
 exact VC.run (fn:=Tryz.f114) (W:=[r_,r_,b_,r_]) Tryz.func114 (by kernel_rfl) (.c (show (((K_ (row1 .i32) l).length:Int) != ((K_ (row1 .i32) m).length:Int))=true by (simp;omega))<|.n)
theorem rsame32_y (l:List Int) (hl:l.length≤1000000):VC L_ 114 ([ints .i32 l,ints .i32 l]) (bv true):=by
 have oz2:=@rsame32_ly (l) hl
 exact VC.run (fn:=Tryz.f114) (W:=[r_,r_,d_,r_,.code [.any [4,6,7,8,9,10],.weak 5 (i64 (↑0:Int)),.sort] (AF_ 0) (zO oz2),r_]) Tryz.func114 (by kernel_rfl) (.c (show (((K_ (row1 .i32) l).length:Int) != ((K_ (row1 .i32) l).length:Int))=false by (simp;done))<|.c w0_<|.c oz2<|.n)
theorem rsame32_n (l m:List Int) (i:Nat) (hl:l.length≤1000000) (hm:l.length=m.length) (hi:i<l.length) (hne:l.getD i 0≠m.getD i 0) (h:∀ j,j<i→l.getD j 0=m.getD j 0):VC L_ 114 ([ints .i32 l,ints .i32 m]) (bv false):=by
 have oz2:=@rsame32_ln (l) (m) (i) hl hm hi hne h
 exact VC.run (fn:=Tryz.f114) (W:=[r_,r_,d_,r_,.code [.any [4,6,7,8,9,10],.weak 5 (i64 (↑0:Int)),.sort] (CA_) (zO oz2)]) Tryz.func114 (by kernel_rfl) (.c (show (((K_ (row1 .i32) l).length:Int) != ((K_ (row1 .i32) m).length:Int))=false by (simp;omega))<|.c w0_<|.c oz2<|.n)
theorem rsame32_v (l m:List Int) (hl:l.length≤1000000):VC L_ 114 [ints .i32 l,ints .i32 m] (bv (decide (l=m))) :=
 VC.alike (rsame32_d l m hl) (rsame32_y l hl) fun i h a b c=>rsame32_n l m i hl h a b c
theorem sumsK_v (k:Int)  : VC L_ 219 ([i64 k]) (bv ((k==1 || k==2) || k==3)):=by
 exact VC.run (fn:=Tryz.f219) (W:=[r_,.r [] [o_,o_,.sel 1,o_,o_,.sel 1]]) Tryz.func219 (by kernel_rfl) (.n)
theorem scaledK_v (k:Int)  : VC L_ 196 ([i64 k]) (bv (((k==1 || k==2) || k==3) || k==6 || k==7)):=by
 have oz0:=@sumsK_v (k)
 exact VC.run (fn:=Tryz.f196) (W:=[r_,.r [] [.callr (rO oz0),o_,o_,.sel 1,o_,o_,.sel 1]]) Tryz.func196 (by kernel_rfl) (.c oz0<|.n)
def plainN (n:Nod):Nod:=if n.kd=1 then ⟨n.kd,n.na,0,n.nk,n.ns,n.np,n.no,n.za,0,n.w,n.b,n.qm,n.qs,n.qz,0,0,0,n.lo,n.hi⟩ else if n.kd=2 then ⟨n.kd,n.na,0,n.nk,n.ns,n.np,0,n.za,0,n.w,n.b,n.qm,n.qs,n.qz,0,0,0,n.lo,n.hi⟩ else if n.kd=3 then ⟨n.kd,n.na,0,0,0,0,n.no,n.za,0,n.w,n.b,n.qm,n.qs,n.qz,0,0,0,n.lo,n.hi⟩ else if n.kd=4 then ⟨n.kd,n.na,0,n.nk,n.ns,n.np,0,0,0,[],[],0,0,0,0,0,0,0,0⟩ else if n.kd=5 then ⟨n.kd,n.na,0,n.nk,n.ns,n.np,0,0,0,[],[],0,0,0,0,0,0,0,0⟩ else if n.kd=6 then ⟨n.kd,n.na,n.nb,0,0,0,0,n.za,n.zb,[],[],n.qm,n.qs,n.qz,n.rm,n.rs,0,n.lo,n.hi⟩ else if n.kd=7 then ⟨n.kd,n.na,0,0,0,0,0,n.za,0,[],[],n.qm,n.qs,n.qz,0,0,0,n.lo,n.hi⟩ else if n.kd=8 then ⟨n.kd,n.na,0,0,0,n.np,0,n.za,0,[],[],0,0,0,0,0,0,0,0⟩ else ⟨n.kd,n.na,0,0,0,0,0,0,0,[],[],0,0,0,0,0,0,0,0⟩
theorem plain1 (n:Nod) (hk:n.kd=1) (hw:n.w.length≤100000) (hb:n.b.length≤100000):VC L_ 195 ([nod n]) (nod ⟨n.kd,n.na,0,n.nk,n.ns,n.np,n.no,n.za,0,n.w,n.b,n.qm,n.qs,n.qz,0,0,0,n.lo,n.hi⟩):=by
 have hk1:In64 n.kd:=⟨by omega,by omega⟩
 have hs:=nameEq_in (k:=n.kd) (by omega) (by omega)
 have oz0:=@name_v (n.kd) hk1
 have oz3:=@clone8_v (n.w) (by omega)
 have oz4:=@clone32_v (n.b) (by omega)
 have oz5:=@scaledK_v (n.kd)
 exact VC.run (fn:=Tryz.f195) (W:=[r_,.r [] [.callr (rO oz0)],d_,r_,r_,r_,b_,r_,.r [] [.callr (rO oz3),.callr (rO oz4)],r_,.r [] [.callr (rO oz5)],b_,r_,r_]) Tryz.func195 (by kernel_rfl) (.c oz0<|.c hs<|.c (show (n.kd==1)=true by (refine decide_eq_true ?_;omega))<|.c oz3<|.c oz4<|.c oz5<|.c (show (n.kd==1 || n.kd==2 || n.kd==3 || n.kd==6 || n.kd==7)=true by (simp;omega))<|.n)
theorem plain2 (n:Nod) (hk:n.kd=2) (hw:n.w.length≤100000) (hb:n.b.length≤100000):VC L_ 195 ([nod n]) (nod ⟨n.kd,n.na,0,n.nk,n.ns,n.np,0,n.za,0,n.w,n.b,n.qm,n.qs,n.qz,0,0,0,n.lo,n.hi⟩):=by
 have hk1:In64 n.kd:=⟨by omega,by omega⟩
 have hs:=nameEq_in (k:=n.kd) (by omega) (by omega)
 have oz0:=@name_v (n.kd) hk1
 have oz4:=@clone8_v (n.w) (by omega)
 have oz5:=@clone32_v (n.b) (by omega)
 have oz6:=@scaledK_v (n.kd)
 exact VC.run (fn:=Tryz.f195) (W:=[r_,.r [] [.callr (rO oz0)],d_,r_,r_,r_,d_,r_,b_,.r [] [.callr (rO oz4),.callr (rO oz5)],r_,.r [] [.callr (rO oz6)],b_,r_,r_]) Tryz.func195 (by kernel_rfl) (.c oz0<|.c hs<|.c (show (n.kd==1)=false by (refine decide_eq_false ?_;omega))<|.c (show (n.kd==2)=true by (refine decide_eq_true ?_;omega))<|.c oz4<|.c oz5<|.c oz6<|.c (show (n.kd==1 || n.kd==2 || n.kd==3 || n.kd==6 || n.kd==7)=true by (simp;omega))<|.n)
theorem plain3 (n:Nod) (hk:n.kd=3) (hw:n.w.length≤100000) (hb:n.b.length≤100000):VC L_ 195 ([nod n]) (nod ⟨n.kd,n.na,0,0,0,0,n.no,n.za,0,n.w,n.b,n.qm,n.qs,n.qz,0,0,0,n.lo,n.hi⟩):=by
 have hk1:In64 n.kd:=⟨by omega,by omega⟩
 have hs:=nameEq_in (k:=n.kd) (by omega) (by omega)
 have oz0:=@name_v (n.kd) hk1
 have oz7:=@clone8_v (n.w) (by omega)
 have oz8:=@clone32_v (n.b) (by omega)
 have oz9:=@scaledK_v (n.kd)
 exact VC.run (fn:=Tryz.f195) (W:=[r_,.r [] [.callr (rO oz0)],d_,r_,r_,r_,d_,r_,d_,r_,d_,r_,d_,r_,b_,.r [] [.callr (rO oz7),.callr (rO oz8)],.r [] [.callr (rO oz9)],b_,r_,r_]) Tryz.func195 (by kernel_rfl) (.c oz0<|.c hs<|.c (show (n.kd==1)=false by (refine decide_eq_false ?_;omega))<|.c (show (n.kd==2)=false by (refine decide_eq_false ?_;omega))<|.c (show (n.kd==4)=false by (refine decide_eq_false ?_;omega))<|.c (show (n.kd==5)=false by (refine decide_eq_false ?_;omega))<|.c (show (n.kd==3)=true by (refine decide_eq_true ?_;omega))<|.c oz7<|.c oz8<|.c oz9<|.c (show (n.kd==1 || n.kd==2 || n.kd==3 || n.kd==6 || n.kd==7)=true by (simp;omega))<|.n)
theorem plain4 (n:Nod) (hk:n.kd=4) (hw:n.w.length≤100000) (hb:n.b.length≤100000):VC L_ 195 ([nod n]) (nod ⟨n.kd,n.na,0,n.nk,n.ns,n.np,0,0,0,[],[],0,0,0,0,0,0,0,0⟩):=by
 have hk1:In64 n.kd:=⟨by omega,by omega⟩
 have hs:=nameEq_in (k:=n.kd) (by omega) (by omega)
 have oz0:=@name_v (n.kd) hk1
 have oz4:=(show (n.kd==4)=true by (refine decide_eq_true ?_;omega))
 have oz6:=@scaledK_v (n.kd)
 exact (VC.run (fn:=Tryz.f195) (W:=[r_,.r [] [.callr (rO oz0)],d_,r_,r_,r_,d_,r_,d_,r_,b_,b_,r_,.r [] [.callr (rO oz6)],d_,r_]) (r:=AV.agg [i64 n.kd,i64 n.na,i64 0,i64 n.nk,i64 n.ns,i64 n.np,i64 0,i8 0,i8 0,AV.lit (AY_ none 0 0),AV.lit (AY_ none 0 0),i32 0,i64 0,i8 0,i32 0,i64 0,i8 0,i8 0,i8 0]) Tryz.func195 (by kernel_rfl) (.c oz0<|.c hs<|.c (show (n.kd==1)=false by (refine decide_eq_false ?_;omega))<|.c (show (n.kd==2)=false by (refine decide_eq_false ?_;omega))<|.c oz4<|.c oz4<|.c oz6<|.c (show (n.kd==1 || n.kd==2 || n.kd==3 || n.kd==6 || n.kd==7)=false by (simp;omega))<|.n)).weak (B_ _) (AD_ (.cons (.refl _) (.cons (.refl _) (.cons (.refl _) (.cons (.refl _) (.cons (.refl _) (.cons (.refl _) (.cons (.refl _) (.cons (.refl _) (.cons (.refl _) (.cons (CK_ _) (.cons (CK_ _) (.cons (.refl _) (.cons (.refl _) (.cons (.refl _) (.cons (.refl _) (.cons (.refl _) (.cons (.refl _) (.cons (.refl _) (.cons (.refl _) .nil))))))))))))))))))))
theorem plain5 (n:Nod) (hk:n.kd=5) (hw:n.w.length≤100000) (hb:n.b.length≤100000):VC L_ 195 ([nod n]) (nod ⟨n.kd,n.na,0,n.nk,n.ns,n.np,0,0,0,[],[],0,0,0,0,0,0,0,0⟩):=by
 have hk1:In64 n.kd:=⟨by omega,by omega⟩
 have hs:=nameEq_in (k:=n.kd) (by omega) (by omega)
 have oz0:=@name_v (n.kd) hk1
 have oz6:=@scaledK_v (n.kd)
 exact (VC.run (fn:=Tryz.f195) (W:=[r_,.r [] [.callr (rO oz0)],d_,r_,r_,r_,d_,r_,d_,r_,d_,r_,b_,r_,.r [] [.callr (rO oz6)],d_,r_]) (r:=AV.agg [i64 n.kd,i64 n.na,i64 0,i64 n.nk,i64 n.ns,i64 n.np,i64 0,i8 0,i8 0,AV.lit (AY_ none 0 0),AV.lit (AY_ none 0 0),i32 0,i64 0,i8 0,i32 0,i64 0,i8 0,i8 0,i8 0]) Tryz.func195 (by kernel_rfl) (.c oz0<|.c hs<|.c (show (n.kd==1)=false by (refine decide_eq_false ?_;omega))<|.c (show (n.kd==2)=false by (refine decide_eq_false ?_;omega))<|.c (show (n.kd==4)=false by (refine decide_eq_false ?_;omega))<|.c (show (n.kd==5)=true by (refine decide_eq_true ?_;omega))<|.c oz6<|.c (show (n.kd==1 || n.kd==2 || n.kd==3 || n.kd==6 || n.kd==7)=false by (simp;omega))<|.n)).weak (B_ _) (AD_ (.cons (.refl _) (.cons (.refl _) (.cons (.refl _) (.cons (.refl _) (.cons (.refl _) (.cons (.refl _) (.cons (.refl _) (.cons (.refl _) (.cons (.refl _) (.cons (CK_ _) (.cons (CK_ _) (.cons (.refl _) (.cons (.refl _) (.cons (.refl _) (.cons (.refl _) (.cons (.refl _) (.cons (.refl _) (.cons (.refl _) (.cons (.refl _) .nil))))))))))))))))))))
theorem plain6 (n:Nod) (hk:n.kd=6) (hw:n.w.length≤100000) (hb:n.b.length≤100000):VC L_ 195 ([nod n]) (nod ⟨n.kd,n.na,n.nb,0,0,0,0,n.za,n.zb,[],[],n.qm,n.qs,n.qz,n.rm,n.rs,0,n.lo,n.hi⟩):=by
 have hk1:In64 n.kd:=⟨by omega,by omega⟩
 have hs:=nameEq_in (k:=n.kd) (by omega) (by omega)
 have oz0:=@name_v (n.kd) hk1
 have oz8:=@scaledK_v (n.kd)
 exact (VC.run (fn:=Tryz.f195) (W:=[r_,.r [] [.callr (rO oz0)],d_,r_,r_,r_,d_,r_,d_,r_,d_,r_,d_,r_,d_,r_,b_,r_,.r [] [.callr (rO oz8)],b_,r_,r_]) (r:=AV.agg [i64 n.kd,i64 n.na,i64 n.nb,i64 0,i64 0,i64 0,i64 0,i8 n.za,i8 n.zb,AV.lit (AY_ none 0 0),AV.lit (AY_ none 0 0),i32 n.qm,i64 n.qs,i8 n.qz,i32 n.rm,i64 n.rs,i8 0,i8 n.lo,i8 n.hi]) Tryz.func195 (by kernel_rfl) (.c oz0<|.c hs<|.c (show (n.kd==1)=false by (refine decide_eq_false ?_;omega))<|.c (show (n.kd==2)=false by (refine decide_eq_false ?_;omega))<|.c (show (n.kd==4)=false by (refine decide_eq_false ?_;omega))<|.c (show (n.kd==5)=false by (refine decide_eq_false ?_;omega))<|.c (show (n.kd==3)=false by (refine decide_eq_false ?_;omega))<|.c (show (n.kd==6)=true by (refine decide_eq_true ?_;omega))<|.c oz8<|.c (show (n.kd==1 || n.kd==2 || n.kd==3 || n.kd==6 || n.kd==7)=true by (simp;omega))<|.n)).weak (B_ _) (AD_ (.cons (.refl _) (.cons (.refl _) (.cons (.refl _) (.cons (.refl _) (.cons (.refl _) (.cons (.refl _) (.cons (.refl _) (.cons (.refl _) (.cons (.refl _) (.cons (CK_ _) (.cons (CK_ _) (.cons (.refl _) (.cons (.refl _) (.cons (.refl _) (.cons (.refl _) (.cons (.refl _) (.cons (.refl _) (.cons (.refl _) (.cons (.refl _) .nil))))))))))))))))))))
theorem plain7 (n:Nod) (hk:n.kd=7) (hw:n.w.length≤100000) (hb:n.b.length≤100000):VC L_ 195 ([nod n]) (nod ⟨n.kd,n.na,0,0,0,0,0,n.za,0,[],[],n.qm,n.qs,n.qz,0,0,0,n.lo,n.hi⟩):=by
 have hk1:In64 n.kd:=⟨by omega,by omega⟩
 have hs:=nameEq_in (k:=n.kd) (by omega) (by omega)
 have oz0:=@name_v (n.kd) hk1
 have oz9:=@scaledK_v (n.kd)
 exact (VC.run (fn:=Tryz.f195) (W:=[r_,.r [] [.callr (rO oz0)],d_,r_,r_,r_,d_,r_,d_,r_,d_,r_,d_,r_,d_,r_,d_,r_,d_,.r [] [.callr (rO oz9)],b_,r_,r_]) (r:=AV.agg [i64 n.kd,i64 n.na,i64 0,i64 0,i64 0,i64 0,i64 0,i8 n.za,i8 0,AV.lit (AY_ none 0 0),AV.lit (AY_ none 0 0),i32 n.qm,i64 n.qs,i8 n.qz,i32 0,i64 0,i8 0,i8 n.lo,i8 n.hi]) Tryz.func195 (by kernel_rfl) (.c oz0<|.c hs<|.c (show (n.kd==1)=false by (refine decide_eq_false ?_;omega))<|.c (show (n.kd==2)=false by (refine decide_eq_false ?_;omega))<|.c (show (n.kd==4)=false by (refine decide_eq_false ?_;omega))<|.c (show (n.kd==5)=false by (refine decide_eq_false ?_;omega))<|.c (show (n.kd==3)=false by (refine decide_eq_false ?_;omega))<|.c (show (n.kd==6)=false by (refine decide_eq_false ?_;omega))<|.c (show (n.kd==8)=false by (refine decide_eq_false ?_;omega))<|.c oz9<|.c (show (n.kd==1 || n.kd==2 || n.kd==3 || n.kd==6 || n.kd==7)=true by (simp;omega))<|.n)).weak (B_ _) (AD_ (.cons (.refl _) (.cons (.refl _) (.cons (.refl _) (.cons (.refl _) (.cons (.refl _) (.cons (.refl _) (.cons (.refl _) (.cons (.refl _) (.cons (.refl _) (.cons (CK_ _) (.cons (CK_ _) (.cons (.refl _) (.cons (.refl _) (.cons (.refl _) (.cons (.refl _) (.cons (.refl _) (.cons (.refl _) (.cons (.refl _) (.cons (.refl _) .nil))))))))))))))))))))
theorem plain8 (n:Nod) (hk:n.kd=8) (hw:n.w.length≤100000) (hb:n.b.length≤100000):VC L_ 195 ([nod n]) (nod ⟨n.kd,n.na,0,0,0,n.np,0,n.za,0,[],[],0,0,0,0,0,0,0,0⟩):=by
 have hk1:In64 n.kd:=⟨by omega,by omega⟩
 have hs:=nameEq_in (k:=n.kd) (by omega) (by omega)
 have oz0:=@name_v (n.kd) hk1
 have oz9:=@scaledK_v (n.kd)
 exact (VC.run (fn:=Tryz.f195) (W:=[r_,.r [] [.callr (rO oz0)],d_,r_,r_,r_,d_,r_,d_,r_,d_,r_,d_,r_,d_,r_,d_,r_,b_,r_,.r [] [.callr (rO oz9)],d_,r_]) (r:=AV.agg [i64 n.kd,i64 n.na,i64 0,i64 0,i64 0,i64 n.np,i64 0,i8 n.za,i8 0,AV.lit (AY_ none 0 0),AV.lit (AY_ none 0 0),i32 0,i64 0,i8 0,i32 0,i64 0,i8 0,i8 0,i8 0]) Tryz.func195 (by kernel_rfl) (.c oz0<|.c hs<|.c (show (n.kd==1)=false by (refine decide_eq_false ?_;omega))<|.c (show (n.kd==2)=false by (refine decide_eq_false ?_;omega))<|.c (show (n.kd==4)=false by (refine decide_eq_false ?_;omega))<|.c (show (n.kd==5)=false by (refine decide_eq_false ?_;omega))<|.c (show (n.kd==3)=false by (refine decide_eq_false ?_;omega))<|.c (show (n.kd==6)=false by (refine decide_eq_false ?_;omega))<|.c (show (n.kd==8)=true by (refine decide_eq_true ?_;omega))<|.c oz9<|.c (show (n.kd==1 || n.kd==2 || n.kd==3 || n.kd==6 || n.kd==7)=false by (simp;omega))<|.n)).weak (B_ _) (AD_ (.cons (.refl _) (.cons (.refl _) (.cons (.refl _) (.cons (.refl _) (.cons (.refl _) (.cons (.refl _) (.cons (.refl _) (.cons (.refl _) (.cons (.refl _) (.cons (CK_ _) (.cons (CK_ _) (.cons (.refl _) (.cons (.refl _) (.cons (.refl _) (.cons (.refl _) (.cons (.refl _) (.cons (.refl _) (.cons (.refl _) (.cons (.refl _) .nil))))))))))))))))))))
theorem plain9 (n:Nod) (hk:n.kd=9) (hw:n.w.length≤100000) (hb:n.b.length≤100000):VC L_ 195 ([nod n]) (nod ⟨n.kd,n.na,0,0,0,0,0,0,0,[],[],0,0,0,0,0,0,0,0⟩):=by
 have hk1:In64 n.kd:=⟨by omega,by omega⟩
 have hs:=nameEq_in (k:=n.kd) (by omega) (by omega)
 have oz0:=@name_v (n.kd) hk1
 have oz9:=@scaledK_v (n.kd)
 exact (VC.run (fn:=Tryz.f195) (W:=[r_,.r [] [.callr (rO oz0)],d_,r_,r_,r_,d_,r_,d_,r_,d_,r_,d_,r_,d_,r_,d_,r_,d_,.r [] [.callr (rO oz9)],d_,r_]) (r:=AV.agg [i64 n.kd,i64 n.na,i64 0,i64 0,i64 0,i64 0,i64 0,i8 0,i8 0,AV.lit (AY_ none 0 0),AV.lit (AY_ none 0 0),i32 0,i64 0,i8 0,i32 0,i64 0,i8 0,i8 0,i8 0]) Tryz.func195 (by kernel_rfl) (.c oz0<|.c hs<|.c (show (n.kd==1)=false by (refine decide_eq_false ?_;omega))<|.c (show (n.kd==2)=false by (refine decide_eq_false ?_;omega))<|.c (show (n.kd==4)=false by (refine decide_eq_false ?_;omega))<|.c (show (n.kd==5)=false by (refine decide_eq_false ?_;omega))<|.c (show (n.kd==3)=false by (refine decide_eq_false ?_;omega))<|.c (show (n.kd==6)=false by (refine decide_eq_false ?_;omega))<|.c (show (n.kd==8)=false by (refine decide_eq_false ?_;omega))<|.c oz9<|.c (show (n.kd==1 || n.kd==2 || n.kd==3 || n.kd==6 || n.kd==7)=false by (simp;omega))<|.n)).weak (B_ _) (AD_ (.cons (.refl _) (.cons (.refl _) (.cons (.refl _) (.cons (.refl _) (.cons (.refl _) (.cons (.refl _) (.cons (.refl _) (.cons (.refl _) (.cons (.refl _) (.cons (CK_ _) (.cons (CK_ _) (.cons (.refl _) (.cons (.refl _) (.cons (.refl _) (.cons (.refl _) (.cons (.refl _) (.cons (.refl _) (.cons (.refl _) (.cons (.refl _) .nil))))))))))))))))))))
def nodEq (a b:Nod):Bool:=decide (a.w=b.w)&&decide (a.b=b.b)&&eqNums [(Q_,a.kd,b.kd),(Q_,a.na,b.na),(Q_,a.nb,b.nb),(Q_,a.nk,b.nk),(Q_,a.ns,b.ns),(Q_,a.np,b.np),(Q_,a.no,b.no),(Q_,0,0)] &&
 eqNums [(V_,a.za,b.za),(V_,a.zb,b.zb),(V_,a.lo,b.lo),(V_,a.hi,b.hi)]&&eqNums [(Y_,a.qm,b.qm),(Q_,a.qs,b.qs),(V_,a.qz,b.qz)]&&eqNums [(Y_,a.rm,b.rm),(Q_,a.rs,b.rs),(V_,a.rz,b.rz)]
theorem same_v (a b:Nod) (hw:a.w.length≤100000) (hb:a.b.length≤100000):VC L_ 194 ([nod a,nod b]) (bv (nodEq a b)):=by
 have oz0:=@eq8_v (a.w) (b.w) (by omega)
 have oz1:=@eq32_v (a.b) (b.b) (by omega)
 exact (VC.run (fn:=Tryz.f194) (W:=[r_,.r [] [.callr (rO oz0),o_,o_,o_,o_,o_,.callr (rO oz1),.sel 2],.r [] [.v (BS_ (eqNums [(Q_,a.kd,b.kd),(Q_,a.na,b.na),(Q_,a.nb,b.nb),(Q_,a.nk,b.nk),(Q_,a.ns,b.ns),(Q_,a.np,b.np),(Q_,a.no,b.no),(Q_,0,0)]))],.r [] [.v (BS_ (eqNums [(V_,a.za,b.za),(V_,a.zb,b.zb),(V_,a.lo,b.lo),(V_,a.hi,b.hi)]))],.r [] [o_,.sel 2,o_,.sel 2,o_,o_,o_,o_,o_,.v (BS_ (eqNums [(Y_,a.qm,b.qm),(Q_,a.qs,b.qs),(V_,a.qz,b.qz)])),.sel 2,o_,o_,o_,o_,o_,.v (BS_ (eqNums [(Y_,a.rm,b.rm),(Q_,a.rs,b.rs),(V_,a.rz,b.rz)])),.sel 2]]) (r:=bv (decide (a.w=b.w)&&decide (a.b=b.b)&&eqNums [(Q_,a.kd,b.kd),(Q_,a.na,b.na),(Q_,a.nb,b.nb),(Q_,a.nk,b.nk),(Q_,a.ns,b.ns),(Q_,a.np,b.np),(Q_,a.no,b.no),(Q_,0,0)]&&eqNums [(V_,a.za,b.za),(V_,a.zb,b.zb),(V_,a.lo,b.lo),(V_,a.hi,b.hi)]&&eqNums [(Y_,a.qm,b.qm),(Q_,a.qs,b.qs),(V_,a.qz,b.qz)]&&eqNums [(Y_,a.rm,b.rm),(Q_,a.rs,b.rs),(V_,a.rz,b.rz)])) Tryz.func194 (by kernel_rfl) (.c oz0<|.c oz1<|.c (show BinTo L_ BinOp.eql 313 (Operand.tmp 34) (Operand.tmp 49) (BI_ #[AQ_ Q_ a.kd,AQ_ Q_ a.na,AQ_ Q_ a.nb,AQ_ Q_ a.nk,AQ_ Q_ a.ns,AQ_ Q_ a.np,AQ_ Q_ a.no,AQ_ Q_ 0]) (BI_ #[AQ_ Q_ b.kd,AQ_ Q_ b.na,AQ_ Q_ b.nb,AQ_ Q_ b.nk,AQ_ Q_ b.ns,AQ_ Q_ b.np,AQ_ Q_ b.no,AQ_ Q_ 0]) (BS_ (eqNums [(Q_,a.kd,b.kd),(Q_,a.na,b.na),(Q_,a.nb,b.nb),(Q_,a.nk,b.nk),(Q_,a.ns,b.ns),(Q_,a.np,b.np),(Q_,a.no,b.no),(Q_,0,0)])) from ((bin_arr (l:=[(Q_,a.kd,b.kd),(Q_,a.na,b.na),(Q_,a.nb,b.nb),(Q_,a.nk,b.nk),(Q_,a.ns,b.ns),(Q_,a.np,b.np),(Q_,a.no,b.no),(Q_,0,0)]) (by kernel_rfl) (by kernel_rfl) _ _).1))<|.c (show BinTo L_ BinOp.eql 270 (Operand.tmp 59) (Operand.tmp 68) (BI_ #[AQ_ V_ a.za,AQ_ V_ a.zb,AQ_ V_ a.lo,AQ_ V_ a.hi]) (BI_ #[AQ_ V_ b.za,AQ_ V_ b.zb,AQ_ V_ b.lo,AQ_ V_ b.hi]) (BS_ (eqNums [(V_,a.za,b.za),(V_,a.zb,b.zb),(V_,a.lo,b.lo),(V_,a.hi,b.hi)])) from ((bin_arr (l:=[(V_,a.za,b.za),(V_,a.zb,b.zb),(V_,a.lo,b.lo),(V_,a.hi,b.hi)]) (by kernel_rfl) (by kernel_rfl) _ _).1))<|.c (show BinTo L_ BinOp.eql 69 (Operand.tmp 79) (Operand.tmp 81) (BI_ #[AQ_ Y_ a.qm,AQ_ Q_ a.qs,AQ_ V_ a.qz]) (BI_ #[AQ_ Y_ b.qm,AQ_ Q_ b.qs,AQ_ V_ b.qz]) (BS_ (eqNums [(Y_,a.qm,b.qm),(Q_,a.qs,b.qs),(V_,a.qz,b.qz)])) from ((bin_nums (l:=[(Y_,a.qm,b.qm),(Q_,a.qs,b.qs),(V_,a.qz,b.qz)]) (by kernel_rfl) (by kernel_rfl) (by kernel_rfl) (by kernel_rfl) _ _).1))<|.c (show BinTo L_ BinOp.eql 69 (Operand.tmp 86) (Operand.tmp 88) (BI_ #[AQ_ Y_ a.rm,AQ_ Q_ a.rs,AQ_ V_ a.rz]) (BI_ #[AQ_ Y_ b.rm,AQ_ Q_ b.rs,AQ_ V_ b.rz]) (BS_ (eqNums [(Y_,a.rm,b.rm),(Q_,a.rs,b.rs),(V_,a.rz,b.rz)])) from ((bin_nums (l:=[(Y_,a.rm,b.rm),(Q_,a.rs,b.rs),(V_,a.rz,b.rz)]) (by kernel_rfl) (by kernel_rfl) (by kernel_rfl) (by kernel_rfl) _ _).1))<|.n)).weak (B_ _) (AZ_ (by rfl))
theorem nodEq_iff (a b:Nod):nodEq a b=true↔a=b:=by
 obtain ⟨a1,a2,a3,a4,a5,a6,a7,a8,a9,a10,a11,a12,a13,a14,a15,a16,a17,a18,a19⟩:=a
 obtain ⟨b1,b2,b3,b4,b5,b6,b7,b8,b9,b10,b11,b12,b13,b14,b15,b16,b17,b18,b19⟩:=b
 simp only[nodEq,eqNums,P_,E_,I_,Nod.mk.injEq]
 constructor
 ·rintro ⟨⟨⟨⟨⟨h1,h2⟩,h3⟩,h4⟩,h5⟩,h6⟩
  exact ⟨h3.1,h3.2.1,h3.2.2.1,h3.2.2.2.1,h3.2.2.2.2.1,h3.2.2.2.2.2.1,h3.2.2.2.2.2.2.1,h4.1,h4.2.1,h1,h2,h5.1,h5.2.1,h5.2.2.1,h6.1,h6.2.1,h6.2.2.1,h4.2.2.1,h4.2.2.2.1⟩
 ·rintro ⟨h1,h2,h3,h4,h5,h6,h7,h8,h9,h10,h11,h12,h13,h14,h15,h16,h17,h18,h19⟩
  exact ⟨⟨⟨⟨⟨h10,h11⟩,h1,h2,h3,h4,h5,h6,h7,trivial,trivial⟩,h8,h9,h18,h19,trivial⟩,h12,h13,h14,trivial⟩,h15,h16,h17,trivial⟩
theorem refScaled_v (k:Int)  : VC L_ 107 ([i64 k]) (bv (((k==1 || k==2) || k==3) || k==6 || k==7)):=by
 exact VC.run (fn:=Tryz.f107) (W:=[r_,.r [] [o_,o_,.sel 1,o_,o_,.sel 1,o_,o_,.sel 1,o_,o_,.sel 1]]) Tryz.func107 (by kernel_rfl) (.n)
def scaledB (k:Int):Bool:=((k==1 || k==2) || k==3) || k==6 || k==7
def moreE (n:Nod):Bool :=
 (!(n.kd==1 || n.kd==2 || n.kd==3)&&(decide ((n.w.length:Int)>0) || decide ((n.b.length:Int)>0)) || n.kd != 1&&n.kd != 3&&n.no != 0) ||
 (!(n.kd==1 || n.kd==2 || n.kd==4 || n.kd==5)&&(n.nk != 0 || n.ns != 0) || !(n.kd==1 || n.kd==2 || n.kd==4 || n.kd==5)&&n.kd != 8&&n.np != 0) ||
 (n.kd != 6&&(n.nb != 0 || n.zb != 0 || n.rm != 0 || n.rs != 0) || n.rz != 0) ||
 (!scaledB n.kd&&(n.qm != 0 || n.qs != 0 || n.qz != 0 || n.lo != 0 || n.hi != 0)) || (!scaledB n.kd&&n.kd != 8&&n.za != 0)
theorem moreE_last {n:Nod} (h0:(!(n.kd==1 || n.kd==2 || n.kd==3)&&(decide (((K_ (row1 .i8) n.w).length:Int)>0) || decide (((K_ (row1 .i32) n.b).length:Int)>0)) || n.kd != 1&&n.kd != 3&&n.no != 0)=false) (h1:(!(n.kd==1 || n.kd==2 || n.kd==4 || n.kd==5)&&(n.nk != 0 || n.ns != 0) || !(n.kd==1 || n.kd==2 || n.kd==4 || n.kd==5)&&n.kd != 8&&n.np != 0)=false) (h2:(n.kd != 6&&(n.nb != 0 || n.zb != 0 || n.rm != 0 || n.rs != 0) || n.rz != 0)=false) (h3:(!(n.kd==1 || n.kd==2 || n.kd==3 || n.kd==6 || n.kd==7)&&(n.qm != 0 || n.qs != 0 || n.qz != 0 || n.lo != 0 || n.hi != 0))=false):(!(n.kd==1 || n.kd==2 || n.kd==3 || n.kd==6 || n.kd==7)&&n.kd != 8&&n.za != 0)=moreE n:=by
 rw[N_,N_] at h0
 unfold moreE scaledB
 rw[h0,h1,h2,h3];rfl
theorem moreE_0 {n:Nod} (h0:(!(n.kd==1 || n.kd==2 || n.kd==3)&&(decide (((K_ (row1 .i8) n.w).length:Int)>0) || decide (((K_ (row1 .i32) n.b).length:Int)>0)) || n.kd != 1&&n.kd != 3&&n.no != 0)=true):true=moreE n:=by
 rw[N_,N_] at h0
 unfold moreE
 rw[h0];rfl
theorem moreE_1 {n:Nod} (h1:(!(n.kd==1 || n.kd==2 || n.kd==4 || n.kd==5)&&(n.nk != 0 || n.ns != 0) || !(n.kd==1 || n.kd==2 || n.kd==4 || n.kd==5)&&n.kd != 8&&n.np != 0)=true):true=moreE n:=by
 unfold moreE
 rw[h1,DM_];rfl
theorem moreE_2 {n:Nod} (h1:(n.kd != 6&&(n.nb != 0 || n.zb != 0 || n.rm != 0 || n.rs != 0) || n.rz != 0)=true):true=moreE n:=by
 unfold moreE
 rw[h1,DM_];rfl
theorem moreE_3 {n:Nod} (h1:(!(n.kd==1 || n.kd==2 || n.kd==3 || n.kd==6 || n.kd==7)&&(n.qm != 0 || n.qs != 0 || n.qz != 0 || n.lo != 0 || n.hi != 0))=true):true=moreE n:=by
 unfold moreE scaledB
 rw[h1,DM_];rfl
theorem refMore_v (n:Nod) (hw:n.w.length≤100000) (hb:n.b.length≤100000):VC L_ 106 ([nod n]) (bv (moreE n)):=by
 rcases bft (!(n.kd==1 || n.kd==2 || n.kd==3)&&(decide (((K_ (row1 .i8) n.w).length:Int)>0) || decide (((K_ (row1 .i32) n.b).length:Int)>0)) || n.kd != 1&&n.kd != 3&&n.no != 0) with hc0|hc0
 ·have gc0:((¬n.kd=1∧¬n.kd=2)∧¬n.kd=3)∧(((K_ (row1 .i8) n.w).length:Int)>0∨((K_ (row1 .i32) n.b).length:Int)>0)∨(¬n.kd=1∧¬n.kd=3)∧¬n.no=0:=by simp only[Z_,T_,P_,S_,W_,U_,E_,F_,I_,J_,ne_eq,H_,G_,eqNums,C_] at hc0;first|exact hc0|omega
  exact (VC.run (fn:=Tryz.f106) (W:=[r_,r_,.r [] [o_,o_,.sel 1,o_,o_,.sel 1,o_,o_,.sel 1],.r [] [o_,o_,.sel 1,o_,o_,.sel 1],.r [] [o_,o_,o_,o_,o_,o_,o_,o_,o_,o_,.sel 1,.sel 2,o_,o_,o_,o_,o_,o_,.sel 2,o_,o_,o_,o_,o_,.sel 2,.sel 1],b_,r_]) (r:=bv true) Tryz.func106 (by kernel_rfl) (.c hc0<|.n)).weak (B_ _) (AZ_ (by (exact moreE_0 (by assumption))))
 ·have gc0:(((n.kd=1∨n.kd=2)∨n.kd=3)∨¬((K_ (row1 .i8) n.w).length:Int)>0∧¬((K_ (row1 .i32) n.b).length:Int)>0)∧((n.kd=1∨n.kd=3)∨n.no=0):=by simp only[Z_,T_,P_,S_,W_,U_,E_,F_,I_,J_,ne_eq,H_,G_,eqNums,C_] at hc0;first|exact hc0|omega
  rcases bft (!(n.kd==1 || n.kd==2 || n.kd==4 || n.kd==5)&&(n.nk != 0 || n.ns != 0) || !(n.kd==1 || n.kd==2 || n.kd==4 || n.kd==5)&&n.kd != 8&&n.np != 0) with hc1|hc1
  ·have gc1:(((¬n.kd=1∧¬n.kd=2)∧¬n.kd=4)∧¬n.kd=5)∧(¬n.nk=0∨¬n.ns=0)∨((((¬n.kd=1∧¬n.kd=2)∧¬n.kd=4)∧¬n.kd=5)∧¬n.kd=8)∧¬n.np=0:=by simp only[Z_,T_,P_,S_,W_,U_,E_,F_,I_,J_,ne_eq,H_,G_,eqNums,C_] at hc1;first|exact hc1|omega
   exact (VC.run (fn:=Tryz.f106) (W:=[r_,r_,.r [] [o_,o_,.sel 1,o_,o_,.sel 1,o_,o_,.sel 1],.r [] [o_,o_,.sel 1,o_,o_,.sel 1],.r [] [o_,o_,o_,o_,o_,o_,o_,o_,o_,o_,.sel 1,.sel 2,o_,o_,o_,o_,o_,o_,.sel 2,o_,o_,o_,o_,o_,.sel 2,.sel 1],d_,.r [] [o_,o_,o_,o_,o_,o_,o_,o_,.sel 1,.sel 2,o_,o_,o_,o_,o_,o_,.sel 2,o_,o_,o_,o_,o_,.sel 2,.sel 1],b_,r_]) (r:=bv true) Tryz.func106 (by kernel_rfl) (.c hc0<|.c hc1<|.n)).weak (B_ _) (AZ_ (by (exact moreE_1 (by assumption))))
  ·have gc1:((((n.kd=1∨n.kd=2)∨n.kd=4)∨n.kd=5)∨n.nk=0∧n.ns=0)∧(((((n.kd=1∨n.kd=2)∨n.kd=4)∨n.kd=5)∨n.kd=8)∨n.np=0):=by simp only[Z_,T_,P_,S_,W_,U_,E_,F_,I_,J_,ne_eq,H_,G_,eqNums,C_] at hc1;first|exact hc1|omega
   rcases bft (n.kd != 6&&(n.nb != 0 || n.zb != 0 || n.rm != 0 || n.rs != 0) || n.rz != 0) with hc2|hc2
   ·have gc2:¬n.kd=6∧(((¬n.nb=0∨¬n.zb=0)∨¬n.rm=0)∨¬n.rs=0)∨¬n.rz=0:=by simp only[Z_,T_,P_,S_,W_,U_,E_,F_,I_,J_,ne_eq,H_,G_,eqNums,C_] at hc2;first|exact hc2|omega
    exact (VC.run (fn:=Tryz.f106) (W:=[r_,r_,.r [] [o_,o_,.sel 1,o_,o_,.sel 1,o_,o_,.sel 1],.r [] [o_,o_,.sel 1,o_,o_,.sel 1],.r [] [o_,o_,o_,o_,o_,o_,o_,o_,o_,o_,.sel 1,.sel 2,o_,o_,o_,o_,o_,o_,.sel 2,o_,o_,o_,o_,o_,.sel 2,.sel 1],d_,.r [] [o_,o_,o_,o_,o_,o_,o_,o_,.sel 1,.sel 2,o_,o_,o_,o_,o_,o_,.sel 2,o_,o_,o_,o_,o_,.sel 2,.sel 1],d_,.r [] [o_,o_,o_,o_,o_,o_,o_,o_,.sel 1,o_,o_,o_,o_,o_,o_,.sel 1,o_,o_,o_,o_,o_,o_,.sel 1,.sel 2,o_,o_,o_,o_,.sel 1],b_,r_]) (r:=bv true) Tryz.func106 (by kernel_rfl) (.c hc0<|.c hc1<|.c hc2<|.n)).weak (B_ _) (AZ_ (by (exact moreE_2 (by assumption))))
   ·have gc2:(n.kd=6∨((n.nb=0∧n.zb=0)∧n.rm=0)∧n.rs=0)∧n.rz=0:=by simp only[Z_,T_,P_,S_,W_,U_,E_,F_,I_,J_,ne_eq,H_,G_,eqNums,C_] at hc2;first|exact hc2|omega
    have oz3:=@refScaled_v (n.kd)
    rcases bft (!(n.kd==1 || n.kd==2 || n.kd==3 || n.kd==6 || n.kd==7)&&(n.qm != 0 || n.qs != 0 || n.qz != 0 || n.lo != 0 || n.hi != 0)) with hc3|hc3
    ·have gc3:((((¬n.kd=1∧¬n.kd=2)∧¬n.kd=3)∧¬n.kd=6)∧¬n.kd=7)∧((((¬n.qm=0∨¬n.qs=0)∨¬n.qz=0)∨¬n.lo=0)∨¬n.hi=0):=by simp only[Z_,T_,P_,S_,W_,U_,E_,F_,I_,J_,ne_eq,H_,G_,eqNums,C_] at hc3;first|exact hc3|omega
     exact (VC.run (fn:=Tryz.f106) (W:=[r_,r_,.r [] [o_,o_,.sel 1,o_,o_,.sel 1,o_,o_,.sel 1],.r [] [o_,o_,.sel 1,o_,o_,.sel 1],.r [] [o_,o_,o_,o_,o_,o_,o_,o_,o_,o_,.sel 1,.sel 2,o_,o_,o_,o_,o_,o_,.sel 2,o_,o_,o_,o_,o_,.sel 2,.sel 1],d_,.r [] [o_,o_,o_,o_,o_,o_,o_,o_,.sel 1,.sel 2,o_,o_,o_,o_,o_,o_,.sel 2,o_,o_,o_,o_,o_,.sel 2,.sel 1],d_,.r [] [o_,o_,o_,o_,o_,o_,o_,o_,.sel 1,o_,o_,o_,o_,o_,o_,.sel 1,o_,o_,o_,o_,o_,o_,.sel 1,.sel 2,o_,o_,o_,o_,.sel 1],d_,.r [] [.callr (rO oz3),o_,o_,o_,o_,o_,o_,o_,o_,o_,o_,.sel 1,o_,o_,o_,o_,o_,o_,.sel 1,o_,o_,o_,o_,o_,.sel 1,o_,o_,o_,o_,o_,.sel 1,.sel 2],b_,r_]) (r:=bv true) Tryz.func106 (by kernel_rfl) (.c hc0<|.c hc1<|.c hc2<|.c oz3<|.c hc3<|.n)).weak (B_ _) (AZ_ (by (exact moreE_3 (by assumption))))
    ·have gc3:((((n.kd=1∨n.kd=2)∨n.kd=3)∨n.kd=6)∨n.kd=7)∨(((n.qm=0∧n.qs=0)∧n.qz=0)∧n.lo=0)∧n.hi=0:=by simp only[Z_,T_,P_,S_,W_,U_,E_,F_,I_,J_,ne_eq,H_,G_,eqNums,C_] at hc3;first|exact hc3|omega
     exact (VC.run (fn:=Tryz.f106) (W:=[r_,r_,.r [] [o_,o_,.sel 1,o_,o_,.sel 1,o_,o_,.sel 1],.r [] [o_,o_,.sel 1,o_,o_,.sel 1],.r [] [o_,o_,o_,o_,o_,o_,o_,o_,o_,o_,.sel 1,.sel 2,o_,o_,o_,o_,o_,o_,.sel 2,o_,o_,o_,o_,o_,.sel 2,.sel 1],d_,.r [] [o_,o_,o_,o_,o_,o_,o_,o_,.sel 1,.sel 2,o_,o_,o_,o_,o_,o_,.sel 2,o_,o_,o_,o_,o_,.sel 2,.sel 1],d_,.r [] [o_,o_,o_,o_,o_,o_,o_,o_,.sel 1,o_,o_,o_,o_,o_,o_,.sel 1,o_,o_,o_,o_,o_,o_,.sel 1,.sel 2,o_,o_,o_,o_,.sel 1],d_,.r [] [.callr (rO oz3),o_,o_,o_,o_,o_,o_,o_,o_,o_,o_,.sel 1,o_,o_,o_,o_,o_,o_,.sel 1,o_,o_,o_,o_,o_,.sel 1,o_,o_,o_,o_,o_,.sel 1,.sel 2],d_,.r [] [.callr (rO oz3),o_,o_,.sel 2,o_,o_,o_,.sel 2]]) (r:=bv (!(n.kd==1 || n.kd==2 || n.kd==3 || n.kd==6 || n.kd==7)&&n.kd != 8&&n.za != 0)) Tryz.func106 (by kernel_rfl) (.c hc0<|.c hc1<|.c hc2<|.c oz3<|.c hc3<|.c oz3<|.n)).weak (B_ _) (AZ_ (by (exact moreE_last (by assumption) (by assumption) (by assumption) (by assumption))))
def checkE (n:Nod):Int:=if n.kd<1∨9<n.kd then 6 else if moreE n=true then 2 else if (scaledB n.kd && !rightQ n.qm n.qs || n.kd==6 && !rightQ n.rm n.rs)=true then 7 else if (scaledB n.kd&&decide (n.lo>n.hi))=true then 2 else 0
end Go.Proofs.YtgimdjfbnbkpgaaGreat
