/- A part of this claim. No condition. -/
import Derived.Test.YtdfihaminnmgpaaGreatBundleBackG6
set_option maxRecDepth 100000
set_option maxHeartbeats 2000000
set_option linter.unusedVariables false
set_option linter.unusedSimpArgs false
set_option linter.unnecessarySimpa false
namespace Go.Proofs.YtdfihaminnmgpaaGreat
open Go.RowKit
open Bool renaming and_eq_true→N_,and_eq_false_iff→T_,or_eq_false_iff→U_,not_eq_false'→X_,not_eq_true'→A_,or_eq_true→D_,and_true→AN_
open Int renaming toNat_natCast→AJ_
open IntKind renaming i64→O_,i8→S_,i32→V_,wrap_u64→CX_
open IntWalk renaming i32_in→CR_
open List renaming map→K_,length_append→P_,length_map→R_,getElem?_eq_getElem→Z_,map_append→B_,getD_eq_getElem?_getD→AU_,append_assoc→AZ_,length_cons→AE_,length_drop→BK_,length_take→BS_,mem_append→BH_,getElem?_drop→CL_,all_cons→CO_,mem_of_mem_take→CJ_
open Nat renaming le_trans→Y_,le_refl→AX_,zero_le→AD_
open Tryz renaming prog→L_,func131→CB_
open Value renaming slice→AQ_,int→AS_,bool→BD_,agg→CT_
open Weak renaming bool→AF_,nil→AG_,tup→AI_,agg→BL_
open WeakL renaming refl→AM_
def lstW (s:Rst):List Int:=smlV (cntS s 16384) (cntV s 16384)
def lst1 (s:Rst):Rst:=smlS (cntS s 16384) (cntV s 16384)
def lstB (s:Rst):List Int:=widV (cntS (lst1 s) 16384) (cntV (lst1 s) 16384)
def lstS (s:Rst):Rst:=widS (cntS (lst1 s) 16384) (cntV (lst1 s) 16384)
def sclS (s:Rst):Rst:=cntS (cntS s 2147483647) 62
def sclM (s:Rst):Int:=cntV s 2147483647
def sclH (s:Rst):Int:=cntV (cntS s 2147483647) 62
theorem lst_in {s:Rst} (h:s.In):(lstS s).In:=wid_in (cnt_in (sml_in (cnt_in h _) _) _) _
theorem scl_in {s:Rst} (h:s.In):(sclS s).In:=cnt_in (cnt_in h _) _
theorem tlists_v (s:Rst) (n:Nod) (h:s.In):VM L_ 132 [.ifc 183 (.agg [.ptr 100000 0 0]),.ptr 100001 0 9,.ptr 100001 0 10] [(100000,.var (rdC s)),(100001,.var (nodC n))] (.tup []) [(100000,.var (rdC (lstS s))),(100001,.var (nodC { n with w:=lstW s,b:=lstB s }))]:=tlists_0 s n h
theorem tscale_qv (s:Rst) (n:Nod) (h:s.In):VM L_ 168 [.ifc 183 (.agg [.ptr 100000 0 0]),.ptr 100001 0 11] [(100000,.var (rdC s)),(100001,.var (nodC n))] (.tup []) [(100000,.var (rdC (sclS s))),(100001,.var (nodC { n with qm:=sclM s,qs:=sclH s }))]:=tscale_q s n h
theorem tscale_rv (s:Rst) (n:Nod) (h:s.In):VM L_ 168 [.ifc 183 (.agg [.ptr 100000 0 0]),.ptr 100001 0 14] [(100000,.var (rdC s)),(100001,.var (nodC n))] (.tup []) [(100000,.var (rdC (sclS s))),(100001,.var (nodC { n with rm:=sclM s,rs:=sclH s }))]:=tscale_r s n h
def ts_1 (s:Rst):Rst:=(smlS (smlS (smlS (sclS (lstS (smlS (cntS (cntS (cntS (cntS (cntS (cntS s 9) 1024) 1024) 1024) 1024) 1024) 1))) 1) 1) 1)
def tn_1 (s:Rst) (n:Nod):Nod:={ n with kd:=cntV s 9,na:=cntV (cntS s 9) 1024,nk:=cntV (cntS (cntS s 9) 1024) 1024,ns:=cntV (cntS (cntS (cntS s 9) 1024) 1024) 1024,np:=cntV (cntS (cntS (cntS (cntS s 9) 1024) 1024) 1024) 1024,no:=cntV (cntS (cntS (cntS (cntS (cntS s 9) 1024) 1024) 1024) 1024) 1024,za:=oneV (cntS (cntS (cntS (cntS (cntS (cntS s 9) 1024) 1024) 1024) 1024) 1024),w:=lstW (smlS (cntS (cntS (cntS (cntS (cntS (cntS s 9) 1024) 1024) 1024) 1024) 1024) 1),b:=lstB (smlS (cntS (cntS (cntS (cntS (cntS (cntS s 9) 1024) 1024) 1024) 1024) 1024) 1),qm:=sclM (lstS (smlS (cntS (cntS (cntS (cntS (cntS (cntS s 9) 1024) 1024) 1024) 1024) 1024) 1)),qs:=sclH (lstS (smlS (cntS (cntS (cntS (cntS (cntS (cntS s 9) 1024) 1024) 1024) 1024) 1024) 1)),qz:=oneV (sclS (lstS (smlS (cntS (cntS (cntS (cntS (cntS (cntS s 9) 1024) 1024) 1024) 1024) 1024) 1))),lo:=oneV (smlS (sclS (lstS (smlS (cntS (cntS (cntS (cntS (cntS (cntS s 9) 1024) 1024) 1024) 1024) 1024) 1))) 1),hi:=oneV (smlS (smlS (sclS (lstS (smlS (cntS (cntS (cntS (cntS (cntS (cntS s 9) 1024) 1024) 1024) 1024) 1024) 1))) 1) 1) }
theorem twalk_1 (s:Rst) (n:Nod) (h:s.In) (hk:cntV s 9=1) (z1:n.za=0) (z2:n.zb=0) (z3:n.qz=0) (z4:n.lo=0) (z5:n.hi=0):VM L_ 131 ([.ifc 183 (.agg [.ptr 100000 0 0]),.ptr 100001 0 0]) ([(100000,.var (rdC s)),(100001,.var (nodC n))]) (.tup []) ([(100000,.var (rdC (smlS (smlS (smlS (sclS (lstS (smlS (cntS (cntS (cntS (cntS (cntS (cntS s 9) 1024) 1024) 1024) 1024) 1024) 1))) 1) 1) 1))),(100001,.var (nodC { n with kd:=cntV s 9,na:=cntV (cntS s 9) 1024,nk:=cntV (cntS (cntS s 9) 1024) 1024,ns:=cntV (cntS (cntS (cntS s 9) 1024) 1024) 1024,np:=cntV (cntS (cntS (cntS (cntS s 9) 1024) 1024) 1024) 1024,no:=cntV (cntS (cntS (cntS (cntS (cntS s 9) 1024) 1024) 1024) 1024) 1024,za:=oneV (cntS (cntS (cntS (cntS (cntS (cntS s 9) 1024) 1024) 1024) 1024) 1024),w:=lstW (smlS (cntS (cntS (cntS (cntS (cntS (cntS s 9) 1024) 1024) 1024) 1024) 1024) 1),b:=lstB (smlS (cntS (cntS (cntS (cntS (cntS (cntS s 9) 1024) 1024) 1024) 1024) 1024) 1),qm:=sclM (lstS (smlS (cntS (cntS (cntS (cntS (cntS (cntS s 9) 1024) 1024) 1024) 1024) 1024) 1)),qs:=sclH (lstS (smlS (cntS (cntS (cntS (cntS (cntS (cntS s 9) 1024) 1024) 1024) 1024) 1024) 1)),qz:=oneV (sclS (lstS (smlS (cntS (cntS (cntS (cntS (cntS (cntS s 9) 1024) 1024) 1024) 1024) 1024) 1))),lo:=oneV (smlS (sclS (lstS (smlS (cntS (cntS (cntS (cntS (cntS (cntS s 9) 1024) 1024) 1024) 1024) 1024) 1))) 1),hi:=oneV (smlS (smlS (sclS (lstS (smlS (cntS (cntS (cntS (cntS (cntS (cntS s 9) 1024) 1024) 1024) 1024) 1024) 1))) 1) 1) }))]):=by
 have oz0:=(show NilNo L_ (183:Nat) "stepwell/pack.number" from (nilNo (f:=97) (by kernel_rfl)))
 have oz1:=@tnum_kd (s) (n) (9) h (by omega) (by omega)
 have oz2:=(show MethodIs L_ (183:Nat) "stepwell/pack.number" (methF L_ (183:Nat) "stepwell/pack.number") from (methodIs (by kernel_rfl)))
 have oz4:=@tnum_na (cntS s 9) (Nod.mk (cntV s 9) n.na n.nb n.nk n.ns n.np n.no n.za n.zb n.w n.b n.qm n.qs n.qz n.rm n.rs n.rz n.lo n.hi) (1024) (by (repeat first|exact h|apply cnt_in|apply sml_in|apply lst_in|apply scl_in)) (by (try dsimp only)<;>omega) (by (try dsimp only)<;>omega)
 have oz6:=@of_1 (cntV s 9) hk
 have oz7:=@tsides_1 (cntS (cntS s 9) 1024) (Nod.mk (cntV s 9) (cntV (cntS s 9) 1024) n.nb n.nk n.ns n.np n.no n.za n.zb n.w n.b n.qm n.qs n.qz n.rm n.rs n.rz n.lo n.hi) (by (repeat first|exact h|apply cnt_in|apply sml_in|apply lst_in|apply scl_in)) hk
 have oz8:=z0_
 have oz9:=@tone_za (cntS (cntS (cntS (cntS (cntS (cntS s 9) 1024) 1024) 1024) 1024) 1024) (Nod.mk (cntV s 9) (cntV (cntS s 9) 1024) n.nb (cntV (cntS (cntS s 9) 1024) 1024) (cntV (cntS (cntS (cntS s 9) 1024) 1024) 1024) (cntV (cntS (cntS (cntS (cntS s 9) 1024) 1024) 1024) 1024) (cntV (cntS (cntS (cntS (cntS (cntS s 9) 1024) 1024) 1024) 1024) 1024) n.za n.zb n.w n.b n.qm n.qs n.qz n.rm n.rs n.rz n.lo n.hi) (by (repeat first|exact h|apply cnt_in|apply sml_in|apply lst_in|apply scl_in)) z1
 have oz10:=z1_
 have oz12:=@tlists_v (smlS (cntS (cntS (cntS (cntS (cntS (cntS s 9) 1024) 1024) 1024) 1024) 1024) 1) (Nod.mk (cntV s 9) (cntV (cntS s 9) 1024) n.nb (cntV (cntS (cntS s 9) 1024) 1024) (cntV (cntS (cntS (cntS s 9) 1024) 1024) 1024) (cntV (cntS (cntS (cntS (cntS s 9) 1024) 1024) 1024) 1024) (cntV (cntS (cntS (cntS (cntS (cntS s 9) 1024) 1024) 1024) 1024) 1024) (oneV (cntS (cntS (cntS (cntS (cntS (cntS s 9) 1024) 1024) 1024) 1024) 1024)) n.zb n.w n.b n.qm n.qs n.qz n.rm n.rs n.rz n.lo n.hi) (by (repeat first|exact h|apply cnt_in|apply sml_in|apply lst_in|apply scl_in))
 have oz14:=@tscale_qv (lstS (smlS (cntS (cntS (cntS (cntS (cntS (cntS s 9) 1024) 1024) 1024) 1024) 1024) 1)) (Nod.mk (cntV s 9) (cntV (cntS s 9) 1024) n.nb (cntV (cntS (cntS s 9) 1024) 1024) (cntV (cntS (cntS (cntS s 9) 1024) 1024) 1024) (cntV (cntS (cntS (cntS (cntS s 9) 1024) 1024) 1024) 1024) (cntV (cntS (cntS (cntS (cntS (cntS s 9) 1024) 1024) 1024) 1024) 1024) (oneV (cntS (cntS (cntS (cntS (cntS (cntS s 9) 1024) 1024) 1024) 1024) 1024)) n.zb (lstW (smlS (cntS (cntS (cntS (cntS (cntS (cntS s 9) 1024) 1024) 1024) 1024) 1024) 1)) (lstB (smlS (cntS (cntS (cntS (cntS (cntS (cntS s 9) 1024) 1024) 1024) 1024) 1024) 1)) n.qm n.qs n.qz n.rm n.rs n.rz n.lo n.hi) (by (repeat first|exact h|apply cnt_in|apply sml_in|apply lst_in|apply scl_in))
 have oz15:=@tone_qz (sclS (lstS (smlS (cntS (cntS (cntS (cntS (cntS (cntS s 9) 1024) 1024) 1024) 1024) 1024) 1))) (Nod.mk (cntV s 9) (cntV (cntS s 9) 1024) n.nb (cntV (cntS (cntS s 9) 1024) 1024) (cntV (cntS (cntS (cntS s 9) 1024) 1024) 1024) (cntV (cntS (cntS (cntS (cntS s 9) 1024) 1024) 1024) 1024) (cntV (cntS (cntS (cntS (cntS (cntS s 9) 1024) 1024) 1024) 1024) 1024) (oneV (cntS (cntS (cntS (cntS (cntS (cntS s 9) 1024) 1024) 1024) 1024) 1024)) n.zb (lstW (smlS (cntS (cntS (cntS (cntS (cntS (cntS s 9) 1024) 1024) 1024) 1024) 1024) 1)) (lstB (smlS (cntS (cntS (cntS (cntS (cntS (cntS s 9) 1024) 1024) 1024) 1024) 1024) 1)) (sclM (lstS (smlS (cntS (cntS (cntS (cntS (cntS (cntS s 9) 1024) 1024) 1024) 1024) 1024) 1))) (sclH (lstS (smlS (cntS (cntS (cntS (cntS (cntS (cntS s 9) 1024) 1024) 1024) 1024) 1024) 1))) n.qz n.rm n.rs n.rz n.lo n.hi) (by (repeat first|exact h|apply cnt_in|apply sml_in|apply lst_in|apply scl_in)) z3
 have oz17:=@tone_lo (smlS (sclS (lstS (smlS (cntS (cntS (cntS (cntS (cntS (cntS s 9) 1024) 1024) 1024) 1024) 1024) 1))) 1) (Nod.mk (cntV s 9) (cntV (cntS s 9) 1024) n.nb (cntV (cntS (cntS s 9) 1024) 1024) (cntV (cntS (cntS (cntS s 9) 1024) 1024) 1024) (cntV (cntS (cntS (cntS (cntS s 9) 1024) 1024) 1024) 1024) (cntV (cntS (cntS (cntS (cntS (cntS s 9) 1024) 1024) 1024) 1024) 1024) (oneV (cntS (cntS (cntS (cntS (cntS (cntS s 9) 1024) 1024) 1024) 1024) 1024)) n.zb (lstW (smlS (cntS (cntS (cntS (cntS (cntS (cntS s 9) 1024) 1024) 1024) 1024) 1024) 1)) (lstB (smlS (cntS (cntS (cntS (cntS (cntS (cntS s 9) 1024) 1024) 1024) 1024) 1024) 1)) (sclM (lstS (smlS (cntS (cntS (cntS (cntS (cntS (cntS s 9) 1024) 1024) 1024) 1024) 1024) 1))) (sclH (lstS (smlS (cntS (cntS (cntS (cntS (cntS (cntS s 9) 1024) 1024) 1024) 1024) 1024) 1))) (oneV (sclS (lstS (smlS (cntS (cntS (cntS (cntS (cntS (cntS s 9) 1024) 1024) 1024) 1024) 1024) 1)))) n.rm n.rs n.rz n.lo n.hi) (by (repeat first|exact h|apply cnt_in|apply sml_in|apply lst_in|apply scl_in)) z4
 have oz18:=@tone_hi (smlS (smlS (sclS (lstS (smlS (cntS (cntS (cntS (cntS (cntS (cntS s 9) 1024) 1024) 1024) 1024) 1024) 1))) 1) 1) (Nod.mk (cntV s 9) (cntV (cntS s 9) 1024) n.nb (cntV (cntS (cntS s 9) 1024) 1024) (cntV (cntS (cntS (cntS s 9) 1024) 1024) 1024) (cntV (cntS (cntS (cntS (cntS s 9) 1024) 1024) 1024) 1024) (cntV (cntS (cntS (cntS (cntS (cntS s 9) 1024) 1024) 1024) 1024) 1024) (oneV (cntS (cntS (cntS (cntS (cntS (cntS s 9) 1024) 1024) 1024) 1024) 1024)) n.zb (lstW (smlS (cntS (cntS (cntS (cntS (cntS (cntS s 9) 1024) 1024) 1024) 1024) 1024) 1)) (lstB (smlS (cntS (cntS (cntS (cntS (cntS (cntS s 9) 1024) 1024) 1024) 1024) 1024) 1)) (sclM (lstS (smlS (cntS (cntS (cntS (cntS (cntS (cntS s 9) 1024) 1024) 1024) 1024) 1024) 1))) (sclH (lstS (smlS (cntS (cntS (cntS (cntS (cntS (cntS s 9) 1024) 1024) 1024) 1024) 1024) 1))) (oneV (sclS (lstS (smlS (cntS (cntS (cntS (cntS (cntS (cntS s 9) 1024) 1024) 1024) 1024) 1024) 1)))) n.rm n.rs n.rz (oneV (smlS (sclS (lstS (smlS (cntS (cntS (cntS (cntS (cntS (cntS s 9) 1024) 1024) 1024) 1024) 1024) 1))) 1)) n.hi) (by (repeat first|exact h|apply cnt_in|apply sml_in|apply lst_in|apply scl_in)) z5
 exact VM.run (fn:=Tryz.f131) (W:=[.r [] [cn oz1],.r [] [cn oz4],.r [] [cr oz6],.r [] [cn oz7],r_,b_,.r [] [cn oz9],r_,d_,r_,b_,.r [] [cn oz12],r_,d_,.r [] [cn oz14],.r [] [cn oz15],r_,d_,.r [] [cn oz17],.r [] [cn oz18]]) (G:=[.drop [4],.sort]) CB_ (by kernel_rfl) (.c8 oz0 oz1 oz2 oz0 oz4 oz2 oz6 oz7<|.c8 oz8 oz9 oz10 oz8 oz12 oz10 oz14 oz15<|.d3 oz10 oz17 oz18)
theorem twalk_1v (s:Rst) (n:Nod) (h:s.In) (hk:cntV s 9=1) (z1:n.za=0) (z2:n.zb=0) (z3:n.qz=0) (z4:n.lo=0) (z5:n.hi=0):VM L_ 131 [.ifc 183 (.agg [.ptr 100000 0 0]),.ptr 100001 0 0] [(100000,.var (rdC s)),(100001,.var (nodC n))] (.tup []) [(100000,.var (rdC (ts_1 s))),(100001,.var (nodC (tn_1 s n)))]:=twalk_1 s n h hk z1 z2 z3 z4 z5
def ts_2 (s:Rst):Rst:=(smlS (smlS (smlS (sclS (lstS (smlS (cntS (cntS (cntS (cntS (cntS s 9) 1024) 1024) 1024) 1024) 1))) 1) 1) 1)
def tn_2 (s:Rst) (n:Nod):Nod:={ n with kd:=cntV s 9,na:=cntV (cntS s 9) 1024,nk:=cntV (cntS (cntS s 9) 1024) 1024,ns:=cntV (cntS (cntS (cntS s 9) 1024) 1024) 1024,np:=cntV (cntS (cntS (cntS (cntS s 9) 1024) 1024) 1024) 1024,za:=oneV (cntS (cntS (cntS (cntS (cntS s 9) 1024) 1024) 1024) 1024),w:=lstW (smlS (cntS (cntS (cntS (cntS (cntS s 9) 1024) 1024) 1024) 1024) 1),b:=lstB (smlS (cntS (cntS (cntS (cntS (cntS s 9) 1024) 1024) 1024) 1024) 1),qm:=sclM (lstS (smlS (cntS (cntS (cntS (cntS (cntS s 9) 1024) 1024) 1024) 1024) 1)),qs:=sclH (lstS (smlS (cntS (cntS (cntS (cntS (cntS s 9) 1024) 1024) 1024) 1024) 1)),qz:=oneV (sclS (lstS (smlS (cntS (cntS (cntS (cntS (cntS s 9) 1024) 1024) 1024) 1024) 1))),lo:=oneV (smlS (sclS (lstS (smlS (cntS (cntS (cntS (cntS (cntS s 9) 1024) 1024) 1024) 1024) 1))) 1),hi:=oneV (smlS (smlS (sclS (lstS (smlS (cntS (cntS (cntS (cntS (cntS s 9) 1024) 1024) 1024) 1024) 1))) 1) 1) }
theorem twalk_2 (s:Rst) (n:Nod) (h:s.In) (hk:cntV s 9=2) (z1:n.za=0) (z2:n.zb=0) (z3:n.qz=0) (z4:n.lo=0) (z5:n.hi=0):VM L_ 131 ([.ifc 183 (.agg [.ptr 100000 0 0]),.ptr 100001 0 0]) ([(100000,.var (rdC s)),(100001,.var (nodC n))]) (.tup []) ([(100000,.var (rdC (smlS (smlS (smlS (sclS (lstS (smlS (cntS (cntS (cntS (cntS (cntS s 9) 1024) 1024) 1024) 1024) 1))) 1) 1) 1))),(100001,.var (nodC { n with kd:=cntV s 9,na:=cntV (cntS s 9) 1024,nk:=cntV (cntS (cntS s 9) 1024) 1024,ns:=cntV (cntS (cntS (cntS s 9) 1024) 1024) 1024,np:=cntV (cntS (cntS (cntS (cntS s 9) 1024) 1024) 1024) 1024,za:=oneV (cntS (cntS (cntS (cntS (cntS s 9) 1024) 1024) 1024) 1024),w:=lstW (smlS (cntS (cntS (cntS (cntS (cntS s 9) 1024) 1024) 1024) 1024) 1),b:=lstB (smlS (cntS (cntS (cntS (cntS (cntS s 9) 1024) 1024) 1024) 1024) 1),qm:=sclM (lstS (smlS (cntS (cntS (cntS (cntS (cntS s 9) 1024) 1024) 1024) 1024) 1)),qs:=sclH (lstS (smlS (cntS (cntS (cntS (cntS (cntS s 9) 1024) 1024) 1024) 1024) 1)),qz:=oneV (sclS (lstS (smlS (cntS (cntS (cntS (cntS (cntS s 9) 1024) 1024) 1024) 1024) 1))),lo:=oneV (smlS (sclS (lstS (smlS (cntS (cntS (cntS (cntS (cntS s 9) 1024) 1024) 1024) 1024) 1))) 1),hi:=oneV (smlS (smlS (sclS (lstS (smlS (cntS (cntS (cntS (cntS (cntS s 9) 1024) 1024) 1024) 1024) 1))) 1) 1) }))]):=by
 have oz0:=(show NilNo L_ (183:Nat) "stepwell/pack.number" from (nilNo (f:=97) (by kernel_rfl)))
 have oz1:=@tnum_kd (s) (n) (9) h (by omega) (by omega)
 have oz2:=(show MethodIs L_ (183:Nat) "stepwell/pack.number" (methF L_ (183:Nat) "stepwell/pack.number") from (methodIs (by kernel_rfl)))
 have oz4:=@tnum_na (cntS s 9) (Nod.mk (cntV s 9) n.na n.nb n.nk n.ns n.np n.no n.za n.zb n.w n.b n.qm n.qs n.qz n.rm n.rs n.rz n.lo n.hi) (1024) (by (repeat first|exact h|apply cnt_in|apply sml_in|apply lst_in|apply scl_in)) (by (try dsimp only)<;>omega) (by (try dsimp only)<;>omega)
 have oz6:=@of_2 (cntV s 9) hk
 have oz7:=@tsides_2 (cntS (cntS s 9) 1024) (Nod.mk (cntV s 9) (cntV (cntS s 9) 1024) n.nb n.nk n.ns n.np n.no n.za n.zb n.w n.b n.qm n.qs n.qz n.rm n.rs n.rz n.lo n.hi) (by (repeat first|exact h|apply cnt_in|apply sml_in|apply lst_in|apply scl_in)) hk
 have oz8:=z0_
 have oz9:=@tone_za (cntS (cntS (cntS (cntS (cntS s 9) 1024) 1024) 1024) 1024) (Nod.mk (cntV s 9) (cntV (cntS s 9) 1024) n.nb (cntV (cntS (cntS s 9) 1024) 1024) (cntV (cntS (cntS (cntS s 9) 1024) 1024) 1024) (cntV (cntS (cntS (cntS (cntS s 9) 1024) 1024) 1024) 1024) n.no n.za n.zb n.w n.b n.qm n.qs n.qz n.rm n.rs n.rz n.lo n.hi) (by (repeat first|exact h|apply cnt_in|apply sml_in|apply lst_in|apply scl_in)) z1
 have oz10:=z1_
 have oz12:=@tlists_v (smlS (cntS (cntS (cntS (cntS (cntS s 9) 1024) 1024) 1024) 1024) 1) (Nod.mk (cntV s 9) (cntV (cntS s 9) 1024) n.nb (cntV (cntS (cntS s 9) 1024) 1024) (cntV (cntS (cntS (cntS s 9) 1024) 1024) 1024) (cntV (cntS (cntS (cntS (cntS s 9) 1024) 1024) 1024) 1024) n.no (oneV (cntS (cntS (cntS (cntS (cntS s 9) 1024) 1024) 1024) 1024)) n.zb n.w n.b n.qm n.qs n.qz n.rm n.rs n.rz n.lo n.hi) (by (repeat first|exact h|apply cnt_in|apply sml_in|apply lst_in|apply scl_in))
 have oz14:=@tscale_qv (lstS (smlS (cntS (cntS (cntS (cntS (cntS s 9) 1024) 1024) 1024) 1024) 1)) (Nod.mk (cntV s 9) (cntV (cntS s 9) 1024) n.nb (cntV (cntS (cntS s 9) 1024) 1024) (cntV (cntS (cntS (cntS s 9) 1024) 1024) 1024) (cntV (cntS (cntS (cntS (cntS s 9) 1024) 1024) 1024) 1024) n.no (oneV (cntS (cntS (cntS (cntS (cntS s 9) 1024) 1024) 1024) 1024)) n.zb (lstW (smlS (cntS (cntS (cntS (cntS (cntS s 9) 1024) 1024) 1024) 1024) 1)) (lstB (smlS (cntS (cntS (cntS (cntS (cntS s 9) 1024) 1024) 1024) 1024) 1)) n.qm n.qs n.qz n.rm n.rs n.rz n.lo n.hi) (by (repeat first|exact h|apply cnt_in|apply sml_in|apply lst_in|apply scl_in))
 have oz15:=@tone_qz (sclS (lstS (smlS (cntS (cntS (cntS (cntS (cntS s 9) 1024) 1024) 1024) 1024) 1))) (Nod.mk (cntV s 9) (cntV (cntS s 9) 1024) n.nb (cntV (cntS (cntS s 9) 1024) 1024) (cntV (cntS (cntS (cntS s 9) 1024) 1024) 1024) (cntV (cntS (cntS (cntS (cntS s 9) 1024) 1024) 1024) 1024) n.no (oneV (cntS (cntS (cntS (cntS (cntS s 9) 1024) 1024) 1024) 1024)) n.zb (lstW (smlS (cntS (cntS (cntS (cntS (cntS s 9) 1024) 1024) 1024) 1024) 1)) (lstB (smlS (cntS (cntS (cntS (cntS (cntS s 9) 1024) 1024) 1024) 1024) 1)) (sclM (lstS (smlS (cntS (cntS (cntS (cntS (cntS s 9) 1024) 1024) 1024) 1024) 1))) (sclH (lstS (smlS (cntS (cntS (cntS (cntS (cntS s 9) 1024) 1024) 1024) 1024) 1))) n.qz n.rm n.rs n.rz n.lo n.hi) (by (repeat first|exact h|apply cnt_in|apply sml_in|apply lst_in|apply scl_in)) z3
 have oz17:=@tone_lo (smlS (sclS (lstS (smlS (cntS (cntS (cntS (cntS (cntS s 9) 1024) 1024) 1024) 1024) 1))) 1) (Nod.mk (cntV s 9) (cntV (cntS s 9) 1024) n.nb (cntV (cntS (cntS s 9) 1024) 1024) (cntV (cntS (cntS (cntS s 9) 1024) 1024) 1024) (cntV (cntS (cntS (cntS (cntS s 9) 1024) 1024) 1024) 1024) n.no (oneV (cntS (cntS (cntS (cntS (cntS s 9) 1024) 1024) 1024) 1024)) n.zb (lstW (smlS (cntS (cntS (cntS (cntS (cntS s 9) 1024) 1024) 1024) 1024) 1)) (lstB (smlS (cntS (cntS (cntS (cntS (cntS s 9) 1024) 1024) 1024) 1024) 1)) (sclM (lstS (smlS (cntS (cntS (cntS (cntS (cntS s 9) 1024) 1024) 1024) 1024) 1))) (sclH (lstS (smlS (cntS (cntS (cntS (cntS (cntS s 9) 1024) 1024) 1024) 1024) 1))) (oneV (sclS (lstS (smlS (cntS (cntS (cntS (cntS (cntS s 9) 1024) 1024) 1024) 1024) 1)))) n.rm n.rs n.rz n.lo n.hi) (by (repeat first|exact h|apply cnt_in|apply sml_in|apply lst_in|apply scl_in)) z4
 have oz18:=@tone_hi (smlS (smlS (sclS (lstS (smlS (cntS (cntS (cntS (cntS (cntS s 9) 1024) 1024) 1024) 1024) 1))) 1) 1) (Nod.mk (cntV s 9) (cntV (cntS s 9) 1024) n.nb (cntV (cntS (cntS s 9) 1024) 1024) (cntV (cntS (cntS (cntS s 9) 1024) 1024) 1024) (cntV (cntS (cntS (cntS (cntS s 9) 1024) 1024) 1024) 1024) n.no (oneV (cntS (cntS (cntS (cntS (cntS s 9) 1024) 1024) 1024) 1024)) n.zb (lstW (smlS (cntS (cntS (cntS (cntS (cntS s 9) 1024) 1024) 1024) 1024) 1)) (lstB (smlS (cntS (cntS (cntS (cntS (cntS s 9) 1024) 1024) 1024) 1024) 1)) (sclM (lstS (smlS (cntS (cntS (cntS (cntS (cntS s 9) 1024) 1024) 1024) 1024) 1))) (sclH (lstS (smlS (cntS (cntS (cntS (cntS (cntS s 9) 1024) 1024) 1024) 1024) 1))) (oneV (sclS (lstS (smlS (cntS (cntS (cntS (cntS (cntS s 9) 1024) 1024) 1024) 1024) 1)))) n.rm n.rs n.rz (oneV (smlS (sclS (lstS (smlS (cntS (cntS (cntS (cntS (cntS s 9) 1024) 1024) 1024) 1024) 1))) 1)) n.hi) (by (repeat first|exact h|apply cnt_in|apply sml_in|apply lst_in|apply scl_in)) z5
 exact VM.run (fn:=Tryz.f131) (W:=[.r [] [cn oz1],.r [] [cn oz4],.r [] [cr oz6],.r [] [cn oz7],r_,b_,.r [] [cn oz9],r_,d_,r_,b_,.r [] [cn oz12],r_,d_,.r [] [cn oz14],.r [] [cn oz15],r_,d_,.r [] [cn oz17],.r [] [cn oz18]]) (G:=[.drop [4],.sort]) CB_ (by kernel_rfl) (.c8 oz0 oz1 oz2 oz0 oz4 oz2 oz6 oz7<|.c8 oz8 oz9 oz10 oz8 oz12 oz10 oz14 oz15<|.d3 oz10 oz17 oz18)
theorem twalk_2v (s:Rst) (n:Nod) (h:s.In) (hk:cntV s 9=2) (z1:n.za=0) (z2:n.zb=0) (z3:n.qz=0) (z4:n.lo=0) (z5:n.hi=0):VM L_ 131 [.ifc 183 (.agg [.ptr 100000 0 0]),.ptr 100001 0 0] [(100000,.var (rdC s)),(100001,.var (nodC n))] (.tup []) [(100000,.var (rdC (ts_2 s))),(100001,.var (nodC (tn_2 s n)))]:=twalk_2 s n h hk z1 z2 z3 z4 z5
def ts_3 (s:Rst):Rst:=(smlS (smlS (smlS (sclS (lstS (smlS (cntS (cntS (cntS s 9) 1024) 1024) 1))) 1) 1) 1)
def tn_3 (s:Rst) (n:Nod):Nod:={ n with kd:=cntV s 9,na:=cntV (cntS s 9) 1024,no:=cntV (cntS (cntS s 9) 1024) 1024,za:=oneV (cntS (cntS (cntS s 9) 1024) 1024),w:=lstW (smlS (cntS (cntS (cntS s 9) 1024) 1024) 1),b:=lstB (smlS (cntS (cntS (cntS s 9) 1024) 1024) 1),qm:=sclM (lstS (smlS (cntS (cntS (cntS s 9) 1024) 1024) 1)),qs:=sclH (lstS (smlS (cntS (cntS (cntS s 9) 1024) 1024) 1)),qz:=oneV (sclS (lstS (smlS (cntS (cntS (cntS s 9) 1024) 1024) 1))),lo:=oneV (smlS (sclS (lstS (smlS (cntS (cntS (cntS s 9) 1024) 1024) 1))) 1),hi:=oneV (smlS (smlS (sclS (lstS (smlS (cntS (cntS (cntS s 9) 1024) 1024) 1))) 1) 1) }
theorem twalk_3 (s:Rst) (n:Nod) (h:s.In) (hk:cntV s 9=3) (z1:n.za=0) (z2:n.zb=0) (z3:n.qz=0) (z4:n.lo=0) (z5:n.hi=0):VM L_ 131 ([.ifc 183 (.agg [.ptr 100000 0 0]),.ptr 100001 0 0]) ([(100000,.var (rdC s)),(100001,.var (nodC n))]) (.tup []) ([(100000,.var (rdC (smlS (smlS (smlS (sclS (lstS (smlS (cntS (cntS (cntS s 9) 1024) 1024) 1))) 1) 1) 1))),(100001,.var (nodC { n with kd:=cntV s 9,na:=cntV (cntS s 9) 1024,no:=cntV (cntS (cntS s 9) 1024) 1024,za:=oneV (cntS (cntS (cntS s 9) 1024) 1024),w:=lstW (smlS (cntS (cntS (cntS s 9) 1024) 1024) 1),b:=lstB (smlS (cntS (cntS (cntS s 9) 1024) 1024) 1),qm:=sclM (lstS (smlS (cntS (cntS (cntS s 9) 1024) 1024) 1)),qs:=sclH (lstS (smlS (cntS (cntS (cntS s 9) 1024) 1024) 1)),qz:=oneV (sclS (lstS (smlS (cntS (cntS (cntS s 9) 1024) 1024) 1))),lo:=oneV (smlS (sclS (lstS (smlS (cntS (cntS (cntS s 9) 1024) 1024) 1))) 1),hi:=oneV (smlS (smlS (sclS (lstS (smlS (cntS (cntS (cntS s 9) 1024) 1024) 1))) 1) 1) }))]):=by
 have oz0:=(show NilNo L_ (183:Nat) "stepwell/pack.number" from (nilNo (f:=97) (by kernel_rfl)))
 have oz1:=@tnum_kd (s) (n) (9) h (by omega) (by omega)
 have oz2:=(show MethodIs L_ (183:Nat) "stepwell/pack.number" (methF L_ (183:Nat) "stepwell/pack.number") from (methodIs (by kernel_rfl)))
 have oz4:=@tnum_na (cntS s 9) (Nod.mk (cntV s 9) n.na n.nb n.nk n.ns n.np n.no n.za n.zb n.w n.b n.qm n.qs n.qz n.rm n.rs n.rz n.lo n.hi) (1024) (by (repeat first|exact h|apply cnt_in|apply sml_in|apply lst_in|apply scl_in)) (by (try dsimp only)<;>omega) (by (try dsimp only)<;>omega)
 have oz6:=@of_3 (cntV s 9) hk
 have oz7:=@tsides_3 (cntS (cntS s 9) 1024) (Nod.mk (cntV s 9) (cntV (cntS s 9) 1024) n.nb n.nk n.ns n.np n.no n.za n.zb n.w n.b n.qm n.qs n.qz n.rm n.rs n.rz n.lo n.hi) (by (repeat first|exact h|apply cnt_in|apply sml_in|apply lst_in|apply scl_in)) hk
 have oz8:=z0_
 have oz9:=@tone_za (cntS (cntS (cntS s 9) 1024) 1024) (Nod.mk (cntV s 9) (cntV (cntS s 9) 1024) n.nb n.nk n.ns n.np (cntV (cntS (cntS s 9) 1024) 1024) n.za n.zb n.w n.b n.qm n.qs n.qz n.rm n.rs n.rz n.lo n.hi) (by (repeat first|exact h|apply cnt_in|apply sml_in|apply lst_in|apply scl_in)) z1
 have oz10:=z1_
 have oz12:=@tlists_v (smlS (cntS (cntS (cntS s 9) 1024) 1024) 1) (Nod.mk (cntV s 9) (cntV (cntS s 9) 1024) n.nb n.nk n.ns n.np (cntV (cntS (cntS s 9) 1024) 1024) (oneV (cntS (cntS (cntS s 9) 1024) 1024)) n.zb n.w n.b n.qm n.qs n.qz n.rm n.rs n.rz n.lo n.hi) (by (repeat first|exact h|apply cnt_in|apply sml_in|apply lst_in|apply scl_in))
 have oz14:=@tscale_qv (lstS (smlS (cntS (cntS (cntS s 9) 1024) 1024) 1)) (Nod.mk (cntV s 9) (cntV (cntS s 9) 1024) n.nb n.nk n.ns n.np (cntV (cntS (cntS s 9) 1024) 1024) (oneV (cntS (cntS (cntS s 9) 1024) 1024)) n.zb (lstW (smlS (cntS (cntS (cntS s 9) 1024) 1024) 1)) (lstB (smlS (cntS (cntS (cntS s 9) 1024) 1024) 1)) n.qm n.qs n.qz n.rm n.rs n.rz n.lo n.hi) (by (repeat first|exact h|apply cnt_in|apply sml_in|apply lst_in|apply scl_in))
 have oz15:=@tone_qz (sclS (lstS (smlS (cntS (cntS (cntS s 9) 1024) 1024) 1))) (Nod.mk (cntV s 9) (cntV (cntS s 9) 1024) n.nb n.nk n.ns n.np (cntV (cntS (cntS s 9) 1024) 1024) (oneV (cntS (cntS (cntS s 9) 1024) 1024)) n.zb (lstW (smlS (cntS (cntS (cntS s 9) 1024) 1024) 1)) (lstB (smlS (cntS (cntS (cntS s 9) 1024) 1024) 1)) (sclM (lstS (smlS (cntS (cntS (cntS s 9) 1024) 1024) 1))) (sclH (lstS (smlS (cntS (cntS (cntS s 9) 1024) 1024) 1))) n.qz n.rm n.rs n.rz n.lo n.hi) (by (repeat first|exact h|apply cnt_in|apply sml_in|apply lst_in|apply scl_in)) z3
 have oz17:=@tone_lo (smlS (sclS (lstS (smlS (cntS (cntS (cntS s 9) 1024) 1024) 1))) 1) (Nod.mk (cntV s 9) (cntV (cntS s 9) 1024) n.nb n.nk n.ns n.np (cntV (cntS (cntS s 9) 1024) 1024) (oneV (cntS (cntS (cntS s 9) 1024) 1024)) n.zb (lstW (smlS (cntS (cntS (cntS s 9) 1024) 1024) 1)) (lstB (smlS (cntS (cntS (cntS s 9) 1024) 1024) 1)) (sclM (lstS (smlS (cntS (cntS (cntS s 9) 1024) 1024) 1))) (sclH (lstS (smlS (cntS (cntS (cntS s 9) 1024) 1024) 1))) (oneV (sclS (lstS (smlS (cntS (cntS (cntS s 9) 1024) 1024) 1)))) n.rm n.rs n.rz n.lo n.hi) (by (repeat first|exact h|apply cnt_in|apply sml_in|apply lst_in|apply scl_in)) z4
 have oz18:=@tone_hi (smlS (smlS (sclS (lstS (smlS (cntS (cntS (cntS s 9) 1024) 1024) 1))) 1) 1) (Nod.mk (cntV s 9) (cntV (cntS s 9) 1024) n.nb n.nk n.ns n.np (cntV (cntS (cntS s 9) 1024) 1024) (oneV (cntS (cntS (cntS s 9) 1024) 1024)) n.zb (lstW (smlS (cntS (cntS (cntS s 9) 1024) 1024) 1)) (lstB (smlS (cntS (cntS (cntS s 9) 1024) 1024) 1)) (sclM (lstS (smlS (cntS (cntS (cntS s 9) 1024) 1024) 1))) (sclH (lstS (smlS (cntS (cntS (cntS s 9) 1024) 1024) 1))) (oneV (sclS (lstS (smlS (cntS (cntS (cntS s 9) 1024) 1024) 1)))) n.rm n.rs n.rz (oneV (smlS (sclS (lstS (smlS (cntS (cntS (cntS s 9) 1024) 1024) 1))) 1)) n.hi) (by (repeat first|exact h|apply cnt_in|apply sml_in|apply lst_in|apply scl_in)) z5
 exact VM.run (fn:=Tryz.f131) (W:=[.r [] [cn oz1],.r [] [cn oz4],.r [] [cr oz6],.r [] [cn oz7],r_,b_,.r [] [cn oz9],r_,d_,r_,b_,.r [] [cn oz12],r_,d_,.r [] [cn oz14],.r [] [cn oz15],r_,d_,.r [] [cn oz17],.r [] [cn oz18]]) (G:=[.drop [4],.sort]) CB_ (by kernel_rfl) (.c8 oz0 oz1 oz2 oz0 oz4 oz2 oz6 oz7<|.c8 oz8 oz9 oz10 oz8 oz12 oz10 oz14 oz15<|.d3 oz10 oz17 oz18)
theorem twalk_3v (s:Rst) (n:Nod) (h:s.In) (hk:cntV s 9=3) (z1:n.za=0) (z2:n.zb=0) (z3:n.qz=0) (z4:n.lo=0) (z5:n.hi=0):VM L_ 131 [.ifc 183 (.agg [.ptr 100000 0 0]),.ptr 100001 0 0] [(100000,.var (rdC s)),(100001,.var (nodC n))] (.tup []) [(100000,.var (rdC (ts_3 s))),(100001,.var (nodC (tn_3 s n)))]:=twalk_3 s n h hk z1 z2 z3 z4 z5
def ts_4 (s:Rst):Rst:=(cntS (cntS (cntS (cntS (cntS s 9) 1024) 1024) 1024) 1024)
def tn_4 (s:Rst) (n:Nod):Nod:={ n with kd:=cntV s 9,na:=cntV (cntS s 9) 1024,nk:=cntV (cntS (cntS s 9) 1024) 1024,ns:=cntV (cntS (cntS (cntS s 9) 1024) 1024) 1024,np:=cntV (cntS (cntS (cntS (cntS s 9) 1024) 1024) 1024) 1024 }
theorem twalk_4 (s:Rst) (n:Nod) (h:s.In) (hk:cntV s 9=4∨cntV s 9=5) (z1:n.za=0) (z2:n.zb=0) (z3:n.qz=0) (z4:n.lo=0) (z5:n.hi=0):VM L_ 131 ([.ifc 183 (.agg [.ptr 100000 0 0]),.ptr 100001 0 0]) ([(100000,.var (rdC s)),(100001,.var (nodC n))]) (.tup []) ([(100000,.var (rdC (cntS (cntS (cntS (cntS (cntS s 9) 1024) 1024) 1024) 1024))),(100001,.var (nodC { n with kd:=cntV s 9,na:=cntV (cntS s 9) 1024,nk:=cntV (cntS (cntS s 9) 1024) 1024,ns:=cntV (cntS (cntS (cntS s 9) 1024) 1024) 1024,np:=cntV (cntS (cntS (cntS (cntS s 9) 1024) 1024) 1024) 1024 }))]):=by
 have oz0:=(show NilNo L_ (183:Nat) "stepwell/pack.number" from (nilNo (f:=97) (by kernel_rfl)))
 have oz1:=@tnum_kd (s) (n) (9) h (by omega) (by omega)
 have oz2:=(show MethodIs L_ (183:Nat) "stepwell/pack.number" (methF L_ (183:Nat) "stepwell/pack.number") from (methodIs (by kernel_rfl)))
 have oz4:=@tnum_na (cntS s 9) (Nod.mk (cntV s 9) n.na n.nb n.nk n.ns n.np n.no n.za n.zb n.w n.b n.qm n.qs n.qz n.rm n.rs n.rz n.lo n.hi) (1024) (by (repeat first|exact h|apply cnt_in|apply sml_in|apply lst_in|apply scl_in)) (by (try dsimp only)<;>omega) (by (try dsimp only)<;>omega)
 have oz6:=@of_4 (cntV s 9) hk
 have oz7:=@tsides_4 (cntS (cntS s 9) 1024) (Nod.mk (cntV s 9) (cntV (cntS s 9) 1024) n.nb n.nk n.ns n.np n.no n.za n.zb n.w n.b n.qm n.qs n.qz n.rm n.rs n.rz n.lo n.hi) (by (repeat first|exact h|apply cnt_in|apply sml_in|apply lst_in|apply scl_in)) hk
 have oz8:=z1_
 exact VM.run (fn:=Tryz.f131) (W:=[.r [] [cn oz1],.r [] [cn oz4],.r [] [cr oz6],.r [] [cn oz7],r_,d_,r_,d_,r_,d_,r_,b_]) (G:=[.drop [4],.sort]) CB_ (by kernel_rfl) (.c8 oz0 oz1 oz2 oz0 oz4 oz2 oz6 oz7<|.d4 oz8 oz8 oz8 z0_)
theorem twalk_4v (s:Rst) (n:Nod) (h:s.In) (hk:cntV s 9=4∨cntV s 9=5) (z1:n.za=0) (z2:n.zb=0) (z3:n.qz=0) (z4:n.lo=0) (z5:n.hi=0):VM L_ 131 [.ifc 183 (.agg [.ptr 100000 0 0]),.ptr 100001 0 0] [(100000,.var (rdC s)),(100001,.var (nodC n))] (.tup []) [(100000,.var (rdC (ts_4 s))),(100001,.var (nodC (tn_4 s n)))]:=twalk_4 s n h hk z1 z2 z3 z4 z5
def ts_6 (s:Rst):Rst:=(smlS (smlS (sclS (smlS (sclS (smlS (smlS (cntS (cntS (cntS s 9) 1024) 1024) 1) 1)) 1)) 1) 1)
def tn_6 (s:Rst) (n:Nod):Nod:={ n with kd:=cntV s 9,na:=cntV (cntS s 9) 1024,nb:=cntV (cntS (cntS s 9) 1024) 1024,za:=oneV (cntS (cntS (cntS s 9) 1024) 1024),zb:=oneV (smlS (cntS (cntS (cntS s 9) 1024) 1024) 1),qm:=sclM (smlS (smlS (cntS (cntS (cntS s 9) 1024) 1024) 1) 1),qs:=sclH (smlS (smlS (cntS (cntS (cntS s 9) 1024) 1024) 1) 1),qz:=oneV (sclS (smlS (smlS (cntS (cntS (cntS s 9) 1024) 1024) 1) 1)),rm:=sclM (smlS (sclS (smlS (smlS (cntS (cntS (cntS s 9) 1024) 1024) 1) 1)) 1),rs:=sclH (smlS (sclS (smlS (smlS (cntS (cntS (cntS s 9) 1024) 1024) 1) 1)) 1),lo:=oneV (sclS (smlS (sclS (smlS (smlS (cntS (cntS (cntS s 9) 1024) 1024) 1) 1)) 1)),hi:=oneV (smlS (sclS (smlS (sclS (smlS (smlS (cntS (cntS (cntS s 9) 1024) 1024) 1) 1)) 1)) 1) }
theorem twalk_6 (s:Rst) (n:Nod) (h:s.In) (hk:cntV s 9=6) (z1:n.za=0) (z2:n.zb=0) (z3:n.qz=0) (z4:n.lo=0) (z5:n.hi=0):VM L_ 131 ([.ifc 183 (.agg [.ptr 100000 0 0]),.ptr 100001 0 0]) ([(100000,.var (rdC s)),(100001,.var (nodC n))]) (.tup []) ([(100000,.var (rdC (smlS (smlS (sclS (smlS (sclS (smlS (smlS (cntS (cntS (cntS s 9) 1024) 1024) 1) 1)) 1)) 1) 1))),(100001,.var (nodC { n with kd:=cntV s 9,na:=cntV (cntS s 9) 1024,nb:=cntV (cntS (cntS s 9) 1024) 1024,za:=oneV (cntS (cntS (cntS s 9) 1024) 1024),zb:=oneV (smlS (cntS (cntS (cntS s 9) 1024) 1024) 1),qm:=sclM (smlS (smlS (cntS (cntS (cntS s 9) 1024) 1024) 1) 1),qs:=sclH (smlS (smlS (cntS (cntS (cntS s 9) 1024) 1024) 1) 1),qz:=oneV (sclS (smlS (smlS (cntS (cntS (cntS s 9) 1024) 1024) 1) 1)),rm:=sclM (smlS (sclS (smlS (smlS (cntS (cntS (cntS s 9) 1024) 1024) 1) 1)) 1),rs:=sclH (smlS (sclS (smlS (smlS (cntS (cntS (cntS s 9) 1024) 1024) 1) 1)) 1),lo:=oneV (sclS (smlS (sclS (smlS (smlS (cntS (cntS (cntS s 9) 1024) 1024) 1) 1)) 1)),hi:=oneV (smlS (sclS (smlS (sclS (smlS (smlS (cntS (cntS (cntS s 9) 1024) 1024) 1) 1)) 1)) 1) }))]):=by
 have oz0:=(show NilNo L_ (183:Nat) "stepwell/pack.number" from (nilNo (f:=97) (by kernel_rfl)))
 have oz1:=@tnum_kd (s) (n) (9) h (by omega) (by omega)
 have oz2:=(show MethodIs L_ (183:Nat) "stepwell/pack.number" (methF L_ (183:Nat) "stepwell/pack.number") from (methodIs (by kernel_rfl)))
 have oz4:=@tnum_na (cntS s 9) (Nod.mk (cntV s 9) n.na n.nb n.nk n.ns n.np n.no n.za n.zb n.w n.b n.qm n.qs n.qz n.rm n.rs n.rz n.lo n.hi) (1024) (by (repeat first|exact h|apply cnt_in|apply sml_in|apply lst_in|apply scl_in)) (by (try dsimp only)<;>omega) (by (try dsimp only)<;>omega)
 have oz6:=@of_6 (cntV s 9) hk
 have oz7:=@tsides_6 (cntS (cntS s 9) 1024) (Nod.mk (cntV s 9) (cntV (cntS s 9) 1024) n.nb n.nk n.ns n.np n.no n.za n.zb n.w n.b n.qm n.qs n.qz n.rm n.rs n.rz n.lo n.hi) (by (repeat first|exact h|apply cnt_in|apply sml_in|apply lst_in|apply scl_in)) hk
 have oz8:=z0_
 have oz9:=@tone_za (cntS (cntS (cntS s 9) 1024) 1024) (Nod.mk (cntV s 9) (cntV (cntS s 9) 1024) (cntV (cntS (cntS s 9) 1024) 1024) n.nk n.ns n.np n.no n.za n.zb n.w n.b n.qm n.qs n.qz n.rm n.rs n.rz n.lo n.hi) (by (repeat first|exact h|apply cnt_in|apply sml_in|apply lst_in|apply scl_in)) z1
 have oz11:=@tone_zb (smlS (cntS (cntS (cntS s 9) 1024) 1024) 1) (Nod.mk (cntV s 9) (cntV (cntS s 9) 1024) (cntV (cntS (cntS s 9) 1024) 1024) n.nk n.ns n.np n.no (oneV (cntS (cntS (cntS s 9) 1024) 1024)) n.zb n.w n.b n.qm n.qs n.qz n.rm n.rs n.rz n.lo n.hi) (by (repeat first|exact h|apply cnt_in|apply sml_in|apply lst_in|apply scl_in)) z2
 have oz12:=z1_
 have oz14:=@tscale_qv (smlS (smlS (cntS (cntS (cntS s 9) 1024) 1024) 1) 1) (Nod.mk (cntV s 9) (cntV (cntS s 9) 1024) (cntV (cntS (cntS s 9) 1024) 1024) n.nk n.ns n.np n.no (oneV (cntS (cntS (cntS s 9) 1024) 1024)) (oneV (smlS (cntS (cntS (cntS s 9) 1024) 1024) 1)) n.w n.b n.qm n.qs n.qz n.rm n.rs n.rz n.lo n.hi) (by (repeat first|exact h|apply cnt_in|apply sml_in|apply lst_in|apply scl_in))
 have oz15:=@tone_qz (sclS (smlS (smlS (cntS (cntS (cntS s 9) 1024) 1024) 1) 1)) (Nod.mk (cntV s 9) (cntV (cntS s 9) 1024) (cntV (cntS (cntS s 9) 1024) 1024) n.nk n.ns n.np n.no (oneV (cntS (cntS (cntS s 9) 1024) 1024)) (oneV (smlS (cntS (cntS (cntS s 9) 1024) 1024) 1)) n.w n.b (sclM (smlS (smlS (cntS (cntS (cntS s 9) 1024) 1024) 1) 1)) (sclH (smlS (smlS (cntS (cntS (cntS s 9) 1024) 1024) 1) 1)) n.qz n.rm n.rs n.rz n.lo n.hi) (by (repeat first|exact h|apply cnt_in|apply sml_in|apply lst_in|apply scl_in)) z3
 have oz17:=@tscale_rv (smlS (sclS (smlS (smlS (cntS (cntS (cntS s 9) 1024) 1024) 1) 1)) 1) (Nod.mk (cntV s 9) (cntV (cntS s 9) 1024) (cntV (cntS (cntS s 9) 1024) 1024) n.nk n.ns n.np n.no (oneV (cntS (cntS (cntS s 9) 1024) 1024)) (oneV (smlS (cntS (cntS (cntS s 9) 1024) 1024) 1)) n.w n.b (sclM (smlS (smlS (cntS (cntS (cntS s 9) 1024) 1024) 1) 1)) (sclH (smlS (smlS (cntS (cntS (cntS s 9) 1024) 1024) 1) 1)) (oneV (sclS (smlS (smlS (cntS (cntS (cntS s 9) 1024) 1024) 1) 1))) n.rm n.rs n.rz n.lo n.hi) (by (repeat first|exact h|apply cnt_in|apply sml_in|apply lst_in|apply scl_in))
 have oz18:=@tone_lo (sclS (smlS (sclS (smlS (smlS (cntS (cntS (cntS s 9) 1024) 1024) 1) 1)) 1)) (Nod.mk (cntV s 9) (cntV (cntS s 9) 1024) (cntV (cntS (cntS s 9) 1024) 1024) n.nk n.ns n.np n.no (oneV (cntS (cntS (cntS s 9) 1024) 1024)) (oneV (smlS (cntS (cntS (cntS s 9) 1024) 1024) 1)) n.w n.b (sclM (smlS (smlS (cntS (cntS (cntS s 9) 1024) 1024) 1) 1)) (sclH (smlS (smlS (cntS (cntS (cntS s 9) 1024) 1024) 1) 1)) (oneV (sclS (smlS (smlS (cntS (cntS (cntS s 9) 1024) 1024) 1) 1))) (sclM (smlS (sclS (smlS (smlS (cntS (cntS (cntS s 9) 1024) 1024) 1) 1)) 1)) (sclH (smlS (sclS (smlS (smlS (cntS (cntS (cntS s 9) 1024) 1024) 1) 1)) 1)) n.rz n.lo n.hi) (by (repeat first|exact h|apply cnt_in|apply sml_in|apply lst_in|apply scl_in)) z4
 have oz19:=@tone_hi (smlS (sclS (smlS (sclS (smlS (smlS (cntS (cntS (cntS s 9) 1024) 1024) 1) 1)) 1)) 1) (Nod.mk (cntV s 9) (cntV (cntS s 9) 1024) (cntV (cntS (cntS s 9) 1024) 1024) n.nk n.ns n.np n.no (oneV (cntS (cntS (cntS s 9) 1024) 1024)) (oneV (smlS (cntS (cntS (cntS s 9) 1024) 1024) 1)) n.w n.b (sclM (smlS (smlS (cntS (cntS (cntS s 9) 1024) 1024) 1) 1)) (sclH (smlS (smlS (cntS (cntS (cntS s 9) 1024) 1024) 1) 1)) (oneV (sclS (smlS (smlS (cntS (cntS (cntS s 9) 1024) 1024) 1) 1))) (sclM (smlS (sclS (smlS (smlS (cntS (cntS (cntS s 9) 1024) 1024) 1) 1)) 1)) (sclH (smlS (sclS (smlS (smlS (cntS (cntS (cntS s 9) 1024) 1024) 1) 1)) 1)) n.rz (oneV (sclS (smlS (sclS (smlS (smlS (cntS (cntS (cntS s 9) 1024) 1024) 1) 1)) 1))) n.hi) (by (repeat first|exact h|apply cnt_in|apply sml_in|apply lst_in|apply scl_in)) z5
 exact VM.run (fn:=Tryz.f131) (W:=[.r [] [cn oz1],.r [] [cn oz4],.r [] [cr oz6],.r [] [cn oz7],r_,b_,.r [] [cn oz9],r_,b_,.r [] [cn oz11],r_,d_,r_,d_,.r [] [cn oz14],.r [] [cn oz15],r_,b_,.r [] [cn oz17],.r [] [cn oz18],.r [] [cn oz19]]) (G:=[.drop [4],.sort]) CB_ (by kernel_rfl) (.c8 oz0 oz1 oz2 oz0 oz4 oz2 oz6 oz7<|.c8 oz8 oz9 oz8 oz11 oz12 oz12 oz14 oz15<|.d4 oz8 oz17 oz18 oz19)
theorem twalk_6v (s:Rst) (n:Nod) (h:s.In) (hk:cntV s 9=6) (z1:n.za=0) (z2:n.zb=0) (z3:n.qz=0) (z4:n.lo=0) (z5:n.hi=0):VM L_ 131 [.ifc 183 (.agg [.ptr 100000 0 0]),.ptr 100001 0 0] [(100000,.var (rdC s)),(100001,.var (nodC n))] (.tup []) [(100000,.var (rdC (ts_6 s))),(100001,.var (nodC (tn_6 s n)))]:=twalk_6 s n h hk z1 z2 z3 z4 z5
def ts_7 (s:Rst):Rst:=(smlS (smlS (smlS (sclS (smlS (cntS (cntS s 9) 1024) 1)) 1) 1) 1)
def tn_7 (s:Rst) (n:Nod):Nod:={ n with kd:=cntV s 9,na:=cntV (cntS s 9) 1024,za:=oneV (cntS (cntS s 9) 1024),qm:=sclM (smlS (cntS (cntS s 9) 1024) 1),qs:=sclH (smlS (cntS (cntS s 9) 1024) 1),qz:=oneV (sclS (smlS (cntS (cntS s 9) 1024) 1)),lo:=oneV (smlS (sclS (smlS (cntS (cntS s 9) 1024) 1)) 1),hi:=oneV (smlS (smlS (sclS (smlS (cntS (cntS s 9) 1024) 1)) 1) 1) }
theorem twalk_7 (s:Rst) (n:Nod) (h:s.In) (hk:cntV s 9=7) (z1:n.za=0) (z2:n.zb=0) (z3:n.qz=0) (z4:n.lo=0) (z5:n.hi=0):VM L_ 131 ([.ifc 183 (.agg [.ptr 100000 0 0]),.ptr 100001 0 0]) ([(100000,.var (rdC s)),(100001,.var (nodC n))]) (.tup []) ([(100000,.var (rdC (smlS (smlS (smlS (sclS (smlS (cntS (cntS s 9) 1024) 1)) 1) 1) 1))),(100001,.var (nodC { n with kd:=cntV s 9,na:=cntV (cntS s 9) 1024,za:=oneV (cntS (cntS s 9) 1024),qm:=sclM (smlS (cntS (cntS s 9) 1024) 1),qs:=sclH (smlS (cntS (cntS s 9) 1024) 1),qz:=oneV (sclS (smlS (cntS (cntS s 9) 1024) 1)),lo:=oneV (smlS (sclS (smlS (cntS (cntS s 9) 1024) 1)) 1),hi:=oneV (smlS (smlS (sclS (smlS (cntS (cntS s 9) 1024) 1)) 1) 1) }))]):=by
 have oz0:=(show NilNo L_ (183:Nat) "stepwell/pack.number" from (nilNo (f:=97) (by kernel_rfl)))
 have oz1:=@tnum_kd (s) (n) (9) h (by omega) (by omega)
 have oz2:=(show MethodIs L_ (183:Nat) "stepwell/pack.number" (methF L_ (183:Nat) "stepwell/pack.number") from (methodIs (by kernel_rfl)))
 have oz4:=@tnum_na (cntS s 9) (Nod.mk (cntV s 9) n.na n.nb n.nk n.ns n.np n.no n.za n.zb n.w n.b n.qm n.qs n.qz n.rm n.rs n.rz n.lo n.hi) (1024) (by (repeat first|exact h|apply cnt_in|apply sml_in|apply lst_in|apply scl_in)) (by (try dsimp only)<;>omega) (by (try dsimp only)<;>omega)
 have oz6:=@of_7 (cntV s 9) hk
 have oz7:=@tsides_7 (cntS (cntS s 9) 1024) (Nod.mk (cntV s 9) (cntV (cntS s 9) 1024) n.nb n.nk n.ns n.np n.no n.za n.zb n.w n.b n.qm n.qs n.qz n.rm n.rs n.rz n.lo n.hi) (by (repeat first|exact h|apply cnt_in|apply sml_in|apply lst_in|apply scl_in)) hk
 have oz9:=@tone_za (cntS (cntS s 9) 1024) (Nod.mk (cntV s 9) (cntV (cntS s 9) 1024) n.nb n.nk n.ns n.np n.no n.za n.zb n.w n.b n.qm n.qs n.qz n.rm n.rs n.rz n.lo n.hi) (by (repeat first|exact h|apply cnt_in|apply sml_in|apply lst_in|apply scl_in)) z1
 have oz10:=z1_
 have oz13:=@tscale_qv (smlS (cntS (cntS s 9) 1024) 1) (Nod.mk (cntV s 9) (cntV (cntS s 9) 1024) n.nb n.nk n.ns n.np n.no (oneV (cntS (cntS s 9) 1024)) n.zb n.w n.b n.qm n.qs n.qz n.rm n.rs n.rz n.lo n.hi) (by (repeat first|exact h|apply cnt_in|apply sml_in|apply lst_in|apply scl_in))
 have oz14:=@tone_qz (sclS (smlS (cntS (cntS s 9) 1024) 1)) (Nod.mk (cntV s 9) (cntV (cntS s 9) 1024) n.nb n.nk n.ns n.np n.no (oneV (cntS (cntS s 9) 1024)) n.zb n.w n.b (sclM (smlS (cntS (cntS s 9) 1024) 1)) (sclH (smlS (cntS (cntS s 9) 1024) 1)) n.qz n.rm n.rs n.rz n.lo n.hi) (by (repeat first|exact h|apply cnt_in|apply sml_in|apply lst_in|apply scl_in)) z3
 have oz16:=@tone_lo (smlS (sclS (smlS (cntS (cntS s 9) 1024) 1)) 1) (Nod.mk (cntV s 9) (cntV (cntS s 9) 1024) n.nb n.nk n.ns n.np n.no (oneV (cntS (cntS s 9) 1024)) n.zb n.w n.b (sclM (smlS (cntS (cntS s 9) 1024) 1)) (sclH (smlS (cntS (cntS s 9) 1024) 1)) (oneV (sclS (smlS (cntS (cntS s 9) 1024) 1))) n.rm n.rs n.rz n.lo n.hi) (by (repeat first|exact h|apply cnt_in|apply sml_in|apply lst_in|apply scl_in)) z4
 have oz17:=@tone_hi (smlS (smlS (sclS (smlS (cntS (cntS s 9) 1024) 1)) 1) 1) (Nod.mk (cntV s 9) (cntV (cntS s 9) 1024) n.nb n.nk n.ns n.np n.no (oneV (cntS (cntS s 9) 1024)) n.zb n.w n.b (sclM (smlS (cntS (cntS s 9) 1024) 1)) (sclH (smlS (cntS (cntS s 9) 1024) 1)) (oneV (sclS (smlS (cntS (cntS s 9) 1024) 1))) n.rm n.rs n.rz (oneV (smlS (sclS (smlS (cntS (cntS s 9) 1024) 1)) 1)) n.hi) (by (repeat first|exact h|apply cnt_in|apply sml_in|apply lst_in|apply scl_in)) z5
 exact VM.run (fn:=Tryz.f131) (W:=[.r [] [cn oz1],.r [] [cn oz4],.r [] [cr oz6],.r [] [cn oz7],r_,b_,.r [] [cn oz9],r_,d_,r_,d_,r_,d_,.r [] [cn oz13],.r [] [cn oz14],r_,d_,.r [] [cn oz16],.r [] [cn oz17]]) (G:=[.drop [4],.sort]) CB_ (by kernel_rfl) (.c8 oz0 oz1 oz2 oz0 oz4 oz2 oz6 oz7<|.c8 z0_ oz9 oz10 oz10 oz10 oz13 oz14 oz10<|.d2 oz16 oz17)
theorem twalk_7v (s:Rst) (n:Nod) (h:s.In) (hk:cntV s 9=7) (z1:n.za=0) (z2:n.zb=0) (z3:n.qz=0) (z4:n.lo=0) (z5:n.hi=0):VM L_ 131 [.ifc 183 (.agg [.ptr 100000 0 0]),.ptr 100001 0 0] [(100000,.var (rdC s)),(100001,.var (nodC n))] (.tup []) [(100000,.var (rdC (ts_7 s))),(100001,.var (nodC (tn_7 s n)))]:=twalk_7 s n h hk z1 z2 z3 z4 z5
def ts_8 (s:Rst):Rst:=(smlS (cntS (cntS (cntS s 9) 1024) 1024) 1)
def tn_8 (s:Rst) (n:Nod):Nod:={ n with kd:=cntV s 9,na:=cntV (cntS s 9) 1024,np:=cntV (cntS (cntS s 9) 1024) 1024,za:=oneV (cntS (cntS (cntS s 9) 1024) 1024) }
theorem twalk_8 (s:Rst) (n:Nod) (h:s.In) (hk:cntV s 9=8) (z1:n.za=0) (z2:n.zb=0) (z3:n.qz=0) (z4:n.lo=0) (z5:n.hi=0):VM L_ 131 ([.ifc 183 (.agg [.ptr 100000 0 0]),.ptr 100001 0 0]) ([(100000,.var (rdC s)),(100001,.var (nodC n))]) (.tup []) ([(100000,.var (rdC (smlS (cntS (cntS (cntS s 9) 1024) 1024) 1))),(100001,.var (nodC { n with kd:=cntV s 9,na:=cntV (cntS s 9) 1024,np:=cntV (cntS (cntS s 9) 1024) 1024,za:=oneV (cntS (cntS (cntS s 9) 1024) 1024) }))]):=by
 have oz0:=(show NilNo L_ (183:Nat) "stepwell/pack.number" from (nilNo (f:=97) (by kernel_rfl)))
 have oz1:=@tnum_kd (s) (n) (9) h (by omega) (by omega)
 have oz2:=(show MethodIs L_ (183:Nat) "stepwell/pack.number" (methF L_ (183:Nat) "stepwell/pack.number") from (methodIs (by kernel_rfl)))
 have oz4:=@tnum_na (cntS s 9) (Nod.mk (cntV s 9) n.na n.nb n.nk n.ns n.np n.no n.za n.zb n.w n.b n.qm n.qs n.qz n.rm n.rs n.rz n.lo n.hi) (1024) (by (repeat first|exact h|apply cnt_in|apply sml_in|apply lst_in|apply scl_in)) (by (try dsimp only)<;>omega) (by (try dsimp only)<;>omega)
 have oz6:=@of_8 (cntV s 9) hk
 have oz7:=@tsides_8 (cntS (cntS s 9) 1024) (Nod.mk (cntV s 9) (cntV (cntS s 9) 1024) n.nb n.nk n.ns n.np n.no n.za n.zb n.w n.b n.qm n.qs n.qz n.rm n.rs n.rz n.lo n.hi) (by (repeat first|exact h|apply cnt_in|apply sml_in|apply lst_in|apply scl_in)) hk
 have oz8:=z0_
 have oz9:=@tone_za (cntS (cntS (cntS s 9) 1024) 1024) (Nod.mk (cntV s 9) (cntV (cntS s 9) 1024) n.nb n.nk n.ns (cntV (cntS (cntS s 9) 1024) 1024) n.no n.za n.zb n.w n.b n.qm n.qs n.qz n.rm n.rs n.rz n.lo n.hi) (by (repeat first|exact h|apply cnt_in|apply sml_in|apply lst_in|apply scl_in)) z1
 have oz10:=z1_
 exact VM.run (fn:=Tryz.f131) (W:=[.r [] [cn oz1],.r [] [cn oz4],.r [] [cr oz6],.r [] [cn oz7],r_,b_,.r [] [cn oz9],r_,d_,r_,d_,r_,b_]) (G:=[.drop [4],.sort]) CB_ (by kernel_rfl) (.c8 oz0 oz1 oz2 oz0 oz4 oz2 oz6 oz7<|.d5 oz8 oz9 oz10 oz10 oz8)
theorem twalk_8v (s:Rst) (n:Nod) (h:s.In) (hk:cntV s 9=8) (z1:n.za=0) (z2:n.zb=0) (z3:n.qz=0) (z4:n.lo=0) (z5:n.hi=0):VM L_ 131 [.ifc 183 (.agg [.ptr 100000 0 0]),.ptr 100001 0 0] [(100000,.var (rdC s)),(100001,.var (nodC n))] (.tup []) [(100000,.var (rdC (ts_8 s))),(100001,.var (nodC (tn_8 s n)))]:=twalk_8 s n h hk z1 z2 z3 z4 z5
def ts_9 (s:Rst):Rst:=(cntS (cntS s 9) 1024)
def tn_9 (s:Rst) (n:Nod):Nod:={ n with kd:=cntV s 9,na:=cntV (cntS s 9) 1024 }
theorem twalk_9 (s:Rst) (n:Nod) (h:s.In) (hk:cntV s 9<1∨8<cntV s 9) (z1:n.za=0) (z2:n.zb=0) (z3:n.qz=0) (z4:n.lo=0) (z5:n.hi=0):VM L_ 131 ([.ifc 183 (.agg [.ptr 100000 0 0]),.ptr 100001 0 0]) ([(100000,.var (rdC s)),(100001,.var (nodC n))]) (.tup []) ([(100000,.var (rdC (cntS (cntS s 9) 1024))),(100001,.var (nodC { n with kd:=cntV s 9,na:=cntV (cntS s 9) 1024 }))]):=by
 have oz0:=(show NilNo L_ (183:Nat) "stepwell/pack.number" from (nilNo (f:=97) (by kernel_rfl)))
 have oz1:=@tnum_kd (s) (n) (9) h (by omega) (by omega)
 have oz2:=(show MethodIs L_ (183:Nat) "stepwell/pack.number" (methF L_ (183:Nat) "stepwell/pack.number") from (methodIs (by kernel_rfl)))
 have oz4:=@tnum_na (cntS s 9) (Nod.mk (cntV s 9) n.na n.nb n.nk n.ns n.np n.no n.za n.zb n.w n.b n.qm n.qs n.qz n.rm n.rs n.rz n.lo n.hi) (1024) (by (repeat first|exact h|apply cnt_in|apply sml_in|apply lst_in|apply scl_in)) (by (try dsimp only)<;>omega) (by (try dsimp only)<;>omega)
 have oz6:=@of_9 (cntV s 9) hk
 have oz7:=@tsides_9 (cntS (cntS s 9) 1024) (Nod.mk (cntV s 9) (cntV (cntS s 9) 1024) n.nb n.nk n.ns n.np n.no n.za n.zb n.w n.b n.qm n.qs n.qz n.rm n.rs n.rz n.lo n.hi) (by (repeat first|exact h|apply cnt_in|apply sml_in|apply lst_in|apply scl_in)) hk
 have oz8:=z1_
 exact VM.run (fn:=Tryz.f131) (W:=[.r [] [cn oz1],.r [] [cn oz4],.r [] [cr oz6],.r [] [cn oz7],r_,d_,r_,d_,r_,d_,r_,b_]) (G:=[.drop [4],.sort]) CB_ (by kernel_rfl) (.c8 oz0 oz1 oz2 oz0 oz4 oz2 oz6 oz7<|.d4 oz8 oz8 oz8 z0_)
theorem twalk_9v (s:Rst) (n:Nod) (h:s.In) (hk:cntV s 9<1∨8<cntV s 9) (z1:n.za=0) (z2:n.zb=0) (z3:n.qz=0) (z4:n.lo=0) (z5:n.hi=0):VM L_ 131 [.ifc 183 (.agg [.ptr 100000 0 0]),.ptr 100001 0 0] [(100000,.var (rdC s)),(100001,.var (nodC n))] (.tup []) [(100000,.var (rdC (ts_9 s))),(100001,.var (nodC (tn_9 s n)))]:=twalk_9 s n h hk z1 z2 z3 z4 z5
theorem getP (n:Nat) (hn:n<18446744073709551616) (b:List Int):getV (putL n++b)=n∧getN (putL n++b)=(putL n).length∧getE (putL n++b)=0:=by
 have:=got n b hn
 simp only[getV,getN,getE,this,and_self]
theorem putN_eq {v:Int} (h0:0≤v) (h1:v≤2147483647):putN v=putL v.toNat:=by
 unfold putN;rw[CX_,show v % 18446744073709551616=v from by omega]
theorem cnt_there {v m:Int} (h0:0≤v) (h1:v≤m) (hm:m≤2147483647) (b:List Int):cntS (putN v++b,0) m=(b,0)∧cntV (putN v++b,0) m=v:=by
 obtain ⟨g1,g2,g3⟩:=getP v.toNat (by omega) b
 rw[putN_eq h0 (by omega)]
 constructor
 ·unfold cntS
  rw[j_ (by simp),j_ (by simpa using g3),j_ (by dsimp only;rw[g1];omega)]
  dsimp only
  rw[g2,AJ_,List.drop_left]
 ·unfold cntV
  rw[j_ (by simp),j_ (by simpa using g3),j_ (by dsimp only;rw[g1];omega)]
  dsimp only
  rw[g1];omega
theorem cnt_ok {s:Rst} {m:Int} (h:(cntS s m).2=0):s.2=0:=by
 by_cases q:s.2=0
 ·exact q
 ·unfold cntS at h;rw[i_ q] at h;exact absurd h q
theorem cnt_back {s:Rst} {m:Int} (h:s.In) (hs:(cntS s m).2=0):s.1=putN (cntV s m)++(cntS s m).1:=by
 have he:=cnt_ok hs
 unfold cntS at hs
 rw[j_ (by simpa using he)] at hs
 by_cases h1:getE s.1=0
 ·rw[j_ (by simpa using h1)] at hs
  by_cases h2:max m 0<getV s.1
  ·rw[i_ h2] at hs;simp at hs
  ·have r:=get_rng h.b
   obtain ⟨_,_,e⟩:=get_back s.1 h.b (getV s.1) (getN s.1) (Prod.ext rfl (Prod.ext rfl h1))
   have a:cntS s m=(s.1.drop (getN s.1).toNat,0):=by unfold cntS;rw[j_ (by simpa using he),j_ (by simpa using h1),j_ h2]
   have b:cntV s m=getV s.1:=by unfold cntV;rw[j_ (by simpa using he),j_ (by simpa using h1),j_ h2]
   rw[a,b,putN,CX_,show getV s.1 % 18446744073709551616=getV s.1 from by omega,e,List.take_append_drop]
 ·rw[i_ h1] at hs;exact absurd hs h1
theorem tkW_eq (l:List Int) (k:Nat) (h:k≤l.length):tkW l k=(l.take k).map IntKind.i8.wrap:=by
 induction k with
 | zero=>rfl
 | succ k ih =>
  rw[tkW,ih (by omega),dpW_eq,List.take_succ_eq_append_getElem (by omega),B_]
  congr 1
  simp[AU_,CL_,Z_ (s_ (k<l.length))]
theorem small_w8 (l:List Int) (h:∀ x∈l,In8 x):(smallL l).map IntKind.i8.wrap=l:=by
 unfold smallL
 rw[List.map_map]
 conv=>rhs;rw[←List.map_id l]
 apply List.map_congr_left
 intro x hx
 have:=h x hx
 unfold In8 at this
 simp only[Function.comp,id]
 unfold IntKind.wrap;simp[IntKind.bits,IntKind.signed];omega
theorem w8_small (l:List Int) (h:∀ x∈l,0≤x∧x≤255):smallL (l.map IntKind.i8.wrap)=l:=by
 unfold smallL
 rw[List.map_map]
 conv=>rhs;rw[←List.map_id l]
 apply List.map_congr_left
 intro x hx
 have:=h x hx
 simp only[Function.comp,id]
 unfold IntKind.wrap;simp[IntKind.bits,IntKind.signed];omega
theorem sml_there (l:List Int) (h:∀ x∈l,In8 x) (b:List Int):smlS (smallL l++b,0) l.length=(b,0)∧smlV (smallL l++b,0) l.length=l:=by
 have q:(smallL l).length=l.length:=R_ _
 have q2:(smallL l++b).length=l.length+b.length:=by rw[P_,q]
 by_cases h1:(l.length:Int)<1
 ·have:l=[]:=List.length_eq_zero_iff.1 (by omega)
  subst this
  constructor
  ·unfold smlS;rw[j_ (by simp),i_ h1];rfl
  ·unfold smlV;rw[j_ (by simp),i_ h1]
 ·constructor
  ·unfold smlS;rw[j_ (by simp),j_ h1,j_ (by dsimp only;omega)]
   dsimp only
   rw[dpW_eq,AJ_,←q,List.drop_left]
  ·unfold smlV;rw[j_ (by simp),j_ h1,j_ (by dsimp only;omega)]
   dsimp only
   rw[AJ_,tkW_eq _ _ (by omega),←q,List.take_left,small_w8 l h]
theorem sml_ok {s:Rst} {n:Int} (h:(smlS s n).2=0):s.2=0:=by
 by_cases q:s.2=0
 ·exact q
 ·unfold smlS at h;rw[i_ q] at h;exact absurd h q
theorem sml_back {s:Rst} {n:Int} (h:s.In) (hs:(smlS s n).2=0) (h0:0≤n):s.1=smallL (smlV s n)++(smlS s n).1∧((smlV s n).length:Int)=n:=by
 have he:=sml_ok hs
 unfold smlS at hs
 rw[j_ (by simpa using he)] at hs
 by_cases h1:n<1
 ·have a:smlS s n=s:=by unfold smlS;rw[j_ (by simpa using he),i_ h1]
  have b:smlV s n=[]:=by unfold smlV;rw[j_ (by simpa using he),i_ h1]
  rw[a,b]
  exact ⟨rfl,by simp;omega⟩
 ·rw[j_ h1] at hs
  by_cases h2:(s.1.length:Int)<n
  ·rw[i_ h2] at hs;simp at hs
  ·have a:smlS s n=(dpW s.1 n.toNat,0):=by unfold smlS;rw[j_ (by simpa using he),j_ h1,j_ h2]
   have b:smlV s n=tkW s.1 n.toNat:=by unfold smlV;rw[j_ (by simpa using he),j_ h1,j_ h2]
   rw[a,b,dpW_eq,tkW_eq _ _ (by omega),w8_small _ (fun x hx=>h.b x (CJ_ hx)),List.take_append_drop]
   refine ⟨rfl,?_⟩
   rw[R_,BS_];omega
theorem one_there {x:Int} (h:In8 x) (b:List Int):smlS ([IntKind.u8.wrap x]++b,0) 1=(b,0)∧oneV ([IntKind.u8.wrap x]++b,0)=x:=by
 have:=sml_there [x] (by simpa using h) b
 rw[small1] at this
 refine ⟨this.1,?_⟩
 unfold oneV
 rw[show smlV ([IntKind.u8.wrap x]++b,0) 1=[x] from this.2];rfl
theorem one_back {s:Rst} (h:s.In) (hs:(smlS s 1).2=0):s.1=[IntKind.u8.wrap (oneV s)]++(smlS s 1).1:=by
 obtain ⟨a,b⟩:=sml_back h hs (by omega)
 unfold oneV
 match q:smlV s 1,b with
 | [x],_=>rw[q,small1] at a;exact a
theorem fold_unfold {g:Int} (h:0≤g):foldN (unfoldN g)=g:=by
 unfold foldN unfoldN
 split
 ·split<;>omega
 ·split<;>omega
theorem int_there {x lo hi:Int} (h0:lo≤x) (h1:x≤hi) (hx : -2147483648≤x∧x≤2147483647) (b:List Int):intS (putL (foldN x).toNat++b,0) lo hi=(b,0)∧intV (putL (foldN x).toNat++b,0) lo hi=x:=by
 have f:=foldN_bd x (by omega) (by omega)
 obtain ⟨g1,g2,g3⟩:=getP (foldN x).toNat (by omega) b
 have u:unfoldN (getV (putL (foldN x).toNat++b))=x:=by rw[g1,Int.toNat_of_nonneg f.1];exact unfold_fold x _ rfl
 constructor
 ·unfold intS
  rw[j_ (by simp),j_ (by simpa using g3),j_ (by dsimp only;rw[u];omega)]
  dsimp only
  rw[g2,AJ_,List.drop_left]
 ·unfold intV
  rw[j_ (by simp),j_ (by simpa using g3),j_ (by dsimp only;rw[u];omega)]
  exact u
theorem int_ok {s:Rst} {lo hi:Int} (h:(intS s lo hi).2=0):s.2=0:=by
 by_cases q:s.2=0
 ·exact q
 ·unfold intS at h;rw[i_ q] at h;exact absurd h q
theorem int_back {s:Rst} {lo hi:Int} (h:s.In) (hs:(intS s lo hi).2=0):s.1=putL (foldN (intV s lo hi)).toNat++(intS s lo hi).1:=by
 have he:=int_ok hs
 unfold intS at hs
 rw[j_ (by simpa using he)] at hs
 by_cases h1:getE s.1=0
 ·rw[j_ (by simpa using h1)] at hs
  by_cases h2:unfoldN (getV s.1)<lo∨hi<unfoldN (getV s.1)
  ·rw[i_ h2] at hs;simp at hs
  ·have r:=get_rng h.b
   obtain ⟨_,_,e⟩:=get_back s.1 h.b (getV s.1) (getN s.1) (Prod.ext rfl (Prod.ext rfl h1))
   have a:intS s lo hi=(s.1.drop (getN s.1).toNat,0):=by unfold intS;rw[j_ (by simpa using he),j_ (by simpa using h1),j_ h2]
   have b:intV s lo hi=unfoldN (getV s.1):=by unfold intV;rw[j_ (by simpa using he),j_ (by simpa using h1),j_ h2]
   rw[a,b,fold_unfold r.1,e,List.take_append_drop]
 ·rw[i_ h1] at hs;exact absurd hs h1
theorem itS_succ (s:Rst) (k:Nat):itS s (k+1)=itS (intS s (-2147483648) 2147483647) k:=by
 induction k with
 | zero=>rfl
 | succ k ih=>rw[itS,ih];rfl
theorem itV_succ (s:Rst) (k:Nat):itV s (k+1)=intV s (-2147483648) 2147483647::itV (intS s (-2147483648) 2147483647) k:=by
 induction k with
 | zero=>rfl
 | succ k ih=>rw[itV,ih,itS_succ];rfl
theorem it_there (l:List Int) (h:∀ x∈l,-2147483648≤x∧x≤2147483647) (b:List Int):itS (wideL l++b,0) l.length=(b,0)∧itV (wideL l++b,0) l.length=l:=by
 induction l with
 | nil=>exact ⟨rfl,rfl⟩
 | cons x l ih =>
  have hx:=h x (by simp)
  obtain ⟨a1,a2⟩:=int_there hx.1 hx.2 hx (wideL l++b)
  obtain ⟨i1,i2⟩:=ih fun y hy=>h y (by simp[hy])
  rw[AE_,wideL_cons,AZ_,itS_succ,itV_succ,a1,a2,i1,i2]
  exact ⟨rfl,rfl⟩
theorem putL_pos (n:Nat):0<(putL n).length:=by
 unfold putL;split<;>simp
theorem wideL_ge (l:List Int):l.length≤(wideL l).length:=by
 induction l with
 | nil=>simp
 | cons x l ih =>
  have:=putL_pos (foldN x).toNat
  rw[wideL_cons,P_,AE_];omega
theorem wid_there (l:List Int) (h:∀ x∈l,-2147483648≤x∧x≤2147483647) (b:List Int):widS (wideL l++b,0) l.length=(b,0)∧widV (wideL l++b,0) l.length=l:=by
 have q:=wideL_ge l
 have q2:(wideL l++b).length=(wideL l).length+b.length:=P_
 obtain ⟨i1,i2⟩:=it_there l h b
 by_cases h1:(l.length:Int)<1
 ·have:l=[]:=List.length_eq_zero_iff.1 (by omega)
  subst this
  constructor
  ·unfold widS;rw[j_ (by simp),i_ h1];rfl
  ·unfold widV;rw[j_ (by simp),i_ h1]
 ·constructor
  ·unfold widS;rw[j_ (by simp),j_ h1,j_ (by dsimp only;omega),AJ_,i1]
  ·unfold widV;rw[j_ (by simp),j_ h1,j_ (by dsimp only;omega),AJ_,i1,j_ (by simp),i2]
theorem wid_ok {s:Rst} {n:Int} (h:(widS s n).2=0):s.2=0:=by
 by_cases q:s.2=0
 ·exact q
 ·unfold widS at h;rw[i_ q] at h;exact absurd h q
theorem it_ok {s:Rst} {k:Nat} (h:(itS s k).2=0):s.2=0:=by
 induction k with
 | zero=>exact h
 | succ k ih=>exact ih (int_ok h)
theorem it_back {k:Nat}:∀ {s:Rst},s.In→(itS s k).2=0→s.1=wideL (itV s k)++(itS s k).1:=by
 induction k with
 | zero=>intro s _ _;rfl
 | succ k ih =>
  intro s h hs
  rw[itS_succ] at hs
  rw[itS_succ,itV_succ,wideL_cons,AZ_,←ih (int_in h _ _) hs]
  exact int_back h (it_ok hs)
theorem wid_back {s:Rst} {n:Int} (h:s.In) (hs:(widS s n).2=0) (h0:0≤n):s.1=wideL (widV s n)++(widS s n).1∧((widV s n).length:Int)=n:=by
 have he:=wid_ok hs
 unfold widS at hs
 rw[j_ (by simpa using he)] at hs
 by_cases h1:n<1
 ·have a:widS s n=s:=by unfold widS;rw[j_ (by simpa using he),i_ h1]
  have b:widV s n=[]:=by unfold widV;rw[j_ (by simpa using he),i_ h1]
  rw[a,b]
  exact ⟨rfl,by simp;omega⟩
 ·rw[j_ h1] at hs
  by_cases h2:(s.1.length:Int)<n
  ·rw[i_ h2] at hs;simp at hs
  ·rw[j_ h2] at hs
   have a:widS s n=itS s n.toNat:=by unfold widS;rw[j_ (by simpa using he),j_ h1,j_ h2]
   have b:widV s n=itV s n.toNat:=by unfold widV;rw[j_ (by simpa using he),j_ h1,j_ h2,j_ (by simpa using hs)]
   rw[a,b]
   exact ⟨it_back h hs,by rw[itV_len];omega⟩
theorem nodEq_false {a b:Nod} (h:(a.kd != b.kd || a.na != b.na || a.nb != b.nb || a.nk != b.nk || a.ns != b.ns || a.np != b.np || a.no != b.no)=true):false=nodEq a b:=by
 symm
 rw[Bool.eq_false_iff]
 intro h'
 have h':=(nodEq_iff _ _).1 h'
 subst h'
 simp at h
theorem nodEq_rest {a b:Nod} (h:(a.kd != b.kd || a.na != b.na || a.nb != b.nb || a.nk != b.nk || a.ns != b.ns || a.np != b.np || a.no != b.no)=false) :
  (a.za==b.za&&a.zb==b.zb&&a.lo==b.lo&&a.hi==b.hi&&eqNums [(V_,a.qm,b.qm),(O_,a.qs,b.qs),(S_,a.qz,b.qz)]&&eqNums [(V_,a.rm,b.rm),(O_,a.rs,b.rs),(S_,a.rz,b.rz)]&&decide (a.w=b.w)&&decide (a.b=b.b))=nodEq a b:=by
 simp only[U_,G_] at h
 obtain ⟨⟨⟨⟨⟨⟨h1,h2⟩,h3⟩,h4⟩,h5⟩,h6⟩,h7⟩:=h
 rw[Bool.eq_iff_iff]
 simp only[nodEq,eqNums,h1,h2,h3,h4,h5,h6,h7,N_,E_,I_,true_and,and_true]
 constructor
 ·rintro ⟨⟨⟨⟨⟨⟨⟨q1,q2⟩,q3⟩,q4⟩,q5⟩,q6⟩,q7⟩,q8⟩;exact ⟨⟨⟨⟨q7,q8⟩,q1,q2,q3,q4⟩,q5⟩,q6⟩
 ·rintro ⟨⟨⟨⟨q7,q8⟩,q1,q2,q3,q4⟩,q5⟩,q6⟩;exact ⟨⟨⟨⟨⟨⟨⟨q1,q2⟩,q3⟩,q4⟩,q5⟩,q6⟩,q7⟩,q8⟩
theorem refSame_v (a b:Nod) (hw:a.w.length≤100000) (hb:a.b.length≤100000):VC L_ 102 ([nod a,nod b]) (bv (nodEq a b)):=by
 rcases bft (a.kd != b.kd || a.na != b.na || a.nb != b.nb || a.nk != b.nk || a.ns != b.ns || a.np != b.np || a.no != b.no) with hc0|hc0
 ·have gc0:(((((¬a.kd=b.kd∨¬a.na=b.na)∨¬a.nb=b.nb)∨¬a.nk=b.nk)∨¬a.ns=b.ns)∨¬a.np=b.np)∨¬a.no=b.no:=gc0_ hc0
  exact (cR_ [r_,.r [] [o_,o_,o_,o_,o_,.sel 1,o_,o_,o_,o_,o_,.sel 1,o_,o_,o_,o_,o_,.sel 1,o_,o_,o_,o_,o_,.sel 1,o_,o_,o_,o_,o_,.sel 1,o_,o_,o_,o_,o_,.sel 1],b_,r_] (bv false) Tryz.func102 (.d hc0)).weak (AM_ _) (AF_ (by (exact nodEq_false (by assumption))))
 ·have gc0:(((((a.kd=b.kd∧a.na=b.na)∧a.nb=b.nb)∧a.nk=b.nk)∧a.ns=b.ns)∧a.np=b.np)∧a.no=b.no:=gc0_ hc0
  have oz3:=@rsame8_v (a.w) (b.w) (by omega)
  have oz4:=@rsame32_v (a.b) (b.b) (by omega)
  exact (cR_ [r_,.r [] [o_,o_,o_,o_,o_,.sel 1,o_,o_,o_,o_,o_,.sel 1,o_,o_,o_,o_,o_,.sel 1,o_,o_,o_,o_,o_,.sel 1,o_,o_,o_,o_,o_,.sel 1,o_,o_,o_,o_,o_,.sel 1],d_,.r [] [o_,o_,o_,o_,o_,.sel 2,o_,o_,o_,o_,o_,.sel 2,o_,o_,o_,o_,o_,.sel 2,o_,o_,o_,o_,o_,.v (BD_ (eqNums [(V_,a.qm,b.qm),(O_,a.qs,b.qs),(S_,a.qz,b.qz)])),.sel 2,o_,o_,o_,o_,o_,.v (BD_ (eqNums [(V_,a.rm,b.rm),(O_,a.rs,b.rs),(S_,a.rz,b.rz)])),.sel 2,o_,o_,o_,o_,o_,cr oz3,.sel 2,o_,o_,o_,o_,o_,cr oz4,.sel 2]] (bv (a.za==b.za&&a.zb==b.zb&&a.lo==b.lo&&a.hi==b.hi&&eqNums [(V_,a.qm,b.qm),(O_,a.qs,b.qs),(S_,a.qz,b.qz)]&&eqNums [(V_,a.rm,b.rm),(O_,a.rs,b.rs),(S_,a.rz,b.rz)]&&decide (a.w=b.w)&&decide (a.b=b.b))) Tryz.func102 (.d5 hc0 (show BinTo L_ BinOp.eql 54 (Operand.tmp 80) (Operand.tmp 82) (CT_ #[AS_ V_ a.qm,AS_ O_ a.qs,AS_ S_ a.qz]) (CT_ #[AS_ V_ b.qm,AS_ O_ b.qs,AS_ S_ b.qz]) (BD_ (eqNums [(V_,a.qm,b.qm),(O_,a.qs,b.qs),(S_,a.qz,b.qz)])) from ((bin_nums (l:=[(V_,a.qm,b.qm),(O_,a.qs,b.qs),(S_,a.qz,b.qz)]) (by kernel_rfl) (by kernel_rfl) (by kernel_rfl) (by kernel_rfl) _ _).1)) (show BinTo L_ BinOp.eql 54 (Operand.tmp 87) (Operand.tmp 89) (CT_ #[AS_ V_ a.rm,AS_ O_ a.rs,AS_ S_ a.rz]) (CT_ #[AS_ V_ b.rm,AS_ O_ b.rs,AS_ S_ b.rz]) (BD_ (eqNums [(V_,a.rm,b.rm),(O_,a.rs,b.rs),(S_,a.rz,b.rz)])) from ((bin_nums (l:=[(V_,a.rm,b.rm),(O_,a.rs,b.rs),(S_,a.rz,b.rz)]) (by kernel_rfl) (by kernel_rfl) (by kernel_rfl) (by kernel_rfl) _ _).1)) oz3 oz4)).weak (AM_ _) (AF_ (by (exact nodEq_rest (by assumption))))
def nod0:Nod:=⟨0,0,0,0,0,0,0,0,0,[],[],0,0,0,0,0,0,0,0⟩
theorem plain_same {n:Nod} (h0:1≤n.kd) (h9:n.kd≤9) (h:moreE n=false):nodEq (plainN n) n=true:=by
 have h1:=more_iff n h0 h9
 rw[h] at h1
 rw[nodEq_iff];exact ((nodEq_iff _ _).1 h1).symm
structure NTh (n:Nod):Prop where
 okn:n.Ok
 kd:0≤n.kd∧n.kd≤9
 na:0≤n.na∧n.na≤1024
 nb:0≤n.nb∧n.nb≤1024
 nk:0≤n.nk∧n.nk≤1024
 ns:0≤n.ns∧n.ns≤1024
 np:0≤n.np∧n.np≤1024
 no:0≤n.no∧n.no≤1024
 wl:n.w.length≤16384
 bl:n.b.length≤16384
 q:scaledB n.kd=true→(0≤n.qm∧n.qm≤2147483647)∧(0≤n.qs∧n.qs≤62)
 r:n.kd=6→(0≤n.rm∧n.rm≤2147483647)∧(0≤n.rs∧n.rs≤62)
theorem cntS_there {v m:Int} (h:0≤v∧v≤m) (hm:m≤2147483647):∀ b,cntS (putN v++b,0) m=(b,0):=fun b=>(cnt_there h.1 h.2 hm b).1
theorem cntV_there {v m:Int} (h:0≤v∧v≤m) (hm:m≤2147483647):∀ b,cntV (putN v++b,0) m=v:=fun b=>(cnt_there h.1 h.2 hm b).2
theorem oneS_there {x:Int} (h:In8 x):∀ b,smlS ([IntKind.u8.wrap x]++b,0) 1=(b,0):=fun b=>(one_there h b).1
theorem oneV_there {x:Int} (h:In8 x):∀ b,oneV ([IntKind.u8.wrap x]++b,0)=x:=fun b=>(one_there h b).2
theorem lst_there {w d:List Int} (hw:w.length≤16384) (hd:d.length≤16384) (h8:∀ x∈w,In8 x) (h32:∀ x∈d,In32 x) (b:List Int) :
  lstW (putN (w.length:Int)++(smallL w++(putN (d.length:Int)++(wideL d++b))),0)=w∧lstB (putN (w.length:Int)++(smallL w++(putN (d.length:Int)++(wideL d++b))),0)=d∧lstS (putN (w.length:Int)++(smallL w++(putN (d.length:Int)++(wideL d++b))),0)=(b,0):=by
 have a1:=cntS_there (v:=(w.length:Int)) (m:=16384) ⟨by omega,by omega⟩ (by decide)
 have a2:=cntV_there (v:=(w.length:Int)) (m:=16384) ⟨by omega,by omega⟩ (by decide)
 have a3:=cntS_there (v:=(d.length:Int)) (m:=16384) ⟨by omega,by omega⟩ (by decide)
 have a4:=cntV_there (v:=(d.length:Int)) (m:=16384) ⟨by omega,by omega⟩ (by decide)
 have b1:=fun b=>(sml_there w h8 b).1
 have b2:=fun b=>(sml_there w h8 b).2
 have b3:=fun b=>(wid_there d h32 b).1
 have b4:=fun b=>(wid_there d h32 b).2
 unfold lstW lstB lstS lst1
 simp only[a1,a2,a3,a4,b1,b2,b3,b4,and_self]
theorem scl_there {m s:Int} (hm:0≤m∧m≤2147483647) (hs:0≤s∧s≤62) (b:List Int):sclS (putN m++(putN s++b),0)=(b,0)∧sclM (putN m++(putN s++b),0)=m∧sclH (putN m++(putN s++b),0)=s:=by
 have a1:=cntS_there hm (by decide)
 have a2:=cntV_there hm (by decide)
 have a3:=cntS_there hs (by decide)
 have a4:=cntV_there hs (by decide)
 unfold sclS sclM sclH
 simp only[a1,a2,a3,a4,and_self]
theorem there_1 (n:Nod) (h:NTh n) (hk:n.kd=1) (b:List Int):ts_1 (lb_1 putN n++b,0)=(b,0)∧tn_1 (lb_1 putN n++b,0) nod0=⟨n.kd,n.na,0,n.nk,n.ns,n.np,n.no,n.za,0,n.w,n.b,n.qm,n.qs,n.qz,0,0,0,n.lo,n.hi⟩:=by
 have a0:=cntS_there h.kd (by decide)
 have b0:=cntV_there h.kd (by decide)
 have a1:=cntS_there h.na (by decide)
 have b1:=cntV_there h.na (by decide)
 have a2:=cntS_there h.nk (by decide)
 have b2:=cntV_there h.nk (by decide)
 have a3:=cntS_there h.ns (by decide)
 have b3:=cntV_there h.ns (by decide)
 have a4:=cntS_there h.np (by decide)
 have b4:=cntV_there h.np (by decide)
 have a5:=cntS_there h.no (by decide)
 have b5:=cntV_there h.no (by decide)
 have a6:=oneS_there h.okn.za
 have b6:=oneV_there h.okn.za
 have l:=lst_there h.wl h.bl h.okn.w h.okn.b
 have l1:=fun b=>(l b).1
 have l2:=fun b=>(l b).2.1
 have l3:=fun b=>(l b).2.2
 have sq:=scl_there (h.q (by simp[scaledB,hk])).1 (h.q (by simp[scaledB,hk])).2
 have sq1:=fun b=>(sq b).1
 have sq2:=fun b=>(sq b).2.1
 have sq3:=fun b=>(sq b).2.2
 have a10:=oneS_there h.okn.qz
 have b10:=oneV_there h.okn.qz
 have a11:=oneS_there h.okn.lo
 have b11:=oneV_there h.okn.lo
 have a12:=oneS_there h.okn.hi
 have b12:=oneV_there h.okn.hi
 unfold ts_1 tn_1 lb_1
 simp only[AZ_,a0,b0,a1,b1,a2,b2,a3,b3,a4,b4,a5,b5,a6,b6,l1,l2,l3,sq1,sq2,sq3,a10,b10,a11,b11,a12,b12,nod0,and_self]
theorem back_1 (s:Rst) (h:s.In) (hs:(ts_1 s).2=0):s.1=lb_1 putN (tn_1 s nod0)++(ts_1 s).1:=by
 have i0:=h
 have i1:(cntS s 9).In:=cnt_in i0 _
 have i2:(cntS (cntS s 9) 1024).In:=cnt_in i1 _
 have i3:(cntS (cntS (cntS s 9) 1024) 1024).In:=cnt_in i2 _
 have i4:(cntS (cntS (cntS (cntS s 9) 1024) 1024) 1024).In:=cnt_in i3 _
 have i5:(cntS (cntS (cntS (cntS (cntS s 9) 1024) 1024) 1024) 1024).In:=cnt_in i4 _
 have i6:(cntS (cntS (cntS (cntS (cntS (cntS s 9) 1024) 1024) 1024) 1024) 1024).In:=cnt_in i5 _
 have i7:(smlS (cntS (cntS (cntS (cntS (cntS (cntS s 9) 1024) 1024) 1024) 1024) 1024) 1).In:=sml_in i6 _
 have i8:(cntS (smlS (cntS (cntS (cntS (cntS (cntS (cntS s 9) 1024) 1024) 1024) 1024) 1024) 1) 16384).In:=cnt_in i7 _
 have i9:(smlS (cntS (smlS (cntS (cntS (cntS (cntS (cntS (cntS s 9) 1024) 1024) 1024) 1024) 1024) 1) 16384) (cntV (smlS (cntS (cntS (cntS (cntS (cntS (cntS s 9) 1024) 1024) 1024) 1024) 1024) 1) 16384)).In:=sml_in i8 _
 have i10:(cntS (smlS (cntS (smlS (cntS (cntS (cntS (cntS (cntS (cntS s 9) 1024) 1024) 1024) 1024) 1024) 1) 16384) (cntV (smlS (cntS (cntS (cntS (cntS (cntS (cntS s 9) 1024) 1024) 1024) 1024) 1024) 1) 16384)) 16384).In:=cnt_in i9 _
 have i11:(widS (cntS (smlS (cntS (smlS (cntS (cntS (cntS (cntS (cntS (cntS s 9) 1024) 1024) 1024) 1024) 1024) 1) 16384) (cntV (smlS (cntS (cntS (cntS (cntS (cntS (cntS s 9) 1024) 1024) 1024) 1024) 1024) 1) 16384)) 16384) (cntV (smlS (cntS (smlS (cntS (cntS (cntS (cntS (cntS (cntS s 9) 1024) 1024) 1024) 1024) 1024) 1) 16384) (cntV (smlS (cntS (cntS (cntS (cntS (cntS (cntS s 9) 1024) 1024) 1024) 1024) 1024) 1) 16384)) 16384)).In:=wid_in i10 _
 have i12:(cntS (widS (cntS (smlS (cntS (smlS (cntS (cntS (cntS (cntS (cntS (cntS s 9) 1024) 1024) 1024) 1024) 1024) 1) 16384) (cntV (smlS (cntS (cntS (cntS (cntS (cntS (cntS s 9) 1024) 1024) 1024) 1024) 1024) 1) 16384)) 16384) (cntV (smlS (cntS (smlS (cntS (cntS (cntS (cntS (cntS (cntS s 9) 1024) 1024) 1024) 1024) 1024) 1) 16384) (cntV (smlS (cntS (cntS (cntS (cntS (cntS (cntS s 9) 1024) 1024) 1024) 1024) 1024) 1) 16384)) 16384)) 2147483647).In:=cnt_in i11 _
 have i13:(cntS (cntS (widS (cntS (smlS (cntS (smlS (cntS (cntS (cntS (cntS (cntS (cntS s 9) 1024) 1024) 1024) 1024) 1024) 1) 16384) (cntV (smlS (cntS (cntS (cntS (cntS (cntS (cntS s 9) 1024) 1024) 1024) 1024) 1024) 1) 16384)) 16384) (cntV (smlS (cntS (smlS (cntS (cntS (cntS (cntS (cntS (cntS s 9) 1024) 1024) 1024) 1024) 1024) 1) 16384) (cntV (smlS (cntS (cntS (cntS (cntS (cntS (cntS s 9) 1024) 1024) 1024) 1024) 1024) 1) 16384)) 16384)) 2147483647) 62).In:=cnt_in i12 _
 have i14:(smlS (cntS (cntS (widS (cntS (smlS (cntS (smlS (cntS (cntS (cntS (cntS (cntS (cntS s 9) 1024) 1024) 1024) 1024) 1024) 1) 16384) (cntV (smlS (cntS (cntS (cntS (cntS (cntS (cntS s 9) 1024) 1024) 1024) 1024) 1024) 1) 16384)) 16384) (cntV (smlS (cntS (smlS (cntS (cntS (cntS (cntS (cntS (cntS s 9) 1024) 1024) 1024) 1024) 1024) 1) 16384) (cntV (smlS (cntS (cntS (cntS (cntS (cntS (cntS s 9) 1024) 1024) 1024) 1024) 1024) 1) 16384)) 16384)) 2147483647) 62) 1).In:=sml_in i13 _
 have i15:(smlS (smlS (cntS (cntS (widS (cntS (smlS (cntS (smlS (cntS (cntS (cntS (cntS (cntS (cntS s 9) 1024) 1024) 1024) 1024) 1024) 1) 16384) (cntV (smlS (cntS (cntS (cntS (cntS (cntS (cntS s 9) 1024) 1024) 1024) 1024) 1024) 1) 16384)) 16384) (cntV (smlS (cntS (smlS (cntS (cntS (cntS (cntS (cntS (cntS s 9) 1024) 1024) 1024) 1024) 1024) 1) 16384) (cntV (smlS (cntS (cntS (cntS (cntS (cntS (cntS s 9) 1024) 1024) 1024) 1024) 1024) 1) 16384)) 16384)) 2147483647) 62) 1) 1).In:=sml_in i14 _
 have h16:(smlS (smlS (smlS (cntS (cntS (widS (cntS (smlS (cntS (smlS (cntS (cntS (cntS (cntS (cntS (cntS s 9) 1024) 1024) 1024) 1024) 1024) 1) 16384) (cntV (smlS (cntS (cntS (cntS (cntS (cntS (cntS s 9) 1024) 1024) 1024) 1024) 1024) 1) 16384)) 16384) (cntV (smlS (cntS (smlS (cntS (cntS (cntS (cntS (cntS (cntS s 9) 1024) 1024) 1024) 1024) 1024) 1) 16384) (cntV (smlS (cntS (cntS (cntS (cntS (cntS (cntS s 9) 1024) 1024) 1024) 1024) 1024) 1) 16384)) 16384)) 2147483647) 62) 1) 1) 1).2=0:=hs
 have h15:(smlS (smlS (cntS (cntS (widS (cntS (smlS (cntS (smlS (cntS (cntS (cntS (cntS (cntS (cntS s 9) 1024) 1024) 1024) 1024) 1024) 1) 16384) (cntV (smlS (cntS (cntS (cntS (cntS (cntS (cntS s 9) 1024) 1024) 1024) 1024) 1024) 1) 16384)) 16384) (cntV (smlS (cntS (smlS (cntS (cntS (cntS (cntS (cntS (cntS s 9) 1024) 1024) 1024) 1024) 1024) 1) 16384) (cntV (smlS (cntS (cntS (cntS (cntS (cntS (cntS s 9) 1024) 1024) 1024) 1024) 1024) 1) 16384)) 16384)) 2147483647) 62) 1) 1).2=0:=sml_ok h16
 have h14:(smlS (cntS (cntS (widS (cntS (smlS (cntS (smlS (cntS (cntS (cntS (cntS (cntS (cntS s 9) 1024) 1024) 1024) 1024) 1024) 1) 16384) (cntV (smlS (cntS (cntS (cntS (cntS (cntS (cntS s 9) 1024) 1024) 1024) 1024) 1024) 1) 16384)) 16384) (cntV (smlS (cntS (smlS (cntS (cntS (cntS (cntS (cntS (cntS s 9) 1024) 1024) 1024) 1024) 1024) 1) 16384) (cntV (smlS (cntS (cntS (cntS (cntS (cntS (cntS s 9) 1024) 1024) 1024) 1024) 1024) 1) 16384)) 16384)) 2147483647) 62) 1).2=0:=sml_ok h15
 have h13:(cntS (cntS (widS (cntS (smlS (cntS (smlS (cntS (cntS (cntS (cntS (cntS (cntS s 9) 1024) 1024) 1024) 1024) 1024) 1) 16384) (cntV (smlS (cntS (cntS (cntS (cntS (cntS (cntS s 9) 1024) 1024) 1024) 1024) 1024) 1) 16384)) 16384) (cntV (smlS (cntS (smlS (cntS (cntS (cntS (cntS (cntS (cntS s 9) 1024) 1024) 1024) 1024) 1024) 1) 16384) (cntV (smlS (cntS (cntS (cntS (cntS (cntS (cntS s 9) 1024) 1024) 1024) 1024) 1024) 1) 16384)) 16384)) 2147483647) 62).2=0:=sml_ok h14
 have h12:(cntS (widS (cntS (smlS (cntS (smlS (cntS (cntS (cntS (cntS (cntS (cntS s 9) 1024) 1024) 1024) 1024) 1024) 1) 16384) (cntV (smlS (cntS (cntS (cntS (cntS (cntS (cntS s 9) 1024) 1024) 1024) 1024) 1024) 1) 16384)) 16384) (cntV (smlS (cntS (smlS (cntS (cntS (cntS (cntS (cntS (cntS s 9) 1024) 1024) 1024) 1024) 1024) 1) 16384) (cntV (smlS (cntS (cntS (cntS (cntS (cntS (cntS s 9) 1024) 1024) 1024) 1024) 1024) 1) 16384)) 16384)) 2147483647).2=0:=cnt_ok h13
 have h11:(widS (cntS (smlS (cntS (smlS (cntS (cntS (cntS (cntS (cntS (cntS s 9) 1024) 1024) 1024) 1024) 1024) 1) 16384) (cntV (smlS (cntS (cntS (cntS (cntS (cntS (cntS s 9) 1024) 1024) 1024) 1024) 1024) 1) 16384)) 16384) (cntV (smlS (cntS (smlS (cntS (cntS (cntS (cntS (cntS (cntS s 9) 1024) 1024) 1024) 1024) 1024) 1) 16384) (cntV (smlS (cntS (cntS (cntS (cntS (cntS (cntS s 9) 1024) 1024) 1024) 1024) 1024) 1) 16384)) 16384)).2=0:=cnt_ok h12
 have h10:(cntS (smlS (cntS (smlS (cntS (cntS (cntS (cntS (cntS (cntS s 9) 1024) 1024) 1024) 1024) 1024) 1) 16384) (cntV (smlS (cntS (cntS (cntS (cntS (cntS (cntS s 9) 1024) 1024) 1024) 1024) 1024) 1) 16384)) 16384).2=0:=wid_ok h11
 have h9:(smlS (cntS (smlS (cntS (cntS (cntS (cntS (cntS (cntS s 9) 1024) 1024) 1024) 1024) 1024) 1) 16384) (cntV (smlS (cntS (cntS (cntS (cntS (cntS (cntS s 9) 1024) 1024) 1024) 1024) 1024) 1) 16384)).2=0:=cnt_ok h10
 have h8:(cntS (smlS (cntS (cntS (cntS (cntS (cntS (cntS s 9) 1024) 1024) 1024) 1024) 1024) 1) 16384).2=0:=sml_ok h9
 have h7:(smlS (cntS (cntS (cntS (cntS (cntS (cntS s 9) 1024) 1024) 1024) 1024) 1024) 1).2=0:=cnt_ok h8
 have h6:(cntS (cntS (cntS (cntS (cntS (cntS s 9) 1024) 1024) 1024) 1024) 1024).2=0:=sml_ok h7
 have h5:(cntS (cntS (cntS (cntS (cntS s 9) 1024) 1024) 1024) 1024).2=0:=cnt_ok h6
 have h4:(cntS (cntS (cntS (cntS s 9) 1024) 1024) 1024).2=0:=cnt_ok h5
 have h3:(cntS (cntS (cntS s 9) 1024) 1024).2=0:=cnt_ok h4
 have h2:(cntS (cntS s 9) 1024).2=0:=cnt_ok h3
 have h1:(cntS s 9).2=0:=cnt_ok h2
 have e0:s.1=putN (cntV s 9)++(cntS s 9).1:=cnt_back i0 h1
 have e1:(cntS s 9).1=putN (cntV (cntS s 9) 1024)++(cntS (cntS s 9) 1024).1:=cnt_back i1 h2
 have e2:(cntS (cntS s 9) 1024).1=putN (cntV (cntS (cntS s 9) 1024) 1024)++(cntS (cntS (cntS s 9) 1024) 1024).1:=cnt_back i2 h3
 have e3:(cntS (cntS (cntS s 9) 1024) 1024).1=putN (cntV (cntS (cntS (cntS s 9) 1024) 1024) 1024)++(cntS (cntS (cntS (cntS s 9) 1024) 1024) 1024).1:=cnt_back i3 h4
 have e4:(cntS (cntS (cntS (cntS s 9) 1024) 1024) 1024).1=putN (cntV (cntS (cntS (cntS (cntS s 9) 1024) 1024) 1024) 1024)++(cntS (cntS (cntS (cntS (cntS s 9) 1024) 1024) 1024) 1024).1:=cnt_back i4 h5
 have e5:(cntS (cntS (cntS (cntS (cntS s 9) 1024) 1024) 1024) 1024).1=putN (cntV (cntS (cntS (cntS (cntS (cntS s 9) 1024) 1024) 1024) 1024) 1024)++(cntS (cntS (cntS (cntS (cntS (cntS s 9) 1024) 1024) 1024) 1024) 1024).1:=cnt_back i5 h6
 have e6:(cntS (cntS (cntS (cntS (cntS (cntS s 9) 1024) 1024) 1024) 1024) 1024).1=[IntKind.u8.wrap (oneV (cntS (cntS (cntS (cntS (cntS (cntS s 9) 1024) 1024) 1024) 1024) 1024))]++(smlS (cntS (cntS (cntS (cntS (cntS (cntS s 9) 1024) 1024) 1024) 1024) 1024) 1).1:=one_back i6 h7
 have c7:=(sml_back i8 h9 (cntV_rng (m:=16384) i7 (by decide)).1).2
 have e7:(smlS (cntS (cntS (cntS (cntS (cntS (cntS s 9) 1024) 1024) 1024) 1024) 1024) 1).1=putN (((smlV (cntS (smlS (cntS (cntS (cntS (cntS (cntS (cntS s 9) 1024) 1024) 1024) 1024) 1024) 1) 16384) (cntV (smlS (cntS (cntS (cntS (cntS (cntS (cntS s 9) 1024) 1024) 1024) 1024) 1024) 1) 16384)).length:Nat):Int)++(cntS (smlS (cntS (cntS (cntS (cntS (cntS (cntS s 9) 1024) 1024) 1024) 1024) 1024) 1) 16384).1:=by rw[c7];exact cnt_back i7 h8
 have e8:(cntS (smlS (cntS (cntS (cntS (cntS (cntS (cntS s 9) 1024) 1024) 1024) 1024) 1024) 1) 16384).1=smallL (smlV (cntS (smlS (cntS (cntS (cntS (cntS (cntS (cntS s 9) 1024) 1024) 1024) 1024) 1024) 1) 16384) (cntV (smlS (cntS (cntS (cntS (cntS (cntS (cntS s 9) 1024) 1024) 1024) 1024) 1024) 1) 16384))++(smlS (cntS (smlS (cntS (cntS (cntS (cntS (cntS (cntS s 9) 1024) 1024) 1024) 1024) 1024) 1) 16384) (cntV (smlS (cntS (cntS (cntS (cntS (cntS (cntS s 9) 1024) 1024) 1024) 1024) 1024) 1) 16384)).1:=(sml_back i8 h9 (cntV_rng (m:=16384) i7 (by decide)).1).1
 have c9:=(wid_back i10 h11 (cntV_rng (m:=16384) i9 (by decide)).1).2
 have e9:(smlS (cntS (smlS (cntS (cntS (cntS (cntS (cntS (cntS s 9) 1024) 1024) 1024) 1024) 1024) 1) 16384) (cntV (smlS (cntS (cntS (cntS (cntS (cntS (cntS s 9) 1024) 1024) 1024) 1024) 1024) 1) 16384)).1=putN (((widV (cntS (smlS (cntS (smlS (cntS (cntS (cntS (cntS (cntS (cntS s 9) 1024) 1024) 1024) 1024) 1024) 1) 16384) (cntV (smlS (cntS (cntS (cntS (cntS (cntS (cntS s 9) 1024) 1024) 1024) 1024) 1024) 1) 16384)) 16384) (cntV (smlS (cntS (smlS (cntS (cntS (cntS (cntS (cntS (cntS s 9) 1024) 1024) 1024) 1024) 1024) 1) 16384) (cntV (smlS (cntS (cntS (cntS (cntS (cntS (cntS s 9) 1024) 1024) 1024) 1024) 1024) 1) 16384)) 16384)).length:Nat):Int)++(cntS (smlS (cntS (smlS (cntS (cntS (cntS (cntS (cntS (cntS s 9) 1024) 1024) 1024) 1024) 1024) 1) 16384) (cntV (smlS (cntS (cntS (cntS (cntS (cntS (cntS s 9) 1024) 1024) 1024) 1024) 1024) 1) 16384)) 16384).1:=by rw[c9];exact cnt_back i9 h10
 have e10:(cntS (smlS (cntS (smlS (cntS (cntS (cntS (cntS (cntS (cntS s 9) 1024) 1024) 1024) 1024) 1024) 1) 16384) (cntV (smlS (cntS (cntS (cntS (cntS (cntS (cntS s 9) 1024) 1024) 1024) 1024) 1024) 1) 16384)) 16384).1=wideL (widV (cntS (smlS (cntS (smlS (cntS (cntS (cntS (cntS (cntS (cntS s 9) 1024) 1024) 1024) 1024) 1024) 1) 16384) (cntV (smlS (cntS (cntS (cntS (cntS (cntS (cntS s 9) 1024) 1024) 1024) 1024) 1024) 1) 16384)) 16384) (cntV (smlS (cntS (smlS (cntS (cntS (cntS (cntS (cntS (cntS s 9) 1024) 1024) 1024) 1024) 1024) 1) 16384) (cntV (smlS (cntS (cntS (cntS (cntS (cntS (cntS s 9) 1024) 1024) 1024) 1024) 1024) 1) 16384)) 16384))++(widS (cntS (smlS (cntS (smlS (cntS (cntS (cntS (cntS (cntS (cntS s 9) 1024) 1024) 1024) 1024) 1024) 1) 16384) (cntV (smlS (cntS (cntS (cntS (cntS (cntS (cntS s 9) 1024) 1024) 1024) 1024) 1024) 1) 16384)) 16384) (cntV (smlS (cntS (smlS (cntS (cntS (cntS (cntS (cntS (cntS s 9) 1024) 1024) 1024) 1024) 1024) 1) 16384) (cntV (smlS (cntS (cntS (cntS (cntS (cntS (cntS s 9) 1024) 1024) 1024) 1024) 1024) 1) 16384)) 16384)).1:=(wid_back i10 h11 (cntV_rng (m:=16384) i9 (by decide)).1).1
 have e11:(widS (cntS (smlS (cntS (smlS (cntS (cntS (cntS (cntS (cntS (cntS s 9) 1024) 1024) 1024) 1024) 1024) 1) 16384) (cntV (smlS (cntS (cntS (cntS (cntS (cntS (cntS s 9) 1024) 1024) 1024) 1024) 1024) 1) 16384)) 16384) (cntV (smlS (cntS (smlS (cntS (cntS (cntS (cntS (cntS (cntS s 9) 1024) 1024) 1024) 1024) 1024) 1) 16384) (cntV (smlS (cntS (cntS (cntS (cntS (cntS (cntS s 9) 1024) 1024) 1024) 1024) 1024) 1) 16384)) 16384)).1=putN (cntV (widS (cntS (smlS (cntS (smlS (cntS (cntS (cntS (cntS (cntS (cntS s 9) 1024) 1024) 1024) 1024) 1024) 1) 16384) (cntV (smlS (cntS (cntS (cntS (cntS (cntS (cntS s 9) 1024) 1024) 1024) 1024) 1024) 1) 16384)) 16384) (cntV (smlS (cntS (smlS (cntS (cntS (cntS (cntS (cntS (cntS s 9) 1024) 1024) 1024) 1024) 1024) 1) 16384) (cntV (smlS (cntS (cntS (cntS (cntS (cntS (cntS s 9) 1024) 1024) 1024) 1024) 1024) 1) 16384)) 16384)) 2147483647)++(cntS (widS (cntS (smlS (cntS (smlS (cntS (cntS (cntS (cntS (cntS (cntS s 9) 1024) 1024) 1024) 1024) 1024) 1) 16384) (cntV (smlS (cntS (cntS (cntS (cntS (cntS (cntS s 9) 1024) 1024) 1024) 1024) 1024) 1) 16384)) 16384) (cntV (smlS (cntS (smlS (cntS (cntS (cntS (cntS (cntS (cntS s 9) 1024) 1024) 1024) 1024) 1024) 1) 16384) (cntV (smlS (cntS (cntS (cntS (cntS (cntS (cntS s 9) 1024) 1024) 1024) 1024) 1024) 1) 16384)) 16384)) 2147483647).1:=cnt_back i11 h12
 have e12:(cntS (widS (cntS (smlS (cntS (smlS (cntS (cntS (cntS (cntS (cntS (cntS s 9) 1024) 1024) 1024) 1024) 1024) 1) 16384) (cntV (smlS (cntS (cntS (cntS (cntS (cntS (cntS s 9) 1024) 1024) 1024) 1024) 1024) 1) 16384)) 16384) (cntV (smlS (cntS (smlS (cntS (cntS (cntS (cntS (cntS (cntS s 9) 1024) 1024) 1024) 1024) 1024) 1) 16384) (cntV (smlS (cntS (cntS (cntS (cntS (cntS (cntS s 9) 1024) 1024) 1024) 1024) 1024) 1) 16384)) 16384)) 2147483647).1=putN (cntV (cntS (widS (cntS (smlS (cntS (smlS (cntS (cntS (cntS (cntS (cntS (cntS s 9) 1024) 1024) 1024) 1024) 1024) 1) 16384) (cntV (smlS (cntS (cntS (cntS (cntS (cntS (cntS s 9) 1024) 1024) 1024) 1024) 1024) 1) 16384)) 16384) (cntV (smlS (cntS (smlS (cntS (cntS (cntS (cntS (cntS (cntS s 9) 1024) 1024) 1024) 1024) 1024) 1) 16384) (cntV (smlS (cntS (cntS (cntS (cntS (cntS (cntS s 9) 1024) 1024) 1024) 1024) 1024) 1) 16384)) 16384)) 2147483647) 62)++(cntS (cntS (widS (cntS (smlS (cntS (smlS (cntS (cntS (cntS (cntS (cntS (cntS s 9) 1024) 1024) 1024) 1024) 1024) 1) 16384) (cntV (smlS (cntS (cntS (cntS (cntS (cntS (cntS s 9) 1024) 1024) 1024) 1024) 1024) 1) 16384)) 16384) (cntV (smlS (cntS (smlS (cntS (cntS (cntS (cntS (cntS (cntS s 9) 1024) 1024) 1024) 1024) 1024) 1) 16384) (cntV (smlS (cntS (cntS (cntS (cntS (cntS (cntS s 9) 1024) 1024) 1024) 1024) 1024) 1) 16384)) 16384)) 2147483647) 62).1:=cnt_back i12 h13
 have e13:(cntS (cntS (widS (cntS (smlS (cntS (smlS (cntS (cntS (cntS (cntS (cntS (cntS s 9) 1024) 1024) 1024) 1024) 1024) 1) 16384) (cntV (smlS (cntS (cntS (cntS (cntS (cntS (cntS s 9) 1024) 1024) 1024) 1024) 1024) 1) 16384)) 16384) (cntV (smlS (cntS (smlS (cntS (cntS (cntS (cntS (cntS (cntS s 9) 1024) 1024) 1024) 1024) 1024) 1) 16384) (cntV (smlS (cntS (cntS (cntS (cntS (cntS (cntS s 9) 1024) 1024) 1024) 1024) 1024) 1) 16384)) 16384)) 2147483647) 62).1=[IntKind.u8.wrap (oneV (cntS (cntS (widS (cntS (smlS (cntS (smlS (cntS (cntS (cntS (cntS (cntS (cntS s 9) 1024) 1024) 1024) 1024) 1024) 1) 16384) (cntV (smlS (cntS (cntS (cntS (cntS (cntS (cntS s 9) 1024) 1024) 1024) 1024) 1024) 1) 16384)) 16384) (cntV (smlS (cntS (smlS (cntS (cntS (cntS (cntS (cntS (cntS s 9) 1024) 1024) 1024) 1024) 1024) 1) 16384) (cntV (smlS (cntS (cntS (cntS (cntS (cntS (cntS s 9) 1024) 1024) 1024) 1024) 1024) 1) 16384)) 16384)) 2147483647) 62))]++(smlS (cntS (cntS (widS (cntS (smlS (cntS (smlS (cntS (cntS (cntS (cntS (cntS (cntS s 9) 1024) 1024) 1024) 1024) 1024) 1) 16384) (cntV (smlS (cntS (cntS (cntS (cntS (cntS (cntS s 9) 1024) 1024) 1024) 1024) 1024) 1) 16384)) 16384) (cntV (smlS (cntS (smlS (cntS (cntS (cntS (cntS (cntS (cntS s 9) 1024) 1024) 1024) 1024) 1024) 1) 16384) (cntV (smlS (cntS (cntS (cntS (cntS (cntS (cntS s 9) 1024) 1024) 1024) 1024) 1024) 1) 16384)) 16384)) 2147483647) 62) 1).1:=one_back i13 h14
 have e14:(smlS (cntS (cntS (widS (cntS (smlS (cntS (smlS (cntS (cntS (cntS (cntS (cntS (cntS s 9) 1024) 1024) 1024) 1024) 1024) 1) 16384) (cntV (smlS (cntS (cntS (cntS (cntS (cntS (cntS s 9) 1024) 1024) 1024) 1024) 1024) 1) 16384)) 16384) (cntV (smlS (cntS (smlS (cntS (cntS (cntS (cntS (cntS (cntS s 9) 1024) 1024) 1024) 1024) 1024) 1) 16384) (cntV (smlS (cntS (cntS (cntS (cntS (cntS (cntS s 9) 1024) 1024) 1024) 1024) 1024) 1) 16384)) 16384)) 2147483647) 62) 1).1=[IntKind.u8.wrap (oneV (smlS (cntS (cntS (widS (cntS (smlS (cntS (smlS (cntS (cntS (cntS (cntS (cntS (cntS s 9) 1024) 1024) 1024) 1024) 1024) 1) 16384) (cntV (smlS (cntS (cntS (cntS (cntS (cntS (cntS s 9) 1024) 1024) 1024) 1024) 1024) 1) 16384)) 16384) (cntV (smlS (cntS (smlS (cntS (cntS (cntS (cntS (cntS (cntS s 9) 1024) 1024) 1024) 1024) 1024) 1) 16384) (cntV (smlS (cntS (cntS (cntS (cntS (cntS (cntS s 9) 1024) 1024) 1024) 1024) 1024) 1) 16384)) 16384)) 2147483647) 62) 1))]++(smlS (smlS (cntS (cntS (widS (cntS (smlS (cntS (smlS (cntS (cntS (cntS (cntS (cntS (cntS s 9) 1024) 1024) 1024) 1024) 1024) 1) 16384) (cntV (smlS (cntS (cntS (cntS (cntS (cntS (cntS s 9) 1024) 1024) 1024) 1024) 1024) 1) 16384)) 16384) (cntV (smlS (cntS (smlS (cntS (cntS (cntS (cntS (cntS (cntS s 9) 1024) 1024) 1024) 1024) 1024) 1) 16384) (cntV (smlS (cntS (cntS (cntS (cntS (cntS (cntS s 9) 1024) 1024) 1024) 1024) 1024) 1) 16384)) 16384)) 2147483647) 62) 1) 1).1:=one_back i14 h15
 have e15:(smlS (smlS (cntS (cntS (widS (cntS (smlS (cntS (smlS (cntS (cntS (cntS (cntS (cntS (cntS s 9) 1024) 1024) 1024) 1024) 1024) 1) 16384) (cntV (smlS (cntS (cntS (cntS (cntS (cntS (cntS s 9) 1024) 1024) 1024) 1024) 1024) 1) 16384)) 16384) (cntV (smlS (cntS (smlS (cntS (cntS (cntS (cntS (cntS (cntS s 9) 1024) 1024) 1024) 1024) 1024) 1) 16384) (cntV (smlS (cntS (cntS (cntS (cntS (cntS (cntS s 9) 1024) 1024) 1024) 1024) 1024) 1) 16384)) 16384)) 2147483647) 62) 1) 1).1=[IntKind.u8.wrap (oneV (smlS (smlS (cntS (cntS (widS (cntS (smlS (cntS (smlS (cntS (cntS (cntS (cntS (cntS (cntS s 9) 1024) 1024) 1024) 1024) 1024) 1) 16384) (cntV (smlS (cntS (cntS (cntS (cntS (cntS (cntS s 9) 1024) 1024) 1024) 1024) 1024) 1) 16384)) 16384) (cntV (smlS (cntS (smlS (cntS (cntS (cntS (cntS (cntS (cntS s 9) 1024) 1024) 1024) 1024) 1024) 1) 16384) (cntV (smlS (cntS (cntS (cntS (cntS (cntS (cntS s 9) 1024) 1024) 1024) 1024) 1024) 1) 16384)) 16384)) 2147483647) 62) 1) 1))]++(smlS (smlS (smlS (cntS (cntS (widS (cntS (smlS (cntS (smlS (cntS (cntS (cntS (cntS (cntS (cntS s 9) 1024) 1024) 1024) 1024) 1024) 1) 16384) (cntV (smlS (cntS (cntS (cntS (cntS (cntS (cntS s 9) 1024) 1024) 1024) 1024) 1024) 1) 16384)) 16384) (cntV (smlS (cntS (smlS (cntS (cntS (cntS (cntS (cntS (cntS s 9) 1024) 1024) 1024) 1024) 1024) 1) 16384) (cntV (smlS (cntS (cntS (cntS (cntS (cntS (cntS s 9) 1024) 1024) 1024) 1024) 1024) 1) 16384)) 16384)) 2147483647) 62) 1) 1) 1).1:=one_back i15 h16
 show s.1=(putN (cntV s 9)++putN (cntV (cntS s 9) 1024)++putN (cntV (cntS (cntS s 9) 1024) 1024)++putN (cntV (cntS (cntS (cntS s 9) 1024) 1024) 1024)++putN (cntV (cntS (cntS (cntS (cntS s 9) 1024) 1024) 1024) 1024)++putN (cntV (cntS (cntS (cntS (cntS (cntS s 9) 1024) 1024) 1024) 1024) 1024)++[IntKind.u8.wrap (oneV (cntS (cntS (cntS (cntS (cntS (cntS s 9) 1024) 1024) 1024) 1024) 1024))]++putN (((smlV (cntS (smlS (cntS (cntS (cntS (cntS (cntS (cntS s 9) 1024) 1024) 1024) 1024) 1024) 1) 16384) (cntV (smlS (cntS (cntS (cntS (cntS (cntS (cntS s 9) 1024) 1024) 1024) 1024) 1024) 1) 16384)).length:Nat):Int)++smallL (smlV (cntS (smlS (cntS (cntS (cntS (cntS (cntS (cntS s 9) 1024) 1024) 1024) 1024) 1024) 1) 16384) (cntV (smlS (cntS (cntS (cntS (cntS (cntS (cntS s 9) 1024) 1024) 1024) 1024) 1024) 1) 16384))++putN (((widV (cntS (smlS (cntS (smlS (cntS (cntS (cntS (cntS (cntS (cntS s 9) 1024) 1024) 1024) 1024) 1024) 1) 16384) (cntV (smlS (cntS (cntS (cntS (cntS (cntS (cntS s 9) 1024) 1024) 1024) 1024) 1024) 1) 16384)) 16384) (cntV (smlS (cntS (smlS (cntS (cntS (cntS (cntS (cntS (cntS s 9) 1024) 1024) 1024) 1024) 1024) 1) 16384) (cntV (smlS (cntS (cntS (cntS (cntS (cntS (cntS s 9) 1024) 1024) 1024) 1024) 1024) 1) 16384)) 16384)).length:Nat):Int)++wideL (widV (cntS (smlS (cntS (smlS (cntS (cntS (cntS (cntS (cntS (cntS s 9) 1024) 1024) 1024) 1024) 1024) 1) 16384) (cntV (smlS (cntS (cntS (cntS (cntS (cntS (cntS s 9) 1024) 1024) 1024) 1024) 1024) 1) 16384)) 16384) (cntV (smlS (cntS (smlS (cntS (cntS (cntS (cntS (cntS (cntS s 9) 1024) 1024) 1024) 1024) 1024) 1) 16384) (cntV (smlS (cntS (cntS (cntS (cntS (cntS (cntS s 9) 1024) 1024) 1024) 1024) 1024) 1) 16384)) 16384))++putN (cntV (widS (cntS (smlS (cntS (smlS (cntS (cntS (cntS (cntS (cntS (cntS s 9) 1024) 1024) 1024) 1024) 1024) 1) 16384) (cntV (smlS (cntS (cntS (cntS (cntS (cntS (cntS s 9) 1024) 1024) 1024) 1024) 1024) 1) 16384)) 16384) (cntV (smlS (cntS (smlS (cntS (cntS (cntS (cntS (cntS (cntS s 9) 1024) 1024) 1024) 1024) 1024) 1) 16384) (cntV (smlS (cntS (cntS (cntS (cntS (cntS (cntS s 9) 1024) 1024) 1024) 1024) 1024) 1) 16384)) 16384)) 2147483647)++putN (cntV (cntS (widS (cntS (smlS (cntS (smlS (cntS (cntS (cntS (cntS (cntS (cntS s 9) 1024) 1024) 1024) 1024) 1024) 1) 16384) (cntV (smlS (cntS (cntS (cntS (cntS (cntS (cntS s 9) 1024) 1024) 1024) 1024) 1024) 1) 16384)) 16384) (cntV (smlS (cntS (smlS (cntS (cntS (cntS (cntS (cntS (cntS s 9) 1024) 1024) 1024) 1024) 1024) 1) 16384) (cntV (smlS (cntS (cntS (cntS (cntS (cntS (cntS s 9) 1024) 1024) 1024) 1024) 1024) 1) 16384)) 16384)) 2147483647) 62)++[IntKind.u8.wrap (oneV (cntS (cntS (widS (cntS (smlS (cntS (smlS (cntS (cntS (cntS (cntS (cntS (cntS s 9) 1024) 1024) 1024) 1024) 1024) 1) 16384) (cntV (smlS (cntS (cntS (cntS (cntS (cntS (cntS s 9) 1024) 1024) 1024) 1024) 1024) 1) 16384)) 16384) (cntV (smlS (cntS (smlS (cntS (cntS (cntS (cntS (cntS (cntS s 9) 1024) 1024) 1024) 1024) 1024) 1) 16384) (cntV (smlS (cntS (cntS (cntS (cntS (cntS (cntS s 9) 1024) 1024) 1024) 1024) 1024) 1) 16384)) 16384)) 2147483647) 62))]++[IntKind.u8.wrap (oneV (smlS (cntS (cntS (widS (cntS (smlS (cntS (smlS (cntS (cntS (cntS (cntS (cntS (cntS s 9) 1024) 1024) 1024) 1024) 1024) 1) 16384) (cntV (smlS (cntS (cntS (cntS (cntS (cntS (cntS s 9) 1024) 1024) 1024) 1024) 1024) 1) 16384)) 16384) (cntV (smlS (cntS (smlS (cntS (cntS (cntS (cntS (cntS (cntS s 9) 1024) 1024) 1024) 1024) 1024) 1) 16384) (cntV (smlS (cntS (cntS (cntS (cntS (cntS (cntS s 9) 1024) 1024) 1024) 1024) 1024) 1) 16384)) 16384)) 2147483647) 62) 1))]++[IntKind.u8.wrap (oneV (smlS (smlS (cntS (cntS (widS (cntS (smlS (cntS (smlS (cntS (cntS (cntS (cntS (cntS (cntS s 9) 1024) 1024) 1024) 1024) 1024) 1) 16384) (cntV (smlS (cntS (cntS (cntS (cntS (cntS (cntS s 9) 1024) 1024) 1024) 1024) 1024) 1) 16384)) 16384) (cntV (smlS (cntS (smlS (cntS (cntS (cntS (cntS (cntS (cntS s 9) 1024) 1024) 1024) 1024) 1024) 1) 16384) (cntV (smlS (cntS (cntS (cntS (cntS (cntS (cntS s 9) 1024) 1024) 1024) 1024) 1024) 1) 16384)) 16384)) 2147483647) 62) 1) 1))])++(smlS (smlS (smlS (cntS (cntS (widS (cntS (smlS (cntS (smlS (cntS (cntS (cntS (cntS (cntS (cntS s 9) 1024) 1024) 1024) 1024) 1024) 1) 16384) (cntV (smlS (cntS (cntS (cntS (cntS (cntS (cntS s 9) 1024) 1024) 1024) 1024) 1024) 1) 16384)) 16384) (cntV (smlS (cntS (smlS (cntS (cntS (cntS (cntS (cntS (cntS s 9) 1024) 1024) 1024) 1024) 1024) 1) 16384) (cntV (smlS (cntS (cntS (cntS (cntS (cntS (cntS s 9) 1024) 1024) 1024) 1024) 1024) 1) 16384)) 16384)) 2147483647) 62) 1) 1) 1).1
 simp only[AZ_]
 exact e0.trans (congrArg (putN (cntV s 9) ++ ·) (e1.trans (congrArg (putN (cntV (cntS s 9) 1024) ++ ·) (e2.trans (congrArg (putN (cntV (cntS (cntS s 9) 1024) 1024) ++ ·) (e3.trans (congrArg (putN (cntV (cntS (cntS (cntS s 9) 1024) 1024) 1024) ++ ·) (e4.trans (congrArg (putN (cntV (cntS (cntS (cntS (cntS s 9) 1024) 1024) 1024) 1024) ++ ·) (e5.trans (congrArg (putN (cntV (cntS (cntS (cntS (cntS (cntS s 9) 1024) 1024) 1024) 1024) 1024) ++ ·) (e6.trans (congrArg ([IntKind.u8.wrap (oneV (cntS (cntS (cntS (cntS (cntS (cntS s 9) 1024) 1024) 1024) 1024) 1024))] ++ ·) (e7.trans (congrArg (putN (((smlV (cntS (smlS (cntS (cntS (cntS (cntS (cntS (cntS s 9) 1024) 1024) 1024) 1024) 1024) 1) 16384) (cntV (smlS (cntS (cntS (cntS (cntS (cntS (cntS s 9) 1024) 1024) 1024) 1024) 1024) 1) 16384)).length:Nat):Int) ++ ·) (e8.trans (congrArg (smallL (smlV (cntS (smlS (cntS (cntS (cntS (cntS (cntS (cntS s 9) 1024) 1024) 1024) 1024) 1024) 1) 16384) (cntV (smlS (cntS (cntS (cntS (cntS (cntS (cntS s 9) 1024) 1024) 1024) 1024) 1024) 1) 16384)) ++ ·) (e9.trans (congrArg (putN (((widV (cntS (smlS (cntS (smlS (cntS (cntS (cntS (cntS (cntS (cntS s 9) 1024) 1024) 1024) 1024) 1024) 1) 16384) (cntV (smlS (cntS (cntS (cntS (cntS (cntS (cntS s 9) 1024) 1024) 1024) 1024) 1024) 1) 16384)) 16384) (cntV (smlS (cntS (smlS (cntS (cntS (cntS (cntS (cntS (cntS s 9) 1024) 1024) 1024) 1024) 1024) 1) 16384) (cntV (smlS (cntS (cntS (cntS (cntS (cntS (cntS s 9) 1024) 1024) 1024) 1024) 1024) 1) 16384)) 16384)).length:Nat):Int) ++ ·) (e10.trans (congrArg (wideL (widV (cntS (smlS (cntS (smlS (cntS (cntS (cntS (cntS (cntS (cntS s 9) 1024) 1024) 1024) 1024) 1024) 1) 16384) (cntV (smlS (cntS (cntS (cntS (cntS (cntS (cntS s 9) 1024) 1024) 1024) 1024) 1024) 1) 16384)) 16384) (cntV (smlS (cntS (smlS (cntS (cntS (cntS (cntS (cntS (cntS s 9) 1024) 1024) 1024) 1024) 1024) 1) 16384) (cntV (smlS (cntS (cntS (cntS (cntS (cntS (cntS s 9) 1024) 1024) 1024) 1024) 1024) 1) 16384)) 16384)) ++ ·) (e11.trans (congrArg (putN (cntV (widS (cntS (smlS (cntS (smlS (cntS (cntS (cntS (cntS (cntS (cntS s 9) 1024) 1024) 1024) 1024) 1024) 1) 16384) (cntV (smlS (cntS (cntS (cntS (cntS (cntS (cntS s 9) 1024) 1024) 1024) 1024) 1024) 1) 16384)) 16384) (cntV (smlS (cntS (smlS (cntS (cntS (cntS (cntS (cntS (cntS s 9) 1024) 1024) 1024) 1024) 1024) 1) 16384) (cntV (smlS (cntS (cntS (cntS (cntS (cntS (cntS s 9) 1024) 1024) 1024) 1024) 1024) 1) 16384)) 16384)) 2147483647) ++ ·) (e12.trans (congrArg (putN (cntV (cntS (widS (cntS (smlS (cntS (smlS (cntS (cntS (cntS (cntS (cntS (cntS s 9) 1024) 1024) 1024) 1024) 1024) 1) 16384) (cntV (smlS (cntS (cntS (cntS (cntS (cntS (cntS s 9) 1024) 1024) 1024) 1024) 1024) 1) 16384)) 16384) (cntV (smlS (cntS (smlS (cntS (cntS (cntS (cntS (cntS (cntS s 9) 1024) 1024) 1024) 1024) 1024) 1) 16384) (cntV (smlS (cntS (cntS (cntS (cntS (cntS (cntS s 9) 1024) 1024) 1024) 1024) 1024) 1) 16384)) 16384)) 2147483647) 62) ++ ·) (e13.trans (congrArg ([IntKind.u8.wrap (oneV (cntS (cntS (widS (cntS (smlS (cntS (smlS (cntS (cntS (cntS (cntS (cntS (cntS s 9) 1024) 1024) 1024) 1024) 1024) 1) 16384) (cntV (smlS (cntS (cntS (cntS (cntS (cntS (cntS s 9) 1024) 1024) 1024) 1024) 1024) 1) 16384)) 16384) (cntV (smlS (cntS (smlS (cntS (cntS (cntS (cntS (cntS (cntS s 9) 1024) 1024) 1024) 1024) 1024) 1) 16384) (cntV (smlS (cntS (cntS (cntS (cntS (cntS (cntS s 9) 1024) 1024) 1024) 1024) 1024) 1) 16384)) 16384)) 2147483647) 62))] ++ ·) (e14.trans (congrArg ([IntKind.u8.wrap (oneV (smlS (cntS (cntS (widS (cntS (smlS (cntS (smlS (cntS (cntS (cntS (cntS (cntS (cntS s 9) 1024) 1024) 1024) 1024) 1024) 1) 16384) (cntV (smlS (cntS (cntS (cntS (cntS (cntS (cntS s 9) 1024) 1024) 1024) 1024) 1024) 1) 16384)) 16384) (cntV (smlS (cntS (smlS (cntS (cntS (cntS (cntS (cntS (cntS s 9) 1024) 1024) 1024) 1024) 1024) 1) 16384) (cntV (smlS (cntS (cntS (cntS (cntS (cntS (cntS s 9) 1024) 1024) 1024) 1024) 1024) 1) 16384)) 16384)) 2147483647) 62) 1))] ++ ·) (e15))))))))))))))))))))))))))))))
theorem there_2 (n:Nod) (h:NTh n) (hk:n.kd=2) (b:List Int):ts_2 (lb_2 putN n++b,0)=(b,0)∧tn_2 (lb_2 putN n++b,0) nod0=⟨n.kd,n.na,0,n.nk,n.ns,n.np,0,n.za,0,n.w,n.b,n.qm,n.qs,n.qz,0,0,0,n.lo,n.hi⟩:=by
 have a0:=cntS_there h.kd (by decide)
 have b0:=cntV_there h.kd (by decide)
 have a1:=cntS_there h.na (by decide)
 have b1:=cntV_there h.na (by decide)
 have a2:=cntS_there h.nk (by decide)
 have b2:=cntV_there h.nk (by decide)
 have a3:=cntS_there h.ns (by decide)
 have b3:=cntV_there h.ns (by decide)
 have a4:=cntS_there h.np (by decide)
 have b4:=cntV_there h.np (by decide)
 have a5:=oneS_there h.okn.za
 have b5:=oneV_there h.okn.za
 have l:=lst_there h.wl h.bl h.okn.w h.okn.b
 have l1:=fun b=>(l b).1
 have l2:=fun b=>(l b).2.1
 have l3:=fun b=>(l b).2.2
 have sq:=scl_there (h.q (by simp[scaledB,hk])).1 (h.q (by simp[scaledB,hk])).2
 have sq1:=fun b=>(sq b).1
 have sq2:=fun b=>(sq b).2.1
 have sq3:=fun b=>(sq b).2.2
 have a9:=oneS_there h.okn.qz
 have b9:=oneV_there h.okn.qz
 have a10:=oneS_there h.okn.lo
 have b10:=oneV_there h.okn.lo
 have a11:=oneS_there h.okn.hi
 have b11:=oneV_there h.okn.hi
 unfold ts_2 tn_2 lb_2
 simp only[AZ_,a0,b0,a1,b1,a2,b2,a3,b3,a4,b4,a5,b5,l1,l2,l3,sq1,sq2,sq3,a9,b9,a10,b10,a11,b11,nod0,and_self]
theorem back_2 (s:Rst) (h:s.In) (hs:(ts_2 s).2=0):s.1=lb_2 putN (tn_2 s nod0)++(ts_2 s).1:=by
 have i0:=h
 have i1:(cntS s 9).In:=cnt_in i0 _
 have i2:(cntS (cntS s 9) 1024).In:=cnt_in i1 _
 have i3:(cntS (cntS (cntS s 9) 1024) 1024).In:=cnt_in i2 _
 have i4:(cntS (cntS (cntS (cntS s 9) 1024) 1024) 1024).In:=cnt_in i3 _
 have i5:(cntS (cntS (cntS (cntS (cntS s 9) 1024) 1024) 1024) 1024).In:=cnt_in i4 _
 have i6:(smlS (cntS (cntS (cntS (cntS (cntS s 9) 1024) 1024) 1024) 1024) 1).In:=sml_in i5 _
 have i7:(cntS (smlS (cntS (cntS (cntS (cntS (cntS s 9) 1024) 1024) 1024) 1024) 1) 16384).In:=cnt_in i6 _
 have i8:(smlS (cntS (smlS (cntS (cntS (cntS (cntS (cntS s 9) 1024) 1024) 1024) 1024) 1) 16384) (cntV (smlS (cntS (cntS (cntS (cntS (cntS s 9) 1024) 1024) 1024) 1024) 1) 16384)).In:=sml_in i7 _
 have i9:(cntS (smlS (cntS (smlS (cntS (cntS (cntS (cntS (cntS s 9) 1024) 1024) 1024) 1024) 1) 16384) (cntV (smlS (cntS (cntS (cntS (cntS (cntS s 9) 1024) 1024) 1024) 1024) 1) 16384)) 16384).In:=cnt_in i8 _
 have i10:(widS (cntS (smlS (cntS (smlS (cntS (cntS (cntS (cntS (cntS s 9) 1024) 1024) 1024) 1024) 1) 16384) (cntV (smlS (cntS (cntS (cntS (cntS (cntS s 9) 1024) 1024) 1024) 1024) 1) 16384)) 16384) (cntV (smlS (cntS (smlS (cntS (cntS (cntS (cntS (cntS s 9) 1024) 1024) 1024) 1024) 1) 16384) (cntV (smlS (cntS (cntS (cntS (cntS (cntS s 9) 1024) 1024) 1024) 1024) 1) 16384)) 16384)).In:=wid_in i9 _
 have i11:(cntS (widS (cntS (smlS (cntS (smlS (cntS (cntS (cntS (cntS (cntS s 9) 1024) 1024) 1024) 1024) 1) 16384) (cntV (smlS (cntS (cntS (cntS (cntS (cntS s 9) 1024) 1024) 1024) 1024) 1) 16384)) 16384) (cntV (smlS (cntS (smlS (cntS (cntS (cntS (cntS (cntS s 9) 1024) 1024) 1024) 1024) 1) 16384) (cntV (smlS (cntS (cntS (cntS (cntS (cntS s 9) 1024) 1024) 1024) 1024) 1) 16384)) 16384)) 2147483647).In:=cnt_in i10 _
 have i12:(cntS (cntS (widS (cntS (smlS (cntS (smlS (cntS (cntS (cntS (cntS (cntS s 9) 1024) 1024) 1024) 1024) 1) 16384) (cntV (smlS (cntS (cntS (cntS (cntS (cntS s 9) 1024) 1024) 1024) 1024) 1) 16384)) 16384) (cntV (smlS (cntS (smlS (cntS (cntS (cntS (cntS (cntS s 9) 1024) 1024) 1024) 1024) 1) 16384) (cntV (smlS (cntS (cntS (cntS (cntS (cntS s 9) 1024) 1024) 1024) 1024) 1) 16384)) 16384)) 2147483647) 62).In:=cnt_in i11 _
 have i13:(smlS (cntS (cntS (widS (cntS (smlS (cntS (smlS (cntS (cntS (cntS (cntS (cntS s 9) 1024) 1024) 1024) 1024) 1) 16384) (cntV (smlS (cntS (cntS (cntS (cntS (cntS s 9) 1024) 1024) 1024) 1024) 1) 16384)) 16384) (cntV (smlS (cntS (smlS (cntS (cntS (cntS (cntS (cntS s 9) 1024) 1024) 1024) 1024) 1) 16384) (cntV (smlS (cntS (cntS (cntS (cntS (cntS s 9) 1024) 1024) 1024) 1024) 1) 16384)) 16384)) 2147483647) 62) 1).In:=sml_in i12 _
 have i14:(smlS (smlS (cntS (cntS (widS (cntS (smlS (cntS (smlS (cntS (cntS (cntS (cntS (cntS s 9) 1024) 1024) 1024) 1024) 1) 16384) (cntV (smlS (cntS (cntS (cntS (cntS (cntS s 9) 1024) 1024) 1024) 1024) 1) 16384)) 16384) (cntV (smlS (cntS (smlS (cntS (cntS (cntS (cntS (cntS s 9) 1024) 1024) 1024) 1024) 1) 16384) (cntV (smlS (cntS (cntS (cntS (cntS (cntS s 9) 1024) 1024) 1024) 1024) 1) 16384)) 16384)) 2147483647) 62) 1) 1).In:=sml_in i13 _
 have h15:(smlS (smlS (smlS (cntS (cntS (widS (cntS (smlS (cntS (smlS (cntS (cntS (cntS (cntS (cntS s 9) 1024) 1024) 1024) 1024) 1) 16384) (cntV (smlS (cntS (cntS (cntS (cntS (cntS s 9) 1024) 1024) 1024) 1024) 1) 16384)) 16384) (cntV (smlS (cntS (smlS (cntS (cntS (cntS (cntS (cntS s 9) 1024) 1024) 1024) 1024) 1) 16384) (cntV (smlS (cntS (cntS (cntS (cntS (cntS s 9) 1024) 1024) 1024) 1024) 1) 16384)) 16384)) 2147483647) 62) 1) 1) 1).2=0:=hs
 have h14:(smlS (smlS (cntS (cntS (widS (cntS (smlS (cntS (smlS (cntS (cntS (cntS (cntS (cntS s 9) 1024) 1024) 1024) 1024) 1) 16384) (cntV (smlS (cntS (cntS (cntS (cntS (cntS s 9) 1024) 1024) 1024) 1024) 1) 16384)) 16384) (cntV (smlS (cntS (smlS (cntS (cntS (cntS (cntS (cntS s 9) 1024) 1024) 1024) 1024) 1) 16384) (cntV (smlS (cntS (cntS (cntS (cntS (cntS s 9) 1024) 1024) 1024) 1024) 1) 16384)) 16384)) 2147483647) 62) 1) 1).2=0:=sml_ok h15
 have h13:(smlS (cntS (cntS (widS (cntS (smlS (cntS (smlS (cntS (cntS (cntS (cntS (cntS s 9) 1024) 1024) 1024) 1024) 1) 16384) (cntV (smlS (cntS (cntS (cntS (cntS (cntS s 9) 1024) 1024) 1024) 1024) 1) 16384)) 16384) (cntV (smlS (cntS (smlS (cntS (cntS (cntS (cntS (cntS s 9) 1024) 1024) 1024) 1024) 1) 16384) (cntV (smlS (cntS (cntS (cntS (cntS (cntS s 9) 1024) 1024) 1024) 1024) 1) 16384)) 16384)) 2147483647) 62) 1).2=0:=sml_ok h14
 have h12:(cntS (cntS (widS (cntS (smlS (cntS (smlS (cntS (cntS (cntS (cntS (cntS s 9) 1024) 1024) 1024) 1024) 1) 16384) (cntV (smlS (cntS (cntS (cntS (cntS (cntS s 9) 1024) 1024) 1024) 1024) 1) 16384)) 16384) (cntV (smlS (cntS (smlS (cntS (cntS (cntS (cntS (cntS s 9) 1024) 1024) 1024) 1024) 1) 16384) (cntV (smlS (cntS (cntS (cntS (cntS (cntS s 9) 1024) 1024) 1024) 1024) 1) 16384)) 16384)) 2147483647) 62).2=0:=sml_ok h13
 have h11:(cntS (widS (cntS (smlS (cntS (smlS (cntS (cntS (cntS (cntS (cntS s 9) 1024) 1024) 1024) 1024) 1) 16384) (cntV (smlS (cntS (cntS (cntS (cntS (cntS s 9) 1024) 1024) 1024) 1024) 1) 16384)) 16384) (cntV (smlS (cntS (smlS (cntS (cntS (cntS (cntS (cntS s 9) 1024) 1024) 1024) 1024) 1) 16384) (cntV (smlS (cntS (cntS (cntS (cntS (cntS s 9) 1024) 1024) 1024) 1024) 1) 16384)) 16384)) 2147483647).2=0:=cnt_ok h12
 have h10:(widS (cntS (smlS (cntS (smlS (cntS (cntS (cntS (cntS (cntS s 9) 1024) 1024) 1024) 1024) 1) 16384) (cntV (smlS (cntS (cntS (cntS (cntS (cntS s 9) 1024) 1024) 1024) 1024) 1) 16384)) 16384) (cntV (smlS (cntS (smlS (cntS (cntS (cntS (cntS (cntS s 9) 1024) 1024) 1024) 1024) 1) 16384) (cntV (smlS (cntS (cntS (cntS (cntS (cntS s 9) 1024) 1024) 1024) 1024) 1) 16384)) 16384)).2=0:=cnt_ok h11
 have h9:(cntS (smlS (cntS (smlS (cntS (cntS (cntS (cntS (cntS s 9) 1024) 1024) 1024) 1024) 1) 16384) (cntV (smlS (cntS (cntS (cntS (cntS (cntS s 9) 1024) 1024) 1024) 1024) 1) 16384)) 16384).2=0:=wid_ok h10
 have h8:(smlS (cntS (smlS (cntS (cntS (cntS (cntS (cntS s 9) 1024) 1024) 1024) 1024) 1) 16384) (cntV (smlS (cntS (cntS (cntS (cntS (cntS s 9) 1024) 1024) 1024) 1024) 1) 16384)).2=0:=cnt_ok h9
 have h7:(cntS (smlS (cntS (cntS (cntS (cntS (cntS s 9) 1024) 1024) 1024) 1024) 1) 16384).2=0:=sml_ok h8
 have h6:(smlS (cntS (cntS (cntS (cntS (cntS s 9) 1024) 1024) 1024) 1024) 1).2=0:=cnt_ok h7
 have h5:(cntS (cntS (cntS (cntS (cntS s 9) 1024) 1024) 1024) 1024).2=0:=sml_ok h6
 have h4:(cntS (cntS (cntS (cntS s 9) 1024) 1024) 1024).2=0:=cnt_ok h5
 have h3:(cntS (cntS (cntS s 9) 1024) 1024).2=0:=cnt_ok h4
 have h2:(cntS (cntS s 9) 1024).2=0:=cnt_ok h3
 have h1:(cntS s 9).2=0:=cnt_ok h2
 have e0:s.1=putN (cntV s 9)++(cntS s 9).1:=cnt_back i0 h1
 have e1:(cntS s 9).1=putN (cntV (cntS s 9) 1024)++(cntS (cntS s 9) 1024).1:=cnt_back i1 h2
 have e2:(cntS (cntS s 9) 1024).1=putN (cntV (cntS (cntS s 9) 1024) 1024)++(cntS (cntS (cntS s 9) 1024) 1024).1:=cnt_back i2 h3
 have e3:(cntS (cntS (cntS s 9) 1024) 1024).1=putN (cntV (cntS (cntS (cntS s 9) 1024) 1024) 1024)++(cntS (cntS (cntS (cntS s 9) 1024) 1024) 1024).1:=cnt_back i3 h4
 have e4:(cntS (cntS (cntS (cntS s 9) 1024) 1024) 1024).1=putN (cntV (cntS (cntS (cntS (cntS s 9) 1024) 1024) 1024) 1024)++(cntS (cntS (cntS (cntS (cntS s 9) 1024) 1024) 1024) 1024).1:=cnt_back i4 h5
 have e5:(cntS (cntS (cntS (cntS (cntS s 9) 1024) 1024) 1024) 1024).1=[IntKind.u8.wrap (oneV (cntS (cntS (cntS (cntS (cntS s 9) 1024) 1024) 1024) 1024))]++(smlS (cntS (cntS (cntS (cntS (cntS s 9) 1024) 1024) 1024) 1024) 1).1:=one_back i5 h6
 have c6:=(sml_back i7 h8 (cntV_rng (m:=16384) i6 (by decide)).1).2
 have e6:(smlS (cntS (cntS (cntS (cntS (cntS s 9) 1024) 1024) 1024) 1024) 1).1=putN (((smlV (cntS (smlS (cntS (cntS (cntS (cntS (cntS s 9) 1024) 1024) 1024) 1024) 1) 16384) (cntV (smlS (cntS (cntS (cntS (cntS (cntS s 9) 1024) 1024) 1024) 1024) 1) 16384)).length:Nat):Int)++(cntS (smlS (cntS (cntS (cntS (cntS (cntS s 9) 1024) 1024) 1024) 1024) 1) 16384).1:=by rw[c6];exact cnt_back i6 h7
 have e7:(cntS (smlS (cntS (cntS (cntS (cntS (cntS s 9) 1024) 1024) 1024) 1024) 1) 16384).1=smallL (smlV (cntS (smlS (cntS (cntS (cntS (cntS (cntS s 9) 1024) 1024) 1024) 1024) 1) 16384) (cntV (smlS (cntS (cntS (cntS (cntS (cntS s 9) 1024) 1024) 1024) 1024) 1) 16384))++(smlS (cntS (smlS (cntS (cntS (cntS (cntS (cntS s 9) 1024) 1024) 1024) 1024) 1) 16384) (cntV (smlS (cntS (cntS (cntS (cntS (cntS s 9) 1024) 1024) 1024) 1024) 1) 16384)).1:=(sml_back i7 h8 (cntV_rng (m:=16384) i6 (by decide)).1).1
 have c8:=(wid_back i9 h10 (cntV_rng (m:=16384) i8 (by decide)).1).2
 have e8:(smlS (cntS (smlS (cntS (cntS (cntS (cntS (cntS s 9) 1024) 1024) 1024) 1024) 1) 16384) (cntV (smlS (cntS (cntS (cntS (cntS (cntS s 9) 1024) 1024) 1024) 1024) 1) 16384)).1=putN (((widV (cntS (smlS (cntS (smlS (cntS (cntS (cntS (cntS (cntS s 9) 1024) 1024) 1024) 1024) 1) 16384) (cntV (smlS (cntS (cntS (cntS (cntS (cntS s 9) 1024) 1024) 1024) 1024) 1) 16384)) 16384) (cntV (smlS (cntS (smlS (cntS (cntS (cntS (cntS (cntS s 9) 1024) 1024) 1024) 1024) 1) 16384) (cntV (smlS (cntS (cntS (cntS (cntS (cntS s 9) 1024) 1024) 1024) 1024) 1) 16384)) 16384)).length:Nat):Int)++(cntS (smlS (cntS (smlS (cntS (cntS (cntS (cntS (cntS s 9) 1024) 1024) 1024) 1024) 1) 16384) (cntV (smlS (cntS (cntS (cntS (cntS (cntS s 9) 1024) 1024) 1024) 1024) 1) 16384)) 16384).1:=by rw[c8];exact cnt_back i8 h9
 have e9:(cntS (smlS (cntS (smlS (cntS (cntS (cntS (cntS (cntS s 9) 1024) 1024) 1024) 1024) 1) 16384) (cntV (smlS (cntS (cntS (cntS (cntS (cntS s 9) 1024) 1024) 1024) 1024) 1) 16384)) 16384).1=wideL (widV (cntS (smlS (cntS (smlS (cntS (cntS (cntS (cntS (cntS s 9) 1024) 1024) 1024) 1024) 1) 16384) (cntV (smlS (cntS (cntS (cntS (cntS (cntS s 9) 1024) 1024) 1024) 1024) 1) 16384)) 16384) (cntV (smlS (cntS (smlS (cntS (cntS (cntS (cntS (cntS s 9) 1024) 1024) 1024) 1024) 1) 16384) (cntV (smlS (cntS (cntS (cntS (cntS (cntS s 9) 1024) 1024) 1024) 1024) 1) 16384)) 16384))++(widS (cntS (smlS (cntS (smlS (cntS (cntS (cntS (cntS (cntS s 9) 1024) 1024) 1024) 1024) 1) 16384) (cntV (smlS (cntS (cntS (cntS (cntS (cntS s 9) 1024) 1024) 1024) 1024) 1) 16384)) 16384) (cntV (smlS (cntS (smlS (cntS (cntS (cntS (cntS (cntS s 9) 1024) 1024) 1024) 1024) 1) 16384) (cntV (smlS (cntS (cntS (cntS (cntS (cntS s 9) 1024) 1024) 1024) 1024) 1) 16384)) 16384)).1:=(wid_back i9 h10 (cntV_rng (m:=16384) i8 (by decide)).1).1
 have e10:(widS (cntS (smlS (cntS (smlS (cntS (cntS (cntS (cntS (cntS s 9) 1024) 1024) 1024) 1024) 1) 16384) (cntV (smlS (cntS (cntS (cntS (cntS (cntS s 9) 1024) 1024) 1024) 1024) 1) 16384)) 16384) (cntV (smlS (cntS (smlS (cntS (cntS (cntS (cntS (cntS s 9) 1024) 1024) 1024) 1024) 1) 16384) (cntV (smlS (cntS (cntS (cntS (cntS (cntS s 9) 1024) 1024) 1024) 1024) 1) 16384)) 16384)).1=putN (cntV (widS (cntS (smlS (cntS (smlS (cntS (cntS (cntS (cntS (cntS s 9) 1024) 1024) 1024) 1024) 1) 16384) (cntV (smlS (cntS (cntS (cntS (cntS (cntS s 9) 1024) 1024) 1024) 1024) 1) 16384)) 16384) (cntV (smlS (cntS (smlS (cntS (cntS (cntS (cntS (cntS s 9) 1024) 1024) 1024) 1024) 1) 16384) (cntV (smlS (cntS (cntS (cntS (cntS (cntS s 9) 1024) 1024) 1024) 1024) 1) 16384)) 16384)) 2147483647)++(cntS (widS (cntS (smlS (cntS (smlS (cntS (cntS (cntS (cntS (cntS s 9) 1024) 1024) 1024) 1024) 1) 16384) (cntV (smlS (cntS (cntS (cntS (cntS (cntS s 9) 1024) 1024) 1024) 1024) 1) 16384)) 16384) (cntV (smlS (cntS (smlS (cntS (cntS (cntS (cntS (cntS s 9) 1024) 1024) 1024) 1024) 1) 16384) (cntV (smlS (cntS (cntS (cntS (cntS (cntS s 9) 1024) 1024) 1024) 1024) 1) 16384)) 16384)) 2147483647).1:=cnt_back i10 h11
 have e11:(cntS (widS (cntS (smlS (cntS (smlS (cntS (cntS (cntS (cntS (cntS s 9) 1024) 1024) 1024) 1024) 1) 16384) (cntV (smlS (cntS (cntS (cntS (cntS (cntS s 9) 1024) 1024) 1024) 1024) 1) 16384)) 16384) (cntV (smlS (cntS (smlS (cntS (cntS (cntS (cntS (cntS s 9) 1024) 1024) 1024) 1024) 1) 16384) (cntV (smlS (cntS (cntS (cntS (cntS (cntS s 9) 1024) 1024) 1024) 1024) 1) 16384)) 16384)) 2147483647).1=putN (cntV (cntS (widS (cntS (smlS (cntS (smlS (cntS (cntS (cntS (cntS (cntS s 9) 1024) 1024) 1024) 1024) 1) 16384) (cntV (smlS (cntS (cntS (cntS (cntS (cntS s 9) 1024) 1024) 1024) 1024) 1) 16384)) 16384) (cntV (smlS (cntS (smlS (cntS (cntS (cntS (cntS (cntS s 9) 1024) 1024) 1024) 1024) 1) 16384) (cntV (smlS (cntS (cntS (cntS (cntS (cntS s 9) 1024) 1024) 1024) 1024) 1) 16384)) 16384)) 2147483647) 62)++(cntS (cntS (widS (cntS (smlS (cntS (smlS (cntS (cntS (cntS (cntS (cntS s 9) 1024) 1024) 1024) 1024) 1) 16384) (cntV (smlS (cntS (cntS (cntS (cntS (cntS s 9) 1024) 1024) 1024) 1024) 1) 16384)) 16384) (cntV (smlS (cntS (smlS (cntS (cntS (cntS (cntS (cntS s 9) 1024) 1024) 1024) 1024) 1) 16384) (cntV (smlS (cntS (cntS (cntS (cntS (cntS s 9) 1024) 1024) 1024) 1024) 1) 16384)) 16384)) 2147483647) 62).1:=cnt_back i11 h12
 have e12:(cntS (cntS (widS (cntS (smlS (cntS (smlS (cntS (cntS (cntS (cntS (cntS s 9) 1024) 1024) 1024) 1024) 1) 16384) (cntV (smlS (cntS (cntS (cntS (cntS (cntS s 9) 1024) 1024) 1024) 1024) 1) 16384)) 16384) (cntV (smlS (cntS (smlS (cntS (cntS (cntS (cntS (cntS s 9) 1024) 1024) 1024) 1024) 1) 16384) (cntV (smlS (cntS (cntS (cntS (cntS (cntS s 9) 1024) 1024) 1024) 1024) 1) 16384)) 16384)) 2147483647) 62).1=[IntKind.u8.wrap (oneV (cntS (cntS (widS (cntS (smlS (cntS (smlS (cntS (cntS (cntS (cntS (cntS s 9) 1024) 1024) 1024) 1024) 1) 16384) (cntV (smlS (cntS (cntS (cntS (cntS (cntS s 9) 1024) 1024) 1024) 1024) 1) 16384)) 16384) (cntV (smlS (cntS (smlS (cntS (cntS (cntS (cntS (cntS s 9) 1024) 1024) 1024) 1024) 1) 16384) (cntV (smlS (cntS (cntS (cntS (cntS (cntS s 9) 1024) 1024) 1024) 1024) 1) 16384)) 16384)) 2147483647) 62))]++(smlS (cntS (cntS (widS (cntS (smlS (cntS (smlS (cntS (cntS (cntS (cntS (cntS s 9) 1024) 1024) 1024) 1024) 1) 16384) (cntV (smlS (cntS (cntS (cntS (cntS (cntS s 9) 1024) 1024) 1024) 1024) 1) 16384)) 16384) (cntV (smlS (cntS (smlS (cntS (cntS (cntS (cntS (cntS s 9) 1024) 1024) 1024) 1024) 1) 16384) (cntV (smlS (cntS (cntS (cntS (cntS (cntS s 9) 1024) 1024) 1024) 1024) 1) 16384)) 16384)) 2147483647) 62) 1).1:=one_back i12 h13
 have e13:(smlS (cntS (cntS (widS (cntS (smlS (cntS (smlS (cntS (cntS (cntS (cntS (cntS s 9) 1024) 1024) 1024) 1024) 1) 16384) (cntV (smlS (cntS (cntS (cntS (cntS (cntS s 9) 1024) 1024) 1024) 1024) 1) 16384)) 16384) (cntV (smlS (cntS (smlS (cntS (cntS (cntS (cntS (cntS s 9) 1024) 1024) 1024) 1024) 1) 16384) (cntV (smlS (cntS (cntS (cntS (cntS (cntS s 9) 1024) 1024) 1024) 1024) 1) 16384)) 16384)) 2147483647) 62) 1).1=[IntKind.u8.wrap (oneV (smlS (cntS (cntS (widS (cntS (smlS (cntS (smlS (cntS (cntS (cntS (cntS (cntS s 9) 1024) 1024) 1024) 1024) 1) 16384) (cntV (smlS (cntS (cntS (cntS (cntS (cntS s 9) 1024) 1024) 1024) 1024) 1) 16384)) 16384) (cntV (smlS (cntS (smlS (cntS (cntS (cntS (cntS (cntS s 9) 1024) 1024) 1024) 1024) 1) 16384) (cntV (smlS (cntS (cntS (cntS (cntS (cntS s 9) 1024) 1024) 1024) 1024) 1) 16384)) 16384)) 2147483647) 62) 1))]++(smlS (smlS (cntS (cntS (widS (cntS (smlS (cntS (smlS (cntS (cntS (cntS (cntS (cntS s 9) 1024) 1024) 1024) 1024) 1) 16384) (cntV (smlS (cntS (cntS (cntS (cntS (cntS s 9) 1024) 1024) 1024) 1024) 1) 16384)) 16384) (cntV (smlS (cntS (smlS (cntS (cntS (cntS (cntS (cntS s 9) 1024) 1024) 1024) 1024) 1) 16384) (cntV (smlS (cntS (cntS (cntS (cntS (cntS s 9) 1024) 1024) 1024) 1024) 1) 16384)) 16384)) 2147483647) 62) 1) 1).1:=one_back i13 h14
 have e14:(smlS (smlS (cntS (cntS (widS (cntS (smlS (cntS (smlS (cntS (cntS (cntS (cntS (cntS s 9) 1024) 1024) 1024) 1024) 1) 16384) (cntV (smlS (cntS (cntS (cntS (cntS (cntS s 9) 1024) 1024) 1024) 1024) 1) 16384)) 16384) (cntV (smlS (cntS (smlS (cntS (cntS (cntS (cntS (cntS s 9) 1024) 1024) 1024) 1024) 1) 16384) (cntV (smlS (cntS (cntS (cntS (cntS (cntS s 9) 1024) 1024) 1024) 1024) 1) 16384)) 16384)) 2147483647) 62) 1) 1).1=[IntKind.u8.wrap (oneV (smlS (smlS (cntS (cntS (widS (cntS (smlS (cntS (smlS (cntS (cntS (cntS (cntS (cntS s 9) 1024) 1024) 1024) 1024) 1) 16384) (cntV (smlS (cntS (cntS (cntS (cntS (cntS s 9) 1024) 1024) 1024) 1024) 1) 16384)) 16384) (cntV (smlS (cntS (smlS (cntS (cntS (cntS (cntS (cntS s 9) 1024) 1024) 1024) 1024) 1) 16384) (cntV (smlS (cntS (cntS (cntS (cntS (cntS s 9) 1024) 1024) 1024) 1024) 1) 16384)) 16384)) 2147483647) 62) 1) 1))]++(smlS (smlS (smlS (cntS (cntS (widS (cntS (smlS (cntS (smlS (cntS (cntS (cntS (cntS (cntS s 9) 1024) 1024) 1024) 1024) 1) 16384) (cntV (smlS (cntS (cntS (cntS (cntS (cntS s 9) 1024) 1024) 1024) 1024) 1) 16384)) 16384) (cntV (smlS (cntS (smlS (cntS (cntS (cntS (cntS (cntS s 9) 1024) 1024) 1024) 1024) 1) 16384) (cntV (smlS (cntS (cntS (cntS (cntS (cntS s 9) 1024) 1024) 1024) 1024) 1) 16384)) 16384)) 2147483647) 62) 1) 1) 1).1:=one_back i14 h15
 show s.1=(putN (cntV s 9)++putN (cntV (cntS s 9) 1024)++putN (cntV (cntS (cntS s 9) 1024) 1024)++putN (cntV (cntS (cntS (cntS s 9) 1024) 1024) 1024)++putN (cntV (cntS (cntS (cntS (cntS s 9) 1024) 1024) 1024) 1024)++[IntKind.u8.wrap (oneV (cntS (cntS (cntS (cntS (cntS s 9) 1024) 1024) 1024) 1024))]++putN (((smlV (cntS (smlS (cntS (cntS (cntS (cntS (cntS s 9) 1024) 1024) 1024) 1024) 1) 16384) (cntV (smlS (cntS (cntS (cntS (cntS (cntS s 9) 1024) 1024) 1024) 1024) 1) 16384)).length:Nat):Int)++smallL (smlV (cntS (smlS (cntS (cntS (cntS (cntS (cntS s 9) 1024) 1024) 1024) 1024) 1) 16384) (cntV (smlS (cntS (cntS (cntS (cntS (cntS s 9) 1024) 1024) 1024) 1024) 1) 16384))++putN (((widV (cntS (smlS (cntS (smlS (cntS (cntS (cntS (cntS (cntS s 9) 1024) 1024) 1024) 1024) 1) 16384) (cntV (smlS (cntS (cntS (cntS (cntS (cntS s 9) 1024) 1024) 1024) 1024) 1) 16384)) 16384) (cntV (smlS (cntS (smlS (cntS (cntS (cntS (cntS (cntS s 9) 1024) 1024) 1024) 1024) 1) 16384) (cntV (smlS (cntS (cntS (cntS (cntS (cntS s 9) 1024) 1024) 1024) 1024) 1) 16384)) 16384)).length:Nat):Int)++wideL (widV (cntS (smlS (cntS (smlS (cntS (cntS (cntS (cntS (cntS s 9) 1024) 1024) 1024) 1024) 1) 16384) (cntV (smlS (cntS (cntS (cntS (cntS (cntS s 9) 1024) 1024) 1024) 1024) 1) 16384)) 16384) (cntV (smlS (cntS (smlS (cntS (cntS (cntS (cntS (cntS s 9) 1024) 1024) 1024) 1024) 1) 16384) (cntV (smlS (cntS (cntS (cntS (cntS (cntS s 9) 1024) 1024) 1024) 1024) 1) 16384)) 16384))++putN (cntV (widS (cntS (smlS (cntS (smlS (cntS (cntS (cntS (cntS (cntS s 9) 1024) 1024) 1024) 1024) 1) 16384) (cntV (smlS (cntS (cntS (cntS (cntS (cntS s 9) 1024) 1024) 1024) 1024) 1) 16384)) 16384) (cntV (smlS (cntS (smlS (cntS (cntS (cntS (cntS (cntS s 9) 1024) 1024) 1024) 1024) 1) 16384) (cntV (smlS (cntS (cntS (cntS (cntS (cntS s 9) 1024) 1024) 1024) 1024) 1) 16384)) 16384)) 2147483647)++putN (cntV (cntS (widS (cntS (smlS (cntS (smlS (cntS (cntS (cntS (cntS (cntS s 9) 1024) 1024) 1024) 1024) 1) 16384) (cntV (smlS (cntS (cntS (cntS (cntS (cntS s 9) 1024) 1024) 1024) 1024) 1) 16384)) 16384) (cntV (smlS (cntS (smlS (cntS (cntS (cntS (cntS (cntS s 9) 1024) 1024) 1024) 1024) 1) 16384) (cntV (smlS (cntS (cntS (cntS (cntS (cntS s 9) 1024) 1024) 1024) 1024) 1) 16384)) 16384)) 2147483647) 62)++[IntKind.u8.wrap (oneV (cntS (cntS (widS (cntS (smlS (cntS (smlS (cntS (cntS (cntS (cntS (cntS s 9) 1024) 1024) 1024) 1024) 1) 16384) (cntV (smlS (cntS (cntS (cntS (cntS (cntS s 9) 1024) 1024) 1024) 1024) 1) 16384)) 16384) (cntV (smlS (cntS (smlS (cntS (cntS (cntS (cntS (cntS s 9) 1024) 1024) 1024) 1024) 1) 16384) (cntV (smlS (cntS (cntS (cntS (cntS (cntS s 9) 1024) 1024) 1024) 1024) 1) 16384)) 16384)) 2147483647) 62))]++[IntKind.u8.wrap (oneV (smlS (cntS (cntS (widS (cntS (smlS (cntS (smlS (cntS (cntS (cntS (cntS (cntS s 9) 1024) 1024) 1024) 1024) 1) 16384) (cntV (smlS (cntS (cntS (cntS (cntS (cntS s 9) 1024) 1024) 1024) 1024) 1) 16384)) 16384) (cntV (smlS (cntS (smlS (cntS (cntS (cntS (cntS (cntS s 9) 1024) 1024) 1024) 1024) 1) 16384) (cntV (smlS (cntS (cntS (cntS (cntS (cntS s 9) 1024) 1024) 1024) 1024) 1) 16384)) 16384)) 2147483647) 62) 1))]++[IntKind.u8.wrap (oneV (smlS (smlS (cntS (cntS (widS (cntS (smlS (cntS (smlS (cntS (cntS (cntS (cntS (cntS s 9) 1024) 1024) 1024) 1024) 1) 16384) (cntV (smlS (cntS (cntS (cntS (cntS (cntS s 9) 1024) 1024) 1024) 1024) 1) 16384)) 16384) (cntV (smlS (cntS (smlS (cntS (cntS (cntS (cntS (cntS s 9) 1024) 1024) 1024) 1024) 1) 16384) (cntV (smlS (cntS (cntS (cntS (cntS (cntS s 9) 1024) 1024) 1024) 1024) 1) 16384)) 16384)) 2147483647) 62) 1) 1))])++(smlS (smlS (smlS (cntS (cntS (widS (cntS (smlS (cntS (smlS (cntS (cntS (cntS (cntS (cntS s 9) 1024) 1024) 1024) 1024) 1) 16384) (cntV (smlS (cntS (cntS (cntS (cntS (cntS s 9) 1024) 1024) 1024) 1024) 1) 16384)) 16384) (cntV (smlS (cntS (smlS (cntS (cntS (cntS (cntS (cntS s 9) 1024) 1024) 1024) 1024) 1) 16384) (cntV (smlS (cntS (cntS (cntS (cntS (cntS s 9) 1024) 1024) 1024) 1024) 1) 16384)) 16384)) 2147483647) 62) 1) 1) 1).1
 simp only[AZ_]
 exact e0.trans (congrArg (putN (cntV s 9) ++ ·) (e1.trans (congrArg (putN (cntV (cntS s 9) 1024) ++ ·) (e2.trans (congrArg (putN (cntV (cntS (cntS s 9) 1024) 1024) ++ ·) (e3.trans (congrArg (putN (cntV (cntS (cntS (cntS s 9) 1024) 1024) 1024) ++ ·) (e4.trans (congrArg (putN (cntV (cntS (cntS (cntS (cntS s 9) 1024) 1024) 1024) 1024) ++ ·) (e5.trans (congrArg ([IntKind.u8.wrap (oneV (cntS (cntS (cntS (cntS (cntS s 9) 1024) 1024) 1024) 1024))] ++ ·) (e6.trans (congrArg (putN (((smlV (cntS (smlS (cntS (cntS (cntS (cntS (cntS s 9) 1024) 1024) 1024) 1024) 1) 16384) (cntV (smlS (cntS (cntS (cntS (cntS (cntS s 9) 1024) 1024) 1024) 1024) 1) 16384)).length:Nat):Int) ++ ·) (e7.trans (congrArg (smallL (smlV (cntS (smlS (cntS (cntS (cntS (cntS (cntS s 9) 1024) 1024) 1024) 1024) 1) 16384) (cntV (smlS (cntS (cntS (cntS (cntS (cntS s 9) 1024) 1024) 1024) 1024) 1) 16384)) ++ ·) (e8.trans (congrArg (putN (((widV (cntS (smlS (cntS (smlS (cntS (cntS (cntS (cntS (cntS s 9) 1024) 1024) 1024) 1024) 1) 16384) (cntV (smlS (cntS (cntS (cntS (cntS (cntS s 9) 1024) 1024) 1024) 1024) 1) 16384)) 16384) (cntV (smlS (cntS (smlS (cntS (cntS (cntS (cntS (cntS s 9) 1024) 1024) 1024) 1024) 1) 16384) (cntV (smlS (cntS (cntS (cntS (cntS (cntS s 9) 1024) 1024) 1024) 1024) 1) 16384)) 16384)).length:Nat):Int) ++ ·) (e9.trans (congrArg (wideL (widV (cntS (smlS (cntS (smlS (cntS (cntS (cntS (cntS (cntS s 9) 1024) 1024) 1024) 1024) 1) 16384) (cntV (smlS (cntS (cntS (cntS (cntS (cntS s 9) 1024) 1024) 1024) 1024) 1) 16384)) 16384) (cntV (smlS (cntS (smlS (cntS (cntS (cntS (cntS (cntS s 9) 1024) 1024) 1024) 1024) 1) 16384) (cntV (smlS (cntS (cntS (cntS (cntS (cntS s 9) 1024) 1024) 1024) 1024) 1) 16384)) 16384)) ++ ·) (e10.trans (congrArg (putN (cntV (widS (cntS (smlS (cntS (smlS (cntS (cntS (cntS (cntS (cntS s 9) 1024) 1024) 1024) 1024) 1) 16384) (cntV (smlS (cntS (cntS (cntS (cntS (cntS s 9) 1024) 1024) 1024) 1024) 1) 16384)) 16384) (cntV (smlS (cntS (smlS (cntS (cntS (cntS (cntS (cntS s 9) 1024) 1024) 1024) 1024) 1) 16384) (cntV (smlS (cntS (cntS (cntS (cntS (cntS s 9) 1024) 1024) 1024) 1024) 1) 16384)) 16384)) 2147483647) ++ ·) (e11.trans (congrArg (putN (cntV (cntS (widS (cntS (smlS (cntS (smlS (cntS (cntS (cntS (cntS (cntS s 9) 1024) 1024) 1024) 1024) 1) 16384) (cntV (smlS (cntS (cntS (cntS (cntS (cntS s 9) 1024) 1024) 1024) 1024) 1) 16384)) 16384) (cntV (smlS (cntS (smlS (cntS (cntS (cntS (cntS (cntS s 9) 1024) 1024) 1024) 1024) 1) 16384) (cntV (smlS (cntS (cntS (cntS (cntS (cntS s 9) 1024) 1024) 1024) 1024) 1) 16384)) 16384)) 2147483647) 62) ++ ·) (e12.trans (congrArg ([IntKind.u8.wrap (oneV (cntS (cntS (widS (cntS (smlS (cntS (smlS (cntS (cntS (cntS (cntS (cntS s 9) 1024) 1024) 1024) 1024) 1) 16384) (cntV (smlS (cntS (cntS (cntS (cntS (cntS s 9) 1024) 1024) 1024) 1024) 1) 16384)) 16384) (cntV (smlS (cntS (smlS (cntS (cntS (cntS (cntS (cntS s 9) 1024) 1024) 1024) 1024) 1) 16384) (cntV (smlS (cntS (cntS (cntS (cntS (cntS s 9) 1024) 1024) 1024) 1024) 1) 16384)) 16384)) 2147483647) 62))] ++ ·) (e13.trans (congrArg ([IntKind.u8.wrap (oneV (smlS (cntS (cntS (widS (cntS (smlS (cntS (smlS (cntS (cntS (cntS (cntS (cntS s 9) 1024) 1024) 1024) 1024) 1) 16384) (cntV (smlS (cntS (cntS (cntS (cntS (cntS s 9) 1024) 1024) 1024) 1024) 1) 16384)) 16384) (cntV (smlS (cntS (smlS (cntS (cntS (cntS (cntS (cntS s 9) 1024) 1024) 1024) 1024) 1) 16384) (cntV (smlS (cntS (cntS (cntS (cntS (cntS s 9) 1024) 1024) 1024) 1024) 1) 16384)) 16384)) 2147483647) 62) 1))] ++ ·) (e14))))))))))))))))))))))))))))
theorem there_3 (n:Nod) (h:NTh n) (hk:n.kd=3) (b:List Int):ts_3 (lb_3 putN n++b,0)=(b,0)∧tn_3 (lb_3 putN n++b,0) nod0=⟨n.kd,n.na,0,0,0,0,n.no,n.za,0,n.w,n.b,n.qm,n.qs,n.qz,0,0,0,n.lo,n.hi⟩:=by
 have a0:=cntS_there h.kd (by decide)
 have b0:=cntV_there h.kd (by decide)
 have a1:=cntS_there h.na (by decide)
 have b1:=cntV_there h.na (by decide)
 have a2:=cntS_there h.no (by decide)
 have b2:=cntV_there h.no (by decide)
 have a3:=oneS_there h.okn.za
 have b3:=oneV_there h.okn.za
 have l:=lst_there h.wl h.bl h.okn.w h.okn.b
 have l1:=fun b=>(l b).1
 have l2:=fun b=>(l b).2.1
 have l3:=fun b=>(l b).2.2
 have sq:=scl_there (h.q (by simp[scaledB,hk])).1 (h.q (by simp[scaledB,hk])).2
 have sq1:=fun b=>(sq b).1
 have sq2:=fun b=>(sq b).2.1
 have sq3:=fun b=>(sq b).2.2
 have a7:=oneS_there h.okn.qz
 have b7:=oneV_there h.okn.qz
 have a8:=oneS_there h.okn.lo
 have b8:=oneV_there h.okn.lo
 have a9:=oneS_there h.okn.hi
 have b9:=oneV_there h.okn.hi
 unfold ts_3 tn_3 lb_3
 simp only[AZ_,a0,b0,a1,b1,a2,b2,a3,b3,l1,l2,l3,sq1,sq2,sq3,a7,b7,a8,b8,a9,b9,nod0,and_self]
theorem back_3 (s:Rst) (h:s.In) (hs:(ts_3 s).2=0):s.1=lb_3 putN (tn_3 s nod0)++(ts_3 s).1:=by
 have i0:=h
 have i1:(cntS s 9).In:=cnt_in i0 _
 have i2:(cntS (cntS s 9) 1024).In:=cnt_in i1 _
 have i3:(cntS (cntS (cntS s 9) 1024) 1024).In:=cnt_in i2 _
 have i4:(smlS (cntS (cntS (cntS s 9) 1024) 1024) 1).In:=sml_in i3 _
 have i5:(cntS (smlS (cntS (cntS (cntS s 9) 1024) 1024) 1) 16384).In:=cnt_in i4 _
 have i6:(smlS (cntS (smlS (cntS (cntS (cntS s 9) 1024) 1024) 1) 16384) (cntV (smlS (cntS (cntS (cntS s 9) 1024) 1024) 1) 16384)).In:=sml_in i5 _
 have i7:(cntS (smlS (cntS (smlS (cntS (cntS (cntS s 9) 1024) 1024) 1) 16384) (cntV (smlS (cntS (cntS (cntS s 9) 1024) 1024) 1) 16384)) 16384).In:=cnt_in i6 _
 have i8:(widS (cntS (smlS (cntS (smlS (cntS (cntS (cntS s 9) 1024) 1024) 1) 16384) (cntV (smlS (cntS (cntS (cntS s 9) 1024) 1024) 1) 16384)) 16384) (cntV (smlS (cntS (smlS (cntS (cntS (cntS s 9) 1024) 1024) 1) 16384) (cntV (smlS (cntS (cntS (cntS s 9) 1024) 1024) 1) 16384)) 16384)).In:=wid_in i7 _
 have i9:(cntS (widS (cntS (smlS (cntS (smlS (cntS (cntS (cntS s 9) 1024) 1024) 1) 16384) (cntV (smlS (cntS (cntS (cntS s 9) 1024) 1024) 1) 16384)) 16384) (cntV (smlS (cntS (smlS (cntS (cntS (cntS s 9) 1024) 1024) 1) 16384) (cntV (smlS (cntS (cntS (cntS s 9) 1024) 1024) 1) 16384)) 16384)) 2147483647).In:=cnt_in i8 _
 have i10:(cntS (cntS (widS (cntS (smlS (cntS (smlS (cntS (cntS (cntS s 9) 1024) 1024) 1) 16384) (cntV (smlS (cntS (cntS (cntS s 9) 1024) 1024) 1) 16384)) 16384) (cntV (smlS (cntS (smlS (cntS (cntS (cntS s 9) 1024) 1024) 1) 16384) (cntV (smlS (cntS (cntS (cntS s 9) 1024) 1024) 1) 16384)) 16384)) 2147483647) 62).In:=cnt_in i9 _
 have i11:(smlS (cntS (cntS (widS (cntS (smlS (cntS (smlS (cntS (cntS (cntS s 9) 1024) 1024) 1) 16384) (cntV (smlS (cntS (cntS (cntS s 9) 1024) 1024) 1) 16384)) 16384) (cntV (smlS (cntS (smlS (cntS (cntS (cntS s 9) 1024) 1024) 1) 16384) (cntV (smlS (cntS (cntS (cntS s 9) 1024) 1024) 1) 16384)) 16384)) 2147483647) 62) 1).In:=sml_in i10 _
 have i12:(smlS (smlS (cntS (cntS (widS (cntS (smlS (cntS (smlS (cntS (cntS (cntS s 9) 1024) 1024) 1) 16384) (cntV (smlS (cntS (cntS (cntS s 9) 1024) 1024) 1) 16384)) 16384) (cntV (smlS (cntS (smlS (cntS (cntS (cntS s 9) 1024) 1024) 1) 16384) (cntV (smlS (cntS (cntS (cntS s 9) 1024) 1024) 1) 16384)) 16384)) 2147483647) 62) 1) 1).In:=sml_in i11 _
 have h13:(smlS (smlS (smlS (cntS (cntS (widS (cntS (smlS (cntS (smlS (cntS (cntS (cntS s 9) 1024) 1024) 1) 16384) (cntV (smlS (cntS (cntS (cntS s 9) 1024) 1024) 1) 16384)) 16384) (cntV (smlS (cntS (smlS (cntS (cntS (cntS s 9) 1024) 1024) 1) 16384) (cntV (smlS (cntS (cntS (cntS s 9) 1024) 1024) 1) 16384)) 16384)) 2147483647) 62) 1) 1) 1).2=0:=hs
 have h12:(smlS (smlS (cntS (cntS (widS (cntS (smlS (cntS (smlS (cntS (cntS (cntS s 9) 1024) 1024) 1) 16384) (cntV (smlS (cntS (cntS (cntS s 9) 1024) 1024) 1) 16384)) 16384) (cntV (smlS (cntS (smlS (cntS (cntS (cntS s 9) 1024) 1024) 1) 16384) (cntV (smlS (cntS (cntS (cntS s 9) 1024) 1024) 1) 16384)) 16384)) 2147483647) 62) 1) 1).2=0:=sml_ok h13
 have h11:(smlS (cntS (cntS (widS (cntS (smlS (cntS (smlS (cntS (cntS (cntS s 9) 1024) 1024) 1) 16384) (cntV (smlS (cntS (cntS (cntS s 9) 1024) 1024) 1) 16384)) 16384) (cntV (smlS (cntS (smlS (cntS (cntS (cntS s 9) 1024) 1024) 1) 16384) (cntV (smlS (cntS (cntS (cntS s 9) 1024) 1024) 1) 16384)) 16384)) 2147483647) 62) 1).2=0:=sml_ok h12
 have h10:(cntS (cntS (widS (cntS (smlS (cntS (smlS (cntS (cntS (cntS s 9) 1024) 1024) 1) 16384) (cntV (smlS (cntS (cntS (cntS s 9) 1024) 1024) 1) 16384)) 16384) (cntV (smlS (cntS (smlS (cntS (cntS (cntS s 9) 1024) 1024) 1) 16384) (cntV (smlS (cntS (cntS (cntS s 9) 1024) 1024) 1) 16384)) 16384)) 2147483647) 62).2=0:=sml_ok h11
 have h9:(cntS (widS (cntS (smlS (cntS (smlS (cntS (cntS (cntS s 9) 1024) 1024) 1) 16384) (cntV (smlS (cntS (cntS (cntS s 9) 1024) 1024) 1) 16384)) 16384) (cntV (smlS (cntS (smlS (cntS (cntS (cntS s 9) 1024) 1024) 1) 16384) (cntV (smlS (cntS (cntS (cntS s 9) 1024) 1024) 1) 16384)) 16384)) 2147483647).2=0:=cnt_ok h10
 have h8:(widS (cntS (smlS (cntS (smlS (cntS (cntS (cntS s 9) 1024) 1024) 1) 16384) (cntV (smlS (cntS (cntS (cntS s 9) 1024) 1024) 1) 16384)) 16384) (cntV (smlS (cntS (smlS (cntS (cntS (cntS s 9) 1024) 1024) 1) 16384) (cntV (smlS (cntS (cntS (cntS s 9) 1024) 1024) 1) 16384)) 16384)).2=0:=cnt_ok h9
 have h7:(cntS (smlS (cntS (smlS (cntS (cntS (cntS s 9) 1024) 1024) 1) 16384) (cntV (smlS (cntS (cntS (cntS s 9) 1024) 1024) 1) 16384)) 16384).2=0:=wid_ok h8
 have h6:(smlS (cntS (smlS (cntS (cntS (cntS s 9) 1024) 1024) 1) 16384) (cntV (smlS (cntS (cntS (cntS s 9) 1024) 1024) 1) 16384)).2=0:=cnt_ok h7
 have h5:(cntS (smlS (cntS (cntS (cntS s 9) 1024) 1024) 1) 16384).2=0:=sml_ok h6
 have h4:(smlS (cntS (cntS (cntS s 9) 1024) 1024) 1).2=0:=cnt_ok h5
 have h3:(cntS (cntS (cntS s 9) 1024) 1024).2=0:=sml_ok h4
 have h2:(cntS (cntS s 9) 1024).2=0:=cnt_ok h3
 have h1:(cntS s 9).2=0:=cnt_ok h2
 have e0:s.1=putN (cntV s 9)++(cntS s 9).1:=cnt_back i0 h1
 have e1:(cntS s 9).1=putN (cntV (cntS s 9) 1024)++(cntS (cntS s 9) 1024).1:=cnt_back i1 h2
 have e2:(cntS (cntS s 9) 1024).1=putN (cntV (cntS (cntS s 9) 1024) 1024)++(cntS (cntS (cntS s 9) 1024) 1024).1:=cnt_back i2 h3
 have e3:(cntS (cntS (cntS s 9) 1024) 1024).1=[IntKind.u8.wrap (oneV (cntS (cntS (cntS s 9) 1024) 1024))]++(smlS (cntS (cntS (cntS s 9) 1024) 1024) 1).1:=one_back i3 h4
 have c4:=(sml_back i5 h6 (cntV_rng (m:=16384) i4 (by decide)).1).2
 have e4:(smlS (cntS (cntS (cntS s 9) 1024) 1024) 1).1=putN (((smlV (cntS (smlS (cntS (cntS (cntS s 9) 1024) 1024) 1) 16384) (cntV (smlS (cntS (cntS (cntS s 9) 1024) 1024) 1) 16384)).length:Nat):Int)++(cntS (smlS (cntS (cntS (cntS s 9) 1024) 1024) 1) 16384).1:=by rw[c4];exact cnt_back i4 h5
 have e5:(cntS (smlS (cntS (cntS (cntS s 9) 1024) 1024) 1) 16384).1=smallL (smlV (cntS (smlS (cntS (cntS (cntS s 9) 1024) 1024) 1) 16384) (cntV (smlS (cntS (cntS (cntS s 9) 1024) 1024) 1) 16384))++(smlS (cntS (smlS (cntS (cntS (cntS s 9) 1024) 1024) 1) 16384) (cntV (smlS (cntS (cntS (cntS s 9) 1024) 1024) 1) 16384)).1:=(sml_back i5 h6 (cntV_rng (m:=16384) i4 (by decide)).1).1
 have c6:=(wid_back i7 h8 (cntV_rng (m:=16384) i6 (by decide)).1).2
 have e6:(smlS (cntS (smlS (cntS (cntS (cntS s 9) 1024) 1024) 1) 16384) (cntV (smlS (cntS (cntS (cntS s 9) 1024) 1024) 1) 16384)).1=putN (((widV (cntS (smlS (cntS (smlS (cntS (cntS (cntS s 9) 1024) 1024) 1) 16384) (cntV (smlS (cntS (cntS (cntS s 9) 1024) 1024) 1) 16384)) 16384) (cntV (smlS (cntS (smlS (cntS (cntS (cntS s 9) 1024) 1024) 1) 16384) (cntV (smlS (cntS (cntS (cntS s 9) 1024) 1024) 1) 16384)) 16384)).length:Nat):Int)++(cntS (smlS (cntS (smlS (cntS (cntS (cntS s 9) 1024) 1024) 1) 16384) (cntV (smlS (cntS (cntS (cntS s 9) 1024) 1024) 1) 16384)) 16384).1:=by rw[c6];exact cnt_back i6 h7
 have e7:(cntS (smlS (cntS (smlS (cntS (cntS (cntS s 9) 1024) 1024) 1) 16384) (cntV (smlS (cntS (cntS (cntS s 9) 1024) 1024) 1) 16384)) 16384).1=wideL (widV (cntS (smlS (cntS (smlS (cntS (cntS (cntS s 9) 1024) 1024) 1) 16384) (cntV (smlS (cntS (cntS (cntS s 9) 1024) 1024) 1) 16384)) 16384) (cntV (smlS (cntS (smlS (cntS (cntS (cntS s 9) 1024) 1024) 1) 16384) (cntV (smlS (cntS (cntS (cntS s 9) 1024) 1024) 1) 16384)) 16384))++(widS (cntS (smlS (cntS (smlS (cntS (cntS (cntS s 9) 1024) 1024) 1) 16384) (cntV (smlS (cntS (cntS (cntS s 9) 1024) 1024) 1) 16384)) 16384) (cntV (smlS (cntS (smlS (cntS (cntS (cntS s 9) 1024) 1024) 1) 16384) (cntV (smlS (cntS (cntS (cntS s 9) 1024) 1024) 1) 16384)) 16384)).1:=(wid_back i7 h8 (cntV_rng (m:=16384) i6 (by decide)).1).1
 have e8:(widS (cntS (smlS (cntS (smlS (cntS (cntS (cntS s 9) 1024) 1024) 1) 16384) (cntV (smlS (cntS (cntS (cntS s 9) 1024) 1024) 1) 16384)) 16384) (cntV (smlS (cntS (smlS (cntS (cntS (cntS s 9) 1024) 1024) 1) 16384) (cntV (smlS (cntS (cntS (cntS s 9) 1024) 1024) 1) 16384)) 16384)).1=putN (cntV (widS (cntS (smlS (cntS (smlS (cntS (cntS (cntS s 9) 1024) 1024) 1) 16384) (cntV (smlS (cntS (cntS (cntS s 9) 1024) 1024) 1) 16384)) 16384) (cntV (smlS (cntS (smlS (cntS (cntS (cntS s 9) 1024) 1024) 1) 16384) (cntV (smlS (cntS (cntS (cntS s 9) 1024) 1024) 1) 16384)) 16384)) 2147483647)++(cntS (widS (cntS (smlS (cntS (smlS (cntS (cntS (cntS s 9) 1024) 1024) 1) 16384) (cntV (smlS (cntS (cntS (cntS s 9) 1024) 1024) 1) 16384)) 16384) (cntV (smlS (cntS (smlS (cntS (cntS (cntS s 9) 1024) 1024) 1) 16384) (cntV (smlS (cntS (cntS (cntS s 9) 1024) 1024) 1) 16384)) 16384)) 2147483647).1:=cnt_back i8 h9
 have e9:(cntS (widS (cntS (smlS (cntS (smlS (cntS (cntS (cntS s 9) 1024) 1024) 1) 16384) (cntV (smlS (cntS (cntS (cntS s 9) 1024) 1024) 1) 16384)) 16384) (cntV (smlS (cntS (smlS (cntS (cntS (cntS s 9) 1024) 1024) 1) 16384) (cntV (smlS (cntS (cntS (cntS s 9) 1024) 1024) 1) 16384)) 16384)) 2147483647).1=putN (cntV (cntS (widS (cntS (smlS (cntS (smlS (cntS (cntS (cntS s 9) 1024) 1024) 1) 16384) (cntV (smlS (cntS (cntS (cntS s 9) 1024) 1024) 1) 16384)) 16384) (cntV (smlS (cntS (smlS (cntS (cntS (cntS s 9) 1024) 1024) 1) 16384) (cntV (smlS (cntS (cntS (cntS s 9) 1024) 1024) 1) 16384)) 16384)) 2147483647) 62)++(cntS (cntS (widS (cntS (smlS (cntS (smlS (cntS (cntS (cntS s 9) 1024) 1024) 1) 16384) (cntV (smlS (cntS (cntS (cntS s 9) 1024) 1024) 1) 16384)) 16384) (cntV (smlS (cntS (smlS (cntS (cntS (cntS s 9) 1024) 1024) 1) 16384) (cntV (smlS (cntS (cntS (cntS s 9) 1024) 1024) 1) 16384)) 16384)) 2147483647) 62).1:=cnt_back i9 h10
 have e10:(cntS (cntS (widS (cntS (smlS (cntS (smlS (cntS (cntS (cntS s 9) 1024) 1024) 1) 16384) (cntV (smlS (cntS (cntS (cntS s 9) 1024) 1024) 1) 16384)) 16384) (cntV (smlS (cntS (smlS (cntS (cntS (cntS s 9) 1024) 1024) 1) 16384) (cntV (smlS (cntS (cntS (cntS s 9) 1024) 1024) 1) 16384)) 16384)) 2147483647) 62).1=[IntKind.u8.wrap (oneV (cntS (cntS (widS (cntS (smlS (cntS (smlS (cntS (cntS (cntS s 9) 1024) 1024) 1) 16384) (cntV (smlS (cntS (cntS (cntS s 9) 1024) 1024) 1) 16384)) 16384) (cntV (smlS (cntS (smlS (cntS (cntS (cntS s 9) 1024) 1024) 1) 16384) (cntV (smlS (cntS (cntS (cntS s 9) 1024) 1024) 1) 16384)) 16384)) 2147483647) 62))]++(smlS (cntS (cntS (widS (cntS (smlS (cntS (smlS (cntS (cntS (cntS s 9) 1024) 1024) 1) 16384) (cntV (smlS (cntS (cntS (cntS s 9) 1024) 1024) 1) 16384)) 16384) (cntV (smlS (cntS (smlS (cntS (cntS (cntS s 9) 1024) 1024) 1) 16384) (cntV (smlS (cntS (cntS (cntS s 9) 1024) 1024) 1) 16384)) 16384)) 2147483647) 62) 1).1:=one_back i10 h11
 have e11:(smlS (cntS (cntS (widS (cntS (smlS (cntS (smlS (cntS (cntS (cntS s 9) 1024) 1024) 1) 16384) (cntV (smlS (cntS (cntS (cntS s 9) 1024) 1024) 1) 16384)) 16384) (cntV (smlS (cntS (smlS (cntS (cntS (cntS s 9) 1024) 1024) 1) 16384) (cntV (smlS (cntS (cntS (cntS s 9) 1024) 1024) 1) 16384)) 16384)) 2147483647) 62) 1).1=[IntKind.u8.wrap (oneV (smlS (cntS (cntS (widS (cntS (smlS (cntS (smlS (cntS (cntS (cntS s 9) 1024) 1024) 1) 16384) (cntV (smlS (cntS (cntS (cntS s 9) 1024) 1024) 1) 16384)) 16384) (cntV (smlS (cntS (smlS (cntS (cntS (cntS s 9) 1024) 1024) 1) 16384) (cntV (smlS (cntS (cntS (cntS s 9) 1024) 1024) 1) 16384)) 16384)) 2147483647) 62) 1))]++(smlS (smlS (cntS (cntS (widS (cntS (smlS (cntS (smlS (cntS (cntS (cntS s 9) 1024) 1024) 1) 16384) (cntV (smlS (cntS (cntS (cntS s 9) 1024) 1024) 1) 16384)) 16384) (cntV (smlS (cntS (smlS (cntS (cntS (cntS s 9) 1024) 1024) 1) 16384) (cntV (smlS (cntS (cntS (cntS s 9) 1024) 1024) 1) 16384)) 16384)) 2147483647) 62) 1) 1).1:=one_back i11 h12
 have e12:(smlS (smlS (cntS (cntS (widS (cntS (smlS (cntS (smlS (cntS (cntS (cntS s 9) 1024) 1024) 1) 16384) (cntV (smlS (cntS (cntS (cntS s 9) 1024) 1024) 1) 16384)) 16384) (cntV (smlS (cntS (smlS (cntS (cntS (cntS s 9) 1024) 1024) 1) 16384) (cntV (smlS (cntS (cntS (cntS s 9) 1024) 1024) 1) 16384)) 16384)) 2147483647) 62) 1) 1).1=[IntKind.u8.wrap (oneV (smlS (smlS (cntS (cntS (widS (cntS (smlS (cntS (smlS (cntS (cntS (cntS s 9) 1024) 1024) 1) 16384) (cntV (smlS (cntS (cntS (cntS s 9) 1024) 1024) 1) 16384)) 16384) (cntV (smlS (cntS (smlS (cntS (cntS (cntS s 9) 1024) 1024) 1) 16384) (cntV (smlS (cntS (cntS (cntS s 9) 1024) 1024) 1) 16384)) 16384)) 2147483647) 62) 1) 1))]++(smlS (smlS (smlS (cntS (cntS (widS (cntS (smlS (cntS (smlS (cntS (cntS (cntS s 9) 1024) 1024) 1) 16384) (cntV (smlS (cntS (cntS (cntS s 9) 1024) 1024) 1) 16384)) 16384) (cntV (smlS (cntS (smlS (cntS (cntS (cntS s 9) 1024) 1024) 1) 16384) (cntV (smlS (cntS (cntS (cntS s 9) 1024) 1024) 1) 16384)) 16384)) 2147483647) 62) 1) 1) 1).1:=one_back i12 h13
 show s.1=(putN (cntV s 9)++putN (cntV (cntS s 9) 1024)++putN (cntV (cntS (cntS s 9) 1024) 1024)++[IntKind.u8.wrap (oneV (cntS (cntS (cntS s 9) 1024) 1024))]++putN (((smlV (cntS (smlS (cntS (cntS (cntS s 9) 1024) 1024) 1) 16384) (cntV (smlS (cntS (cntS (cntS s 9) 1024) 1024) 1) 16384)).length:Nat):Int)++smallL (smlV (cntS (smlS (cntS (cntS (cntS s 9) 1024) 1024) 1) 16384) (cntV (smlS (cntS (cntS (cntS s 9) 1024) 1024) 1) 16384))++putN (((widV (cntS (smlS (cntS (smlS (cntS (cntS (cntS s 9) 1024) 1024) 1) 16384) (cntV (smlS (cntS (cntS (cntS s 9) 1024) 1024) 1) 16384)) 16384) (cntV (smlS (cntS (smlS (cntS (cntS (cntS s 9) 1024) 1024) 1) 16384) (cntV (smlS (cntS (cntS (cntS s 9) 1024) 1024) 1) 16384)) 16384)).length:Nat):Int)++wideL (widV (cntS (smlS (cntS (smlS (cntS (cntS (cntS s 9) 1024) 1024) 1) 16384) (cntV (smlS (cntS (cntS (cntS s 9) 1024) 1024) 1) 16384)) 16384) (cntV (smlS (cntS (smlS (cntS (cntS (cntS s 9) 1024) 1024) 1) 16384) (cntV (smlS (cntS (cntS (cntS s 9) 1024) 1024) 1) 16384)) 16384))++putN (cntV (widS (cntS (smlS (cntS (smlS (cntS (cntS (cntS s 9) 1024) 1024) 1) 16384) (cntV (smlS (cntS (cntS (cntS s 9) 1024) 1024) 1) 16384)) 16384) (cntV (smlS (cntS (smlS (cntS (cntS (cntS s 9) 1024) 1024) 1) 16384) (cntV (smlS (cntS (cntS (cntS s 9) 1024) 1024) 1) 16384)) 16384)) 2147483647)++putN (cntV (cntS (widS (cntS (smlS (cntS (smlS (cntS (cntS (cntS s 9) 1024) 1024) 1) 16384) (cntV (smlS (cntS (cntS (cntS s 9) 1024) 1024) 1) 16384)) 16384) (cntV (smlS (cntS (smlS (cntS (cntS (cntS s 9) 1024) 1024) 1) 16384) (cntV (smlS (cntS (cntS (cntS s 9) 1024) 1024) 1) 16384)) 16384)) 2147483647) 62)++[IntKind.u8.wrap (oneV (cntS (cntS (widS (cntS (smlS (cntS (smlS (cntS (cntS (cntS s 9) 1024) 1024) 1) 16384) (cntV (smlS (cntS (cntS (cntS s 9) 1024) 1024) 1) 16384)) 16384) (cntV (smlS (cntS (smlS (cntS (cntS (cntS s 9) 1024) 1024) 1) 16384) (cntV (smlS (cntS (cntS (cntS s 9) 1024) 1024) 1) 16384)) 16384)) 2147483647) 62))]++[IntKind.u8.wrap (oneV (smlS (cntS (cntS (widS (cntS (smlS (cntS (smlS (cntS (cntS (cntS s 9) 1024) 1024) 1) 16384) (cntV (smlS (cntS (cntS (cntS s 9) 1024) 1024) 1) 16384)) 16384) (cntV (smlS (cntS (smlS (cntS (cntS (cntS s 9) 1024) 1024) 1) 16384) (cntV (smlS (cntS (cntS (cntS s 9) 1024) 1024) 1) 16384)) 16384)) 2147483647) 62) 1))]++[IntKind.u8.wrap (oneV (smlS (smlS (cntS (cntS (widS (cntS (smlS (cntS (smlS (cntS (cntS (cntS s 9) 1024) 1024) 1) 16384) (cntV (smlS (cntS (cntS (cntS s 9) 1024) 1024) 1) 16384)) 16384) (cntV (smlS (cntS (smlS (cntS (cntS (cntS s 9) 1024) 1024) 1) 16384) (cntV (smlS (cntS (cntS (cntS s 9) 1024) 1024) 1) 16384)) 16384)) 2147483647) 62) 1) 1))])++(smlS (smlS (smlS (cntS (cntS (widS (cntS (smlS (cntS (smlS (cntS (cntS (cntS s 9) 1024) 1024) 1) 16384) (cntV (smlS (cntS (cntS (cntS s 9) 1024) 1024) 1) 16384)) 16384) (cntV (smlS (cntS (smlS (cntS (cntS (cntS s 9) 1024) 1024) 1) 16384) (cntV (smlS (cntS (cntS (cntS s 9) 1024) 1024) 1) 16384)) 16384)) 2147483647) 62) 1) 1) 1).1
 simp only[AZ_]
 exact e0.trans (congrArg (putN (cntV s 9) ++ ·) (e1.trans (congrArg (putN (cntV (cntS s 9) 1024) ++ ·) (e2.trans (congrArg (putN (cntV (cntS (cntS s 9) 1024) 1024) ++ ·) (e3.trans (congrArg ([IntKind.u8.wrap (oneV (cntS (cntS (cntS s 9) 1024) 1024))] ++ ·) (e4.trans (congrArg (putN (((smlV (cntS (smlS (cntS (cntS (cntS s 9) 1024) 1024) 1) 16384) (cntV (smlS (cntS (cntS (cntS s 9) 1024) 1024) 1) 16384)).length:Nat):Int) ++ ·) (e5.trans (congrArg (smallL (smlV (cntS (smlS (cntS (cntS (cntS s 9) 1024) 1024) 1) 16384) (cntV (smlS (cntS (cntS (cntS s 9) 1024) 1024) 1) 16384)) ++ ·) (e6.trans (congrArg (putN (((widV (cntS (smlS (cntS (smlS (cntS (cntS (cntS s 9) 1024) 1024) 1) 16384) (cntV (smlS (cntS (cntS (cntS s 9) 1024) 1024) 1) 16384)) 16384) (cntV (smlS (cntS (smlS (cntS (cntS (cntS s 9) 1024) 1024) 1) 16384) (cntV (smlS (cntS (cntS (cntS s 9) 1024) 1024) 1) 16384)) 16384)).length:Nat):Int) ++ ·) (e7.trans (congrArg (wideL (widV (cntS (smlS (cntS (smlS (cntS (cntS (cntS s 9) 1024) 1024) 1) 16384) (cntV (smlS (cntS (cntS (cntS s 9) 1024) 1024) 1) 16384)) 16384) (cntV (smlS (cntS (smlS (cntS (cntS (cntS s 9) 1024) 1024) 1) 16384) (cntV (smlS (cntS (cntS (cntS s 9) 1024) 1024) 1) 16384)) 16384)) ++ ·) (e8.trans (congrArg (putN (cntV (widS (cntS (smlS (cntS (smlS (cntS (cntS (cntS s 9) 1024) 1024) 1) 16384) (cntV (smlS (cntS (cntS (cntS s 9) 1024) 1024) 1) 16384)) 16384) (cntV (smlS (cntS (smlS (cntS (cntS (cntS s 9) 1024) 1024) 1) 16384) (cntV (smlS (cntS (cntS (cntS s 9) 1024) 1024) 1) 16384)) 16384)) 2147483647) ++ ·) (e9.trans (congrArg (putN (cntV (cntS (widS (cntS (smlS (cntS (smlS (cntS (cntS (cntS s 9) 1024) 1024) 1) 16384) (cntV (smlS (cntS (cntS (cntS s 9) 1024) 1024) 1) 16384)) 16384) (cntV (smlS (cntS (smlS (cntS (cntS (cntS s 9) 1024) 1024) 1) 16384) (cntV (smlS (cntS (cntS (cntS s 9) 1024) 1024) 1) 16384)) 16384)) 2147483647) 62) ++ ·) (e10.trans (congrArg ([IntKind.u8.wrap (oneV (cntS (cntS (widS (cntS (smlS (cntS (smlS (cntS (cntS (cntS s 9) 1024) 1024) 1) 16384) (cntV (smlS (cntS (cntS (cntS s 9) 1024) 1024) 1) 16384)) 16384) (cntV (smlS (cntS (smlS (cntS (cntS (cntS s 9) 1024) 1024) 1) 16384) (cntV (smlS (cntS (cntS (cntS s 9) 1024) 1024) 1) 16384)) 16384)) 2147483647) 62))] ++ ·) (e11.trans (congrArg ([IntKind.u8.wrap (oneV (smlS (cntS (cntS (widS (cntS (smlS (cntS (smlS (cntS (cntS (cntS s 9) 1024) 1024) 1) 16384) (cntV (smlS (cntS (cntS (cntS s 9) 1024) 1024) 1) 16384)) 16384) (cntV (smlS (cntS (smlS (cntS (cntS (cntS s 9) 1024) 1024) 1) 16384) (cntV (smlS (cntS (cntS (cntS s 9) 1024) 1024) 1) 16384)) 16384)) 2147483647) 62) 1))] ++ ·) (e12))))))))))))))))))))))))
theorem there_4 (n:Nod) (h:NTh n) (hk:n.kd=4∨n.kd=5) (b:List Int):ts_4 (lb_4 putN n++b,0)=(b,0)∧tn_4 (lb_4 putN n++b,0) nod0=⟨n.kd,n.na,0,n.nk,n.ns,n.np,0,0,0,[],[],0,0,0,0,0,0,0,0⟩:=by
 have a0:=cntS_there h.kd (by decide)
 have b0:=cntV_there h.kd (by decide)
 have a1:=cntS_there h.na (by decide)
 have b1:=cntV_there h.na (by decide)
 have a2:=cntS_there h.nk (by decide)
 have b2:=cntV_there h.nk (by decide)
 have a3:=cntS_there h.ns (by decide)
 have b3:=cntV_there h.ns (by decide)
 have a4:=cntS_there h.np (by decide)
 have b4:=cntV_there h.np (by decide)
 unfold ts_4 tn_4 lb_4
 simp only[AZ_,a0,b0,a1,b1,a2,b2,a3,b3,a4,b4,nod0,and_self]
theorem back_4 (s:Rst) (h:s.In) (hs:(ts_4 s).2=0):s.1=lb_4 putN (tn_4 s nod0)++(ts_4 s).1:=by
 have i0:=h
 have i1:(cntS s 9).In:=cnt_in i0 _
 have i2:(cntS (cntS s 9) 1024).In:=cnt_in i1 _
 have i3:(cntS (cntS (cntS s 9) 1024) 1024).In:=cnt_in i2 _
 have i4:(cntS (cntS (cntS (cntS s 9) 1024) 1024) 1024).In:=cnt_in i3 _
 have h5:(cntS (cntS (cntS (cntS (cntS s 9) 1024) 1024) 1024) 1024).2=0:=hs
 have h4:(cntS (cntS (cntS (cntS s 9) 1024) 1024) 1024).2=0:=cnt_ok h5
 have h3:(cntS (cntS (cntS s 9) 1024) 1024).2=0:=cnt_ok h4
 have h2:(cntS (cntS s 9) 1024).2=0:=cnt_ok h3
 have h1:(cntS s 9).2=0:=cnt_ok h2
 have e0:s.1=putN (cntV s 9)++(cntS s 9).1:=cnt_back i0 h1
 have e1:(cntS s 9).1=putN (cntV (cntS s 9) 1024)++(cntS (cntS s 9) 1024).1:=cnt_back i1 h2
 have e2:(cntS (cntS s 9) 1024).1=putN (cntV (cntS (cntS s 9) 1024) 1024)++(cntS (cntS (cntS s 9) 1024) 1024).1:=cnt_back i2 h3
 have e3:(cntS (cntS (cntS s 9) 1024) 1024).1=putN (cntV (cntS (cntS (cntS s 9) 1024) 1024) 1024)++(cntS (cntS (cntS (cntS s 9) 1024) 1024) 1024).1:=cnt_back i3 h4
 have e4:(cntS (cntS (cntS (cntS s 9) 1024) 1024) 1024).1=putN (cntV (cntS (cntS (cntS (cntS s 9) 1024) 1024) 1024) 1024)++(cntS (cntS (cntS (cntS (cntS s 9) 1024) 1024) 1024) 1024).1:=cnt_back i4 h5
 show s.1=(putN (cntV s 9)++putN (cntV (cntS s 9) 1024)++putN (cntV (cntS (cntS s 9) 1024) 1024)++putN (cntV (cntS (cntS (cntS s 9) 1024) 1024) 1024)++putN (cntV (cntS (cntS (cntS (cntS s 9) 1024) 1024) 1024) 1024))++(cntS (cntS (cntS (cntS (cntS s 9) 1024) 1024) 1024) 1024).1
 simp only[AZ_]
 exact e0.trans (congrArg (putN (cntV s 9) ++ ·) (e1.trans (congrArg (putN (cntV (cntS s 9) 1024) ++ ·) (e2.trans (congrArg (putN (cntV (cntS (cntS s 9) 1024) 1024) ++ ·) (e3.trans (congrArg (putN (cntV (cntS (cntS (cntS s 9) 1024) 1024) 1024) ++ ·) (e4))))))))
theorem there_6 (n:Nod) (h:NTh n) (hk:n.kd=6) (b:List Int):ts_6 (lb_6 putN n++b,0)=(b,0)∧tn_6 (lb_6 putN n++b,0) nod0=⟨n.kd,n.na,n.nb,0,0,0,0,n.za,n.zb,[],[],n.qm,n.qs,n.qz,n.rm,n.rs,0,n.lo,n.hi⟩:=by
 have a0:=cntS_there h.kd (by decide)
 have b0:=cntV_there h.kd (by decide)
 have a1:=cntS_there h.na (by decide)
 have b1:=cntV_there h.na (by decide)
 have a2:=cntS_there h.nb (by decide)
 have b2:=cntV_there h.nb (by decide)
 have a3:=oneS_there h.okn.za
 have b3:=oneV_there h.okn.za
 have a4:=oneS_there h.okn.zb
 have b4:=oneV_there h.okn.zb
 have sq:=scl_there (h.q (by simp[scaledB,hk])).1 (h.q (by simp[scaledB,hk])).2
 have sq1:=fun b=>(sq b).1
 have sq2:=fun b=>(sq b).2.1
 have sq3:=fun b=>(sq b).2.2
 have a6:=oneS_there h.okn.qz
 have b6:=oneV_there h.okn.qz
 have sr:=scl_there (h.r hk).1 (h.r hk).2
 have sr1:=fun b=>(sr b).1
 have sr2:=fun b=>(sr b).2.1
 have sr3:=fun b=>(sr b).2.2
 have a8:=oneS_there h.okn.lo
 have b8:=oneV_there h.okn.lo
 have a9:=oneS_there h.okn.hi
 have b9:=oneV_there h.okn.hi
 unfold ts_6 tn_6 lb_6
 simp only[AZ_,a0,b0,a1,b1,a2,b2,a3,b3,a4,b4,sq1,sq2,sq3,a6,b6,sr1,sr2,sr3,a8,b8,a9,b9,nod0,and_self]
theorem back_6 (s:Rst) (h:s.In) (hs:(ts_6 s).2=0):s.1=lb_6 putN (tn_6 s nod0)++(ts_6 s).1:=by
 have i0:=h
 have i1:(cntS s 9).In:=cnt_in i0 _
 have i2:(cntS (cntS s 9) 1024).In:=cnt_in i1 _
 have i3:(cntS (cntS (cntS s 9) 1024) 1024).In:=cnt_in i2 _
 have i4:(smlS (cntS (cntS (cntS s 9) 1024) 1024) 1).In:=sml_in i3 _
 have i5:(smlS (smlS (cntS (cntS (cntS s 9) 1024) 1024) 1) 1).In:=sml_in i4 _
 have i6:(cntS (smlS (smlS (cntS (cntS (cntS s 9) 1024) 1024) 1) 1) 2147483647).In:=cnt_in i5 _
 have i7:(cntS (cntS (smlS (smlS (cntS (cntS (cntS s 9) 1024) 1024) 1) 1) 2147483647) 62).In:=cnt_in i6 _
 have i8:(smlS (cntS (cntS (smlS (smlS (cntS (cntS (cntS s 9) 1024) 1024) 1) 1) 2147483647) 62) 1).In:=sml_in i7 _
 have i9:(cntS (smlS (cntS (cntS (smlS (smlS (cntS (cntS (cntS s 9) 1024) 1024) 1) 1) 2147483647) 62) 1) 2147483647).In:=cnt_in i8 _
 have i10:(cntS (cntS (smlS (cntS (cntS (smlS (smlS (cntS (cntS (cntS s 9) 1024) 1024) 1) 1) 2147483647) 62) 1) 2147483647) 62).In:=cnt_in i9 _
 have i11:(smlS (cntS (cntS (smlS (cntS (cntS (smlS (smlS (cntS (cntS (cntS s 9) 1024) 1024) 1) 1) 2147483647) 62) 1) 2147483647) 62) 1).In:=sml_in i10 _
 have h12:(smlS (smlS (cntS (cntS (smlS (cntS (cntS (smlS (smlS (cntS (cntS (cntS s 9) 1024) 1024) 1) 1) 2147483647) 62) 1) 2147483647) 62) 1) 1).2=0:=hs
 have h11:(smlS (cntS (cntS (smlS (cntS (cntS (smlS (smlS (cntS (cntS (cntS s 9) 1024) 1024) 1) 1) 2147483647) 62) 1) 2147483647) 62) 1).2=0:=sml_ok h12
 have h10:(cntS (cntS (smlS (cntS (cntS (smlS (smlS (cntS (cntS (cntS s 9) 1024) 1024) 1) 1) 2147483647) 62) 1) 2147483647) 62).2=0:=sml_ok h11
 have h9:(cntS (smlS (cntS (cntS (smlS (smlS (cntS (cntS (cntS s 9) 1024) 1024) 1) 1) 2147483647) 62) 1) 2147483647).2=0:=cnt_ok h10
 have h8:(smlS (cntS (cntS (smlS (smlS (cntS (cntS (cntS s 9) 1024) 1024) 1) 1) 2147483647) 62) 1).2=0:=cnt_ok h9
 have h7:(cntS (cntS (smlS (smlS (cntS (cntS (cntS s 9) 1024) 1024) 1) 1) 2147483647) 62).2=0:=sml_ok h8
 have h6:(cntS (smlS (smlS (cntS (cntS (cntS s 9) 1024) 1024) 1) 1) 2147483647).2=0:=cnt_ok h7
 have h5:(smlS (smlS (cntS (cntS (cntS s 9) 1024) 1024) 1) 1).2=0:=cnt_ok h6
 have h4:(smlS (cntS (cntS (cntS s 9) 1024) 1024) 1).2=0:=sml_ok h5
 have h3:(cntS (cntS (cntS s 9) 1024) 1024).2=0:=sml_ok h4
 have h2:(cntS (cntS s 9) 1024).2=0:=cnt_ok h3
 have h1:(cntS s 9).2=0:=cnt_ok h2
 have e0:s.1=putN (cntV s 9)++(cntS s 9).1:=cnt_back i0 h1
 have e1:(cntS s 9).1=putN (cntV (cntS s 9) 1024)++(cntS (cntS s 9) 1024).1:=cnt_back i1 h2
 have e2:(cntS (cntS s 9) 1024).1=putN (cntV (cntS (cntS s 9) 1024) 1024)++(cntS (cntS (cntS s 9) 1024) 1024).1:=cnt_back i2 h3
 have e3:(cntS (cntS (cntS s 9) 1024) 1024).1=[IntKind.u8.wrap (oneV (cntS (cntS (cntS s 9) 1024) 1024))]++(smlS (cntS (cntS (cntS s 9) 1024) 1024) 1).1:=one_back i3 h4
 have e4:(smlS (cntS (cntS (cntS s 9) 1024) 1024) 1).1=[IntKind.u8.wrap (oneV (smlS (cntS (cntS (cntS s 9) 1024) 1024) 1))]++(smlS (smlS (cntS (cntS (cntS s 9) 1024) 1024) 1) 1).1:=one_back i4 h5
 have e5:(smlS (smlS (cntS (cntS (cntS s 9) 1024) 1024) 1) 1).1=putN (cntV (smlS (smlS (cntS (cntS (cntS s 9) 1024) 1024) 1) 1) 2147483647)++(cntS (smlS (smlS (cntS (cntS (cntS s 9) 1024) 1024) 1) 1) 2147483647).1:=cnt_back i5 h6
 have e6:(cntS (smlS (smlS (cntS (cntS (cntS s 9) 1024) 1024) 1) 1) 2147483647).1=putN (cntV (cntS (smlS (smlS (cntS (cntS (cntS s 9) 1024) 1024) 1) 1) 2147483647) 62)++(cntS (cntS (smlS (smlS (cntS (cntS (cntS s 9) 1024) 1024) 1) 1) 2147483647) 62).1:=cnt_back i6 h7
 have e7:(cntS (cntS (smlS (smlS (cntS (cntS (cntS s 9) 1024) 1024) 1) 1) 2147483647) 62).1=[IntKind.u8.wrap (oneV (cntS (cntS (smlS (smlS (cntS (cntS (cntS s 9) 1024) 1024) 1) 1) 2147483647) 62))]++(smlS (cntS (cntS (smlS (smlS (cntS (cntS (cntS s 9) 1024) 1024) 1) 1) 2147483647) 62) 1).1:=one_back i7 h8
 have e8:(smlS (cntS (cntS (smlS (smlS (cntS (cntS (cntS s 9) 1024) 1024) 1) 1) 2147483647) 62) 1).1=putN (cntV (smlS (cntS (cntS (smlS (smlS (cntS (cntS (cntS s 9) 1024) 1024) 1) 1) 2147483647) 62) 1) 2147483647)++(cntS (smlS (cntS (cntS (smlS (smlS (cntS (cntS (cntS s 9) 1024) 1024) 1) 1) 2147483647) 62) 1) 2147483647).1:=cnt_back i8 h9
 have e9:(cntS (smlS (cntS (cntS (smlS (smlS (cntS (cntS (cntS s 9) 1024) 1024) 1) 1) 2147483647) 62) 1) 2147483647).1=putN (cntV (cntS (smlS (cntS (cntS (smlS (smlS (cntS (cntS (cntS s 9) 1024) 1024) 1) 1) 2147483647) 62) 1) 2147483647) 62)++(cntS (cntS (smlS (cntS (cntS (smlS (smlS (cntS (cntS (cntS s 9) 1024) 1024) 1) 1) 2147483647) 62) 1) 2147483647) 62).1:=cnt_back i9 h10
 have e10:(cntS (cntS (smlS (cntS (cntS (smlS (smlS (cntS (cntS (cntS s 9) 1024) 1024) 1) 1) 2147483647) 62) 1) 2147483647) 62).1=[IntKind.u8.wrap (oneV (cntS (cntS (smlS (cntS (cntS (smlS (smlS (cntS (cntS (cntS s 9) 1024) 1024) 1) 1) 2147483647) 62) 1) 2147483647) 62))]++(smlS (cntS (cntS (smlS (cntS (cntS (smlS (smlS (cntS (cntS (cntS s 9) 1024) 1024) 1) 1) 2147483647) 62) 1) 2147483647) 62) 1).1:=one_back i10 h11
 have e11:(smlS (cntS (cntS (smlS (cntS (cntS (smlS (smlS (cntS (cntS (cntS s 9) 1024) 1024) 1) 1) 2147483647) 62) 1) 2147483647) 62) 1).1=[IntKind.u8.wrap (oneV (smlS (cntS (cntS (smlS (cntS (cntS (smlS (smlS (cntS (cntS (cntS s 9) 1024) 1024) 1) 1) 2147483647) 62) 1) 2147483647) 62) 1))]++(smlS (smlS (cntS (cntS (smlS (cntS (cntS (smlS (smlS (cntS (cntS (cntS s 9) 1024) 1024) 1) 1) 2147483647) 62) 1) 2147483647) 62) 1) 1).1:=one_back i11 h12
 show s.1=(putN (cntV s 9)++putN (cntV (cntS s 9) 1024)++putN (cntV (cntS (cntS s 9) 1024) 1024)++[IntKind.u8.wrap (oneV (cntS (cntS (cntS s 9) 1024) 1024))]++[IntKind.u8.wrap (oneV (smlS (cntS (cntS (cntS s 9) 1024) 1024) 1))]++putN (cntV (smlS (smlS (cntS (cntS (cntS s 9) 1024) 1024) 1) 1) 2147483647)++putN (cntV (cntS (smlS (smlS (cntS (cntS (cntS s 9) 1024) 1024) 1) 1) 2147483647) 62)++[IntKind.u8.wrap (oneV (cntS (cntS (smlS (smlS (cntS (cntS (cntS s 9) 1024) 1024) 1) 1) 2147483647) 62))]++putN (cntV (smlS (cntS (cntS (smlS (smlS (cntS (cntS (cntS s 9) 1024) 1024) 1) 1) 2147483647) 62) 1) 2147483647)++putN (cntV (cntS (smlS (cntS (cntS (smlS (smlS (cntS (cntS (cntS s 9) 1024) 1024) 1) 1) 2147483647) 62) 1) 2147483647) 62)++[IntKind.u8.wrap (oneV (cntS (cntS (smlS (cntS (cntS (smlS (smlS (cntS (cntS (cntS s 9) 1024) 1024) 1) 1) 2147483647) 62) 1) 2147483647) 62))]++[IntKind.u8.wrap (oneV (smlS (cntS (cntS (smlS (cntS (cntS (smlS (smlS (cntS (cntS (cntS s 9) 1024) 1024) 1) 1) 2147483647) 62) 1) 2147483647) 62) 1))])++(smlS (smlS (cntS (cntS (smlS (cntS (cntS (smlS (smlS (cntS (cntS (cntS s 9) 1024) 1024) 1) 1) 2147483647) 62) 1) 2147483647) 62) 1) 1).1
 simp only[AZ_]
 exact e0.trans (congrArg (putN (cntV s 9) ++ ·) (e1.trans (congrArg (putN (cntV (cntS s 9) 1024) ++ ·) (e2.trans (congrArg (putN (cntV (cntS (cntS s 9) 1024) 1024) ++ ·) (e3.trans (congrArg ([IntKind.u8.wrap (oneV (cntS (cntS (cntS s 9) 1024) 1024))] ++ ·) (e4.trans (congrArg ([IntKind.u8.wrap (oneV (smlS (cntS (cntS (cntS s 9) 1024) 1024) 1))] ++ ·) (e5.trans (congrArg (putN (cntV (smlS (smlS (cntS (cntS (cntS s 9) 1024) 1024) 1) 1) 2147483647) ++ ·) (e6.trans (congrArg (putN (cntV (cntS (smlS (smlS (cntS (cntS (cntS s 9) 1024) 1024) 1) 1) 2147483647) 62) ++ ·) (e7.trans (congrArg ([IntKind.u8.wrap (oneV (cntS (cntS (smlS (smlS (cntS (cntS (cntS s 9) 1024) 1024) 1) 1) 2147483647) 62))] ++ ·) (e8.trans (congrArg (putN (cntV (smlS (cntS (cntS (smlS (smlS (cntS (cntS (cntS s 9) 1024) 1024) 1) 1) 2147483647) 62) 1) 2147483647) ++ ·) (e9.trans (congrArg (putN (cntV (cntS (smlS (cntS (cntS (smlS (smlS (cntS (cntS (cntS s 9) 1024) 1024) 1) 1) 2147483647) 62) 1) 2147483647) 62) ++ ·) (e10.trans (congrArg ([IntKind.u8.wrap (oneV (cntS (cntS (smlS (cntS (cntS (smlS (smlS (cntS (cntS (cntS s 9) 1024) 1024) 1) 1) 2147483647) 62) 1) 2147483647) 62))] ++ ·) (e11))))))))))))))))))))))
theorem there_7 (n:Nod) (h:NTh n) (hk:n.kd=7) (b:List Int):ts_7 (lb_7 putN n++b,0)=(b,0)∧tn_7 (lb_7 putN n++b,0) nod0=⟨n.kd,n.na,0,0,0,0,0,n.za,0,[],[],n.qm,n.qs,n.qz,0,0,0,n.lo,n.hi⟩:=by
 have a0:=cntS_there h.kd (by decide)
 have b0:=cntV_there h.kd (by decide)
 have a1:=cntS_there h.na (by decide)
 have b1:=cntV_there h.na (by decide)
 have a2:=oneS_there h.okn.za
 have b2:=oneV_there h.okn.za
 have sq:=scl_there (h.q (by simp[scaledB,hk])).1 (h.q (by simp[scaledB,hk])).2
 have sq1:=fun b=>(sq b).1
 have sq2:=fun b=>(sq b).2.1
 have sq3:=fun b=>(sq b).2.2
 have a4:=oneS_there h.okn.qz
 have b4:=oneV_there h.okn.qz
 have a5:=oneS_there h.okn.lo
 have b5:=oneV_there h.okn.lo
 have a6:=oneS_there h.okn.hi
 have b6:=oneV_there h.okn.hi
 unfold ts_7 tn_7 lb_7
 simp only[AZ_,a0,b0,a1,b1,a2,b2,sq1,sq2,sq3,a4,b4,a5,b5,a6,b6,nod0,and_self]
theorem back_7 (s:Rst) (h:s.In) (hs:(ts_7 s).2=0):s.1=lb_7 putN (tn_7 s nod0)++(ts_7 s).1:=by
 have i0:=h
 have i1:(cntS s 9).In:=cnt_in i0 _
 have i2:(cntS (cntS s 9) 1024).In:=cnt_in i1 _
 have i3:(smlS (cntS (cntS s 9) 1024) 1).In:=sml_in i2 _
 have i4:(cntS (smlS (cntS (cntS s 9) 1024) 1) 2147483647).In:=cnt_in i3 _
 have i5:(cntS (cntS (smlS (cntS (cntS s 9) 1024) 1) 2147483647) 62).In:=cnt_in i4 _
 have i6:(smlS (cntS (cntS (smlS (cntS (cntS s 9) 1024) 1) 2147483647) 62) 1).In:=sml_in i5 _
 have i7:(smlS (smlS (cntS (cntS (smlS (cntS (cntS s 9) 1024) 1) 2147483647) 62) 1) 1).In:=sml_in i6 _
 have h8:(smlS (smlS (smlS (cntS (cntS (smlS (cntS (cntS s 9) 1024) 1) 2147483647) 62) 1) 1) 1).2=0:=hs
 have h7:(smlS (smlS (cntS (cntS (smlS (cntS (cntS s 9) 1024) 1) 2147483647) 62) 1) 1).2=0:=sml_ok h8
 have h6:(smlS (cntS (cntS (smlS (cntS (cntS s 9) 1024) 1) 2147483647) 62) 1).2=0:=sml_ok h7
 have h5:(cntS (cntS (smlS (cntS (cntS s 9) 1024) 1) 2147483647) 62).2=0:=sml_ok h6
 have h4:(cntS (smlS (cntS (cntS s 9) 1024) 1) 2147483647).2=0:=cnt_ok h5
 have h3:(smlS (cntS (cntS s 9) 1024) 1).2=0:=cnt_ok h4
 have h2:(cntS (cntS s 9) 1024).2=0:=sml_ok h3
 have h1:(cntS s 9).2=0:=cnt_ok h2
 have e0:s.1=putN (cntV s 9)++(cntS s 9).1:=cnt_back i0 h1
 have e1:(cntS s 9).1=putN (cntV (cntS s 9) 1024)++(cntS (cntS s 9) 1024).1:=cnt_back i1 h2
 have e2:(cntS (cntS s 9) 1024).1=[IntKind.u8.wrap (oneV (cntS (cntS s 9) 1024))]++(smlS (cntS (cntS s 9) 1024) 1).1:=one_back i2 h3
 have e3:(smlS (cntS (cntS s 9) 1024) 1).1=putN (cntV (smlS (cntS (cntS s 9) 1024) 1) 2147483647)++(cntS (smlS (cntS (cntS s 9) 1024) 1) 2147483647).1:=cnt_back i3 h4
 have e4:(cntS (smlS (cntS (cntS s 9) 1024) 1) 2147483647).1=putN (cntV (cntS (smlS (cntS (cntS s 9) 1024) 1) 2147483647) 62)++(cntS (cntS (smlS (cntS (cntS s 9) 1024) 1) 2147483647) 62).1:=cnt_back i4 h5
 have e5:(cntS (cntS (smlS (cntS (cntS s 9) 1024) 1) 2147483647) 62).1=[IntKind.u8.wrap (oneV (cntS (cntS (smlS (cntS (cntS s 9) 1024) 1) 2147483647) 62))]++(smlS (cntS (cntS (smlS (cntS (cntS s 9) 1024) 1) 2147483647) 62) 1).1:=one_back i5 h6
 have e6:(smlS (cntS (cntS (smlS (cntS (cntS s 9) 1024) 1) 2147483647) 62) 1).1=[IntKind.u8.wrap (oneV (smlS (cntS (cntS (smlS (cntS (cntS s 9) 1024) 1) 2147483647) 62) 1))]++(smlS (smlS (cntS (cntS (smlS (cntS (cntS s 9) 1024) 1) 2147483647) 62) 1) 1).1:=one_back i6 h7
 have e7:(smlS (smlS (cntS (cntS (smlS (cntS (cntS s 9) 1024) 1) 2147483647) 62) 1) 1).1=[IntKind.u8.wrap (oneV (smlS (smlS (cntS (cntS (smlS (cntS (cntS s 9) 1024) 1) 2147483647) 62) 1) 1))]++(smlS (smlS (smlS (cntS (cntS (smlS (cntS (cntS s 9) 1024) 1) 2147483647) 62) 1) 1) 1).1:=one_back i7 h8
 show s.1=(putN (cntV s 9)++putN (cntV (cntS s 9) 1024)++[IntKind.u8.wrap (oneV (cntS (cntS s 9) 1024))]++putN (cntV (smlS (cntS (cntS s 9) 1024) 1) 2147483647)++putN (cntV (cntS (smlS (cntS (cntS s 9) 1024) 1) 2147483647) 62)++[IntKind.u8.wrap (oneV (cntS (cntS (smlS (cntS (cntS s 9) 1024) 1) 2147483647) 62))]++[IntKind.u8.wrap (oneV (smlS (cntS (cntS (smlS (cntS (cntS s 9) 1024) 1) 2147483647) 62) 1))]++[IntKind.u8.wrap (oneV (smlS (smlS (cntS (cntS (smlS (cntS (cntS s 9) 1024) 1) 2147483647) 62) 1) 1))])++(smlS (smlS (smlS (cntS (cntS (smlS (cntS (cntS s 9) 1024) 1) 2147483647) 62) 1) 1) 1).1
 simp only[AZ_]
 exact e0.trans (congrArg (putN (cntV s 9) ++ ·) (e1.trans (congrArg (putN (cntV (cntS s 9) 1024) ++ ·) (e2.trans (congrArg ([IntKind.u8.wrap (oneV (cntS (cntS s 9) 1024))] ++ ·) (e3.trans (congrArg (putN (cntV (smlS (cntS (cntS s 9) 1024) 1) 2147483647) ++ ·) (e4.trans (congrArg (putN (cntV (cntS (smlS (cntS (cntS s 9) 1024) 1) 2147483647) 62) ++ ·) (e5.trans (congrArg ([IntKind.u8.wrap (oneV (cntS (cntS (smlS (cntS (cntS s 9) 1024) 1) 2147483647) 62))] ++ ·) (e6.trans (congrArg ([IntKind.u8.wrap (oneV (smlS (cntS (cntS (smlS (cntS (cntS s 9) 1024) 1) 2147483647) 62) 1))] ++ ·) (e7))))))))))))))
theorem there_8 (n:Nod) (h:NTh n) (hk:n.kd=8) (b:List Int):ts_8 (lb_8 putN n++b,0)=(b,0)∧tn_8 (lb_8 putN n++b,0) nod0=⟨n.kd,n.na,0,0,0,n.np,0,n.za,0,[],[],0,0,0,0,0,0,0,0⟩:=by
 have a0:=cntS_there h.kd (by decide)
 have b0:=cntV_there h.kd (by decide)
 have a1:=cntS_there h.na (by decide)
 have b1:=cntV_there h.na (by decide)
 have a2:=cntS_there h.np (by decide)
 have b2:=cntV_there h.np (by decide)
 have a3:=oneS_there h.okn.za
 have b3:=oneV_there h.okn.za
 unfold ts_8 tn_8 lb_8
 simp only[AZ_,a0,b0,a1,b1,a2,b2,a3,b3,nod0,and_self]
theorem back_8 (s:Rst) (h:s.In) (hs:(ts_8 s).2=0):s.1=lb_8 putN (tn_8 s nod0)++(ts_8 s).1:=by
 have i0:=h
 have i1:(cntS s 9).In:=cnt_in i0 _
 have i2:(cntS (cntS s 9) 1024).In:=cnt_in i1 _
 have i3:(cntS (cntS (cntS s 9) 1024) 1024).In:=cnt_in i2 _
 have h4:(smlS (cntS (cntS (cntS s 9) 1024) 1024) 1).2=0:=hs
 have h3:(cntS (cntS (cntS s 9) 1024) 1024).2=0:=sml_ok h4
 have h2:(cntS (cntS s 9) 1024).2=0:=cnt_ok h3
 have h1:(cntS s 9).2=0:=cnt_ok h2
 have e0:s.1=putN (cntV s 9)++(cntS s 9).1:=cnt_back i0 h1
 have e1:(cntS s 9).1=putN (cntV (cntS s 9) 1024)++(cntS (cntS s 9) 1024).1:=cnt_back i1 h2
 have e2:(cntS (cntS s 9) 1024).1=putN (cntV (cntS (cntS s 9) 1024) 1024)++(cntS (cntS (cntS s 9) 1024) 1024).1:=cnt_back i2 h3
 have e3:(cntS (cntS (cntS s 9) 1024) 1024).1=[IntKind.u8.wrap (oneV (cntS (cntS (cntS s 9) 1024) 1024))]++(smlS (cntS (cntS (cntS s 9) 1024) 1024) 1).1:=one_back i3 h4
 show s.1=(putN (cntV s 9)++putN (cntV (cntS s 9) 1024)++putN (cntV (cntS (cntS s 9) 1024) 1024)++[IntKind.u8.wrap (oneV (cntS (cntS (cntS s 9) 1024) 1024))])++(smlS (cntS (cntS (cntS s 9) 1024) 1024) 1).1
 simp only[AZ_]
 exact e0.trans (congrArg (putN (cntV s 9) ++ ·) (e1.trans (congrArg (putN (cntV (cntS s 9) 1024) ++ ·) (e2.trans (congrArg (putN (cntV (cntS (cntS s 9) 1024) 1024) ++ ·) (e3))))))
theorem there_9 (n:Nod) (h:NTh n) (hk:n.kd=9) (b:List Int):ts_9 (lb_9 putN n++b,0)=(b,0)∧tn_9 (lb_9 putN n++b,0) nod0=⟨n.kd,n.na,0,0,0,0,0,0,0,[],[],0,0,0,0,0,0,0,0⟩:=by
 have a0:=cntS_there h.kd (by decide)
 have b0:=cntV_there h.kd (by decide)
 have a1:=cntS_there h.na (by decide)
 have b1:=cntV_there h.na (by decide)
 unfold ts_9 tn_9 lb_9
 simp only[AZ_,a0,b0,a1,b1,nod0,and_self]
theorem back_9 (s:Rst) (h:s.In) (hs:(ts_9 s).2=0):s.1=lb_9 putN (tn_9 s nod0)++(ts_9 s).1:=by
 have i0:=h
 have i1:(cntS s 9).In:=cnt_in i0 _
 have h2:(cntS (cntS s 9) 1024).2=0:=hs
 have h1:(cntS s 9).2=0:=cnt_ok h2
 have e0:s.1=putN (cntV s 9)++(cntS s 9).1:=cnt_back i0 h1
 have e1:(cntS s 9).1=putN (cntV (cntS s 9) 1024)++(cntS (cntS s 9) 1024).1:=cnt_back i1 h2
 show s.1=(putN (cntV s 9)++putN (cntV (cntS s 9) 1024))++(cntS (cntS s 9) 1024).1
 simp only[AZ_]
 exact e0.trans (congrArg (putN (cntV s 9) ++ ·) (e1))
def takeS (s:Rst):Rst:=if cntV s 9=1 then ts_1 s else if cntV s 9=2 then ts_2 s else if cntV s 9=3 then ts_3 s else if cntV s 9=4∨cntV s 9=5 then ts_4 s else if cntV s 9=6 then ts_6 s else if cntV s 9=7 then ts_7 s else if cntV s 9=8 then ts_8 s else ts_9 s
def takeN (s:Rst):Nod:=if cntV s 9=1 then tn_1 s nod0 else if cntV s 9=2 then tn_2 s nod0 else if cntV s 9=3 then tn_3 s nod0 else if cntV s 9=4∨cntV s 9=5 then tn_4 s nod0 else if cntV s 9=6 then tn_6 s nod0 else if cntV s 9=7 then tn_7 s nod0 else if cntV s 9=8 then tn_8 s nod0 else tn_9 s nod0
theorem twalk_v (s:Rst) (h:s.In):VM L_ 131 [.ifc 183 (.agg [.ptr 100000 0 0]),.ptr 100001 0 0] [(100000,.var (rdC s)),(100001,.var [i64 0,i64 0,i64 0,i64 0,i64 0,i64 0,i64 0,i8 0,i8 0,.sl 1 [],.sl 1 [],i32 0,i64 0,i8 0,i32 0,i64 0,i8 0,i8 0,i8 0])] (.tup []) [(100000,.var (rdC (takeS s))),(100001,.var (nodC (takeN s)))]:=by
 by_cases k1:cntV s 9=1
 ·rw[show takeS s=ts_1 s from by unfold takeS;rw[i_ k1],show takeN s=tn_1 s nod0 from by unfold takeN;rw[i_ k1]]
  exact twalk_1v s nod0 h k1 rfl rfl rfl rfl rfl
 by_cases k2:cntV s 9=2
 ·rw[show takeS s=ts_2 s from by unfold takeS;rw[j_ k1,i_ k2],show takeN s=tn_2 s nod0 from by unfold takeN;rw[j_ k1,i_ k2]]
  exact twalk_2v s nod0 h k2 rfl rfl rfl rfl rfl
 by_cases k3:cntV s 9=3
 ·rw[show takeS s=ts_3 s from by unfold takeS;rw[j_ k1,j_ k2,i_ k3],show takeN s=tn_3 s nod0 from by unfold takeN;rw[j_ k1,j_ k2,i_ k3]]
  exact twalk_3v s nod0 h k3 rfl rfl rfl rfl rfl
 by_cases k4:cntV s 9=4∨cntV s 9=5
 ·rw[show takeS s=ts_4 s from by unfold takeS;rw[j_ k1,j_ k2,j_ k3,i_ k4],show takeN s=tn_4 s nod0 from by unfold takeN;rw[j_ k1,j_ k2,j_ k3,i_ k4]]
  exact twalk_4v s nod0 h k4 rfl rfl rfl rfl rfl
 by_cases k6:cntV s 9=6
 ·rw[show takeS s=ts_6 s from by unfold takeS;rw[j_ k1,j_ k2,j_ k3,j_ k4,i_ k6],show takeN s=tn_6 s nod0 from by unfold takeN;rw[j_ k1,j_ k2,j_ k3,j_ k4,i_ k6]]
  exact twalk_6v s nod0 h k6 rfl rfl rfl rfl rfl
 by_cases k7:cntV s 9=7
 ·rw[show takeS s=ts_7 s from by unfold takeS;rw[j_ k1,j_ k2,j_ k3,j_ k4,j_ k6,i_ k7],show takeN s=tn_7 s nod0 from by unfold takeN;rw[j_ k1,j_ k2,j_ k3,j_ k4,j_ k6,i_ k7]]
  exact twalk_7v s nod0 h k7 rfl rfl rfl rfl rfl
 by_cases k8:cntV s 9=8
 ·rw[show takeS s=ts_8 s from by unfold takeS;rw[j_ k1,j_ k2,j_ k3,j_ k4,j_ k6,j_ k7,i_ k8],show takeN s=tn_8 s nod0 from by unfold takeN;rw[j_ k1,j_ k2,j_ k3,j_ k4,j_ k6,j_ k7,i_ k8]]
  exact twalk_8v s nod0 h k8 rfl rfl rfl rfl rfl
 rw[show takeS s=ts_9 s from by unfold takeS;rw[j_ k1,j_ k2,j_ k3,j_ k4,j_ k6,j_ k7,j_ k8],show takeN s=tn_9 s nod0 from by unfold takeN;rw[j_ k1,j_ k2,j_ k3,j_ k4,j_ k6,j_ k7,j_ k8]]
 exact twalk_9v s nod0 h (by omega) rfl rfl rfl rfl rfl
theorem bad_e (s:Rst) (h:s.2≠0) (h2:s.2≠24):VM L_ 99 ([.agg [.ptr 100000 0 0]]) ([(100000,.var (rdC s))]) (i64 s.2) ([(100000,.var (rdC s))]):=by
 have oz0:=@end_e (s) h
 exact mR_ [r_,.r [] [cm oz0],r_,b_,r_] [.drop [1],.sort] _ Tryz.func99 (.d2 oz0 (show (s.snd != 24)=true by (simp;omega)))
theorem bad_m (l:List Int) (h:0<l.length):VM L_ 99 ([.agg [.ptr 100000 0 0]]) ([(100000,.var (rdC (l,0)))]) (i64 0) ([(100000,.var (rdC (l,0)))]):=by
 have oz0:=@end_m (l) h
 exact mR_ [r_,.r [] [cm oz0],r_,d_,r_] [.drop [1],.sort] _ Tryz.func99 (.d2 oz0 z1_)
theorem bad_z   : VM L_ 99 ([.agg [.ptr 100000 0 0]]) ([(100000,.var (rdC ([],0)))]) (i64 0) ([(100000,.var (rdC ([],0)))]):=by
 have oz0:=@end_z
 exact mR_ [r_,.r [] [cm oz0],r_,b_,r_] [.drop [1],.sort] _ Tryz.func99 (.d2 oz0 z0_)
theorem bad_v (s:Rst) (h2:s.2≠24):VM L_ 99 [.agg [.ptr 100000 0 0]] [(100000,.var (rdC s))] (i64 s.2) [(100000,.var (rdC s))]:=by
 obtain ⟨l,e⟩:=s
 by_cases he:e=0
 ·subst he
  cases l with
  | nil=>exact bad_z
  | cons x l=>exact bad_m (x::l) (by simp)
 ·exact bad_e (l,e) he h2
theorem getE_24 {l:List Int} (hb:∀ x∈l,0≤x∧x≤255):getE l≠24:=by
 have:=getAt_range l hb;unfold getE;omega
theorem cnt_24 {s:Rst} (h:s.In) (h2:s.2≠24) (m:Int):(cntS s m).2≠24:=by
 unfold cntS
 split
 ·exact h2
 ·split
  ·exact getE_24 h.b
  ·split
   ·simp
   ·simp
theorem int_24 {s:Rst} (h:s.In) (h2:s.2≠24) (lo hi:Int):(intS s lo hi).2≠24:=by
 unfold intS
 split
 ·exact h2
 ·split
  ·exact getE_24 h.b
  ·split
   ·simp
   ·simp
theorem sml_24 {s:Rst} (h2:s.2≠24) (n:Int):(smlS s n).2≠24:=by
 unfold smlS
 split
 ·exact h2
 ·split
  ·exact h2
  ·split
   ·simp
   ·simp
theorem it_24 {s:Rst} (h:s.In) (h2:s.2≠24) (k:Nat):(itS s k).2≠24:=by
 induction k with
 | zero=>exact h2
 | succ k ih=>exact int_24 (itS_in h k) ih _ _
theorem wid_24 {s:Rst} (h:s.In) (h2:s.2≠24) (n:Int):(widS s n).2≠24:=by
 unfold widS
 split
 ·exact h2
 ·split
  ·exact h2
  ·split
   ·simp
   ·exact it_24 h h2 _
theorem cnt_le {s:Rst} {k:Nat} (h:s.1.length≤k) (m:Int):(cntS s m).1.length≤k:=by
 unfold cntS
 split
 ·exact h
 ·split
  ·simp
  ·split
   ·simp
   ·simp only[BK_];omega
theorem int_le {s:Rst} {k:Nat} (h:s.1.length≤k) (lo hi:Int):(intS s lo hi).1.length≤k:=by
 unfold intS
 split
 ·exact h
 ·split
  ·simp
  ·split
   ·simp
   ·simp only[BK_];omega
theorem sml_le {s:Rst} {k:Nat} (h:s.1.length≤k) (n:Int):(smlS s n).1.length≤k:=by
 unfold smlS
 split
 ·exact h
 ·split
  ·exact h
  ·split
   ·simp
   ·dsimp only;rw[dpW_eq,BK_];omega
theorem it_le {s:Rst} {k:Nat} (h:s.1.length≤k) (n:Nat):(itS s n).1.length≤k:=by
 induction n with
 | zero=>exact h
 | succ n ih=>exact int_le ih _ _
theorem wid_le {s:Rst} {k:Nat} (h:s.1.length≤k) (n:Int):(widS s n).1.length≤k:=by
 unfold widS
 split
 ·exact h
 ·split
  ·exact h
  ·split
   ·simp
   ·exact it_le h _
structure Rst.Fit (s:Rst):Prop where
 b:∀ x∈s.1,0≤x∧x≤255
 l:s.1.length≤1000000
 e:s.2≠24
theorem Rst.Fit.i {s:Rst} (h:s.Fit):s.In:=⟨h.b,by have:=h.l;omega⟩
theorem cnt_fit {s:Rst} (h:s.Fit) (m:Int):(cntS s m).Fit:=⟨(cnt_in h.i m).b,cnt_le h.l m,cnt_24 h.i h.e m⟩
theorem sml_fit {s:Rst} (h:s.Fit) (n:Int):(smlS s n).Fit:=⟨(sml_in h.i n).b,sml_le h.l n,sml_24 h.e n⟩
theorem wid_fit {s:Rst} (h:s.Fit) (n:Int):(widS s n).Fit:=⟨(wid_in h.i n).b,wid_le h.l n,wid_24 h.i h.e n⟩
theorem lst_fit {s:Rst} (h:s.Fit):(lstS s).Fit:=wid_fit (cnt_fit (sml_fit (cnt_fit h _) _) _) _
theorem scl_fit {s:Rst} (h:s.Fit):(sclS s).Fit:=cnt_fit (cnt_fit h _) _
theorem smlV_cnt (s:Rst) (n:Int):(smlV s n).length≤n.toNat:=by
 unfold smlV
 split
 ·exact AD_ _
 ·split
  ·exact AD_ _
  ·split
   ·exact AD_ _
   ·rw[tkW_len];exact AX_ _
theorem widV_cnt (s:Rst) (n:Int):(widV s n).length≤n.toNat:=by
 unfold widV
 split
 ·exact AD_ _
 ·split
  ·exact AD_ _
  ·split
   ·exact AD_ _
   ·split
    ·exact AD_ _
    ·rw[itV_len];exact AX_ _
theorem lstW_le {s:Rst} (h:s.Fit):(lstW s).length≤100000:=Y_ (smlV_cnt _ _) (by have:=cntV_rng (m:=16384) h.i (by decide);omega)
theorem lstB_le {s:Rst} (h:s.Fit):(lstB s).length≤100000:=Y_ (widV_cnt _ _) (by have:=cntV_rng (m:=16384) (sml_fit (cnt_fit h 16384) (cntV s 16384)).i (by decide);unfold lst1;omega)
theorem takeS_fit {s:Rst} (h:s.Fit):(takeS s).Fit:=by
 unfold takeS
 repeat' split
 all_goals (first|unfold ts_1|unfold ts_2|unfold ts_3|unfold ts_4|unfold ts_6|unfold ts_7|unfold ts_8|unfold ts_9)
 all_goals (repeat first|exact h|apply cnt_fit|apply sml_fit|apply lst_fit|apply scl_fit)
theorem takeN_le {s:Rst} (h:s.Fit):(takeN s).w.length≤100000∧(takeN s).b.length≤100000:=by
 unfold takeN
 repeat' split
 all_goals (first|unfold tn_1|unfold tn_2|unfold tn_3|unfold tn_4|unfold tn_6|unfold tn_7|unfold tn_8|unfold tn_9)
 all_goals (constructor<;>first|exact AD_ _|(apply lstW_le;repeat first|exact h|apply cnt_fit|apply sml_fit|apply lst_fit|apply scl_fit)|(apply lstB_le;repeat first|exact h|apply cnt_fit|apply sml_fit|apply lst_fit|apply scl_fit))
theorem takeN_kd {s:Rst} (h:s.In):In64 (takeN s).kd:=by
 have q:=cntV_rng (m:=9) h (by decide)
 have e:(takeN s).kd=cntV s 9:=by
  unfold takeN
  repeat' split
  all_goals rfl
 rw[e];exact ⟨by omega,by omega⟩
theorem take_b (s:Rst) (h:s.Fit) (hb:(takeS s).2≠0):VM L_ 133 ([.ptr 100000 0 0]) ([(100000,.var (rdC s))]) (.tup [.agg [i64 0,i64 0,i64 0,i64 0,i64 0,i64 0,i64 0,i8 0,i8 0,.sl 1 [],.sl 1 [],i32 0,i64 0,i8 0,i32 0,i64 0,i8 0,i8 0,i8 0],i64 (takeS s).2]) ([(100000,.var (rdC (takeS s)))]):=by
 have hi:=h.i
 have q:=takeS_fit h
 have oz1:=@VM.pre _ _ ([AV.ifc 183 (AV.agg [AV.ptr 100000 0 0]),AV.ptr 100001 0 0]) _ ([(100000,Blk.var [AV.sl 1 (K_ (row1 .u8) s.fst),i64 s.snd]),(100001,Blk.var [i64 0,i64 0,i64 0,i64 0,i64 0,i64 0,i64 0,i8 0,i8 0,AV.lit (AQ_ none 0 0),AV.lit (AQ_ none 0 0),i32 0,i64 0,i8 0,i32 0,i64 0,i8 0,i8 0,i8 0])]) _ _ _ ([GI.blk 100001 (Blk.var [i64 0,i64 0,i64 0,i64 0,i64 0,i64 0,i64 0,i8 0,i8 0,AV.sl 1 [],AV.sl 1 [],i32 0,i64 0,i8 0,i32 0,i64 0,i8 0,i8 0,i8 0]),GI.sort]) _ (@twalk_v (s) hi) (by kernel_rfl) (.d (BlkW.var (m:=[i64 0,i64 0,i64 0,i64 0,i64 0,i64 0,i64 0,i8 0,i8 0,AV.sl 1 [],AV.sl 1 [],i32 0,i64 0,i8 0,i32 0,i64 0,i8 0,i8 0,i8 0]) (.cons (.refl _) (.cons (.refl _) (.cons (.refl _) (.cons (.refl _) (.cons (.refl _) (.cons (.refl _) (.cons (.refl _) (.cons (.refl _) (.cons (.refl _) (.cons (AG_ _) (.cons (AG_ _) (.cons (.refl _) (.cons (.refl _) (.cons (.refl _) (.cons (.refl _) (.cons (.refl _) (.cons (.refl _) (.cons (.refl _) (.cons (.refl _) .nil)))))))))))))))))))))
 have oz2:=@bad_v (takeS s) (by (exact q.e))
 exact mR_ [r_,r_,d_,r_,.r [] [.callm [(100000,100000),(5,100001)] [] (rM oz1) (oM oz1)],.r [] [cm oz2],r_,b_,r_] [.drop [2,4,5],.weak 0 (AV.tup [AV.agg [i64 0,i64 0,i64 0,i64 0,i64 0,i64 0,i64 0,i8 0,i8 0,AV.sl 1 [],AV.sl 1 [],i32 0,i64 0,i8 0,i32 0,i64 0,i8 0,i8 0,i8 0],i64 (takeS s).snd]),.sort] _ Tryz.func133 (.d5 z1_ oz1 oz2 (show ((takeS s).snd != 0)=true by (simp;omega)) (show Weak (AV.tup [AV.agg [i64 0,i64 0,i64 0,i64 0,i64 0,i64 0,i64 0,i8 0,i8 0,AV.lit (AQ_ none 0 0),AV.lit (AQ_ none 0 0),i32 0,i64 0,i8 0,i32 0,i64 0,i8 0,i8 0,i8 0],i64 (takeS s).snd]) (AV.tup [AV.agg [i64 0,i64 0,i64 0,i64 0,i64 0,i64 0,i64 0,i8 0,i8 0,AV.sl 1 [],AV.sl 1 [],i32 0,i64 0,i8 0,i32 0,i64 0,i8 0,i8 0,i8 0],i64 (takeS s).snd]) from (AI_ (.cons (BL_ (.cons (.refl _) (.cons (.refl _) (.cons (.refl _) (.cons (.refl _) (.cons (.refl _) (.cons (.refl _) (.cons (.refl _) (.cons (.refl _) (.cons (.refl _) (.cons (AG_ _) (.cons (AG_ _) (.cons (.refl _) (.cons (.refl _) (.cons (.refl _) (.cons (.refl _) (.cons (.refl _) (.cons (.refl _) (.cons (.refl _) (.cons (.refl _) .nil)))))))))))))))))))) (.cons (.refl _) .nil)))))
theorem take_c (s:Rst) (h:s.Fit) (hb:(takeS s).2=0) (hc:checkE (takeN s)≠0):VM L_ 133 ([.ptr 100000 0 0]) ([(100000,.var (rdC s))]) (.tup [.agg [i64 0,i64 0,i64 0,i64 0,i64 0,i64 0,i64 0,i8 0,i8 0,.sl 1 [],.sl 1 [],i32 0,i64 0,i8 0,i32 0,i64 0,i8 0,i8 0,i8 0],i64 (checkE (takeN s))]) ([(100000,.var (rdC (takeS s)))]):=by
 have hi:=h.i
 have q:=takeS_fit h
 obtain ⟨q1,q2⟩:=takeN_le h
 have q3:=takeN_kd hi
 have oz1:=@VM.pre _ _ ([AV.ifc 183 (AV.agg [AV.ptr 100000 0 0]),AV.ptr 100001 0 0]) _ ([(100000,Blk.var [AV.sl 1 (K_ (row1 .u8) s.fst),i64 s.snd]),(100001,Blk.var [i64 0,i64 0,i64 0,i64 0,i64 0,i64 0,i64 0,i8 0,i8 0,AV.lit (AQ_ none 0 0),AV.lit (AQ_ none 0 0),i32 0,i64 0,i8 0,i32 0,i64 0,i8 0,i8 0,i8 0])]) _ _ _ ([GI.blk 100001 (Blk.var [i64 0,i64 0,i64 0,i64 0,i64 0,i64 0,i64 0,i8 0,i8 0,AV.sl 1 [],AV.sl 1 [],i32 0,i64 0,i8 0,i32 0,i64 0,i8 0,i8 0,i8 0]),GI.sort]) _ (@twalk_v (s) hi) (by kernel_rfl) (.d (BlkW.var (m:=[i64 0,i64 0,i64 0,i64 0,i64 0,i64 0,i64 0,i8 0,i8 0,AV.sl 1 [],AV.sl 1 [],i32 0,i64 0,i8 0,i32 0,i64 0,i8 0,i8 0,i8 0]) (.cons (.refl _) (.cons (.refl _) (.cons (.refl _) (.cons (.refl _) (.cons (.refl _) (.cons (.refl _) (.cons (.refl _) (.cons (.refl _) (.cons (.refl _) (.cons (AG_ _) (.cons (AG_ _) (.cons (.refl _) (.cons (.refl _) (.cons (.refl _) (.cons (.refl _) (.cons (.refl _) (.cons (.refl _) (.cons (.refl _) (.cons (.refl _) .nil)))))))))))))))))))))
 have oz2:=@bad_v (takeS s) (by omega)
 have oz4:=@check_v (takeN s) q1 q2 q3
 exact mR_ [r_,r_,d_,r_,.r [] [.callm [(100000,100000),(5,100001)] [] (rM oz1) (oM oz1)],.r [] [cm oz2],r_,d_,.r [] [cr oz4],r_,b_,r_] [.drop [2,4,5],.weak 0 (AV.tup [AV.agg [i64 0,i64 0,i64 0,i64 0,i64 0,i64 0,i64 0,i8 0,i8 0,AV.sl 1 [],AV.sl 1 [],i32 0,i64 0,i8 0,i32 0,i64 0,i8 0,i8 0,i8 0],i64 (checkE (takeN s))]),.sort] _ Tryz.func133 (.d7 z1_ oz1 oz2 (show ((takeS s).snd != 0)=false by (simp;omega)) oz4 (show (checkE (takeN s) != 0)=true by (simp;omega)) (show Weak (AV.tup [AV.agg [i64 0,i64 0,i64 0,i64 0,i64 0,i64 0,i64 0,i8 0,i8 0,AV.lit (AQ_ none 0 0),AV.lit (AQ_ none 0 0),i32 0,i64 0,i8 0,i32 0,i64 0,i8 0,i8 0,i8 0],i64 (checkE (takeN s))]) (AV.tup [AV.agg [i64 0,i64 0,i64 0,i64 0,i64 0,i64 0,i64 0,i8 0,i8 0,AV.sl 1 [],AV.sl 1 [],i32 0,i64 0,i8 0,i32 0,i64 0,i8 0,i8 0,i8 0],i64 (checkE (takeN s))]) from (AI_ (.cons (BL_ (.cons (.refl _) (.cons (.refl _) (.cons (.refl _) (.cons (.refl _) (.cons (.refl _) (.cons (.refl _) (.cons (.refl _) (.cons (.refl _) (.cons (.refl _) (.cons (AG_ _) (.cons (AG_ _) (.cons (.refl _) (.cons (.refl _) (.cons (.refl _) (.cons (.refl _) (.cons (.refl _) (.cons (.refl _) (.cons (.refl _) (.cons (.refl _) .nil)))))))))))))))))))) (.cons (.refl _) .nil)))))
theorem take_y (s:Rst) (h:s.Fit) (hb:(takeS s).2=0) (hc:checkE (takeN s)=0):VM L_ 133 ([.ptr 100000 0 0]) ([(100000,.var (rdC s))]) (.tup [nod (takeN s),i64 0]) ([(100000,.var (rdC (takeS s)))]):=by
 have hi:=h.i
 have q:=takeS_fit h
 obtain ⟨q1,q2⟩:=takeN_le h
 have q3:=takeN_kd hi
 have oz1:=@VM.pre _ _ ([AV.ifc 183 (AV.agg [AV.ptr 100000 0 0]),AV.ptr 100001 0 0]) _ ([(100000,Blk.var [AV.sl 1 (K_ (row1 .u8) s.fst),i64 s.snd]),(100001,Blk.var [i64 0,i64 0,i64 0,i64 0,i64 0,i64 0,i64 0,i8 0,i8 0,AV.lit (AQ_ none 0 0),AV.lit (AQ_ none 0 0),i32 0,i64 0,i8 0,i32 0,i64 0,i8 0,i8 0,i8 0])]) _ _ _ ([GI.blk 100001 (Blk.var [i64 0,i64 0,i64 0,i64 0,i64 0,i64 0,i64 0,i8 0,i8 0,AV.sl 1 [],AV.sl 1 [],i32 0,i64 0,i8 0,i32 0,i64 0,i8 0,i8 0,i8 0]),GI.sort]) _ (@twalk_v (s) hi) (by kernel_rfl) (.d (BlkW.var (m:=[i64 0,i64 0,i64 0,i64 0,i64 0,i64 0,i64 0,i8 0,i8 0,AV.sl 1 [],AV.sl 1 [],i32 0,i64 0,i8 0,i32 0,i64 0,i8 0,i8 0,i8 0]) (.cons (.refl _) (.cons (.refl _) (.cons (.refl _) (.cons (.refl _) (.cons (.refl _) (.cons (.refl _) (.cons (.refl _) (.cons (.refl _) (.cons (.refl _) (.cons (AG_ _) (.cons (AG_ _) (.cons (.refl _) (.cons (.refl _) (.cons (.refl _) (.cons (.refl _) (.cons (.refl _) (.cons (.refl _) (.cons (.refl _) (.cons (.refl _) .nil)))))))))))))))))))))
 have oz2:=@bad_v (takeS s) (by omega)
 have oz4:=@check_v (takeN s) q1 q2 q3
 exact mR_ [r_,r_,d_,r_,.r [] [.callm [(100000,100000),(5,100001)] [] (rM oz1) (oM oz1)],.r [] [cm oz2],r_,d_,.r [] [cr oz4],r_,d_,r_] [.drop [2,4,5],.sort] _ Tryz.func133 (.d6 z1_ oz1 oz2 (show ((takeS s).snd != 0)=false by (simp;omega)) oz4 (show (checkE (takeN s) != 0)=false by (simp;omega)))
def takeR (s:Rst):Nod×Int:=if (takeS s).2≠0 then (nod0,(takeS s).2) else if checkE (takeN s)≠0 then (nod0,checkE (takeN s)) else (takeN s,0)
theorem take_v (s:Rst) (h:s.Fit):VM L_ 133 [.ptr 100000 0 0] [(100000,.var (rdC s))] (.tup [nod (takeR s).1,i64 (takeR s).2]) [(100000,.var (rdC (takeS s)))]:=by
 by_cases hb:(takeS s).2=0
 ·by_cases hc:checkE (takeN s)=0
  ·rw[show takeR s=(takeN s,0) from by unfold takeR;rw[j_ (by simpa using hb),j_ (by simpa using hc)]]
   exact take_y s h hb hc
  ·rw[show takeR s=(nod0,checkE (takeN s)) from by unfold takeR;rw[j_ (by simpa using hb),i_ hc]]
   exact take_c s h hb hc
 ·rw[show takeR s=(nod0,(takeS s).2) from by unfold takeR;rw[i_ hb]]
  exact take_b s h hb
theorem scl_ok {s:Rst} (h:(sclS s).2=0):s.2=0:=cnt_ok (cnt_ok h)
theorem lst_len {s:Rst} (h:s.In) (hs:(lstS s).2=0):(lstW s).length≤16384∧(lstB s).length≤16384:=by
 have i1:=cnt_in h 16384
 have i2:(lst1 s).In:=sml_in i1 _
 have i3:=cnt_in i2 16384
 have h3:(cntS (lst1 s) 16384).2=0:=wid_ok hs
 have h2:(lst1 s).2=0:=cnt_ok h3
 have r1:=cntV_rng (m:=16384) h (by decide)
 have r2:=cntV_rng (m:=16384) i2 (by decide)
 have a:=(sml_back i1 h2 r1.1).2
 have b:=(wid_back i3 hs r2.1).2
 exact ⟨by unfold lstW;omega,by unfold lstB;omega⟩
theorem six_1 (s:Rst) (h:s.In):(six (tn_1 s nod0)).all okI=true:=by
 have r_na:=cntV_rng (m:=1024) (show (cntS s 9).In from cnt_in h _) (by decide)
 have r_nk:=cntV_rng (m:=1024) (show (cntS (cntS s 9) 1024).In from cnt_in (cnt_in h _) _) (by decide)
 have r_ns:=cntV_rng (m:=1024) (show (cntS (cntS (cntS s 9) 1024) 1024).In from cnt_in (cnt_in (cnt_in h _) _) _) (by decide)
 have r_np:=cntV_rng (m:=1024) (show (cntS (cntS (cntS (cntS s 9) 1024) 1024) 1024).In from cnt_in (cnt_in (cnt_in (cnt_in h _) _) _) _) (by decide)
 have r_no:=cntV_rng (m:=1024) (show (cntS (cntS (cntS (cntS (cntS s 9) 1024) 1024) 1024) 1024).In from cnt_in (cnt_in (cnt_in (cnt_in (cnt_in h _) _) _) _) _) (by decide)
 simp only[six,tn_1,nod0,okI,CO_,List.all_nil,N_,E_]
 refine ⟨⟨?_,?_⟩,⟨?_,?_⟩,⟨?_,?_⟩,⟨?_,?_⟩,⟨?_,?_⟩,⟨?_,?_⟩,trivial⟩<;>omega
theorem len_1 (s:Rst) (h:s.In) (hs:(ts_1 s).2=0):(tn_1 s nod0).w.length≤16384∧(tn_1 s nod0).b.length≤16384:=lst_len (s:=(smlS (cntS (cntS (cntS (cntS (cntS (cntS s 9) 1024) 1024) 1024) 1024) 1024) 1)) (sml_in (cnt_in (cnt_in (cnt_in (cnt_in (cnt_in (cnt_in h _) _) _) _) _) _) _) (scl_ok (sml_ok (sml_ok (sml_ok hs))))
theorem six_2 (s:Rst) (h:s.In):(six (tn_2 s nod0)).all okI=true:=by
 have r_na:=cntV_rng (m:=1024) (show (cntS s 9).In from cnt_in h _) (by decide)
 have r_nk:=cntV_rng (m:=1024) (show (cntS (cntS s 9) 1024).In from cnt_in (cnt_in h _) _) (by decide)
 have r_ns:=cntV_rng (m:=1024) (show (cntS (cntS (cntS s 9) 1024) 1024).In from cnt_in (cnt_in (cnt_in h _) _) _) (by decide)
 have r_np:=cntV_rng (m:=1024) (show (cntS (cntS (cntS (cntS s 9) 1024) 1024) 1024).In from cnt_in (cnt_in (cnt_in (cnt_in h _) _) _) _) (by decide)
 simp only[six,tn_2,nod0,okI,CO_,List.all_nil,N_,E_]
 refine ⟨⟨?_,?_⟩,⟨?_,?_⟩,⟨?_,?_⟩,⟨?_,?_⟩,⟨?_,?_⟩,⟨?_,?_⟩,trivial⟩<;>omega
theorem len_2 (s:Rst) (h:s.In) (hs:(ts_2 s).2=0):(tn_2 s nod0).w.length≤16384∧(tn_2 s nod0).b.length≤16384:=lst_len (s:=(smlS (cntS (cntS (cntS (cntS (cntS s 9) 1024) 1024) 1024) 1024) 1)) (sml_in (cnt_in (cnt_in (cnt_in (cnt_in (cnt_in h _) _) _) _) _) _) (scl_ok (sml_ok (sml_ok (sml_ok hs))))
theorem six_3 (s:Rst) (h:s.In):(six (tn_3 s nod0)).all okI=true:=by
 have r_na:=cntV_rng (m:=1024) (show (cntS s 9).In from cnt_in h _) (by decide)
 have r_no:=cntV_rng (m:=1024) (show (cntS (cntS s 9) 1024).In from cnt_in (cnt_in h _) _) (by decide)
 simp only[six,tn_3,nod0,okI,CO_,List.all_nil,N_,E_]
 refine ⟨⟨?_,?_⟩,⟨?_,?_⟩,⟨?_,?_⟩,⟨?_,?_⟩,⟨?_,?_⟩,⟨?_,?_⟩,trivial⟩<;>omega
theorem len_3 (s:Rst) (h:s.In) (hs:(ts_3 s).2=0):(tn_3 s nod0).w.length≤16384∧(tn_3 s nod0).b.length≤16384:=lst_len (s:=(smlS (cntS (cntS (cntS s 9) 1024) 1024) 1)) (sml_in (cnt_in (cnt_in (cnt_in h _) _) _) _) (scl_ok (sml_ok (sml_ok (sml_ok hs))))
theorem six_4 (s:Rst) (h:s.In):(six (tn_4 s nod0)).all okI=true:=by
 have r_na:=cntV_rng (m:=1024) (show (cntS s 9).In from cnt_in h _) (by decide)
 have r_nk:=cntV_rng (m:=1024) (show (cntS (cntS s 9) 1024).In from cnt_in (cnt_in h _) _) (by decide)
 have r_ns:=cntV_rng (m:=1024) (show (cntS (cntS (cntS s 9) 1024) 1024).In from cnt_in (cnt_in (cnt_in h _) _) _) (by decide)
 have r_np:=cntV_rng (m:=1024) (show (cntS (cntS (cntS (cntS s 9) 1024) 1024) 1024).In from cnt_in (cnt_in (cnt_in (cnt_in h _) _) _) _) (by decide)
 simp only[six,tn_4,nod0,okI,CO_,List.all_nil,N_,E_]
 refine ⟨⟨?_,?_⟩,⟨?_,?_⟩,⟨?_,?_⟩,⟨?_,?_⟩,⟨?_,?_⟩,⟨?_,?_⟩,trivial⟩<;>omega
theorem len_4 (s:Rst) (h:s.In) (hs:(ts_4 s).2=0):(tn_4 s nod0).w.length≤16384∧(tn_4 s nod0).b.length≤16384:=⟨AD_ _,AD_ _⟩
theorem six_6 (s:Rst) (h:s.In):(six (tn_6 s nod0)).all okI=true:=by
 have r_na:=cntV_rng (m:=1024) (show (cntS s 9).In from cnt_in h _) (by decide)
 have r_nb:=cntV_rng (m:=1024) (show (cntS (cntS s 9) 1024).In from cnt_in (cnt_in h _) _) (by decide)
 simp only[six,tn_6,nod0,okI,CO_,List.all_nil,N_,E_]
 refine ⟨⟨?_,?_⟩,⟨?_,?_⟩,⟨?_,?_⟩,⟨?_,?_⟩,⟨?_,?_⟩,⟨?_,?_⟩,trivial⟩<;>omega
theorem len_6 (s:Rst) (h:s.In) (hs:(ts_6 s).2=0):(tn_6 s nod0).w.length≤16384∧(tn_6 s nod0).b.length≤16384:=⟨AD_ _,AD_ _⟩
theorem six_7 (s:Rst) (h:s.In):(six (tn_7 s nod0)).all okI=true:=by
 have r_na:=cntV_rng (m:=1024) (show (cntS s 9).In from cnt_in h _) (by decide)
 simp only[six,tn_7,nod0,okI,CO_,List.all_nil,N_,E_]
 refine ⟨⟨?_,?_⟩,⟨?_,?_⟩,⟨?_,?_⟩,⟨?_,?_⟩,⟨?_,?_⟩,⟨?_,?_⟩,trivial⟩<;>omega
theorem len_7 (s:Rst) (h:s.In) (hs:(ts_7 s).2=0):(tn_7 s nod0).w.length≤16384∧(tn_7 s nod0).b.length≤16384:=⟨AD_ _,AD_ _⟩
theorem six_8 (s:Rst) (h:s.In):(six (tn_8 s nod0)).all okI=true:=by
 have r_na:=cntV_rng (m:=1024) (show (cntS s 9).In from cnt_in h _) (by decide)
 have r_np:=cntV_rng (m:=1024) (show (cntS (cntS s 9) 1024).In from cnt_in (cnt_in h _) _) (by decide)
 simp only[six,tn_8,nod0,okI,CO_,List.all_nil,N_,E_]
 refine ⟨⟨?_,?_⟩,⟨?_,?_⟩,⟨?_,?_⟩,⟨?_,?_⟩,⟨?_,?_⟩,⟨?_,?_⟩,trivial⟩<;>omega
theorem len_8 (s:Rst) (h:s.In) (hs:(ts_8 s).2=0):(tn_8 s nod0).w.length≤16384∧(tn_8 s nod0).b.length≤16384:=⟨AD_ _,AD_ _⟩
theorem six_9 (s:Rst) (h:s.In):(six (tn_9 s nod0)).all okI=true:=by
 have r_na:=cntV_rng (m:=1024) (show (cntS s 9).In from cnt_in h _) (by decide)
 simp only[six,tn_9,nod0,okI,CO_,List.all_nil,N_,E_]
 refine ⟨⟨?_,?_⟩,⟨?_,?_⟩,⟨?_,?_⟩,⟨?_,?_⟩,⟨?_,?_⟩,⟨?_,?_⟩,trivial⟩<;>omega
theorem len_9 (s:Rst) (h:s.In) (hs:(ts_9 s).2=0):(tn_9 s nod0).w.length≤16384∧(tn_9 s nod0).b.length≤16384:=⟨AD_ _,AD_ _⟩
theorem nth_of {n:Nod} (okn:n.Ok) (h:(nodeP n).2=0):NTh n∧(nodeP n).1=nodeL putN n∧moreE n=false∧1≤n.kd∧n.kd≤9:=by
 unfold nodeP at h ⊢
 by_cases h1:checkE n≠0
 ·rw[i_ h1] at h;exact absurd h h1
 rw[j_ h1] at h ⊢
 by_cases h2:(six n).all okI=false
 ·rw[i_ h2] at h;cases h
 rw[j_ h2] at h ⊢
 by_cases h3:16384<n.w.length∨16384<n.b.length
 ·rw[i_ h3] at h;cases h
 rw[j_ h3]
 have h2:(six n).all okI=true:=by cases q:(six n).all okI with|true=>rfl|false=>exact absurd q h2
 simp only[six,okI,CO_,List.all_nil,N_,E_] at h2
 obtain ⟨g1,g2,g3,g4,g5,g6,_⟩:=h2
 have h1:checkE n=0:=Classical.not_not.1 h1
 unfold checkE at h1
 by_cases c1:n.kd<1∨9<n.kd
 ·rw[i_ c1] at h1;cases h1
 rw[j_ c1] at h1
 by_cases c2:moreE n=true
 ·rw[i_ c2] at h1;cases h1
 rw[j_ c2] at h1
 by_cases c3:(scaledB n.kd && !rightQ n.qm n.qs || n.kd==6 && !rightQ n.rm n.rs)=true
 ·rw[i_ c3] at h1;cases h1
 have c3:(scaledB n.kd && !rightQ n.qm n.qs || n.kd==6 && !rightQ n.rm n.rs)=false:=by simpa using c3
 simp only[U_,T_,X_] at c3
 obtain ⟨c4,c5⟩:=c3
 have hqm:=okn.qm
 have hrm:=okn.rm
 refine ⟨⟨okn,by omega,g1,g2,g3,g4,g5,g6,by omega,by omega,fun hs=>?_,fun h6=>?_⟩,rfl,by simpa using c2,by omega,by omega⟩
 ·rcases c4 with c4|c4
  ·rw[hs] at c4;cases c4
  ·have:=rightQ_true c4
   exact ⟨⟨by omega,hqm.2⟩,by omega⟩
 ·rcases c5 with c5|c5
  ·rw[h6] at c5;cases c5
  ·have:=rightQ_true c5
   exact ⟨⟨by omega,hrm.2⟩,by omega⟩
theorem lb_kd (n:Nod) (b:List Int) (h:NTh n):cntV (nodeL putN n++b,0) 9=n.kd:=by
 have e:=cntV_there h.kd (by decide)
 unfold nodeL
 repeat' split
 all_goals (first|unfold lb_1|unfold lb_2|unfold lb_3|unfold lb_4|unfold lb_6|unfold lb_7|unfold lb_8|unfold lb_9)
 all_goals (simp only[AZ_];exact e _)
theorem take_thereN {n:Nod} (h:NTh n) (h1:1≤n.kd) (b:List Int):takeS (nodeL putN n++b,0)=(b,0)∧takeN (nodeL putN n++b,0)=plainN n:=by
 have e:=lb_kd n b h
 have k9:=h.kd
 by_cases k1:n.kd=1
 ·rw[show takeS (nodeL putN n++b,0)=ts_1 (nodeL putN n++b,0) from by unfold takeS;rw[e,i_ k1],show takeN (nodeL putN n++b,0)=tn_1 (nodeL putN n++b,0) nod0 from by unfold takeN;rw[e,i_ k1],show nodeL putN n=lb_1 putN n from by unfold nodeL;rw[i_ k1],show plainN n=⟨n.kd,n.na,0,n.nk,n.ns,n.np,n.no,n.za,0,n.w,n.b,n.qm,n.qs,n.qz,0,0,0,n.lo,n.hi⟩ from by unfold plainN;rw[i_ k1]]
  exact there_1 n h k1 b
 by_cases k2:n.kd=2
 ·rw[show takeS (nodeL putN n++b,0)=ts_2 (nodeL putN n++b,0) from by unfold takeS;rw[e,j_ (by omega),i_ k2],show takeN (nodeL putN n++b,0)=tn_2 (nodeL putN n++b,0) nod0 from by unfold takeN;rw[e,j_ (by omega),i_ k2],show nodeL putN n=lb_2 putN n from by unfold nodeL;rw[j_ (by omega),i_ k2],show plainN n=⟨n.kd,n.na,0,n.nk,n.ns,n.np,0,n.za,0,n.w,n.b,n.qm,n.qs,n.qz,0,0,0,n.lo,n.hi⟩ from by unfold plainN;rw[j_ (by omega),i_ k2]]
  exact there_2 n h k2 b
 by_cases k3:n.kd=3
 ·rw[show takeS (nodeL putN n++b,0)=ts_3 (nodeL putN n++b,0) from by unfold takeS;rw[e,j_ (by omega),j_ (by omega),i_ k3],show takeN (nodeL putN n++b,0)=tn_3 (nodeL putN n++b,0) nod0 from by unfold takeN;rw[e,j_ (by omega),j_ (by omega),i_ k3],show nodeL putN n=lb_3 putN n from by unfold nodeL;rw[j_ (by omega),j_ (by omega),i_ k3],show plainN n=⟨n.kd,n.na,0,0,0,0,n.no,n.za,0,n.w,n.b,n.qm,n.qs,n.qz,0,0,0,n.lo,n.hi⟩ from by unfold plainN;rw[j_ (by omega),j_ (by omega),i_ k3]]
  exact there_3 n h k3 b
 by_cases k4:n.kd=4∨n.kd=5
 ·rcases id k4 with hk|hk
  ·rw[show takeS (nodeL putN n++b,0)=ts_4 (nodeL putN n++b,0) from by unfold takeS;rw[e,j_ (by omega),j_ (by omega),j_ (by omega),i_ k4],show takeN (nodeL putN n++b,0)=tn_4 (nodeL putN n++b,0) nod0 from by unfold takeN;rw[e,j_ (by omega),j_ (by omega),j_ (by omega),i_ k4],show nodeL putN n=lb_4 putN n from by unfold nodeL;rw[j_ (by omega),j_ (by omega),j_ (by omega),i_ k4],show plainN n=⟨n.kd,n.na,0,n.nk,n.ns,n.np,0,0,0,[],[],0,0,0,0,0,0,0,0⟩ from by unfold plainN;rw[j_ (by omega),j_ (by omega),j_ (by omega),i_ hk]]
   exact there_4 n h k4 b
  ·rw[show takeS (nodeL putN n++b,0)=ts_4 (nodeL putN n++b,0) from by unfold takeS;rw[e,j_ (by omega),j_ (by omega),j_ (by omega),i_ k4],show takeN (nodeL putN n++b,0)=tn_4 (nodeL putN n++b,0) nod0 from by unfold takeN;rw[e,j_ (by omega),j_ (by omega),j_ (by omega),i_ k4],show nodeL putN n=lb_4 putN n from by unfold nodeL;rw[j_ (by omega),j_ (by omega),j_ (by omega),i_ k4],show plainN n=⟨n.kd,n.na,0,n.nk,n.ns,n.np,0,0,0,[],[],0,0,0,0,0,0,0,0⟩ from by unfold plainN;rw[j_ (by omega),j_ (by omega),j_ (by omega),j_ (by omega),i_ hk]]
   exact there_4 n h k4 b
 by_cases k6:n.kd=6
 ·rw[show takeS (nodeL putN n++b,0)=ts_6 (nodeL putN n++b,0) from by unfold takeS;rw[e,j_ (by omega),j_ (by omega),j_ (by omega),j_ (by omega),i_ k6],show takeN (nodeL putN n++b,0)=tn_6 (nodeL putN n++b,0) nod0 from by unfold takeN;rw[e,j_ (by omega),j_ (by omega),j_ (by omega),j_ (by omega),i_ k6],show nodeL putN n=lb_6 putN n from by unfold nodeL;rw[j_ (by omega),j_ (by omega),j_ (by omega),j_ (by omega),i_ k6],show plainN n=⟨n.kd,n.na,n.nb,0,0,0,0,n.za,n.zb,[],[],n.qm,n.qs,n.qz,n.rm,n.rs,0,n.lo,n.hi⟩ from by unfold plainN;rw[j_ (by omega),j_ (by omega),j_ (by omega),j_ (by omega),j_ (by omega),i_ k6]]
  exact there_6 n h k6 b
 by_cases k7:n.kd=7
 ·rw[show takeS (nodeL putN n++b,0)=ts_7 (nodeL putN n++b,0) from by unfold takeS;rw[e,j_ (by omega),j_ (by omega),j_ (by omega),j_ (by omega),j_ (by omega),i_ k7],show takeN (nodeL putN n++b,0)=tn_7 (nodeL putN n++b,0) nod0 from by unfold takeN;rw[e,j_ (by omega),j_ (by omega),j_ (by omega),j_ (by omega),j_ (by omega),i_ k7],show nodeL putN n=lb_7 putN n from by unfold nodeL;rw[j_ (by omega),j_ (by omega),j_ (by omega),j_ (by omega),j_ (by omega),i_ k7],show plainN n=⟨n.kd,n.na,0,0,0,0,0,n.za,0,[],[],n.qm,n.qs,n.qz,0,0,0,n.lo,n.hi⟩ from by unfold plainN;rw[j_ (by omega),j_ (by omega),j_ (by omega),j_ (by omega),j_ (by omega),j_ (by omega),i_ k7]]
  exact there_7 n h k7 b
 by_cases k8:n.kd=8
 ·rw[show takeS (nodeL putN n++b,0)=ts_8 (nodeL putN n++b,0) from by unfold takeS;rw[e,j_ (by omega),j_ (by omega),j_ (by omega),j_ (by omega),j_ (by omega),j_ (by omega),i_ k8],show takeN (nodeL putN n++b,0)=tn_8 (nodeL putN n++b,0) nod0 from by unfold takeN;rw[e,j_ (by omega),j_ (by omega),j_ (by omega),j_ (by omega),j_ (by omega),j_ (by omega),i_ k8],show nodeL putN n=lb_8 putN n from by unfold nodeL;rw[j_ (by omega),j_ (by omega),j_ (by omega),j_ (by omega),j_ (by omega),j_ (by omega),i_ k8],show plainN n=⟨n.kd,n.na,0,0,0,n.np,0,n.za,0,[],[],0,0,0,0,0,0,0,0⟩ from by unfold plainN;rw[j_ (by omega),j_ (by omega),j_ (by omega),j_ (by omega),j_ (by omega),j_ (by omega),j_ (by omega),i_ k8]]
  exact there_8 n h k8 b
 rw[show takeS (nodeL putN n++b,0)=ts_9 (nodeL putN n++b,0) from by unfold takeS;rw[e,j_ (by omega),j_ (by omega),j_ (by omega),j_ (by omega),j_ (by omega),j_ (by omega),j_ (by omega)],show takeN (nodeL putN n++b,0)=tn_9 (nodeL putN n++b,0) nod0 from by unfold takeN;rw[e,j_ (by omega),j_ (by omega),j_ (by omega),j_ (by omega),j_ (by omega),j_ (by omega),j_ (by omega)],show nodeL putN n=lb_9 putN n from by unfold nodeL;rw[j_ (by omega),j_ (by omega),j_ (by omega),j_ (by omega),j_ (by omega),j_ (by omega),j_ (by omega)],show plainN n=⟨n.kd,n.na,0,0,0,0,0,0,0,[],[],0,0,0,0,0,0,0,0⟩ from by unfold plainN;rw[j_ (by omega),j_ (by omega),j_ (by omega),j_ (by omega),j_ (by omega),j_ (by omega),j_ (by omega),j_ (by omega)]]
 exact there_9 n h (by omega) b
theorem plain_eq {n:Nod} (h0:1≤n.kd) (h9:n.kd≤9) (h:moreE n=false):plainN n=n:=(nodEq_iff _ _).1 (plain_same h0 h9 h)
theorem nodeR_chk {n:Nod} (h:(nodeP n).2=0):checkE n=0:=by
 unfold nodeP at h
 by_cases h1:checkE n≠0
 ·rw[i_ h1] at h;exact absurd h h1
 ·exact Classical.not_not.1 h1
theorem take_there {n:Nod} (okn:n.Ok) (h:(nodeP n).2=0) (b:List Int):takeS ((nodeP n).1++b,0)=(b,0)∧takeR ((nodeP n).1++b,0)=(n,0):=by
 obtain ⟨hn,e,hm,h1,h9⟩:=nth_of okn h
 have hc:=nodeR_chk h
 obtain ⟨a1,a2⟩:=take_thereN hn h1 b
 rw[plain_eq h1 h9 hm] at a2
 rw[e]
 refine ⟨a1,?_⟩
 unfold takeR
 rw[a1,a2,j_ (by simp),j_ (by simpa using hc)]
theorem takeN_six (s:Rst) (h:s.In):(six (takeN s)).all okI=true:=by
 unfold takeN
 repeat' split
 all_goals (first|exact six_1 s h|exact six_2 s h|exact six_3 s h|exact six_4 s h|exact six_6 s h|exact six_7 s h|exact six_8 s h|exact six_9 s h)
theorem takeN_len (s:Rst) (h:s.In) (hs:(takeS s).2=0):(takeN s).w.length≤16384∧(takeN s).b.length≤16384:=by
 by_cases k1:cntV s 9=1
 ·rw[show takeS s=ts_1 s from by unfold takeS;rw[i_ k1]] at hs;rw[show takeN s=tn_1 s nod0 from by unfold takeN;rw[i_ k1]]
  exact len_1 s h hs
 by_cases k2:cntV s 9=2
 ·rw[show takeS s=ts_2 s from by unfold takeS;rw[j_ (by omega),i_ k2]] at hs;rw[show takeN s=tn_2 s nod0 from by unfold takeN;rw[j_ (by omega),i_ k2]]
  exact len_2 s h hs
 by_cases k3:cntV s 9=3
 ·rw[show takeS s=ts_3 s from by unfold takeS;rw[j_ (by omega),j_ (by omega),i_ k3]] at hs;rw[show takeN s=tn_3 s nod0 from by unfold takeN;rw[j_ (by omega),j_ (by omega),i_ k3]]
  exact len_3 s h hs
 by_cases k4:cntV s 9=4∨cntV s 9=5
 ·rw[show takeS s=ts_4 s from by unfold takeS;rw[j_ (by omega),j_ (by omega),j_ (by omega),i_ k4]] at hs;rw[show takeN s=tn_4 s nod0 from by unfold takeN;rw[j_ (by omega),j_ (by omega),j_ (by omega),i_ k4]]
  exact len_4 s h hs
 by_cases k6:cntV s 9=6
 ·rw[show takeS s=ts_6 s from by unfold takeS;rw[j_ (by omega),j_ (by omega),j_ (by omega),j_ (by omega),i_ k6]] at hs;rw[show takeN s=tn_6 s nod0 from by unfold takeN;rw[j_ (by omega),j_ (by omega),j_ (by omega),j_ (by omega),i_ k6]]
  exact len_6 s h hs
 by_cases k7:cntV s 9=7
 ·rw[show takeS s=ts_7 s from by unfold takeS;rw[j_ (by omega),j_ (by omega),j_ (by omega),j_ (by omega),j_ (by omega),i_ k7]] at hs;rw[show takeN s=tn_7 s nod0 from by unfold takeN;rw[j_ (by omega),j_ (by omega),j_ (by omega),j_ (by omega),j_ (by omega),i_ k7]]
  exact len_7 s h hs
 by_cases k8:cntV s 9=8
 ·rw[show takeS s=ts_8 s from by unfold takeS;rw[j_ (by omega),j_ (by omega),j_ (by omega),j_ (by omega),j_ (by omega),j_ (by omega),i_ k8]] at hs;rw[show takeN s=tn_8 s nod0 from by unfold takeN;rw[j_ (by omega),j_ (by omega),j_ (by omega),j_ (by omega),j_ (by omega),j_ (by omega),i_ k8]]
  exact len_8 s h hs
 rw[show takeS s=ts_9 s from by unfold takeS;rw[j_ (by omega),j_ (by omega),j_ (by omega),j_ (by omega),j_ (by omega),j_ (by omega),j_ (by omega)]] at hs;rw[show takeN s=tn_9 s nod0 from by unfold takeN;rw[j_ (by omega),j_ (by omega),j_ (by omega),j_ (by omega),j_ (by omega),j_ (by omega),j_ (by omega)]]
 exact len_9 s h hs
theorem take_backN (s:Rst) (h:s.In) (hs:(takeS s).2=0):s.1=nodeL putN (takeN s)++(takeS s).1:=by
 by_cases k1:cntV s 9=1
 ·rw[show takeS s=ts_1 s from by unfold takeS;rw[i_ k1]] at hs ⊢;rw[show takeN s=tn_1 s nod0 from by unfold takeN;rw[i_ k1]];have e:(tn_1 s nod0).kd=cntV s 9:=rfl;rw[show nodeL putN (tn_1 s nod0)=lb_1 putN (tn_1 s nod0) from by unfold nodeL;rw[i_ (by rw[e];exact k1)]]
  exact back_1 s h hs
 by_cases k2:cntV s 9=2
 ·rw[show takeS s=ts_2 s from by unfold takeS;rw[j_ (by omega),i_ k2]] at hs ⊢;rw[show takeN s=tn_2 s nod0 from by unfold takeN;rw[j_ (by omega),i_ k2]];have e:(tn_2 s nod0).kd=cntV s 9:=rfl;rw[show nodeL putN (tn_2 s nod0)=lb_2 putN (tn_2 s nod0) from by unfold nodeL;rw[j_ (by rw[e];omega),i_ (by rw[e];exact k2)]]
  exact back_2 s h hs
 by_cases k3:cntV s 9=3
 ·rw[show takeS s=ts_3 s from by unfold takeS;rw[j_ (by omega),j_ (by omega),i_ k3]] at hs ⊢;rw[show takeN s=tn_3 s nod0 from by unfold takeN;rw[j_ (by omega),j_ (by omega),i_ k3]];have e:(tn_3 s nod0).kd=cntV s 9:=rfl;rw[show nodeL putN (tn_3 s nod0)=lb_3 putN (tn_3 s nod0) from by unfold nodeL;rw[j_ (by rw[e];omega),j_ (by rw[e];omega),i_ (by rw[e];exact k3)]]
  exact back_3 s h hs
 by_cases k4:cntV s 9=4∨cntV s 9=5
 ·rw[show takeS s=ts_4 s from by unfold takeS;rw[j_ (by omega),j_ (by omega),j_ (by omega),i_ k4]] at hs ⊢;rw[show takeN s=tn_4 s nod0 from by unfold takeN;rw[j_ (by omega),j_ (by omega),j_ (by omega),i_ k4]];have e:(tn_4 s nod0).kd=cntV s 9:=rfl;rw[show nodeL putN (tn_4 s nod0)=lb_4 putN (tn_4 s nod0) from by unfold nodeL;rw[j_ (by rw[e];omega),j_ (by rw[e];omega),j_ (by rw[e];omega),i_ (by rw[e];exact k4)]]
  exact back_4 s h hs
 by_cases k6:cntV s 9=6
 ·rw[show takeS s=ts_6 s from by unfold takeS;rw[j_ (by omega),j_ (by omega),j_ (by omega),j_ (by omega),i_ k6]] at hs ⊢;rw[show takeN s=tn_6 s nod0 from by unfold takeN;rw[j_ (by omega),j_ (by omega),j_ (by omega),j_ (by omega),i_ k6]];have e:(tn_6 s nod0).kd=cntV s 9:=rfl;rw[show nodeL putN (tn_6 s nod0)=lb_6 putN (tn_6 s nod0) from by unfold nodeL;rw[j_ (by rw[e];omega),j_ (by rw[e];omega),j_ (by rw[e];omega),j_ (by rw[e];omega),i_ (by rw[e];exact k6)]]
  exact back_6 s h hs
 by_cases k7:cntV s 9=7
 ·rw[show takeS s=ts_7 s from by unfold takeS;rw[j_ (by omega),j_ (by omega),j_ (by omega),j_ (by omega),j_ (by omega),i_ k7]] at hs ⊢;rw[show takeN s=tn_7 s nod0 from by unfold takeN;rw[j_ (by omega),j_ (by omega),j_ (by omega),j_ (by omega),j_ (by omega),i_ k7]];have e:(tn_7 s nod0).kd=cntV s 9:=rfl;rw[show nodeL putN (tn_7 s nod0)=lb_7 putN (tn_7 s nod0) from by unfold nodeL;rw[j_ (by rw[e];omega),j_ (by rw[e];omega),j_ (by rw[e];omega),j_ (by rw[e];omega),j_ (by rw[e];omega),i_ (by rw[e];exact k7)]]
  exact back_7 s h hs
 by_cases k8:cntV s 9=8
 ·rw[show takeS s=ts_8 s from by unfold takeS;rw[j_ (by omega),j_ (by omega),j_ (by omega),j_ (by omega),j_ (by omega),j_ (by omega),i_ k8]] at hs ⊢;rw[show takeN s=tn_8 s nod0 from by unfold takeN;rw[j_ (by omega),j_ (by omega),j_ (by omega),j_ (by omega),j_ (by omega),j_ (by omega),i_ k8]];have e:(tn_8 s nod0).kd=cntV s 9:=rfl;rw[show nodeL putN (tn_8 s nod0)=lb_8 putN (tn_8 s nod0) from by unfold nodeL;rw[j_ (by rw[e];omega),j_ (by rw[e];omega),j_ (by rw[e];omega),j_ (by rw[e];omega),j_ (by rw[e];omega),j_ (by rw[e];omega),i_ (by rw[e];exact k8)]]
  exact back_8 s h hs
 rw[show takeS s=ts_9 s from by unfold takeS;rw[j_ (by omega),j_ (by omega),j_ (by omega),j_ (by omega),j_ (by omega),j_ (by omega),j_ (by omega)]] at hs ⊢;rw[show takeN s=tn_9 s nod0 from by unfold takeN;rw[j_ (by omega),j_ (by omega),j_ (by omega),j_ (by omega),j_ (by omega),j_ (by omega),j_ (by omega)]];have e:(tn_9 s nod0).kd=cntV s 9:=rfl;rw[show nodeL putN (tn_9 s nod0)=lb_9 putN (tn_9 s nod0) from by unfold nodeL;rw[j_ (by rw[e];omega),j_ (by rw[e];omega),j_ (by rw[e];omega),j_ (by rw[e];omega),j_ (by rw[e];omega),j_ (by rw[e];omega),j_ (by rw[e];omega)]]
 exact back_9 s h hs
theorem take_back {s:Rst} (h:s.In) (he:(takeR s).2=0):nodeP (takeR s).1=(nodeL putN (takeN s),0)∧s.1=nodeL putN (takeN s)++(takeS s).1:=by
 unfold takeR at he ⊢
 by_cases h1:(takeS s).2≠0
 ·rw[i_ h1] at he;exact absurd he h1
 rw[j_ h1] at he ⊢
 by_cases h2:checkE (takeN s)≠0
 ·rw[i_ h2] at he;exact absurd he h2
 rw[j_ h2]
 have hs:(takeS s).2=0:=Classical.not_not.1 h1
 have l:=takeN_len s h hs
 refine ⟨?_,take_backN s h hs⟩
 unfold nodeP
 rw[j_ h2,j_ (by rw[takeN_six s h];simp),j_ (by dsimp only;omega)]
theorem oneV8 (s:Rst):In8 (oneV s):=by
 unfold oneV smlV
 repeat' split
 all_goals (first|decide|skip)
 rename_i h1 h2 h3
 rw[show ((1:Int)).toNat=1 from rfl,tkW,tkW]
 show In8 (IntKind.i8.wrap _)
 unfold In8 IntKind.wrap;simp[IntKind.bits,IntKind.signed];omega
theorem tkW8 (l:List Int) (k:Nat):∀ x∈tkW l k,In8 x:=by
 induction k with
 | zero=>intro x hx;cases hx
 | succ k ih =>
  intro x hx
  rw[tkW,BH_] at hx
  rcases hx with hx|hx
  ·exact ih x hx
  ·rw[List.mem_singleton] at hx;subst hx
   unfold In8 IntKind.wrap;simp[IntKind.bits,IntKind.signed];omega
theorem smlV8 (s:Rst) (n:Int):∀ x∈smlV s n,In8 x:=by
 unfold smlV
 repeat' split
 all_goals (first|exact tkW8 _ _|(intro x hx;cases hx))
theorem itV32 (s:Rst) (k:Nat):∀ x∈itV s k,In32 x:=by
 induction k with
 | zero=>intro x hx;cases hx
 | succ k ih =>
  intro x hx
  rw[itV,BH_] at hx
  rcases hx with hx|hx
  ·exact ih x hx
  ·rw[List.mem_singleton] at hx;subst hx
   have:=@intV_rng (itS s k) (-2147483648) 2147483647 (by decide) (by decide)
   exact ⟨by omega,by omega⟩
theorem widV32 (s:Rst) (n:Int):∀ x∈widV s n,In32 x:=by
 unfold widV
 repeat' split
 all_goals (first|exact itV32 _ _|(intro x hx;cases hx))
theorem cntV64 {s:Rst} (h:s.In) {m:Int} (h0:0≤m) (h1:m≤2147483647):In64 (cntV s m):=by
 have:=cntV_rng h h0;exact ⟨by omega,by omega⟩
theorem cntV32 {s:Rst} (h:s.In) {m:Int} (h0:0≤m) (h1:m≤2147483647):In32 (cntV s m):=by
 have:=cntV_rng h h0;exact ⟨by omega,by omega⟩
theorem sclM32 {s:Rst} (h:s.In):In32 (sclM s):=cntV32 h (by decide) (by decide)
theorem sclH64 {s:Rst} (h:s.In):In64 (sclH s):=cntV64 (cnt_in h _) (by decide) (by decide)
theorem z8:In8 0:=by decide
theorem z32:In32 0:=by decide
theorem z64:In64 0:=by decide
theorem nil8:∀ x∈([]:List Int),In8 x:=fun _ h=>by cases h
theorem nil32:∀ x∈([]:List Int),In32 x:=fun _ h=>by cases h
theorem tn_1_ok (s:Rst) (h:s.In):(tn_1 s nod0).Ok:=⟨(cntV64 (by repeat first|exact h|apply cnt_in|apply sml_in|apply lst_in|apply scl_in) (by decide) (by decide)),(cntV64 (by repeat first|exact h|apply cnt_in|apply sml_in|apply lst_in|apply scl_in) (by decide) (by decide)),z64,(cntV64 (by repeat first|exact h|apply cnt_in|apply sml_in|apply lst_in|apply scl_in) (by decide) (by decide)),(cntV64 (by repeat first|exact h|apply cnt_in|apply sml_in|apply lst_in|apply scl_in) (by decide) (by decide)),(cntV64 (by repeat first|exact h|apply cnt_in|apply sml_in|apply lst_in|apply scl_in) (by decide) (by decide)),(cntV64 (by repeat first|exact h|apply cnt_in|apply sml_in|apply lst_in|apply scl_in) (by decide) (by decide)),(oneV8 _),z8,(smlV8 _ _),(widV32 _ _),(sclM32 (by repeat first|exact h|apply cnt_in|apply sml_in|apply lst_in|apply scl_in)),(sclH64 (by repeat first|exact h|apply cnt_in|apply sml_in|apply lst_in|apply scl_in)),(oneV8 _),z32,z64,z8,(oneV8 _),(oneV8 _)⟩
theorem ts_1_ok {s:Rst} (hs:(ts_1 s).2=0):s.2=0:=(cnt_ok (cnt_ok (cnt_ok (cnt_ok (cnt_ok (cnt_ok (sml_ok (cnt_ok (sml_ok (cnt_ok (wid_ok (cnt_ok (cnt_ok (sml_ok (sml_ok (sml_ok hs))))))))))))))))
theorem tn_2_ok (s:Rst) (h:s.In):(tn_2 s nod0).Ok:=⟨(cntV64 (by repeat first|exact h|apply cnt_in|apply sml_in|apply lst_in|apply scl_in) (by decide) (by decide)),(cntV64 (by repeat first|exact h|apply cnt_in|apply sml_in|apply lst_in|apply scl_in) (by decide) (by decide)),z64,(cntV64 (by repeat first|exact h|apply cnt_in|apply sml_in|apply lst_in|apply scl_in) (by decide) (by decide)),(cntV64 (by repeat first|exact h|apply cnt_in|apply sml_in|apply lst_in|apply scl_in) (by decide) (by decide)),(cntV64 (by repeat first|exact h|apply cnt_in|apply sml_in|apply lst_in|apply scl_in) (by decide) (by decide)),z64,(oneV8 _),z8,(smlV8 _ _),(widV32 _ _),(sclM32 (by repeat first|exact h|apply cnt_in|apply sml_in|apply lst_in|apply scl_in)),(sclH64 (by repeat first|exact h|apply cnt_in|apply sml_in|apply lst_in|apply scl_in)),(oneV8 _),z32,z64,z8,(oneV8 _),(oneV8 _)⟩
theorem ts_2_ok {s:Rst} (hs:(ts_2 s).2=0):s.2=0:=(cnt_ok (cnt_ok (cnt_ok (cnt_ok (cnt_ok (sml_ok (cnt_ok (sml_ok (cnt_ok (wid_ok (cnt_ok (cnt_ok (sml_ok (sml_ok (sml_ok hs)))))))))))))))
theorem tn_3_ok (s:Rst) (h:s.In):(tn_3 s nod0).Ok:=⟨(cntV64 (by repeat first|exact h|apply cnt_in|apply sml_in|apply lst_in|apply scl_in) (by decide) (by decide)),(cntV64 (by repeat first|exact h|apply cnt_in|apply sml_in|apply lst_in|apply scl_in) (by decide) (by decide)),z64,z64,z64,z64,(cntV64 (by repeat first|exact h|apply cnt_in|apply sml_in|apply lst_in|apply scl_in) (by decide) (by decide)),(oneV8 _),z8,(smlV8 _ _),(widV32 _ _),(sclM32 (by repeat first|exact h|apply cnt_in|apply sml_in|apply lst_in|apply scl_in)),(sclH64 (by repeat first|exact h|apply cnt_in|apply sml_in|apply lst_in|apply scl_in)),(oneV8 _),z32,z64,z8,(oneV8 _),(oneV8 _)⟩
theorem ts_3_ok {s:Rst} (hs:(ts_3 s).2=0):s.2=0:=(cnt_ok (cnt_ok (cnt_ok (sml_ok (cnt_ok (sml_ok (cnt_ok (wid_ok (cnt_ok (cnt_ok (sml_ok (sml_ok (sml_ok hs)))))))))))))
theorem tn_4_ok (s:Rst) (h:s.In):(tn_4 s nod0).Ok:=⟨(cntV64 (by repeat first|exact h|apply cnt_in|apply sml_in|apply lst_in|apply scl_in) (by decide) (by decide)),(cntV64 (by repeat first|exact h|apply cnt_in|apply sml_in|apply lst_in|apply scl_in) (by decide) (by decide)),z64,(cntV64 (by repeat first|exact h|apply cnt_in|apply sml_in|apply lst_in|apply scl_in) (by decide) (by decide)),(cntV64 (by repeat first|exact h|apply cnt_in|apply sml_in|apply lst_in|apply scl_in) (by decide) (by decide)),(cntV64 (by repeat first|exact h|apply cnt_in|apply sml_in|apply lst_in|apply scl_in) (by decide) (by decide)),z64,z8,z8,nil8,nil32,z32,z64,z8,z32,z64,z8,z8,z8⟩
theorem ts_4_ok {s:Rst} (hs:(ts_4 s).2=0):s.2=0:=(cnt_ok (cnt_ok (cnt_ok (cnt_ok (cnt_ok hs)))))
theorem tn_6_ok (s:Rst) (h:s.In):(tn_6 s nod0).Ok:=⟨(cntV64 (by repeat first|exact h|apply cnt_in|apply sml_in|apply lst_in|apply scl_in) (by decide) (by decide)),(cntV64 (by repeat first|exact h|apply cnt_in|apply sml_in|apply lst_in|apply scl_in) (by decide) (by decide)),(cntV64 (by repeat first|exact h|apply cnt_in|apply sml_in|apply lst_in|apply scl_in) (by decide) (by decide)),z64,z64,z64,z64,(oneV8 _),(oneV8 _),nil8,nil32,(sclM32 (by repeat first|exact h|apply cnt_in|apply sml_in|apply lst_in|apply scl_in)),(sclH64 (by repeat first|exact h|apply cnt_in|apply sml_in|apply lst_in|apply scl_in)),(oneV8 _),(sclM32 (by repeat first|exact h|apply cnt_in|apply sml_in|apply lst_in|apply scl_in)),(sclH64 (by repeat first|exact h|apply cnt_in|apply sml_in|apply lst_in|apply scl_in)),z8,(oneV8 _),(oneV8 _)⟩
theorem ts_6_ok {s:Rst} (hs:(ts_6 s).2=0):s.2=0:=(cnt_ok (cnt_ok (cnt_ok (sml_ok (sml_ok (cnt_ok (cnt_ok (sml_ok (cnt_ok (cnt_ok (sml_ok (sml_ok hs))))))))))))
theorem tn_7_ok (s:Rst) (h:s.In):(tn_7 s nod0).Ok:=⟨(cntV64 (by repeat first|exact h|apply cnt_in|apply sml_in|apply lst_in|apply scl_in) (by decide) (by decide)),(cntV64 (by repeat first|exact h|apply cnt_in|apply sml_in|apply lst_in|apply scl_in) (by decide) (by decide)),z64,z64,z64,z64,z64,(oneV8 _),z8,nil8,nil32,(sclM32 (by repeat first|exact h|apply cnt_in|apply sml_in|apply lst_in|apply scl_in)),(sclH64 (by repeat first|exact h|apply cnt_in|apply sml_in|apply lst_in|apply scl_in)),(oneV8 _),z32,z64,z8,(oneV8 _),(oneV8 _)⟩
theorem ts_7_ok {s:Rst} (hs:(ts_7 s).2=0):s.2=0:=(cnt_ok (cnt_ok (sml_ok (cnt_ok (cnt_ok (sml_ok (sml_ok (sml_ok hs))))))))
theorem tn_8_ok (s:Rst) (h:s.In):(tn_8 s nod0).Ok:=⟨(cntV64 (by repeat first|exact h|apply cnt_in|apply sml_in|apply lst_in|apply scl_in) (by decide) (by decide)),(cntV64 (by repeat first|exact h|apply cnt_in|apply sml_in|apply lst_in|apply scl_in) (by decide) (by decide)),z64,z64,z64,(cntV64 (by repeat first|exact h|apply cnt_in|apply sml_in|apply lst_in|apply scl_in) (by decide) (by decide)),z64,(oneV8 _),z8,nil8,nil32,z32,z64,z8,z32,z64,z8,z8,z8⟩
theorem ts_8_ok {s:Rst} (hs:(ts_8 s).2=0):s.2=0:=(cnt_ok (cnt_ok (cnt_ok (sml_ok hs))))
theorem tn_9_ok (s:Rst) (h:s.In):(tn_9 s nod0).Ok:=⟨(cntV64 (by repeat first|exact h|apply cnt_in|apply sml_in|apply lst_in|apply scl_in) (by decide) (by decide)),(cntV64 (by repeat first|exact h|apply cnt_in|apply sml_in|apply lst_in|apply scl_in) (by decide) (by decide)),z64,z64,z64,z64,z64,z8,z8,nil8,nil32,z32,z64,z8,z32,z64,z8,z8,z8⟩
theorem ts_9_ok {s:Rst} (hs:(ts_9 s).2=0):s.2=0:=(cnt_ok (cnt_ok hs))
theorem takeN_ok (s:Rst) (h:s.In):(takeN s).Ok:=by
 unfold takeN
 repeat' split
 all_goals (first|exact tn_1_ok s h|exact tn_2_ok s h|exact tn_3_ok s h|exact tn_4_ok s h|exact tn_6_ok s h|exact tn_7_ok s h|exact tn_8_ok s h|exact tn_9_ok s h)
theorem nod0_ok:(nod0:Nod).Ok:=by constructor<;>first|(constructor<;>decide)|(intro v hv;cases hv)
theorem takeR_ok (s:Rst) (h:s.In):(takeR s).1.Ok:=by
 unfold takeR
 repeat' split
 ·exact nod0_ok
 ·exact nod0_ok
 ·exact takeN_ok s h
theorem takeS_ok {s:Rst} (hs:(takeS s).2=0):s.2=0:=by
 unfold takeS at hs
 repeat' split at hs
 all_goals (first|exact ts_1_ok hs|exact ts_2_ok hs|exact ts_3_ok hs|exact ts_4_ok hs|exact ts_6_ok hs|exact ts_7_ok hs|exact ts_8_ok hs|exact ts_9_ok hs)
theorem tsml_x (s:Rst) (l:List Nod) (w b:List Int) (nd:Int) (e:Bool) (m:Int) (h:s.In):VM L_ 243 ([.agg [.ptr 100000 0 0],.ptr 100001 0 2,i64 m]) ([(950,.slc 56 19 (l.map nodC)),(100000,.var (rdC s)),(100001,.var [.own 950,bv e,ints .i8 w,ints .i32 b,i32 nd])]) (.tup []) ([(950,.slc 56 19 (l.map nodC)),(100000,.var (rdC (smlS s m))),(100001,.var [.own 950,bv e,ints .i8 (smlV s m),ints .i32 b,i32 nd])]):=by
 have oz0:=@smallR_v (s) (m) h
 exact mR_ [r_,.r [] [cm oz0]] [.drop [3],.sort] _ Tryz.func243 (.d oz0)
theorem twid_x (s:Rst) (l:List Nod) (w b:List Int) (nd:Int) (e:Bool) (m:Int) (h:s.In):VM L_ 244 ([.agg [.ptr 100000 0 0],.ptr 100001 0 3,i64 m]) ([(950,.slc 56 19 (l.map nodC)),(100000,.var (rdC s)),(100001,.var [.own 950,bv e,ints .i8 w,ints .i32 b,i32 nd])]) (.tup []) ([(950,.slc 56 19 (l.map nodC)),(100000,.var (rdC (widS s m))),(100001,.var [.own 950,bv e,ints .i8 w,ints .i32 (widV s m),i32 nd])]):=by
 have oz0:=@wideR_v (s) (m) h
 exact mR_ [r_,.r [] [cm oz0]] [.drop [3],.sort] _ Tryz.func244 (.d oz0)
theorem tlists_x0 (s:Rst) (l:List Nod) (w b:List Int) (nd:Int) (e:Bool) (h:s.In):VM L_ 132 ([.ifc 183 (.agg [.ptr 100000 0 0]),.ptr 100001 0 2,.ptr 100001 0 3]) ([(950,.slc 56 19 (l.map nodC)),(100000,.var (rdC s)),(100001,.var [.own 950,bv e,ints .i8 w,ints .i32 b,i32 nd])]) (.tup []) ([(950,.slc 56 19 (l.map nodC)),(100000,.var (rdC (widS (cntS (smlS (cntS s 16384) (cntV s 16384)) 16384) (cntV (smlS (cntS s 16384) (cntV s 16384)) 16384)))),(100001,.var [.own 950,bv e,ints .i8 (smlV (cntS s 16384) (cntV s 16384)),ints .i32 (widV (cntS (smlS (cntS s 16384) (cntV s 16384)) 16384) (cntV (smlS (cntS s 16384) (cntV s 16384)) 16384)),i32 nd])]):=by
 have oz0:=@tnum_1 (s) (((K_ (row1 .i8) w).length:Int)) (16384) h (by omega) (by omega)
 have oz1:=(show MethodIs L_ (183:Nat) "stepwell/pack.number" (methF L_ (183:Nat) "stepwell/pack.number") from (methodIs (by kernel_rfl)))
 have oz2:=@tsml_x (cntS s 16384) (l) (w) (b) (nd) (e) (cntV s 16384) (by (repeat first|exact h|apply cnt_in|apply sml_in))
 have oz4:=@tnum_1 (smlS (cntS s 16384) (cntV s 16384)) (((K_ (row1 .i32) b).length:Int)) (16384) (by (repeat first|exact h|apply cnt_in|apply sml_in)) (by omega) (by omega)
 have oz6:=@twid_x (cntS (smlS (cntS s 16384) (cntV s 16384)) 16384) (l) (smlV (cntS s 16384) (cntV s 16384)) (b) (nd) (e) (cntV (smlS (cntS s 16384) (cntV s 16384)) 16384) (by (repeat first|exact h|apply cnt_in|apply sml_in))
 exact mR_ [r_,.r [] [.callm [(100000,100000),(6,100001)] [] (rM oz0) (oM oz0)],.r [] [.callm [(950,950),(100000,100000),(100001,100001)] [(950,20000)] (rM oz2) (oM oz2)],r_,.r [] [.callm [(100000,100000),(7,100001)] [] (rM oz4) (oM oz4)],.r [] [.callm [(20000,950),(100000,100000),(100001,100001)] [(950,20001)] (rM oz6) (oM oz6)]] [.drop [6,7],.ren 20001 950,.sort] _ Tryz.func132 (.d8 oz0 oz1 oz2 (show MethodIs L_ (183:Nat) "stepwell/pack.small" (methF L_ (183:Nat) "stepwell/pack.small") from (methodIs (by kernel_rfl))) oz4 oz1 oz6 (show MethodIs L_ (183:Nat) "stepwell/pack.wides" (methF L_ (183:Nat) "stepwell/pack.wides") from (methodIs (by kernel_rfl))))
theorem tlists_x (s:Rst) (l:List Nod) (w b:List Int) (nd:Int) (e:Bool) (h:s.In):VM L_ 132 [.ifc 183 (.agg [.ptr 100000 0 0]),.ptr 100001 0 2,.ptr 100001 0 3] [(950,.slc 56 19 (l.map nodC)),(100000,.var (rdC s)),(100001,.var [.own 950,bv e,ints .i8 w,ints .i32 b,i32 nd])] (.tup []) [(950,.slc 56 19 (l.map nodC)),(100000,.var (rdC (lstS s))),(100001,.var [.own 950,bv e,ints .i8 (lstW s),ints .i32 (lstB s),i32 nd])]:=tlists_x0 s l w b nd e h
theorem texit_y (s:Rst) (l:List Nod) (w b:List Int) (nd:Int) (h:s.In) (hk:cntV s 1=1):VM L_ 93 ([.ifc 183 (.agg [.ptr 100000 0 0]),.ptr 100001 0 0]) ([(950,.slc 56 19 (l.map nodC)),(100000,.var (rdC s)),(100001,.var [.own 950,bv false,ints .i8 w,ints .i32 b,i32 nd])]) (.tup []) ([(950,.slc 56 19 (l.map nodC)),(100000,.var (rdC (cntS (lstS (cntS s 1)) 2147483647))),(100001,.var [.own 950,bv true,ints .i8 (lstW (cntS s 1)),ints .i32 (lstB (cntS s 1)),i32 (cntV (lstS (cntS s 1)) 2147483647)])]):=by
 have q:=@cntV_rng (lstS (cntS s 1)) 2147483647 (lst_in (cnt_in h _)) (by decide)
 have oz1:=@tnum_1 (s) (0) (1) h (by omega) (by omega)
 have oz2:=(show MethodIs L_ (183:Nat) "stepwell/pack.number" (methF L_ (183:Nat) "stepwell/pack.number") from (methodIs (by kernel_rfl)))
 have oz4:=@tlists_x (cntS s 1) (l) (w) (b) (nd) (cntV s 1==1) (by (repeat first|exact h|apply cnt_in|apply sml_in|apply lst_in))
 have oz5:=@tnum_1 (lstS (cntS s 1)) (IntKind.i64.wrap nd) (2147483647) (by (repeat first|exact h|apply cnt_in|apply sml_in|apply lst_in)) (by omega) (by omega)
 have oz7:=(CR_ (cntV (lstS (cntS s 1)) 2147483647) (by omega))
 exact mR_ [r_,r_,d_,.r [] [.callm [(100000,100000),(4,100001)] [] (rM oz1) (oM oz1)],r_,r_,d_,.r [] [.callm [(950,950),(100000,100000),(100001,100001)] [(950,20000)] (rM oz4) (oM oz4)],.r [] [.w],.r [] [.callm [(100000,100000),(5,100001)] [] (rM oz5) (oM oz5)],.r [] [.n (nO oz7)]] [.drop [4,5],.ren 20000 950,.blk 100001 (Blk.var [AV.own 950,bv true,AV.sl 1 (K_ (row1 .i8) (lstW (cntS s 1))),AV.sl 1 (K_ (row1 .i32) (lstB (cntS s 1))),i32 (cntV (lstS (cntS s 1)) 2147483647)]),.sort] _ Tryz.func93 (.c8 z1_ oz1 oz2 (show (!cntV s 1==1)=false by (simp;omega)) oz4 oz5 oz2 oz7<|.d (show BlkW (Blk.var [AV.own 950,bv (cntV s 1==1),AV.sl 1 (K_ (row1 .i8) (lstW (cntS s 1))),AV.sl 1 (K_ (row1 .i32) (lstB (cntS s 1))),i32 (cntV (lstS (cntS s 1)) 2147483647)]) (Blk.var [AV.own 950,bv true,AV.sl 1 (K_ (row1 .i8) (lstW (cntS s 1))),AV.sl 1 (K_ (row1 .i32) (lstB (cntS s 1))),i32 (cntV (lstS (cntS s 1)) 2147483647)]) from (BlkW.var (m:=[AV.own 950,bv true,AV.sl 1 (K_ (row1 .i8) (lstW (cntS s 1))),AV.sl 1 (K_ (row1 .i32) (lstB (cntS s 1))),i32 (cntV (lstS (cntS s 1)) 2147483647)]) (.cons (.refl _) (.cons (AF_ (by (refine decide_eq_true ?_;omega))) (.cons (.refl _) (.cons (.refl _) (.cons (.refl _) .nil))))))))
theorem texit_n (s:Rst) (l:List Nod) (w b:List Int) (nd:Int) (h:s.In) (hk:cntV s 1≠1):VM L_ 93 ([.ifc 183 (.agg [.ptr 100000 0 0]),.ptr 100001 0 0]) ([(950,.slc 56 19 (l.map nodC)),(100000,.var (rdC s)),(100001,.var [.own 950,bv false,ints .i8 w,ints .i32 b,i32 nd])]) (.tup []) ([(950,.slc 56 19 (l.map nodC)),(100000,.var (rdC (cntS s 1))),(100001,.var [.own 950,bv false,ints .i8 w,ints .i32 b,i32 nd])]):=by
 have oz1:=@tnum_1 (s) (0) (1) h (by omega) (by omega)
 exact mR_ [r_,r_,d_,.r [] [.callm [(100000,100000),(4,100001)] [] (rM oz1) (oM oz1)],r_,r_,b_] [.drop [4],.blk 100001 (Blk.var [AV.own 950,bv false,AV.sl 1 (K_ (row1 .i8) w),AV.sl 1 (K_ (row1 .i32) b),i32 nd]),.sort] _ Tryz.func93 (.d5 z1_ oz1 (show MethodIs L_ (183:Nat) "stepwell/pack.number" (methF L_ (183:Nat) "stepwell/pack.number") from (methodIs (by kernel_rfl))) (show (!cntV s 1==1)=true by (simp;omega)) (show BlkW (Blk.var [AV.own 950,bv (cntV s 1==1),AV.sl 1 (K_ (row1 .i8) w),AV.sl 1 (K_ (row1 .i32) b),i32 nd]) (Blk.var [AV.own 950,bv false,AV.sl 1 (K_ (row1 .i8) w),AV.sl 1 (K_ (row1 .i32) b),i32 nd]) from (BlkW.var (m:=[AV.own 950,bv false,AV.sl 1 (K_ (row1 .i8) w),AV.sl 1 (K_ (row1 .i32) b),i32 nd]) (.cons (.refl _) (.cons (AF_ (by (refine decide_eq_false ?_;omega))) (.cons (.refl _) (.cons (.refl _) (.cons (.refl _) .nil))))))))
end Go.Proofs.YtdfihaminnmgpaaGreat
