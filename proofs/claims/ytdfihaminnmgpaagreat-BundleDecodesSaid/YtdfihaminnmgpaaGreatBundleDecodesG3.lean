/- A part of this claim. No condition. -/
import Derived.Outline
import Derived.Test.YtdfihaminnmgpaaGreatProg
import Derived.WalkKit
import Derived.Below
import Derived.LoopTactic
import Derived.RegionTactic
import Derived.ChangeAlike
import Derived.BigRegion
import Derived.Deep.QuietTactic
import Derived.BigQuiet
import Derived.Lib.Hide
import Derived.WalkSpells
import Derived.WalkLawsBesides
import Derived.WalkSmall
import Derived.Laws.BytesString
import Derived.Laws.IdiomStrings
import Derived.Laws.BitsAllLaws
import Derived.Laws.AppendOwnNone
import Derived.PlainAid
import Derived.Laws.Tables
import Derived.Laws.CopyOwn
import Derived.Deep.WholeRow
import Derived.Laws.ResultCell
import Derived.Shelf.Bits.Mul64
import Derived.Handy
import Derived.ScopeJumps
import Derived.OwnWalk
import Derived.Deep.Slices
import Derived.ProofKit
import Derived.OpenShut
import Derived.ShutString
import Derived.ChangeOld
import Derived.Deep.LoopGhost
import Derived.Lib.SlBytesConst
import Derived.Test.YtdfihaminnmgpaaGreatBundleDecodesG2
set_option maxRecDepth 100000
set_option maxHeartbeats 2000000
set_option linter.unusedVariables false
set_option linter.unusedSimpArgs false
set_option linter.unnecessarySimpa false
namespace Go.Proofs.YtdfihaminnmgpaaGreat
open Go.RowKit
open BlkW renaming rows→CW_
open Bool renaming and_eq_true→P_,and_eq_false_iff→R_,or_eq_false_iff→T_,not_eq_false'→W_,not_eq_true'→Y_,or_eq_true→D_,and_true→AO_,false_and→BQ_,not_false→BR_,true_and→BU_,and_false→BW_,false_eq_true→BA_,not_true→BB_,false_or→BC_,or_false→BD_,true_eq_false→CH_,or_true→DU_,not_eq_eq_eq_not→BO_
open Exit renaming exit→BS_,ret→DT_
open Int renaming toNat_natCast→AF_,tdiv_eq_ediv_of_nonneg→BH_,eq_ofNat_of_zero_le→CL_,mul_nonneg→CC_,tmod_eq_emod_of_nonneg→CF_,mul_le_mul_of_nonneg_right→DO_,reduceEq→CK_,not_lt→CQ_,natCast_nonpos_iff→CY_,not_le→CI_
open IntKind renaming u8→L_,i64→U_,i8→Z_,i32→AL_
open IntWalk renaming u64_in→DQ_
open List renaming map→K_,drop→O_,take→Q_,map_replicate→S_,length_map→V_,map_append→X_,map_cons→A_,map_take→B_,map_drop→C_,map_nil→AM_,map_set→AN_,getElem?_eq_getElem→AP_,length_drop→AS_,getD_eq_getElem?_getD→AU_,getElem?_map→AX_,length_append→AD_,length_cons→AJ_,eq_nil_of_length_eq_zero→BK_,length_take→BL_,length_set→BF_,getElem_mem→CN_,getElem?_eq_none→DL_,getD_cons_zero→BM_,getD_cons_succ→BY_,take_of_length_le→BJ_,length_eq_zero_iff→CV_,getElem_map→DS_,length_replicate→BN_,map_eq_nil_iff→BV_,length_range→BX_,length_nil→BE_
open Nat renaming le_refl→AE_,zero_add→BT_,zero_le→CO_,mul_le_mul_right→BP_,add_zero→DK_
open Option renaming map_eq_some_iff→AT_,getD_some→CR_,map_some→DP_
open Result renaming andThen_ok→AR_
open Sem renaming run_bind→AY_,run_pure→BZ_
open Tryz renaming prog→M_,ntmps181→DR_
open Value renaming slice→AK_,int→AW_,string→CS_,bool→BI_,agg→CX_
open Weak renaming int→N_,nil→AV_,tup→AA_,rows→AH_,agg→AZ_,bool→AB_
open WeakL renaming refl→AQ_
theorem cR_ {P:Program} {f:Nat} {fn:Func} {args:List AV} {ob:List Prop} (W:List WI) (r:AV) (hf:P.funcs[f]? = some fn) (hob:All ob) (h:vcrun P fn args W=some (ob,r):=by kernel_rfl):VC P f args r:=VC.run hf h hob
theorem tR_ {P:Program} {c:Code} {σ σ':VS} {e:Exit} {ob:List Prop} (W:List WI) (G:List GI) (hob:All ob) (h:vtrun P c σ W G=some (ob,e,σ'):=by kernel_rfl):VT P c σ e σ':=VT.run h hob
theorem mR_ {P:Program} {f:Nat} {fn:Func} {args:List AV} {o o':List (Nat×Blk)} {ob:List Prop} (W:List WI) (G:List GI) (r:AV) (hf:P.funcs[f]? = some fn) (hob:All ob) (h:vmrun P fn args o W G=some (ob,r,o'):=by kernel_rfl):VM P f args o r o':=VM.run hf h hob
theorem All.d {a:Prop} (ha:a):All [a]:=.c ha<|.n
theorem All.d2 {a b:Prop} (ha:a) (hb:b):All [a,b]:=.c ha<|.c hb<|.n
theorem All.d3 {a b c:Prop} (ha:a) (hb:b) (hc:c):All [a,b,c]:=.c ha<|.c hb<|.c hc<|.n
theorem All.d4 {a b c d:Prop} (ha:a) (hb:b) (hc:c) (hd:d):All [a,b,c,d]:=.c ha<|.c hb<|.c hc<|.c hd<|.n
theorem All.d5 {a b c d e:Prop} (ha:a) (hb:b) (hc:c) (hd:d) (he:e):All [a,b,c,d,e]:=.c ha<|.c hb<|.c hc<|.c hd<|.c he<|.n
theorem All.d6 {a b c d e f:Prop} (ha:a) (hb:b) (hc:c) (hd:d) (he:e) (hf:f):All [a,b,c,d,e,f]:=.c ha<|.c hb<|.c hc<|.c hd<|.c he<|.c hf<|.n
theorem All.d7 {a b c d e f g:Prop} (ha:a) (hb:b) (hc:c) (hd:d) (he:e) (hf:f) (hg:g):All [a,b,c,d,e,f,g]:=.c ha<|.c hb<|.c hc<|.c hd<|.c he<|.c hf<|.c hg<|.n
theorem All.d8 {a b c d e f g h:Prop} (ha:a) (hb:b) (hc:c) (hd:d) (he:e) (hf:f) (hg:g) (hh:h):All [a,b,c,d,e,f,g,h]:=.c ha<|.c hb<|.c hc<|.c hd<|.c he<|.c hf<|.c hg<|.c hh<|.n
theorem All.c8 {a b c d e f g h:Prop} {l:List Prop} (ha:a) (hb:b) (hc:c) (hd:d) (he:e) (hf:f) (hg:g) (hh:h) (t:All l):All (a::b::c::d::e::f::g::h::l):=.c ha<|.c hb<|.c hc<|.c hd<|.c he<|.c hf<|.c hg<|.c hh<|t
theorem s_ (p:Prop) (h:p:=by omega):p:=h
theorem gc0_ {p q:Prop} (h:p) (i:p→q:=by intro h;simp only[D_,T_,P_,R_,Y_,W_,E_,F_,I_,J_,ne_eq,H_,G_,eqNums,AO_] at h;first|exact h|omega):q:=i h
theorem a_ {p:Prop} (h:p:=by omega):p:=h
theorem c_ (p:Prop) (h:p:=by (refine decide_eq_false ?_;omega)):p:=h
theorem g_ {p:Prop} (h:p:=by first|(simp only[X_,A_,AM_,AN_,S_,B_,C_];done)|rfl|(simp only[X_,A_,AM_,AN_,S_,B_,C_];rfl)):p:=h
theorem h_ (p:Prop) (h:p:=by (simp;omega)):p:=h
theorem k_ {p:Prop} (h:p:=by (unfold shapeE;try unfold aroundE;(repeat first|rw[i_ (by omega)]|rw[j_ (by omega)]))):p:=h
theorem l_ {p:Prop} (h:p:=by (repeat first|exact h|apply cnt_in|apply sml_in|apply lst_in|apply scl_in)):p:=h
theorem m_ {p:Prop} (h:p:=by first|exact hc0|exact of_decide_eq_true hc0|exact of_decide_eq_false hc0|simpa [eqNums] using hc0|(simp[eqNums] at hc0 ⊢;first|done|assumption|omega)):p:=h
theorem n_ {p:Prop} (h:p:=by (unfold shapeE;(repeat first|rw[i_ (by omega)]|rw[j_ (by omega)]))):p:=h
theorem q_ (p:Prop) (h:p:=by (simp only[E_,F_,I_,J_,ne_eq,H_,G_,Y_,W_,BO_,BB_,BR_,Classical.not_not,CQ_,CI_,P_,R_,D_,T_,AO_,BU_,BW_,BQ_,BD_,BC_,eqNums,V_,AD_,AJ_,BE_,BF_,BN_,BL_,AS_,BX_,AF_,BT_,BV_];(first|done|with_reducible assumption|omega|contradiction))):p:=h
theorem t_ {p:Prop} (h:p:=by repeat first|exact h|apply cnt_in|apply sml_in|apply lst_in|apply scl_in):p:=h
theorem u_ {p:Prop} (h:p:=by (unfold nodeR;(repeat first|rw[i_ (by omega)]|rw[j_ (by omega)]))):p:=h
theorem v_ {p:Prop} (h:p:=by (refine decide_eq_false ?_;omega)):p:=h
theorem w_ {p:Prop} (h:p:=by kernel_rfl):p:=h
theorem x_ {p:Prop} (h:p:=by decide):p:=h
theorem y_ (p:Prop) (h:p:=by (refine decide_eq_true ?_;omega)):p:=h
theorem z_ {p:Prop} (h:p:=by (try dsimp only)<;>omega):p:=h
theorem a0_ (p:Prop) (h:p:=by (simp only[E_,F_,I_,J_,ne_eq,H_,G_,Y_,W_,BO_,BB_,BR_,Classical.not_not,CQ_,CI_,P_,R_,D_,T_,AO_,BU_,BW_,BQ_,BD_,BC_,eqNums,V_,AD_,AJ_,BE_,BF_,BN_,BL_,AS_,BX_,AF_,BT_,BV_] at *;(first|done|with_reducible assumption|omega|contradiction))):p:=h
theorem b0_ {p:Prop} (h:p:=by assumption):p:=h
theorem c0_ {p:Prop} (h:p:=by intro h;cases h):p:=h
theorem d0_ {p:Prop} (h:p:=by first|exact hc1|exact of_decide_eq_true hc1|exact of_decide_eq_false hc1|simpa [eqNums] using hc1|(simp[eqNums] at hc1 ⊢;first|done|assumption|omega)):p:=h
theorem e0_ {p:Prop} (h:p:=by (unfold shapesE;(try simp only[V_] at *);(repeat first|rw[i_ (by omega)]|rw[j_ (by omega)]))):p:=h
theorem f0_ (p:Prop) (h:p:=by (simp at *;omega)):p:=h
theorem g0_ {p:Prop} (h:p:=by (unfold flowE;(try simp only[V_] at *);(repeat first|rw[i_ (by omega)]|rw[j_ (by omega)]))):p:=h
theorem h0_ (p:Prop) (h:p:=by with_reducible rfl):p:=h
theorem i0_ (p:Prop) (h:p:=by (rw[qt] at *;first|exact h|omega)):p:=h
theorem j0_ {p:Prop} (h:p:=by (unfold verdE;(try simp only[V_] at *);(repeat first|rw[i_ (by omega)]|rw[j_ (by omega)]))):p:=h
theorem k0_ {p:Prop} (h:p:=by (simp;done)):p:=h
theorem l0_ {p:Prop} (h:p:=by (unfold aroundE;(repeat first|rw[i_ (by omega)]|rw[j_ (by omega)]))):p:=h
theorem m0_ {p:Prop} (h:p:=by first|(simp only[X_,A_,AM_,AN_,S_,B_,C_];done)|rfl|(simp only[X_,A_,AM_,AN_,S_,B_,C_];rfl)|(simp only[X_,A_,AM_,AN_,S_,B_,C_,rchC,ints];done)):p:=h
theorem n0_ {p:Prop} (h:p:=by first|(simp only[D_,T_,P_,R_,Y_,W_,E_,F_,I_,J_,ne_eq,H_,G_,eqNums,AO_] at hc0;first|exact hc0|omega)|simpa using hc0|(simp at hc0 ⊢;omega)|(apply cbc;intro hn;simp_all[eqNums];done)|(apply cbc;intro hn;simp[eqNums] at hc0 hn;omega)):p:=h
theorem o0_ {p:Prop} (h:p:=by (unfold mE modelE;(try simp only[V_] at *);(repeat first|rw[i_ (by omega)]|rw[j_ (by omega)]))):p:=h
theorem p0_ {p:Prop} (h:p:=by (rw[qt] at *;first|exact h|omega)):p:=h
theorem q0_ {p:Prop} (h:p:=by (unfold modelE;(try simp only[V_] at *);(repeat first|rw[i_ (by omega)]|rw[j_ (by omega)]))):p:=h
theorem r0_ (p:Prop) (h:p:=by with_reducible exact i6n _ (by have:=wts_bd (t:=t) (k:=n.nk) (s:=n.ns) (p:=n.np) (o:=n.no) (by omega);omega)):p:=h
theorem s0_ (p:Prop) (h:p:=by (simp;done)):p:=h
theorem t0_ {p:Prop} (h:p:=by rfl):p:=h
theorem u0_ {p:Prop} (h:p:=by have:=cntV_rng (m:=9) (toS_in i0) (by decide);exact ⟨by omega,by omega⟩):p:=h
theorem v0_ {p:Prop} (h:p:=by simp):p:=h
theorem x0_ {p:Prop} (h:p:=by (repeat first|exact q0|exact i2|exact i3|exact h|apply cntR_in|apply smlR_in|apply widR_in)):p:=h
theorem y0_ {p:Prop} (h:p:=by (rw[qt];omega)):p:=h
theorem a1_ {p:Prop} (h:p:=by first|(simp only[X_,A_,AM_,AN_,S_,B_,C_];done)|rfl|(simp only[X_,A_,AM_,AN_,S_,B_,C_];rfl)|(simp only[X_,A_,AM_,AN_,S_,B_,C_,shpC,ints];done)):p:=h
theorem b1_ {p:Prop} (h:p:=by first|(simp only[X_,A_,AM_,AN_,S_,B_,C_];done)|rfl|(simp only[X_,A_,AM_,AN_,S_,B_,C_];rfl)|(simp only[X_,A_,AM_,AN_,S_,B_,C_,nodC,ints];done)):p:=h
theorem c1_ {p:Prop} (h:p:=by first|(simp only[X_,A_,AM_,AN_,S_,B_,C_];done)|rfl|(simp only[X_,A_,AM_,AN_,S_,B_,C_];rfl)|(simp only[X_,A_,AM_,AN_,S_,B_,C_,mdlC,ints];done)):p:=h
theorem d1_ {p:Prop} (h:p:=by first|(simp only[X_,A_,AM_,AN_,S_,B_,C_];done)|rfl|(simp only[X_,A_,AM_,AN_,S_,B_,C_];rfl)|(simp only[X_,A_,AM_,AN_,S_,B_,C_,blcC,ints];done)):p:=h
theorem e1_ {p:Prop} (h:p:=by simp_all):p:=h
theorem f1_ {p:Prop} (h:p:=by have:=wts_bd (t:=t) (k:=n.nk) (s:=n.ns) (p:=n.np) (o:=n.no) (by omega);omega):p:=h
theorem g1_ {p:Prop} (h:p:=by (refine decide_eq_true ?_;omega)):p:=h
theorem h1_ {p:Prop} (h:p:=by (unfold wholeE;(try simp only[V_] at *);(repeat first|rw[i_ (by omega)]|rw[j_ (by omega)]))):p:=h
theorem i1_ {p:Prop} (h:p:=by (repeat first|exact h|apply cnt_in|apply sml_in)):p:=h
theorem j1_ {p:Prop} (h:p:=by (rw[e];unfold wholeE;(try simp only[V_] at *);(repeat first|rw[i_ (by omega)]|rw[j_ (by omega)]))):p:=h
theorem k1_ {p:Prop} (h:p:=by (unfold nodeR;(repeat first|rw[i_ (by omega)]|rw[j_ (by omega)]);rw[sumE_s (by assumption) (by rw[←q2 (q1 (by assumption))];simp_all)]<;>rfl)):p:=h
theorem l1_ {p:Prop} (h:p:=by (unfold nodeR;(repeat first|rw[i_ (by omega)]|rw[j_ (by omega)]);rw[sumE_o (by assumption) (by rw[←q2 (q1 (by assumption))];simp_all)]<;>rfl)):p:=h
theorem m1_ {p:Prop} (h:p:=by (rw[qt];exact qb)):p:=h
theorem n1_ (p:Prop) (h:p:=by (have:=qa (by assumption);omega)):p:=h
theorem o1_ {p:Prop} (h:p:=by (simp_all;done)):p:=h
theorem p1_ {p:Prop} (h:p:=by rw[q6];exact tkS_fit (by rw[toS_cnt];exact cnt_fit hf 8) (cntV (toS xs r) 8).toNat):p:=h
theorem q1_ {p:Prop} (h:p:=by rw[toS_cnt];exact cnt_fit hf 8):p:=h
theorem r1_ {p:Prop} (h:p:=by (repeat first|exact h|apply cnt_in)):p:=h
theorem s1_ (p:Prop) (h:p:=by (refine i6n _ ?_;unfold spA at q3;split at q3<;>simp_all<;>omega)):p:=h
theorem t1_ {p:Prop} (h:p:=by simpa using hb):p:=h
theorem u1_ {p:Prop} (h:p:=by rw[←q2 (q1 (by assumption))];simp_all):p:=h
theorem v1_ {p:Prop} (h:p:=by (unfold stepR;rw[j_ (by rw[q1];omega)])):p:=h
theorem w1_ {p:Prop} (h:p:=by (unfold nodeR;(repeat first|rw[i_ (by omega)]|rw[j_ (by omega)]);rw[sumE_0 (by assumption)]<;>rfl)):p:=h
theorem x1_ {p:Prop} (h:p:=by (rw[i1]<;>rfl)):p:=h
theorem y1_ (p:Prop) (h:p:=by (refine decide_eq_false ?_;rw[i6n _ (by simp only[V_];omega)];simp only[V_];omega)):p:=h
theorem a2_ {p:Prop} (h:p:=by (simp only[foldR];split<;>omega)):p:=h
theorem b2_ {p:Prop} (h:p:=by (unfold nextE;rw[j_ (by simp_all),j_ (by simp_all)])):p:=h
theorem c2_ {p:Prop} (h:p:=by (unfold nextE;rw[j_ (by simp_all),i_ (by simp_all)])):p:=h
theorem d2_ {p:Prop} (h:p:=by rw[toS_cnt];exact cnt_fit hf 6):p:=h
theorem e2_ {p:Prop} (h:p:=by rw[q1];omega):p:=h
theorem f2_ {p:Prop} (h:p:=by first|exact hc3|exact of_decide_eq_true hc3|exact of_decide_eq_false hc3|simpa [eqNums] using hc3|(simp[eqNums] at hc3 ⊢;first|done|assumption|omega)):p:=h
theorem g2_ {p:Prop} (h:p:=by first|exact hc2|exact of_decide_eq_true hc2|exact of_decide_eq_false hc2|simpa [eqNums] using hc2|(simp[eqNums] at hc2 ⊢;first|done|assumption|omega)):p:=h
theorem h2_ {p:Prop} (h:p:=by (simp only[vq,vr] at *;rw[q7,exitE_c (by assumption)];simp_all;done)):p:=h
theorem i2_ {p:Prop} (h:p:=by (have:=qa (by assumption);exact this.2.1)):p:=h
theorem j2_ {p:Prop} (h:p:=by simp;omega):p:=h
theorem k2_ {p:Prop} (h:p:=by (unfold exitE;simp_all;done)):p:=h
theorem l2_ {p:Prop} (h:p:=by intro h;simp at h;subst h;simp at hlt):p:=h
theorem m2_ {p:Prop} (h:p:=by (unfold nextE;rw[i_ (by simp_all)])):p:=h
theorem n2_ {p:Prop} (h:p:=by (unfold stepR;rw[q6 (by omega),i_ (by rw[q1];omega)])):p:=h
theorem o2_ {p:Prop} (h:p:=by (unfold stepR;rw[q5 (by omega),i_ (by rw[q1];omega)])):p:=h
theorem p2_ (p:Prop) (h:p:=by (rw[q];rfl)):p:=h
theorem q2_ {p:Prop} (h:p:=by have:=toS_in (scR_in sc2 i0 10);rwa [scR_s] at this):p:=h
theorem r2_ {p:Prop} (h:p:=by have:=toS_in (scR_in sc1 i0 11);rwa [scR_s] at this):p:=h
theorem s2_ {p:Prop} (h:p:=by have:=toS_in (scR_in sc7 i0 3);rwa [scR_s] at this):p:=h
theorem t2_ {p:Prop} (h:p:=by have:=toS_in (scR_in sc6 i0 8);rwa [scR_s] at this):p:=h
theorem u2_ {p:Prop} (h:p:=by have:=toS_in (scR_in sc6 i0 5);rwa [scR_s] at this):p:=h
theorem v2_ {p:Prop} (h:p:=by have:=toS_in (scR_in sc3 i0 8);rwa [scR_s] at this):p:=h
theorem w2_ {p:Prop} (h:p:=by (have:=qa (by assumption);omega)):p:=h
theorem x2_ {p:Prop} (h:p:=by rw[F_];omega):p:=h
theorem y2_ {p:Prop} (h:p:=by rw[E_];omega):p:=h
theorem a3_ {p:Prop} (h:p:=by simpa using h0):p:=h
theorem b3_ {p:Prop} (h:p:=by rw[AF_];exact qt):p:=h
abbrev cm {P:Program} {f:Nat} {a:List AV} {o z:List (Nat×Blk)} {r:AV} (h:VM P f a o r z):PI:=.callm [(100000,100000)] [] (rM h) (oM h)
abbrev cn {P:Program} {f:Nat} {a:List AV} {o z:List (Nat×Blk)} {r:AV} (h:VM P f a o r z):PI:=.callm [(100000,100000),(100001,100001)] [] (rM h) (oM h)
abbrev cr {P:Program} {f:Nat} {a:List AV} {r:AV} (h:VC P f a r):PI:=.callr (rO h)
abbrev ca {P:Program} {f:Nat} {a:List AV} {r:AV} (h:VC P f a r):PI:=.call (aO h) (rO h)
abbrev o_:PI:=.op false
abbrev p_:PI:=.op true
abbrev e_:PI:=.br true
abbrev f_:PI:=.br false
abbrev b_:WI:=.br true
abbrev d_:WI:=.br false
abbrev r_:WI:=.r [] []
theorem wS_ (k:Nat):Weak (.lit (.int .i64 ((k:Int)+1))) (.lit (.int .i64 ((k+1:Nat):Int))):=Weak.int a_
theorem w0_:Weak (.lit (.int .i64 0)) (.lit (.int .i64 ((0:Nat):Int))):=Weak.int a_
theorem cbc {p:Prop} (h:¬p→False):p:=Classical.byContradiction h
theorem i6n (n:Int) (h:-9223372036854775808≤n∧n≤9223372036854775807):IntKind.i64.wrap n=n:=IntWalk.i64_in n h
theorem bft (b:Bool):b=true∨b=false:=Bool.eq_false_or_eq_true b
theorem ret_int {k:IntKind} {a b:Int} (h:a=b):Ending.returned (.int k a)=.returned (.int k b):=by rw[h]
def Rd (w:World) (v:Value) (xs:List Value):Prop :=
 ∃ ao cap,v=.slice ao xs.length cap∧(xs.length≤cap∧cap≤maxLen∧(ao=none→cap=0))∧(xs≠[]→∃ b off,ao=some ⟨b,off,none⟩∧∀ j (h:j<xs.length),w.cell? ⟨b,off+j,none⟩=some xs[j])
theorem Rd.nil (w:World):Rd w (.slice none 0 0) []:=⟨none,0,rfl,⟨AE_ _,CO_ _,fun _=>rfl⟩,fun h=>absurd rfl h⟩
theorem lt_of_cell {w:World} {a:Addr} {v:Value} (h:w.cell? a=some v):a.block<w.heap.size:=World.block_lt_of_cell? w a h
def Own (B:Nat) (w:World) (e:TypeId) (v:Value) (xs:List Value):Prop:=w.ownsRow B e 1 v xs.length xs
theorem Own.nil (B:Nat) (w:World) (e:TypeId):Own B w e (.slice none 0 0) []:=World.ownsRow_nil _ _ _ _
theorem Own.rd {B:Nat} {w:World} {e:TypeId} {v:Value} {xs:List Value} (h:Own B w e v xs):Rd w v xs:=by
 have h0:=h
 obtain ⟨_,hcase⟩:=h
 rcases hcase with ⟨rfl,hn⟩|⟨g,cap,cur,rfl,hg,hh,hn,hcap,hsz,htake⟩
 ·have:xs=[]:=BK_ hn
  subst this
  exact Rd.nil w
 ·refine ⟨_,_,rfl,⟨hn,hcap,by simp⟩,fun _=>⟨g,0,rfl,fun j hj=>?_⟩⟩
  rw[BT_,World.ownsRow.cellAt h0 j a_,AP_ hj]
theorem bl_get {w w':World} (hb:Below w.heap.size w w') {b o:Nat} {v:Value} (h:w.cell? ⟨b,o,none⟩=some v):w'.cell? ⟨b,o,none⟩=some v :=
 (hb.cell (p:=⟨b,o,none⟩) (lt_of_cell h)).trans h
theorem one_new (w:World) (x:Value) (t:TypeId):∀ j u,[x][j]? = some u→(w.alloc (.cells #[x] t)).cell? ((⟨w.heap.size,0,none⟩:Addr).add j)=some u:=by
 intro j u hj
 match j,hj with
 | 0,hj =>
  simp at hj;subst hj
  rw[show (⟨w.heap.size,0,none⟩:Addr).add 0=⟨w.heap.size,0,none⟩ from by simp[Addr.add],World.cell?_alloc_at _ _ _ _ rfl];rfl
theorem one_cell (x:Value) (h:x.oneCell'=true):∀ u∈[x],u.oneCell'=true:=by intro u hu;simp at hu;subst hu;exact h
def Held (p:Prop):Prop:=p
theorem hold {p:Prop} (h:Held p):p:=h
theorem unheld {p:Prop} (h:p):Held p:=h
theorem wpList_app1 {P:Program} {ops:Array Oper} {rest:List Oper} {o:Oper} {a:Act} {Q:Exit→Act→World→Prop} (hgd:o.guard=none) (s x:Operand) (t:TypeId)
  (ho:o.op=.call { callee:=.builtin .append,args := #[s,x],argTypes := #[t,t] })
  (B:Nat) (e:TypeId) (i:TypeInfo) (z:Value) (bytes:Nat) (ht:P.underlying t=some (.slice e)) (hi:P.info? e=some i) (hz:i.zero=some z)
  (hsize:i.size=1) (hby:i.bytes=bytes) (hbs:bytes≤64) (hzs:z.cells.size=1)
  (v:Value) (xs:List Value) (w0:World) (u:Value) (te:TypeId)
  (hown:Own B w0 e v xs) (hs:a.eval s=v) (hx:a.eval x=.slice (some ⟨w0.heap.size,0,none⟩) 1 1) (hu:u.oneCell'=true) (hlen:xs.length+1≤1099511627776) (hB:B≤w0.heap.size)
  (h:∀ v' w',Own B w' e v' (xs++[u])→Below B w0 w'→wpList P ops Q rest (a.put o.dst v') w') :
  wpList P ops Q (o::rest) a (w0.alloc (.cells #[u] te)):=by
 have h63:xs.length+1≤maxLen:=by unfold maxLen;omega
 have hbytes:(xs.length+1)*bytes≤140737488355328:=Nat.le_trans (Nat.mul_le_mul hlen hbs) x_
 refine wpList_append_own _ hgd s x t ho B e i z 1 bytes ht hi hz hsize hby hzs x_ v xs.length xs hs (World.ownsRow.alloc hown _) ⟨w0.heap.size,0,none⟩ 1 1 [u] hx rfl (one_new w0 u te) (one_cell u hu) h63 hbytes j2_ ?_
 intro v' w' hown' hgrow _
 refine h v' w' ?_ ?_
 ·unfold Own;rw[AD_];exact hown'
 ·exact ((Below.refl B w0).alloc hB _).grown hgrow j2_ (fun k hk=>(hown.lt k hk).1)
theorem add_off (b off j:Nat):(⟨b,off,none⟩:Addr).add j=⟨b,off+j,none⟩:=by unfold Addr.add;split<;>simp_all
theorem wf_u8 {n:Int} (h:(Lit.int .u8 n).wf=true):0≤n∧n≤255:=by
 simp only[Lit.wf,IntKind.min,IntKind.max,IntKind.signed,IntKind.bits,P_] at h;simp at h;omega
def At (w:World) (g:Nat) (t:TypeId) (cs:Array Value):Prop:=w.heap[g]? = some (.cells cs t (0,0))
theorem At.cell {w:World} {g:Nat} {t:TypeId} {cs:Array Value} (h:At w g t cs) (i:Nat):w.cell? ⟨g,i,none⟩=cs[i]?:=by
 unfold At at h;simp[World.cell?,h]
theorem At.free {w:World} {g:Nat} {t:TypeId} {cs:Array Value} (h:At w g t cs) (i:Nat):w.frozen? ⟨g,i,none⟩=false:=by
 unfold At at h;simp[World.frozen?,h]
theorem At.lt {w:World} {g:Nat} {t:TypeId} {cs:Array Value} (h:At w g t cs):g<w.heap.size:=(Array.getElem?_eq_some_iff.1 h).1
theorem At.new (w:World) (t:TypeId) (cs:Array Value):At (w.alloc (.cells cs t)) w.heap.size t cs:=by
 show (w.heap.push _)[w.heap.size]? = _
 simp
theorem At.alloc {w:World} {g:Nat} {t:TypeId} {cs:Array Value} (h:At w g t cs) (o:Obj):At (w.alloc o) g t cs:=(Below.heap_alloc w o g h.lt).trans h
theorem At.set {w:World} {g:Nat} {t:TypeId} {cs:Array Value} (h:At w g t cs) (i:Nat) (u:Value):At (w.setCell ⟨g,i,none⟩ u) g t (cs.setIfInBounds i u):=by
 unfold At at h ⊢
 simp[World.setCell,Array.getElem?_modify,h]
theorem At.other {w:World} {g:Nat} {t:TypeId} {cs:Array Value} (h:At w g t cs) {p:Addr} (hp:g≠p.block) (u:Value):At (w.setCell p u) g t cs:=(Below.heap_setCell w p u g hp).trans h
theorem At.row {w:World} {g:Nat} {t:TypeId} {cs:Array Value} (h:At w g t cs) (cs':Array Value):At (w.setRow g cs') g t cs':=setRow_heap w g cs cs' t (0,0) h
theorem bl_row {B g:Nat} {w0 w:World} (hb:Below B w0 w) (hBg:B≤g) (cs:Array Value):Below B w0 (w.setRow g cs):=below_setRow hb hBg cs
theorem wpList_storeNew {P:Program} {ops:Array Oper} {rest:List Oper} {op:Oper} {a:Act} {w0:World} {Q:Exit→Act→World→Prop} (c c':Array Value) (t:TypeId) (hgd:op.guard=none) (x y:Operand) (ho:op.op=.store t x y)
  (hx:a.eval x=.pointer (some ⟨w0.heap.size,0,none⟩)) (hy:a.eval y=.agg c') (hi:(P.info? t).map (·.size)=some c'.size) (hc:c.size=c'.size) (h1:c'.all (·.oneCell')=true)
  (h:wpList P ops Q rest (a.put op.dst undef) (w0.alloc (.cells c' t))):wpList P ops Q (op::rest) a (w0.alloc (.cells c t)) :=
 wpList_plain hgd fun K hK=>by
  unfold Oper.wp execOp
  simp only[ho,hx,hy,Instr.storeAt,Instr.sureAddr,AY_,BZ_,AR_,run_storeVar_new w0 t c c' hi hc h1]
  exact hK _ _ h
theorem mul64_any (x y:Nat) (hx:x<18446744073709551616) (hy:y<18446744073709551616) (w:World) :
  Calls M_ 201 #[.int .u64 x,.int .u64 y] w fun e w'=>e=.returned (.tuple #[.int .u64 ((x*y/18446744073709551616:Nat):Int),.int .u64 ((x*y % 18446744073709551616:Nat):Int)])∧w'=w:=by
 obtain ⟨bd,bt,bw,hhi⟩:=Lib.mul64_hi x y hx hy
 have ba:=Lib.half_mul_le (a:=x/4294967296) (b:=y/4294967296) a_ a_
 have bb:=Lib.half_mul_le (a:=x/4294967296) (b:=y % 4294967296) a_ a_
 have bc:=Lib.half_mul_le (a:=x % 4294967296) (b:=y/4294967296) a_ a_
 have ba':x/4294967296*(y/4294967296)<18446744073709551616:=by omega
 have bb':x/4294967296*(y % 4294967296)<18446744073709551616:=by omega
 have bc':x % 4294967296*(y/4294967296)<18446744073709551616:=by omega
 have bh1:x/4294967296*(y/4294967296)+(x/4294967296*(y % 4294967296)+x % 4294967296*(y % 4294967296)/4294967296)/4294967296<18446744073709551616:=a_
 have bh:x/4294967296*(y/4294967296)+(x/4294967296*(y % 4294967296)+x % 4294967296*(y % 4294967296)/4294967296)/4294967296+((x/4294967296*(y % 4294967296)+x % 4294967296*(y % 4294967296)/4294967296) % 4294967296+x % 4294967296*(y/4294967296))/4294967296<18446744073709551616:=a_
 go_enter Tryz.func201,Tryz.ntmps201
 go_wp2
 simp only[Mul64.maskN x hx,Mul64.maskN y hy,Mul64.divN,Mul64.mulN,Mul64.addN,Mul64.wrapN _ bd,Mul64.wrapN _ bb',Mul64.wrapN _ bt,Mul64.maskN _ bt,Mul64.wrapN _ bc',Mul64.wrapN _ bw,Mul64.wrapN _ ba',Mul64.wrapN _ bh1,Mul64.wrapN _ bh,Mul64.wrapM (x*y)]
 rw[hhi]
 go_ret2
 exact ⟨rfl,rfl⟩
theorem satSize_any (a:Int) (w:World) (a0 : -9223372036854775808≤a) (a1:a≤9223372036854775807) :
  Calls M_ 202 #[.int .i64 a] w fun e w'=>e=.returned (.int .u64 ((a.natAbs:Nat):Int))∧w=w':=by
 by_cases h:a<0
 ·go_enter Tryz.func202,Tryz.ntmps202
  go_wp2
  go_ret
  refine ⟨ret_int ?_,rfl⟩
  rw[IntKind.wrap_u64,IntKind.wrap_u64];omega
 ·have h':0≤a:=by omega
  go_enter Tryz.func202,Tryz.ntmps202
  go_wp2
  go_ret
  refine ⟨ret_int ?_,rfl⟩
  omega
theorem abs_sign (a b:Int):(((a<0)=(b<0))→a*b=((a.natAbs*b.natAbs:Nat):Int))∧((¬ (a<0)=(b<0))→a*b = -((a.natAbs*b.natAbs:Nat):Int)):=by
 rw[Int.natCast_mul]
 rcases Int.lt_or_le a 0 with ha|ha<;>rcases Int.lt_or_le b 0 with hb|hb
 ·rw[show ((a.natAbs:Nat):Int) = -a by omega,show ((b.natAbs:Nat):Int) = -b by omega,Int.neg_mul_neg]
  exact ⟨fun _=>rfl,fun h=>absurd (by simp[ha,hb]) h⟩
 ·rw[show ((a.natAbs:Nat):Int) = -a by omega,show ((b.natAbs:Nat):Int)=b by omega,Int.neg_mul,Int.neg_neg]
  exact ⟨fun h=>by simp[ha] at h;omega,fun _=>rfl⟩
 ·rw[show ((a.natAbs:Nat):Int)=a by omega,show ((b.natAbs:Nat):Int) = -b by omega,Int.mul_neg,Int.neg_neg]
  exact ⟨fun h=>by simp[hb] at h;omega,fun _=>rfl⟩
 ·rw[show ((a.natAbs:Nat):Int)=a by omega,show ((b.natAbs:Nat):Int)=b by omega]
  exact ⟨fun _=>rfl,fun h=>absurd (by simp[show ¬ a<0 by omega,show ¬ b<0 by omega]) h⟩
theorem times_any (a b:Int) (w:World) (a0 : -9223372036854775808≤a) (a1:a≤9223372036854775807) (b0 : -9223372036854775808≤b) (b1:b≤9223372036854775807) :
  Calls M_ 181 #[.int .i64 a,.int .i64 b] w fun e w'=>∃ q r,e=.returned (.tuple #[.int .i64 q,.bool r])∧((r=true∧q=a*b ∧ -9223372036854775808≤a*b∧a*b≤9223372036854775807)∨(r=false∧(a*b < -9223372036854775808∨9223372036854775807<a*b)))∧w=w':=by
 obtain ⟨hs1,hs2⟩:=abs_sign a b
 obtain ⟨x,hx⟩:∃ x,x=a.natAbs:=⟨_,rfl⟩
 obtain ⟨y,hy⟩:∃ y,y=b.natAbs:=⟨_,rfl⟩
 have hxb:x<18446744073709551616:=a_
 have hyb:y<18446744073709551616:=a_
 rw[←hx,←hy] at hs1 hs2
 obtain ⟨m,hm⟩:∃ m,m=a*b:=⟨_,rfl⟩
 rw[←hm] at hs1 hs2 ⊢
 obtain ⟨H,hH⟩:∃ H,H=x*y/18446744073709551616:=⟨_,rfl⟩
 obtain ⟨L,hL⟩:∃ L,L=x*y % 18446744073709551616:=⟨_,rfl⟩
 have hp:x*y=18446744073709551616*H+L:=by rw[hH,hL];exact (Nat.div_add_mod _ _).symm
 have hLb:L<18446744073709551616:=by rw[hL];exact Nat.mod_lt _ x_
 have hM:=Lib.hid (mul64_any x y hxb hyb w)
 rw[←hH,←hL] at hM
 have hS1:=Lib.hid (satSize_any a w a0 a1)
 have hS2:=Lib.hid (satSize_any b w b0 b1)
 rw[←hx] at hS1
 rw[←hy] at hS2
 rw[hp] at hs1 hs2
 have K1:=Lib.hid hs1;have K2:=Lib.hid hs2
 clear hs1 hs2 hp hH hL hm hx hy
 by_cases h1:H=0
 ·subst h1
  have e1:(((0:Nat):Int) != 0)=false:=rfl
  have e1':(((0:Nat):Int)==0)=true:=rfl
  rcases Int.lt_or_le a 0 with ha|ha<;>rcases Int.lt_or_le b 0 with hb|hb
  ·skip
   have da:decide (a<0)=true:=y2_
   have db:decide (b<0)=true:=y2_
   have hm:=K1.out (by simp only[eq_iff_iff];omega)
   by_cases hL:L≤9223372036854775807
   ·have d1:decide ((9223372036854775808:Int)<(L:Int))=false:=x2_
    have d2:((L:Int)==9223372036854775808)=false:=by rw[H_];omega
    go_enter Tryz.func181,DR_
    go_wp2_with fail
    refine hS1.out.mono ?_
    rintro e w' ⟨rfl,rfl⟩
    go_wp2_with fail
    refine hS2.out.mono ?_
    rintro e w' ⟨rfl,rfl⟩
    go_wp2_with fail
    refine hM.out.mono ?_
    rintro e w' ⟨rfl,rfl⟩
    go_wp2_with fail
    go_ret2
    refine ⟨_,true,rfl,.inl ⟨rfl,?_,?_,?_⟩,rfl⟩<;>first|omega|(simp[wrap64];omega)
   ·by_cases hL2:L=9223372036854775808
    ·subst hL2
     have d1:decide ((9223372036854775808:Int)<((9223372036854775808:Nat):Int))=false:=x_
     have d2:(((9223372036854775808:Nat):Int)==9223372036854775808)=true:=x_
     go_enter Tryz.func181,DR_
     go_wp2_with fail
     refine hS1.out.mono ?_
     rintro e w' ⟨rfl,rfl⟩
     go_wp2_with fail
     refine hS2.out.mono ?_
     rintro e w' ⟨rfl,rfl⟩
     go_wp2_with fail
     refine hM.out.mono ?_
     rintro e w' ⟨rfl,rfl⟩
     go_wp2_with fail
     go_ret2
     exact ⟨_,_,rfl,.inr ⟨rfl,by omega⟩,rfl⟩
    ·have d1:decide ((9223372036854775808:Int)<(L:Int))=true:=y2_
     go_enter Tryz.func181,DR_
     go_wp2_with fail
     refine hS1.out.mono ?_
     rintro e w' ⟨rfl,rfl⟩
     go_wp2_with fail
     refine hS2.out.mono ?_
     rintro e w' ⟨rfl,rfl⟩
     go_wp2_with fail
     refine hM.out.mono ?_
     rintro e w' ⟨rfl,rfl⟩
     go_wp2_with fail
     go_ret2
     exact ⟨_,_,rfl,.inr ⟨rfl,by omega⟩,rfl⟩
  ·skip
   have da:decide (a<0)=true:=y2_
   have db:decide (b<0)=false:=x2_
   have hm:=K2.out (by simp only[eq_iff_iff];omega)
   by_cases hL:L≤9223372036854775807
   ·have d1:decide ((9223372036854775808:Int)<(L:Int))=false:=x2_
    have d2:((L:Int)==9223372036854775808)=false:=by rw[H_];omega
    go_enter Tryz.func181,DR_
    go_wp2_with fail
    refine hS1.out.mono ?_
    rintro e w' ⟨rfl,rfl⟩
    go_wp2_with fail
    refine hS2.out.mono ?_
    rintro e w' ⟨rfl,rfl⟩
    go_wp2_with fail
    refine hM.out.mono ?_
    rintro e w' ⟨rfl,rfl⟩
    go_wp2_with fail
    go_ret2
    refine ⟨_,true,rfl,.inl ⟨rfl,?_,?_,?_⟩,rfl⟩<;>first|omega|(simp only[IntKind.wrap_u64];unfold wrap64;omega)
   ·by_cases hL2:L=9223372036854775808
    ·subst hL2
     have d1:decide ((9223372036854775808:Int)<((9223372036854775808:Nat):Int))=false:=x_
     have d2:(((9223372036854775808:Nat):Int)==9223372036854775808)=true:=x_
     go_enter Tryz.func181,DR_
     go_wp2_with fail
     refine hS1.out.mono ?_
     rintro e w' ⟨rfl,rfl⟩
     go_wp2_with fail
     refine hS2.out.mono ?_
     rintro e w' ⟨rfl,rfl⟩
     go_wp2_with fail
     refine hM.out.mono ?_
     rintro e w' ⟨rfl,rfl⟩
     go_wp2_with fail
     go_ret2
     refine ⟨_,true,rfl,.inl ⟨rfl,?_,?_,?_⟩,rfl⟩<;>first|omega|(rw[IntKind.wrap_u64];unfold wrap64;omega)
    ·have d1:decide ((9223372036854775808:Int)<(L:Int))=true:=y2_
     go_enter Tryz.func181,DR_
     go_wp2_with fail
     refine hS1.out.mono ?_
     rintro e w' ⟨rfl,rfl⟩
     go_wp2_with fail
     refine hS2.out.mono ?_
     rintro e w' ⟨rfl,rfl⟩
     go_wp2_with fail
     refine hM.out.mono ?_
     rintro e w' ⟨rfl,rfl⟩
     go_wp2_with fail
     go_ret2
     exact ⟨_,_,rfl,.inr ⟨rfl,by omega⟩,rfl⟩
  ·skip
   have da:decide (a<0)=false:=x2_
   have db:decide (b<0)=true:=y2_
   have hm:=K2.out (by simp only[eq_iff_iff];omega)
   by_cases hL:L≤9223372036854775807
   ·have d1:decide ((9223372036854775808:Int)<(L:Int))=false:=x2_
    have d2:((L:Int)==9223372036854775808)=false:=by rw[H_];omega
    go_enter Tryz.func181,DR_
    go_wp2_with fail
    refine hS1.out.mono ?_
    rintro e w' ⟨rfl,rfl⟩
    go_wp2_with fail
    refine hS2.out.mono ?_
    rintro e w' ⟨rfl,rfl⟩
    go_wp2_with fail
    refine hM.out.mono ?_
    rintro e w' ⟨rfl,rfl⟩
    go_wp2_with fail
    go_ret2
    refine ⟨_,true,rfl,.inl ⟨rfl,?_,?_,?_⟩,rfl⟩<;>first|omega|(simp only[IntKind.wrap_u64];unfold wrap64;omega)
   ·by_cases hL2:L=9223372036854775808
    ·subst hL2
     have d1:decide ((9223372036854775808:Int)<((9223372036854775808:Nat):Int))=false:=x_
     have d2:(((9223372036854775808:Nat):Int)==9223372036854775808)=true:=x_
     go_enter Tryz.func181,DR_
     go_wp2_with fail
     refine hS1.out.mono ?_
     rintro e w' ⟨rfl,rfl⟩
     go_wp2_with fail
     refine hS2.out.mono ?_
     rintro e w' ⟨rfl,rfl⟩
     go_wp2_with fail
     refine hM.out.mono ?_
     rintro e w' ⟨rfl,rfl⟩
     go_wp2_with fail
     go_ret2
     refine ⟨_,true,rfl,.inl ⟨rfl,?_,?_,?_⟩,rfl⟩<;>first|omega|(rw[IntKind.wrap_u64];unfold wrap64;omega)
    ·have d1:decide ((9223372036854775808:Int)<(L:Int))=true:=y2_
     go_enter Tryz.func181,DR_
     go_wp2_with fail
     refine hS1.out.mono ?_
     rintro e w' ⟨rfl,rfl⟩
     go_wp2_with fail
     refine hS2.out.mono ?_
     rintro e w' ⟨rfl,rfl⟩
     go_wp2_with fail
     refine hM.out.mono ?_
     rintro e w' ⟨rfl,rfl⟩
     go_wp2_with fail
     go_ret2
     exact ⟨_,_,rfl,.inr ⟨rfl,by omega⟩,rfl⟩
  ·skip
   have da:decide (a<0)=false:=x2_
   have db:decide (b<0)=false:=x2_
   have hm:=K1.out (by simp only[eq_iff_iff];omega)
   by_cases hL:L≤9223372036854775807
   ·have d1:decide ((9223372036854775808:Int)<(L:Int))=false:=x2_
    have d2:((L:Int)==9223372036854775808)=false:=by rw[H_];omega
    go_enter Tryz.func181,DR_
    go_wp2_with fail
    refine hS1.out.mono ?_
    rintro e w' ⟨rfl,rfl⟩
    go_wp2_with fail
    refine hS2.out.mono ?_
    rintro e w' ⟨rfl,rfl⟩
    go_wp2_with fail
    refine hM.out.mono ?_
    rintro e w' ⟨rfl,rfl⟩
    go_wp2_with fail
    go_ret2
    refine ⟨_,true,rfl,.inl ⟨rfl,?_,?_,?_⟩,rfl⟩<;>first|omega|(simp[wrap64];omega)
   ·by_cases hL2:L=9223372036854775808
    ·subst hL2
     have d1:decide ((9223372036854775808:Int)<((9223372036854775808:Nat):Int))=false:=x_
     have d2:(((9223372036854775808:Nat):Int)==9223372036854775808)=true:=x_
     go_enter Tryz.func181,DR_
     go_wp2_with fail
     refine hS1.out.mono ?_
     rintro e w' ⟨rfl,rfl⟩
     go_wp2_with fail
     refine hS2.out.mono ?_
     rintro e w' ⟨rfl,rfl⟩
     go_wp2_with fail
     refine hM.out.mono ?_
     rintro e w' ⟨rfl,rfl⟩
     go_wp2_with fail
     go_ret2
     exact ⟨_,_,rfl,.inr ⟨rfl,by omega⟩,rfl⟩
    ·have d1:decide ((9223372036854775808:Int)<(L:Int))=true:=y2_
     go_enter Tryz.func181,DR_
     go_wp2_with fail
     refine hS1.out.mono ?_
     rintro e w' ⟨rfl,rfl⟩
     go_wp2_with fail
     refine hS2.out.mono ?_
     rintro e w' ⟨rfl,rfl⟩
     go_wp2_with fail
     refine hM.out.mono ?_
     rintro e w' ⟨rfl,rfl⟩
     go_wp2_with fail
     go_ret2
     exact ⟨_,_,rfl,.inr ⟨rfl,by omega⟩,rfl⟩
 ·have e1:((H:Int) != 0)=true:=by rw[J_];omega
  have e1':((H:Int)==0)=false:=by rw[H_];omega
  have hbig:m < -9223372036854775808∨9223372036854775807<m:=by
   by_cases h:(a<0)=(b<0)
   ·have:=K1.out h;omega
   ·have:=K2.out h;omega
  clear h1
  go_enter Tryz.func181,DR_
  go_wp2_with fail
  refine hS1.out.mono ?_
  rintro e w' ⟨rfl,rfl⟩
  go_wp2_with fail
  refine hS2.out.mono ?_
  rintro e w' ⟨rfl,rfl⟩
  go_wp2_with fail
  refine hM.out.mono ?_
  rintro e w' ⟨rfl,rfl⟩
  go_wp2_with fail
  go_ret2
  exact ⟨_,_,rfl,.inr ⟨rfl,hbig⟩,rfl⟩
def elems (h w c:Int):Int:=if 1≤h∧h≤16∧1≤w∧w≤16∧1≤c∧c≤1024∧h*w*c≤1024 then h*w*c else 0
theorem elems_bd (h w c:Int):0≤elems h w c∧elems h w c≤1024:=by
 unfold elems
 split
 ·rename_i hh
  obtain ⟨h1,h2,w1,w2,c1,c2,hp⟩:=hh
  exact ⟨CC_ (CC_ a_ a_) a_,hp⟩
 ·omega
def prodTo:List Int→Int→Option Int
 | [],n=>some n
 | x::l,n=>if 1≤x∧n*x≤1024 then prodTo l (n*x) else none
theorem prodTo_elems (h w c:Int) (h16:h≤16) (w16:w≤16):(prodTo [h,w,c] 1).getD 0=elems h w c:=by
 unfold elems
 simp only[prodTo,Int.one_mul]
 by_cases h1:1≤h
 ·by_cases w1:1≤w
  ·by_cases c1:1≤c
   ·have p1:1≤h*w:=by have:=Int.mul_le_mul h1 w1 a_ a_;simpa using this
    have p2:c≤h*w*c:=by have:=DO_ p1 (s_ (0≤c));simpa using this
    have p3:h*w≤h*w*c:=by have:=Int.mul_le_mul_of_nonneg_left c1 (s_ (0≤h*w));simpa using this
    by_cases hp:h*w*c≤1024
    ·rw[i_ ⟨h1,by omega⟩,i_ ⟨w1,by omega⟩,i_ ⟨c1,hp⟩,i_ ⟨h1,h16,w1,w16,c1,by omega,hp⟩];rfl
    ·rw[j_ (c:=1≤h∧h≤16∧_) (fun x=>hp x.2.2.2.2.2.2)]
     split
     ·split
      ·rw[j_ (fun x=>hp x.2)];rfl
      ·rfl
     ·rfl
   ·rw[j_ (c:=1≤h∧h≤16∧_) (fun x=>c1 x.2.2.2.2.1)]
    split
    ·split
     ·rw[j_ (fun x=>c1 x.1)];rfl
     ·rfl
    ·rfl
  ·rw[j_ (c:=1≤h∧h≤16∧_) (fun x=>w1 x.2.2.1)]
   split
   ·rw[j_ (fun x=>w1 x.1)];rfl
   ·rfl
 ·rw[j_ (c:=1≤h∧h≤16∧_) (fun x=>h1 x.1),j_ (fun x=>h1 x.1)];rfl
theorem product_any (x y z:Int) (w:World) (x0 : -9223372036854775808≤x) (x1:x≤9223372036854775807) (y0 : -9223372036854775808≤y) (y1:y≤9223372036854775807) (z0 : -9223372036854775808≤z) (z1:z≤9223372036854775807) :
  Calls M_ 151 #[.agg #[.int .i64 x,.int .i64 y,.int .i64 z]] w fun e w'=>e=.returned (.int .i64 ((prodTo [x,y,z] 1).getD 0))∧Below w.heap.size w w':=by
 go_enter Tryz.func151,Tryz.ntmps151
 go_wp2_with fail
 obtain ⟨w1,hw1⟩:∃ w1,w1=w.alloc (.cells #[.int .i64 x,.int .i64 y,.int .i64 z] 255):=⟨_,rfl⟩
 have ha:=At.new w 255 #[.int .i64 x,.int .i64 y,.int .i64 z]
 have hb1:Below w.heap.size w w1:=by rw[hw1];exact (Below.refl _ _).alloc (AE_ _) _
 rw[←hw1] at ha ⊢
 clear hw1
 go_loop [2,3,4,5,6,7] (fun r n _ _ _ i=>∃ (k:Nat) (N:Int),r=.int .i64 0∧i=.int .i64 k∧k≤3∧n=.int .i64 N∧1≤N∧N≤1024∧prodTo ([x,y,z].drop k) N=prodTo [x,y,z] 1) (fun _ _ _ _ _ i=>3-(intOf i).toNat)
 case atStart=>exact ⟨0,1,rfl,rfl,by omega,rfl,by omega,by omega,rfl⟩
 case round =>
  obtain ⟨k,N,rfl,rfl,hk,rfl,N0,N1,hp⟩:=hrel
  by_cases hlt:k<3
  ·obtain ⟨v,hv,v0,v1,hd⟩:∃ v,w1.cell? ⟨w.heap.size,k,none⟩=some (.int .i64 v) ∧ -9223372036854775808≤v∧v≤9223372036854775807∧[x,y,z].drop k=v::[x,y,z].drop (k+1):=by
    match k,hlt with
    | 0,_=>exact ⟨x,ha.cell 0,x0,x1,rfl⟩
    | 1,_=>exact ⟨y,ha.cell 1,y0,y1,rfl⟩
    | 2,_=>exact ⟨z,ha.cell 2,z0,z1,rfl⟩
   rw[hd] at hp
   have HP:=Lib.hid hp
   have kk0:(0:Int)≤(k:Int):=a_
   have kk1:(k:Int)<3:=a_
   clear hp hd
   go_wp2_with fail
   refine (times_any N v _ a_ a_ v0 v1).mono ?_
   rintro e w' ⟨q,r,rfl,hqr,rfl⟩
   rcases hqr with ⟨rfl,rfl,q0,q1⟩|⟨rfl,hq⟩
   ·by_cases hv1:v<1
    ·have HN:Hid ((prodTo [x,y,z] 1).getD 0=0):=by
      refine Lib.hid ?_
      rw[←HP.out];simp only[prodTo];rw[j_ a_];rfl
     go_wp2_with fail
     go_ret
     exact ⟨by rw[HN.out];rfl,hb1⟩
    ·by_cases hb:1024<N*v
     ·have HN:Hid ((prodTo [x,y,z] 1).getD 0=0):=by
       refine Lib.hid ?_
       rw[←HP.out];simp only[prodTo];rw[j_ a_];rfl
      go_wp2_with fail
      go_ret
      exact ⟨by rw[HN.out];rfl,hb1⟩
     ·have hpos:1≤N*v:=by have:=Int.mul_le_mul N0 (s_ (1≤v)) a_ a_;simpa using this
      go_wp2_with fail
      go_round
      case rel=>exact ⟨k+1,N*v,rfl,by go_num,by omega,rfl,hpos,by omega,by rw[←HP.out];simp only[prodTo];rw[i_ a_]⟩
      case measure=>simp[intOf];omega
   ·have HN:Hid ((prodTo [x,y,z] 1).getD 0=0):=by
     refine Lib.hid ?_
     rw[←HP.out];simp only[prodTo];rw[j_ ?_];rfl
     intro hh
     have:0≤N*v:=CC_ a_ a_
     omega
    go_wp2_with fail
    go_ret
    exact ⟨by rw[HN.out];rfl,hb1⟩
  ·obtain rfl:k=3:=by omega
   have hp':some N=prodTo [x,y,z] 1:=hp
   have HN:Hid ((prodTo [x,y,z] 1).getD 0=N):=by refine Lib.hid ?_;rw[←hp'];rfl
   clear hp hp'
   go_wp2_with fail
   go_ret
   exact ⟨by rw[HN.out];rfl,hb1⟩
theorem elems_any (h x c:Int) (w:World) (h0 : -9223372036854775808≤h) (h1:h≤9223372036854775807) (x0 : -9223372036854775808≤x) (x1:x≤9223372036854775807) (c0 : -9223372036854775808≤c) (c1:c≤9223372036854775807) :
  Calls M_ 126 #[.agg #[.int .i64 h,.int .i64 x,.int .i64 c]] w fun e w'=>e=.returned (.int .i64 (elems h x c))∧Below w.heap.size w w':=by
 by_cases hh:16<h
 ·have HE:Hid (elems h x c=0):=by refine Lib.hid ?_;unfold elems;rw[j_ a_]
  go_enter Tryz.func126,Tryz.ntmps126
  go_wp2
  go_ret
  exact ⟨by rw[HE.out];rfl,(Below.refl _ _).alloc (AE_ _) _⟩
 ·by_cases hx:16<x
  ·have HE:Hid (elems h x c=0):=by refine Lib.hid ?_;unfold elems;rw[j_ a_]
   go_enter Tryz.func126,Tryz.ntmps126
   go_wp2
   go_ret
   exact ⟨by rw[HE.out];rfl,(Below.refl _ _).alloc (AE_ _) _⟩
  ·have HE:=Lib.hid (prodTo_elems h x c a_ a_)
   go_enter Tryz.func126,Tryz.ntmps126
   go_wp2_with fail
   refine (product_any h x c _ h0 h1 x0 x1 c0 c1).mono ?_
   rintro e w' ⟨rfl,hb⟩
   rw[HE.out]
   go_wp2
   go_ret
   exact ⟨rfl,((Below.refl _ _).alloc (AE_ _) _).trans (hb.mono v0_)⟩
theorem refElems_any (h x c:Int) (w:World) (h0 : -9223372036854775808≤h) (h1:h≤9223372036854775807) (x0 : -9223372036854775808≤x) (x1:x≤9223372036854775807) (c0 : -9223372036854775808≤c) (c1:c≤9223372036854775807) :
  Calls M_ 44 #[.agg #[.int .i64 h,.int .i64 x,.int .i64 c]] w fun e w'=>e=.returned (.int .i64 (elems h x c))∧Below w.heap.size w w':=by
 by_cases hr:1≤h∧h≤16∧1≤x∧x≤16∧1≤c∧c≤1024
 ·obtain ⟨a1,a2,a3,a4,a5,a6⟩:=hr
  have p1:h*x≤256:=by have:=Int.mul_le_mul a2 a4 a_ a_;simpa using this
  have p0:1≤h*x:=by have:=Int.mul_le_mul a1 a3 a_ a_;simpa using this
  have q1:h*x*c≤262144:=by have:=Int.mul_le_mul p1 a6 a_ a_;simpa using this
  have q0:0≤h*x*c:=CC_ a_ a_
  by_cases hp:1024<h*x*c
  ·have HE:Hid (elems h x c=0):=by refine Lib.hid ?_;unfold elems;rw[j_ (fun y=>by have:=y.2.2.2.2.2.2;omega)]
   go_enter Tryz.func44,Tryz.ntmps44
   go_wp2
   go_ret
   exact ⟨by rw[HE.out];rfl,(Below.refl _ _).alloc (AE_ _) _⟩
  ·have HE:Hid (elems h x c=h*x*c):=by refine Lib.hid ?_;unfold elems;rw[i_ ⟨a1,a2,a3,a4,a5,a6,by omega⟩]
   go_enter Tryz.func44,Tryz.ntmps44
   go_wp2
   go_ret
   exact ⟨by rw[HE.out];rfl,(Below.refl _ _).alloc (AE_ _) _⟩
 ·have HE:Hid (elems h x c=0):=by refine Lib.hid ?_;unfold elems;rw[j_ (fun y=>hr ⟨y.1,y.2.1,y.2.2.1,y.2.2.2.1,y.2.2.2.2.1,y.2.2.2.2.2.1⟩)]
  have hor:h<1∨(1≤h∧16<h)∨(1≤h∧h≤16∧x<1)∨(1≤h∧h≤16∧1≤x∧16<x)∨(1≤h∧h≤16∧1≤x∧x≤16∧c<1)∨(1≤h∧h≤16∧1≤x∧x≤16∧1≤c∧1024<c):=a_
  clear hr
  rcases hor with g|⟨g1,g⟩|⟨g1,g2,g⟩|⟨g1,g2,g3,g⟩|⟨g1,g2,g3,g4,g⟩|⟨g1,g2,g3,g4,g5,g⟩
  all_goals
   go_enter Tryz.func44,Tryz.ntmps44
   go_wp2
   go_ret
   exact ⟨by rw[HE.out];rfl,(Below.refl _ _).alloc (AE_ _) _⟩
def rn (m s:Nat):Nat:=if s=0 then m else m/2 ^ s+m/2 ^ (s-1) % 2
def rnd (v s:Int):Int:=if s<0∨62<s then 0 else if 0≤v then (rn v.toNat s.toNat:Int) else -(rn (-v).toNat s.toNat:Int)
theorem rn_succ (m s:Nat):rn m (s+1)=(m/2 ^ s+1)/2:=by
 unfold rn
 rw[j_ a_,Nat.add_sub_cancel,Nat.pow_succ,←Nat.div_div_eq_div_mul]
 omega
theorem rn_le (m s:Nat):rn m s≤m:=by
 by_cases hs:s=0
 ·subst hs;simp[rn]
 ·obtain ⟨t,rfl⟩:∃ t,s=t+1:=⟨s-1,by omega⟩
  rw[rn_succ]
  have:=Nat.div_le_self m (2 ^ t)
  omega
theorem rnd_abs (v s:Int) : -(v.natAbs:Int)≤rnd v s∧rnd v s≤v.natAbs:=by
 unfold rnd
 split
 ·omega
 ·split
  ·have:=rn_le v.toNat s.toNat;omega
  ·have:=rn_le (-v).toNat s.toNat;omega
theorem rnd_bd (v s:Int) (B:Int) (h1 : -B≤v) (h2:v≤B) : -B≤rnd v s∧rnd v s≤B:=by
 have:=rnd_abs v s;omega
theorem ref_round (v:Int) (s:Nat) :
  (if 0≤v.tmod (2 ^ s)∧(2:Int) ^ s-v.tmod (2 ^ s)≤v.tmod (2 ^ s)∧(1:Int)<2 ^ s then v.tdiv (2 ^ s)+1
   else if v.tmod (2 ^ s)<0∧(2:Int) ^ s+v.tmod (2 ^ s) ≤ -v.tmod (2 ^ s) then v.tdiv (2 ^ s)-1 else v.tdiv (2 ^ s)) =
  if 0≤v then (rn v.toNat s:Int) else -(rn (-v).toNat s:Int):=by
 have hp:(0:Int)<2 ^ s:=Int.pow_pos x_
 have key:∀ m:Nat,(rn m s:Int)=if (2:Int) ^ s-(m:Int) % 2 ^ s≤(m:Int) % 2 ^ s∧(1:Int)<2 ^ s then (m:Int)/2 ^ s+1 else (m:Int)/2 ^ s:=by
  intro m
  have e:((2:Int) ^ s)=((2 ^ s:Nat):Int):=v0_
  rw[e]
  by_cases hs:s=0
  ·subst hs;simp[rn]
  ·obtain ⟨t,rfl⟩:∃ t,s=t+1:=⟨s-1,by omega⟩
   have e2:2 ^ (t+1)=2*2 ^ t:=by rw[Nat.pow_succ];omega
   have hz:=Nat.two_pow_pos t
   unfold rn
   rw[j_ a_,Nat.add_sub_cancel]
   have h1:=Nat.div_add_mod m (2 ^ (t+1))
   have h2:=Nat.mod_lt m (Nat.two_pow_pos (t+1))
   have hb:m/2 ^ t % 2=if 2 ^ t≤m % 2 ^ (t+1) then 1 else 0:=by
    rw[e2] at h1 h2 ⊢
    have h3:m/2 ^ t=2*(m/(2*2 ^ t))+(m % (2*2 ^ t))/2 ^ t:=by
     conv=>lhs;rw[←h1]
     rw[Nat.mul_assoc,Nat.mul_comm (2 ^ t) (m/(2*2 ^ t)),←Nat.mul_assoc,Nat.add_comm,Nat.add_mul_div_right _ _ hz,Nat.add_comm]
    rw[h3]
    split
    ·rename_i h
     have:m % (2*2 ^ t)/2 ^ t=1:=Nat.div_eq_of_lt_le a_ a_
     omega
    ·rename_i h
     have:m % (2*2 ^ t)/2 ^ t=0:=Nat.div_eq_of_lt a_
     omega
   rw[hb]
   have c1:((m:Int) % ((2 ^ (t+1):Nat):Int))=((m % 2 ^ (t+1):Nat):Int):=v0_
   have c2:((m:Int)/((2 ^ (t+1):Nat):Int))=((m/2 ^ (t+1):Nat):Int):=v0_
   rw[c1,c2]
   generalize m % 2 ^ (t+1)=R at *
   generalize m/2 ^ (t+1)=D at *
   rw[e2] at *
   generalize 2 ^ t=Z at *
   split<;>split<;>omega
 by_cases hv:0≤v
 ·rw[i_ hv,CF_ hv,BH_ hv,key v.toNat,Int.toNat_of_nonneg hv]
  have h1:=Int.emod_nonneg v (s_ ((2:Int) ^ s≠0))
  generalize v % 2 ^ s=R at *
  generalize (2:Int) ^ s=Z at *
  by_cases hc:Z-R≤R∧1<Z
  ·rw[i_ ⟨h1,hc⟩,i_ hc]
  ·rw[j_ (fun h=>hc h.2),j_ a_,j_ hc]
 ·rw[j_ hv]
  obtain ⟨u,rfl⟩:∃ u,v = -u:=⟨-v,by omega⟩
  have hu:0≤u:=a_
  rw[Int.neg_neg,Int.neg_tmod,Int.neg_tdiv,CF_ hu,BH_ hu,key u.toNat,Int.toNat_of_nonneg hu]
  have h1:=Int.emod_nonneg u (s_ ((2:Int) ^ s≠0))
  have h3:(2:Int) ^ s=1→u % 2 ^ s=0:=fun h=>by rw[h];omega
  generalize u % 2 ^ s=R at *
  generalize u/2 ^ s=D at *
  generalize (2:Int) ^ s=Z at *
  split<;>split<;>(try split)<;>omega
def clampI (v lo hi:Int):Int:=if v<lo then lo else if hi<v then hi else v
def rightQ (mult shift:Int):Bool:=decide (0<mult)&&decide (0≤shift)&&decide (shift≤62)
def heldQ (acc mult shift zero lo hi:Int):Int:=if rightQ mult shift=true then clampI (rnd (acc*mult) shift+zero) lo hi else 0
theorem and_bit (x k:Nat):(x &&& 2 ^ k)/2 ^ k=x/2 ^ k % 2:=by
 rw[Nat.and_div_two_pow,Nat.div_self (Nat.two_pow_pos k),Nat.and_one_is_mod]
theorem satHeld_any (v lo hi:Int) (w:World):Calls M_ 219 #[.int .i64 v,.int .i64 lo,.int .i64 hi] w fun e w'=>e=.returned (.int .i64 (clampI v lo hi))∧w=w':=by
 by_cases h1:v<lo
 ·have e:clampI v lo hi=lo:=by unfold clampI;rw[i_ h1]
  rw[e];clear e
  go_enter Tryz.func219,Tryz.ntmps219
  go_wp2
  go_ret
  exact ⟨rfl,rfl⟩
 ·by_cases h2:hi<v
  ·have e:clampI v lo hi=hi:=by unfold clampI;rw[j_ h1,i_ h2]
   rw[e];clear e
   go_enter Tryz.func219,Tryz.ntmps219
   go_wp2
   go_ret
   exact ⟨rfl,rfl⟩
  ·have e:clampI v lo hi=v:=by unfold clampI;rw[j_ h1,j_ h2]
   rw[e];clear e
   go_enter Tryz.func219,Tryz.ntmps219
   go_wp2
   go_ret
   exact ⟨rfl,rfl⟩
theorem refHeld01_any (v lo hi:Int) (w:World):Calls M_ 172 #[.int .i64 v,.int .i64 lo,.int .i64 hi] w fun e w'=>e=.returned (.int .i64 (clampI v lo hi))∧w=w':=by
 by_cases h1:v<lo
 ·have e:clampI v lo hi=lo:=by unfold clampI;rw[i_ h1]
  rw[e];clear e
  go_enter Tryz.func172,Tryz.ntmps172
  go_wp2
  go_ret
  exact ⟨rfl,rfl⟩
 ·by_cases h2:hi<v
  ·have e:clampI v lo hi=hi:=by unfold clampI;rw[j_ h1,i_ h2]
   rw[e];clear e
   go_enter Tryz.func172,Tryz.ntmps172
   go_wp2
   go_ret
   exact ⟨rfl,rfl⟩
  ·have e:clampI v lo hi=v:=by unfold clampI;rw[j_ h1,j_ h2]
   rw[e];clear e
   go_enter Tryz.func172,Tryz.ntmps172
   go_wp2
   go_ret
   exact ⟨rfl,rfl⟩
theorem wp_scope_fwd {P:Program} {a:Act} {w:World} {Q:Exit→Act→World→Prop} {c rest:Code} (l:Nat) (hf:findLabel c l=some rest)
  (h:c.wp P (Exit.jump l (fun a w=>rest.wp P (Exit.noGoto Q) a w) Q) a w):(Code.scope c).wp P Q a w :=
 wp_scope_jumps l (fun a w=>rest.wp P (Exit.noGoto Q) a w) (fun _ _=>0) hf h fun a w hJ=>wp_mono hJ fun e a w hq=>by
  cases e<;>first|exact hq|exact hq.elim
theorem jump_ret {l:Nat} {J:Act→World→Prop} {Q:Exit→Act→World→Prop}:Exit.jump l J Q .ret=Q .ret:=rfl
theorem rnd_pos (v s:Int) (hv:0≤v) (h0:0≤s) (h1:s≤62):rnd v s=(rn v.toNat s.toNat:Int):=by unfold rnd;rw[j_ a_,i_ hv]
theorem rnd_below (v s:Int) (hv:v<0) (h0:0≤s) (h1:s≤62):rnd v s = -(rn (-v).toNat s.toNat:Int):=by unfold rnd;rw[j_ a_,j_ a_]
theorem rn_bits (m t:Nat) (hm:m≤9223372036854775808) (h1:1≤t) (h2:t≤62) :
  (m:Int)/2 ^ t+bits BinOp.and IntKind.u64 (m:Int) (IntKind.u64.wrap (2 ^ (t-1)))/2 ^ (t-1)=(rn m t:Int):=by
 have hp:2 ^ (t-1)≤2 ^ 62:=Nat.pow_le_pow_right x_ a_
 generalize hH:2 ^ (t-1)=H at hp
 have e1:IntKind.u64.wrap (2 ^ (t-1))=((2 ^ (t-1):Nat):Int):=by
  rw[show ((2:Int) ^ (t-1))=((2 ^ (t-1):Nat):Int) from by simp,hH]
  exact DQ_ _ a_
 rw[e1,hH,u64_and_nat _ _ a_ a_,←hH]
 unfold rn
 rw[j_ a_,←and_bit]
 simp
theorem u64_neg_eq (v:Int) (h0 : -9223372036854775808≤v) (h1:v<0):IntKind.u64.wrap (-IntKind.u64.wrap v)=(((-v).toNat:Nat):Int):=by
 simp only[IntKind.wrap_u64];omega
theorem back_neg (r:Nat) (h:r≤9223372036854775808):wrap64 (IntKind.u64.wrap (-(r:Int))) = -(r:Int):=by
 simp only[IntKind.wrap_u64,wrap64];omega
theorem round_any (v s:Int) (w:World) (h0 : -9223372036854775808≤v) (h1:v≤9223372036854775807) :
  Calls M_ 221 #[.int .i64 v,.int .i64 s] w fun e w'=>e=.returned (.int .i64 (rnd v s))∧∃ n,w'=w.drewN n:=by
 by_cases hs:s<0
 ·have e:rnd v s=0:=by unfold rnd;rw[i_ (.inl hs)]
  rw[e];clear e
  go_enter Tryz.func221,Tryz.ntmps221
  go_wp2
  refine wp_scope_fwd 0 rfl ?_
  go_wp2
  (try rw[jump_ret])
  go_ret
  exact ⟨rfl,0,rfl⟩
 ·by_cases hs2:62<s
  ·have e:rnd v s=0:=by unfold rnd;rw[i_ (.inr hs2)]
   rw[e];clear e
   go_enter Tryz.func221,Tryz.ntmps221
   go_wp2
   refine wp_scope_fwd 0 rfl ?_
   go_wp2
   (try rw[jump_ret])
   go_ret
   exact ⟨rfl,0,rfl⟩
  ·by_cases hv:0≤v
   ·by_cases hs0:s=0
    ·subst hs0
     go_enter Tryz.func221,Tryz.ntmps221
     go_wp2
     refine wp_scope_fwd 0 rfl ?_
     go_wp2
     go_step3
     refine ⟨rfl,?_⟩
     go_wp2
     (try rw[Exit.noGoto_ret])
     go_ret
     refine ⟨ret_int ?_,0,rfl⟩
     rw[rnd_pos v 0 hv a_ a_];simp[rn];omega
    ·have hs1:1≤s:=a_
     go_enter Tryz.func221,Tryz.ntmps221
     go_wp2
     refine wp_scope_fwd 0 rfl ?_
     go_wp2
     go_step3
     refine ⟨rfl,?_⟩
     go_wp2
     go_quiet (fail)
     go_wp2
     (try rw[Exit.noGoto_ret])
     go_ret
     refine ⟨?_,nq,rfl⟩
     rw[rnd_pos v s hv a_ a_]
     obtain ⟨m,rfl⟩:=CL_ hv
     have e:=rn_bits m s.toNat a_ a_ a_
     have hle:=rn_le m s.toNat
     exact ret_int (by rw[e,AF_,DQ_ ((rn m s.toNat:Nat):Int) ⟨by omega,by omega⟩,IntWalk.wrap64_in _ ⟨by omega,by omega⟩])
   ·by_cases hs0:s=0
    ·subst hs0
     go_enter Tryz.func221,Tryz.ntmps221
     go_wp2
     refine wp_scope_fwd 0 rfl ?_
     go_wp2
     go_step3
     go_wp2
     (try rw[jump_ret])
     go_ret
     refine ⟨?_,0,rfl⟩
     rw[rnd_below v 0 a_ a_ a_]
     exact ret_int (by rw[u64_neg_eq v h0 a_,back_neg _ a_];simp[rn])
    ·have hs1:1≤s:=a_
     go_enter Tryz.func221,Tryz.ntmps221
     go_wp2
     refine wp_scope_fwd 0 rfl ?_
     go_wp2
     go_step3
     go_wp2
     go_quiet (fail)
     go_wp2
     (try rw[jump_ret])
     go_ret
     refine ⟨?_,nq,rfl⟩
     rw[rnd_below v s a_ a_ a_]
     have e:=rn_bits (-v).toNat s.toNat a_ a_ a_
     have hle:=rn_le (-v).toNat s.toNat
     exact ret_int (by rw[u64_neg_eq v h0 a_,e,DQ_ ((rn (-v).toNat s.toNat:Nat):Int) ⟨by omega,by omega⟩,back_neg _ a_])
theorem neg_facts (v P:Int) (hv:v<0) (hP:1≤P):v≤v.tdiv P∧v.tdiv P≤0 ∧ -P<v.tmod P∧v.tmod P≤0∧(1<P→v≤2*v.tdiv P):=by
 obtain ⟨u,rfl⟩:∃ u,v = -u:=⟨-v,by omega⟩
 have hu:0≤u:=a_
 rw[Int.neg_tmod,Int.neg_tdiv,CF_ hu,BH_ hu]
 have h1:=Int.emod_nonneg u (s_ (P≠0))
 have h2:=Int.emod_lt_of_pos u (s_ (0<P))
 have h3:=Int.ediv_nonneg hu (s_ (0≤P))
 have h4:=Int.ediv_le_self P hu
 refine ⟨by omega,by omega,by omega,by omega,fun h=>?_⟩
 have h5:=Int.mul_ediv_self_le (x:=u) (k:=P) a_
 have h6:2*(u/P)≤P*(u/P):=DO_ a_ h3
 omega
theorem pos_facts (v P:Int) (hv:0≤v) (hP:1≤P):0≤v/P∧v/P≤v∧0≤v % P∧v % P<P∧(1<P→2*(v/P)≤v):=by
 have h1:=Int.emod_nonneg v (s_ (P≠0))
 have h2:=Int.emod_lt_of_pos v (s_ (0<P))
 have h3:=Int.ediv_nonneg hv (s_ (0≤P))
 have h4:=Int.ediv_le_self P hv
 refine ⟨by omega,by omega,by omega,by omega,fun h=>?_⟩
 have h5:=Int.mul_ediv_self_le (x:=v) (k:=P) a_
 have h6:2*(v/P)≤P*(v/P):=DO_ a_ h3
 omega
theorem refRound_any (v s:Int) (w:World) (h0 : -9223372036854775808≤v) (h1:v≤9223372036854775807) :
  Calls M_ 171 #[.int .i64 v,.int .i64 s] w fun e w'=>e=.returned (.int .i64 (rnd v s))∧∃ n,w'=w.drewN n:=by
 by_cases hs:s<0
 ·have e:rnd v s=0:=by unfold rnd;rw[i_ (.inl hs)]
  rw[e];clear e
  go_enter Tryz.func171,Tryz.ntmps171
  go_wp2
  go_ret
  exact ⟨rfl,0,rfl⟩
 ·by_cases hs2:62<s
  ·have e:rnd v s=0:=by unfold rnd;rw[i_ (.inr hs2)]
   rw[e];clear e
   go_enter Tryz.func171,Tryz.ntmps171
   go_wp2
   go_ret
   exact ⟨rfl,0,rfl⟩
  ·obtain ⟨t,rfl⟩:=CL_ (s_ (0≤s))
   have ht:t≤62:=a_
   have hr:=Lib.hid (ref_round v t)
   have hrd:=Lib.hid (show rnd v (t:Int)=if 0≤v then (rn v.toNat t:Int) else -(rn (-v).toNat t:Int) by unfold rnd;rw[j_ a_,AF_])
   clear hs hs2
   go_enter Tryz.func171,Tryz.ntmps171
   go_wp2
   go_loop [5,6] (fun p i=>∃ k:Nat,i=.int .i64 k∧k≤t∧p=.int .i64 (2 ^ k)) (fun _ i=>t-(intOf i).toNat)
   case atStart=>exact ⟨0,rfl,by omega,rfl⟩
   case round =>
    obtain ⟨k,rfl,hk,rfl⟩:=hrel
    have hp1:(1:Int)≤2 ^ k:=Int.add_one_le_iff.2 (Int.pow_pos x_)
    have hp2:(2:Int) ^ k≤4611686018427387904:=by
     have:2 ^ k≤2 ^ 62:=Nat.pow_le_pow_right x_ a_
     have e:((2:Int) ^ k)=((2 ^ k:Nat):Int):=v0_
     rw[e];omega
    by_cases hlt:k<t
    ·obtain ⟨P,hP⟩:∃ P:Int,P=2 ^ k:=⟨_,rfl⟩
     have hp3:(2:Int) ^ k≤2305843009213693952:=by
      have:2 ^ k≤2 ^ 61:=Nat.pow_le_pow_right x_ a_
      have e:((2:Int) ^ k)=((2 ^ k:Nat):Int):=v0_
      rw[e];omega
     rw[←hP] at hp1 hp2 hp3 ⊢
     have HP:=Lib.hid hP;clear hP
     go_wp2
     go_round
     case rel=>exact ⟨k+1,by go_num,by omega,by rw[HP.out,Int.pow_succ]⟩
     case measure=>simp[intOf];omega
    ·obtain rfl:k=t:=by omega
     obtain ⟨P,hP⟩:∃ P:Int,P=2 ^ k:=⟨_,rfl⟩
     have hr':=hr.out
     rw[←hP] at hp1 hp2 hr' ⊢
     have HR:Hid (rnd v (k:Int)=_):=Lib.hid (hrd.out.trans hr'.symm)
     have HP:=Lib.hid hP;clear hP hr' hr hrd
     by_cases hv:0≤v
     ·obtain ⟨f1,f2,f3,f4,f5⟩:=pos_facts v P hv hp1
      by_cases hc:P-v % P≤v % P
      ·have f6:1<P:=a_
       have f7:=f5 f6
       clear f5
       go_wp2
       go_quiet (fail)
       go_wp2
       go_ret
       refine ⟨ret_int ?_,nq,rfl⟩
       rw[HR.out,CF_ hv,BH_ hv,i_ ⟨f3,hc,f6⟩]
      ·clear f5
       go_wp2
       go_quiet (fail)
       go_wp2
       go_ret
       refine ⟨ret_int ?_,nq,rfl⟩
       rw[HR.out,CF_ hv,BH_ hv,j_ a_,j_ a_]
     ·obtain ⟨f1,f2,f3,f4,f5⟩:=neg_facts v P a_ hp1
      have e1:wrap64 (v.tdiv P)=v.tdiv P:=IntWalk.wrap64_in _ ⟨by omega,by omega⟩
      by_cases hc:P+v.tmod P ≤ -v.tmod P
      ·have f6:1<P:=a_
       have f7:=f5 f6
       have f8:v.tmod P<0:=a_
       clear f5
       go_wp2
       go_quiet (fail)
       go_wp2
       go_ret
       refine ⟨ret_int ?_,nq,rfl⟩
       rw[HR.out,j_ a_,i_ ⟨f8,hc⟩]
      ·clear f5
       by_cases f8:v.tmod P<0
       ·go_wp2
        go_quiet (fail)
        go_wp2
        go_ret
        refine ⟨ret_int ?_,nq,rfl⟩
        rw[HR.out,j_ a_,j_ a_]
       ·go_wp2
        go_quiet (fail)
        go_wp2
        go_ret
        refine ⟨ret_int ?_,nq,rfl⟩
        rw[HR.out,j_ a_,j_ a_]
theorem scale_any (a m s:Int) (w:World) (a0 : -2147483648≤a) (a1:a≤2147483647) (m0 : -2147483648≤m) (m1:m≤2147483647) :
  Calls M_ 220 #[.int .i32 a,.int .i32 m,.int .i64 s] w fun e w'=>e=.returned (.int .i64 (rnd (a*m) s))∧∃ n,w'=w.drewN n:=by
 have hb : -4611686018427387904≤a*m∧a*m≤4611686018427387904:=by
  constructor
  ·have h1:(a.natAbs*m.natAbs:Nat)≤2147483648*2147483648:=Nat.mul_le_mul a_ a_
   have:=Int.natAbs_mul a m
   omega
  ·have h1:(a.natAbs*m.natAbs:Nat)≤2147483648*2147483648:=Nat.mul_le_mul a_ a_
   have:=Int.natAbs_mul a m
   omega
 obtain ⟨b0,b1⟩:=hb
 go_enter Tryz.func220,Tryz.ntmps220
 go_wp2_with fail
 refine (round_any _ _ _ a_ a_).mono ?_
 rintro e w1 ⟨rfl,n,rfl⟩
 go_wp2
 go_ret
 exact ⟨rfl,n,rfl⟩
theorem clamp_any (v lo hi:Int) (w:World) (l0 : -128≤lo) (l1:lo≤127) (k0 : -128≤hi) (k1:hi≤127) :
  Calls M_ 213 #[.int .i64 v,.int .i8 lo,.int .i8 hi] w fun e w'=>e=.returned (.int .i8 (clampI v lo hi))∧w=w':=by
 have hb : -128≤clampI v lo hi∧clampI v lo hi≤127:=by unfold clampI;split<;>(try split)<;>omega
 obtain ⟨b0,b1⟩:=hb
 go_enter Tryz.func213,Tryz.ntmps213
 go_wp2_with fail
 refine (satHeld_any _ _ _ _).mono ?_
 rintro e w1 ⟨rfl,rfl⟩
 go_wp2
 go_ret
 exact ⟨rfl,rfl⟩
theorem right_any (m s z:Int) (w:World):Calls M_ 164 #[.agg #[.int .i32 m,.int .i64 s,.int .i8 z]] w fun e w'=>e=.returned (.bool (rightQ m s))∧Below w.heap.size w w':=by
 by_cases h1:0<m
 ·by_cases h2:0≤s
  ·by_cases h3:s≤62
   ·have e:rightQ m s=true:=by unfold rightQ;simp[h1,h2,h3]
    rw[e];clear e
    go_enter Tryz.func164,Tryz.ntmps164
    go_wp2
    go_ret
    exact ⟨rfl,(Below.refl _ _).alloc (AE_ _) _⟩
   ·have e:rightQ m s=false:=by unfold rightQ;simp[h3]
    rw[e];clear e
    go_enter Tryz.func164,Tryz.ntmps164
    go_wp2
    go_ret
    exact ⟨rfl,(Below.refl _ _).alloc (AE_ _) _⟩
  ·have e:rightQ m s=false:=by unfold rightQ;simp[h2]
   rw[e];clear e
   go_enter Tryz.func164,Tryz.ntmps164
   go_wp2
   go_ret
   exact ⟨rfl,(Below.refl _ _).alloc (AE_ _) _⟩
 ·have e:rightQ m s=false:=by unfold rightQ;simp[h1]
  rw[e];clear e
  go_enter Tryz.func164,Tryz.ntmps164
  go_wp2
  go_ret
  exact ⟨rfl,(Below.refl _ _).alloc (AE_ _) _⟩
theorem refRight_any (m s z:Int) (w:World):Calls M_ 113 #[.agg #[.int .i32 m,.int .i64 s,.int .i8 z]] w fun e w'=>e=.returned (.bool (rightQ m s))∧Below w.heap.size w w':=by
 by_cases h1:0<m
 ·by_cases h2:0≤s
  ·by_cases h3:s≤62
   ·have e:rightQ m s=true:=by unfold rightQ;simp[h1,h2,h3]
    rw[e];clear e
    go_enter Tryz.func113,Tryz.ntmps113
    go_wp2
    go_ret
    exact ⟨rfl,(Below.refl _ _).alloc (AE_ _) _⟩
   ·have e:rightQ m s=false:=by unfold rightQ;simp[h3]
    rw[e];clear e
    go_enter Tryz.func113,Tryz.ntmps113
    go_wp2
    go_ret
    exact ⟨rfl,(Below.refl _ _).alloc (AE_ _) _⟩
  ·have e:rightQ m s=false:=by unfold rightQ;simp[h2]
   rw[e];clear e
   go_enter Tryz.func113,Tryz.ntmps113
   go_wp2
   go_ret
   exact ⟨rfl,(Below.refl _ _).alloc (AE_ _) _⟩
 ·have e:rightQ m s=false:=by unfold rightQ;simp[h1]
  rw[e];clear e
  go_enter Tryz.func113,Tryz.ntmps113
  go_wp2
  go_ret
  exact ⟨rfl,(Below.refl _ _).alloc (AE_ _) _⟩
theorem mul_bd32 (a m:Int) (a0 : -2147483648≤a) (a1:a≤2147483647) (m0 : -2147483648≤m) (m1:m≤2147483647) : -4611686018427387904≤a*m∧a*m≤4611686018427387904:=by
 have h1:(a.natAbs*m.natAbs:Nat)≤2147483648*2147483648:=Nat.mul_le_mul a_ a_
 have:=Int.natAbs_mul a m
 omega
theorem held_any (a m s z lo hi:Int) (w:World) (a0 : -2147483648≤a) (a1:a≤2147483647) (m0 : -2147483648≤m) (m1:m≤2147483647) (z0 : -128≤z) (z1:z≤127) (l0 : -128≤lo) (l1:lo≤127) (k0 : -128≤hi) (k1:hi≤127) :
  Calls M_ 215 #[.int .i32 a,.agg #[.int .i32 m,.int .i64 s,.int .i8 z],.int .i8 lo,.int .i8 hi] w fun e w'=>e=.returned (.int .i8 (heldQ a m s z lo hi))∧Below w.heap.size w w':=by
 have hb:=mul_bd32 a m a0 a1 m0 m1
 have hr:=rnd_bd (a*m) s 4611686018427387904 hb.1 hb.2
 obtain ⟨r0,r1⟩:=hr
 cases hq:rightQ m s with
 | false =>
  have e:heldQ a m s z lo hi=0:=by unfold heldQ;rw[hq];simp
  rw[e];clear e
  have HQ:=Lib.hid hq;clear hq
  go_enter Tryz.func215,Tryz.ntmps215
  go_wp2_with fail
  refine (right_any _ _ _ _).mono ?_
  rintro e w1 ⟨rfl,hb1⟩
  rw[HQ.out]
  go_wp2
  go_ret
  exact ⟨rfl,((Below.refl _ _).alloc (AE_ _) _).trans (hb1.mono v0_)⟩
 | true =>
  have e:heldQ a m s z lo hi=clampI (rnd (a*m) s+z) lo hi:=by unfold heldQ;rw[hq];simp
  rw[e];clear e
  have HQ:=Lib.hid hq;clear hq
  go_enter Tryz.func215,Tryz.ntmps215
  go_wp2_with fail
  refine (right_any _ _ _ _).mono ?_
  rintro e w1 ⟨rfl,hb1⟩
  rw[HQ.out]
  have c0:=bl_get hb1 (b:=w.heap.size) (o:=0) (v:=.int .i32 m) (by rw[World.cell?_alloc_at _ _ _ _ rfl];rfl)
  have c1:=bl_get hb1 (b:=w.heap.size) (o:=1) (v:=.int .i64 s) (by rw[World.cell?_alloc_at _ _ _ _ rfl];rfl)
  have c2:=bl_get hb1 (b:=w.heap.size) (o:=2) (v:=.int .i8 z) (by rw[World.cell?_alloc_at _ _ _ _ rfl];rfl)
  go_wp2_with fail
  go_quiet (first|(go_at_call 220;refine Calls.quiet_of (scale_any _ _ _ _ a0 a1 m0 m1))|(go_at_call 213;refine Calls.quiet_of_same ((clamp_any _ _ _ _ l0 l1 k0 k1).mono fun _ _ h=>⟨h.1,h.2.symm⟩)))
  go_wp2
  go_ret
  refine ⟨rfl,below_drewN (((Below.refl _ _).alloc (AE_ _) _).trans (hb1.mono v0_)) _⟩
abbrev In64 (n:Int):Prop := -9223372036854775808≤n∧n≤9223372036854775807
abbrev In32 (n:Int):Prop := -2147483648≤n∧n≤2147483647
abbrev In8 (n:Int):Prop := -128≤n∧n≤127
structure Nod where
 kd:Int
 na:Int
 nb:Int
 nk:Int
 ns:Int
 np:Int
 no:Int
 za:Int
 zb:Int
 w:List Int
 b:List Int
 qm:Int
 qs:Int
 qz:Int
 rm:Int
 rs:Int
 rz:Int
 lo:Int
 hi:Int
abbrev nodC (n:Nod):List AV:=[i64 n.kd,i64 n.na,i64 n.nb,i64 n.nk,i64 n.ns,i64 n.np,i64 n.no,i8 n.za,i8 n.zb,ints .i8 n.w,ints .i32 n.b,i32 n.qm,i64 n.qs,i8 n.qz,i32 n.rm,i64 n.rs,i8 n.rz,i8 n.lo,i8 n.hi]
abbrev nod (n:Nod):AV:=.agg (nodC n)
structure Nod.Ok (n:Nod):Prop where
 kd:In64 n.kd
 na:In64 n.na
 nb:In64 n.nb
 nk:In64 n.nk
 ns:In64 n.ns
 np:In64 n.np
 no:In64 n.no
 za:In8 n.za
 zb:In8 n.zb
 w:∀ v∈n.w,In8 v
 b:∀ v∈n.b,In32 v
 qm:In32 n.qm
 qs:In64 n.qs
 qz:In8 n.qz
 rm:In32 n.rm
 rs:In64 n.rs
 rz:In8 n.rz
 lo:In8 n.lo
 hi:In8 n.hi
theorem elems_v (h x c:Int) (hh:In64 h) (hx:In64 x) (hc:In64 c):VC M_ 126 [.agg [i64 h,i64 x,i64 c]] (i64 (elems h x c)) :=
 VC.ofCalls (x:=.int .i64 (elems h x c)) rfl rfl fun w=>elems_any h x c w hh.1 hh.2 hx.1 hx.2 hc.1 hc.2
theorem refElems_v (h x c:Int) (hh:In64 h) (hx:In64 x) (hc:In64 c):VC M_ 44 [.agg [i64 h,i64 x,i64 c]] (i64 (elems h x c)) :=
 VC.ofCalls (x:=.int .i64 (elems h x c)) rfl rfl fun w=>refElems_any h x c w hh.1 hh.2 hx.1 hx.2 hc.1 hc.2
theorem right_v (m s z:Int):VC M_ 164 [.agg [i32 m,i64 s,i8 z]] (bv (rightQ m s)) :=
 VC.ofCalls (x:=.bool (rightQ m s)) rfl rfl fun w=>right_any m s z w
theorem refRight_v (m s z:Int):VC M_ 113 [.agg [i32 m,i64 s,i8 z]] (bv (rightQ m s)) :=
 VC.ofCalls (x:=.bool (rightQ m s)) rfl rfl fun w=>refRight_any m s z w
theorem held_v (a m s z lo hi:Int) (ha:In32 a) (hm:In32 m) (hz:In8 z) (hl:In8 lo) (hh:In8 hi):VC M_ 215 [i32 a,.agg [i32 m,i64 s,i8 z],i8 lo,i8 hi] (i8 (heldQ a m s z lo hi)) :=
 VC.ofCalls (x:=.int .i8 (heldQ a m s z lo hi)) rfl rfl fun w=>held_any a m s z lo hi w ha.1 ha.2 hm.1 hm.2 hz.1 hz.2 hl.1 hl.2 hh.1 hh.2
theorem refRound_v (v s:Int) (h:In64 v):VC M_ 171 [i64 v,i64 s] (i64 (rnd v s)) :=
 VC.ofCalls (x:=.int .i64 (rnd v s)) rfl rfl fun w=>(refRound_any v s w h.1 h.2).mono fun _ _ ⟨he,n,hn⟩=>⟨he,hn▸below_drewN (Below.refl _ _) n⟩
theorem refSatHeld_v (v lo hi:Int):VC M_ 172 [i64 v,i64 lo,i64 hi] (i64 (clampI v lo hi)) :=
 VC.ofSame (x:=.int .i64 (clampI v lo hi)) rfl rfl fun w=>refHeld01_any v lo hi w
theorem clamp_v (v lo hi:Int) (hl:In8 lo) (hh:In8 hi):VC M_ 213 [i64 v,i8 lo,i8 hi] (i8 (clampI v lo hi)) :=
 VC.ofSame (x:=.int .i8 (clampI v lo hi)) rfl rfl fun w=>clamp_any v lo hi w hl.1 hl.2 hh.1 hh.2
theorem scale_v (a m s:Int) (ha:In32 a) (hm:In32 m):VC M_ 220 [i32 a,i32 m,i64 s] (i64 (rnd (a*m) s)) :=
 VC.ofCalls (x:=.int .i64 (rnd (a*m) s)) rfl rfl fun w=>(scale_any a m s w ha.1 ha.2 hm.1 hm.2).mono fun _ _ ⟨he,n,hn⟩=>⟨he,hn▸below_drewN (Below.refl _ _) n⟩
theorem Own.form {B:Nat} {w:World} {e:TypeId} {v:Value} {xs:List Value} (h:Own B w e v xs) (hne:xs≠[]) :
  ∃ g cap,v=.slice (some ⟨g,0,none⟩) xs.length cap∧xs.length≤cap∧cap≤maxLen∧B≤g∧g<w.heap.size∧(∀ j (hj:j<xs.length),w.cell? ⟨g,j,none⟩=some xs[j])∧(∀ j,w.frozen? ⟨g,j,none⟩=false) ∧
   ∀ i (u:Value),i<xs.length→Own B (w.setCell ⟨g,i,none⟩ u) e v (xs.set i u):=by
 have h0:=h
 obtain ⟨hl,hcase⟩:=h
 rcases hcase with ⟨rfl,hn⟩|⟨g,cap,cur,rfl,hg,hh,hn,hcap,hsz,htake⟩
 ·exact absurd (BK_ hn) hne
 ·rw[Nat.mul_one] at hsz htake
  refine ⟨g,cap,rfl,hn,hcap,hg,(Array.getElem?_eq_some_iff.1 hh).1,fun j hj=>?_,fun j=>by simp[World.frozen?,hh],fun i u hi=>?_⟩
  ·rw[World.ownsRow.cellAt h0 j a_,AP_ hj]
  ·refine ⟨by simp,.inr ⟨g,cap,cur.setIfInBounds i u,by simp,hg,?_,by simpa using hn,hcap,by simpa using hsz,?_⟩⟩
   ·simp[World.setCell,Array.getElem?_modify,hh]
   ·rw[Nat.mul_one,Array.toList_setIfInBounds,BF_]
    rw[←htake]
    simp only[BL_,Array.length_toList]
    rw[show min xs.length cur.size=xs.length from by omega]
    rw[List.take_set]
def RelL (w:World) (l:List AV) (vs:List Value):Prop:=vs.length=l.length∧∀ (i:Nat) (c:AV) (v:Value),l[i]? = some c→vs[i]? = some v→Rel (fun _=>none) (fun _=>False) w c v
theorem RelL.nil (w:World):RelL w [] []:=⟨rfl,fun i c v h=>by simp at h⟩
theorem RelL.cons {w:World} {c:AV} {v:Value} {l:List AV} {vs:List Value} (h:Rel (fun _=>none) (fun _=>False) w c v) (hl:RelL w l vs):RelL w (c::l) (v::vs):=⟨by simp[hl.1],fun i a b ha hb=>by
 cases i with
 | zero=>simp at ha hb;subst ha hb;exact h
 | succ i=>exact hl.2 i a b (by simpa using ha) t1_⟩
theorem law_of {P:Program} {f:Nat} {args:List AV} {xs:List Value} {w:World} (h:VC P f args (bv true)) (hr:RelL w args xs):Calls P f xs.toArray w fun e w'=>e=.returned (.bool true)∧Below w.heap.size w w' :=
 (h (fun _=>False) w xs (fun _ h=>h.elim) hr.1 hr.2).mono fun e w' ⟨x,he,hx,hb⟩=>⟨by rw[he,rel_lit hx],hb⟩
def RdN (c:Nat) (w:World) (v:Value) (rs:List (List Value)):Prop :=
 (∀ r∈rs,r.length=c)∧∃ ao cap,v=.slice ao rs.length cap∧(rs.length≤cap∧cap≤maxLen∧(ao=none→cap=0)) ∧
  (rs≠[]→∃ b off,ao=some ⟨b,off,none⟩∧∀ j r i u,rs[j]? = some r→r[i]? = some u→w.cell? ⟨b,off+j*c+i,none⟩=some u)
theorem RdN.nil (c:Nat) (w:World):RdN c w (.slice none 0 0) []:=⟨by simp,none,0,rfl,⟨AE_ _,CO_ _,fun _=>rfl⟩,fun h=>absurd rfl h⟩
section
open Go.ChangeShapes Go.WideShapes
section
variable {H:Type} {enc:TypeId×Value→H} {P:Program} {w:World} {sp:Nat→Bool} {held:Bool}
def Can {H:Type} (enc:TypeId×Value→H) (P:Program) (w:World) (sp:Nat→Bool) (held:Bool) (t:TypeId) (cs:List Value):Prop:=∃ m x,DataW.trod enc P w 0 sp held m t cs=some x
theorem Can.of {t:TypeId} {v:Value} {d:DataW H} {p:List MemPlace} (h:DataW.Trod enc P w 0 sp held t v d p):Can enc P w sp held t v.cells.toList:=by
 obtain ⟨m,h⟩:=h;exact ⟨m,_,h⟩
theorem Can.int {t:TypeId} {k:IntKind} {c:Value} (ht:P.underlying t=some (.int k)) (h:Can enc P w sp held t [c]):∃ n,c=.int k n∧(Lit.int k n).wf=true:=by
 obtain ⟨m,x,h⟩:=h
 obtain ⟨n,hc,_,hw⟩:=DataW.trod_int ht h
 exact ⟨n,by simpa using hc,hw⟩
theorem Can.slice {t e:TypeId} {v:Value} {c:Nat} (ht:P.underlying t=some (.slice e)) (hc:P.cellsOf e=c) (hc0:0<c) (h:Can enc P w sp held t [v]) :
  ∃ rs:List (List Value),RdN c w v rs∧∀ r∈rs,Can enc P w sp held e r:=by
 obtain ⟨m0,x,h⟩:=h
 rcases Go.Deep.open_slice ht h with ⟨hcs,_⟩|⟨a,len,cap,m,n,D,Pl,hcs,_,hl,hm,hmm,_,hel⟩
 ·simp only[List.cons.injEq,and_true] at hcs
  rw[hcs];exact ⟨[],RdN.nil _ _,by simp⟩
 ·simp only[List.cons.injEq,and_true] at hcs
  subst hcs
  have hlm:len≤m:=by rw[hmm];split<;>omega
  have hel':∀ i:Nat,∃ r:List Value,i<len→w.cells? 0 (a.add (i*c)) c=some r∧Can enc P w sp held e r:=by
   intro i
   by_cases hi:i<len
   ·obtain ⟨cs',h1,h2⟩:=hel i a_
    rw[hc] at h1
    exact ⟨cs',fun _=>⟨h1,n,_,h2⟩⟩
   ·exact ⟨[],fun h=>absurd h hi⟩
  obtain ⟨R,hR⟩:∃ R:Nat→List Value,∀ i,i<len→w.cells? 0 (a.add (i*c)) c=some (R i)∧Can enc P w sp held e (R i):=⟨fun i=>Classical.choose (hel' i),fun i=>Classical.choose_spec (hel' i)⟩
  have key:∀ i,i<len→(R i).length=c∧∀ k,k<c→w.cell? ((a.add (i*c)).add k)=(R i)[k]?:=by
   intro i hi
   have:=World.cells?_some (hR i hi).1
   exact ⟨this.2.1,this.2.2⟩
  refine ⟨(List.range len).map R,⟨?_,some a,cap,by simp,⟨by simpa using hl,hm,by simp⟩,fun hne=>?_⟩,?_⟩
  ·intro r hr
   obtain ⟨i,hi,rfl⟩:=List.mem_map.1 hr
   exact (key i (List.mem_range.1 hi)).1
  ·have h0:0<len:=by
    rcases Nat.eq_zero_or_pos len with h0|h0
    ·subst h0;simp at hne
    ·exact h0
   obtain ⟨b,off,spot⟩:=a
   have g0:=(key 0 h0).2 0 hc0
   have hlt:0<(R 0).length:=by rw[(key 0 h0).1];exact hc0
   rw[AP_ hlt] at g0
   have hs:spot=none:=by simpa [Addr.add] using World.cell?_spot g0
   subst hs
   refine ⟨b,off,rfl,fun j r i u hj hi=>?_⟩
   rw[AX_] at hj
   obtain ⟨j',hj',rfl⟩:=Option.map_eq_some_iff.1 hj
   obtain ⟨hjl,rfl⟩:j<len∧j'=j:=by
    have:=List.getElem?_eq_some_iff.1 hj'
    obtain ⟨h1,h2⟩:=this
    simp at h1 h2;exact ⟨h1,h2.symm⟩
   have hic:i<c:=by have:=(List.getElem?_eq_some_iff.1 hi).1;rw[(key j' hjl).1] at this;exact this
   have:=(key j' hjl).2 i hic
   rw[hi,add_off,add_off] at this
   rw[←this]
  ·intro r hr
   obtain ⟨i,hi,rfl⟩:=List.mem_map.1 hr
   exact (hR i (List.mem_range.1 hi)).2
end
end
section
open Go.ChangeShapes Go.WideShapes
def CellsAre (w:World) (l:List AV) (cs:List Value):Prop:=cs.length=l.length∧∀ (i:Nat) (a:AV) (v:Value),l[i]? = some a→cs[i]? = some v→PRel (fun _=>False) w a v∧v.oneCell'=true
theorem CellsAre.one {w:World} {a:AV} {v:Value} (h:PRel (fun _=>False) w a v) (h1:v.oneCell'=true):CellsAre w [a] [v]:=⟨rfl,fun i x y hx hy=>by
 cases i with
 | zero=>simp at hx hy;subst hx hy;exact ⟨h,h1⟩
 | succ i=>simp at hx⟩
theorem CellsAre.rel {w:World} {l:List AV} {cs:List Value} (h:CellsAre w l cs):RelL w l cs:=⟨h.1,fun i a v ha hv=>.pure (h.2 i a v ha hv).1⟩
theorem CellsAre.val {w:World} {a:AV} {v:Value} (h:CellsAre w [a] [v]):Rel (fun _=>none) (fun _=>False) w a v:=h.rel.2 0 a v rfl rfl
section
variable {H:Type} (enc:TypeId×Value→H) (P:Program) (w:World)
def Rdr (t:TypeId) (D:Type) (av:D→List AV) (ok:D→Prop):Prop:=∀ cs,Can enc P w (fun _=>true) true t cs→cs.length=P.cellsOf t→∃ d,ok d∧CellsAre w (av d) cs
variable {enc P w}
theorem one_of_len {cs:List Value} (h:cs.length=1):∃ c,cs=[c]:=by
 match cs,h with
 | [c],_=>exact ⟨c,rfl⟩
theorem Rdr.int {t:TypeId} {k:IntKind} {ok:Int→Prop} (ht:P.underlying t=some (.int k)) (hc:P.cellsOf t=1) (hk:∀ n,(Lit.int k n).wf=true→ok n):Rdr enc P w t Int (fun n=>[.lit (.int k n)]) ok:=fun cs h hl=>by
 obtain ⟨c,rfl⟩:=one_of_len (hl.trans hc)
 obtain ⟨n,rfl,hw⟩:=Can.int ht h
 exact ⟨n,hk n hw,.one (.lit _) rfl⟩
theorem Rdr.slice {t e:TypeId} {c:Nat} {D:Type} {av:D→List AV} {ok:D→Prop} (ht:P.underlying t=some (.slice e)) (hct:P.cellsOf t=1) (hc:P.cellsOf e=c) (hc0:0<c) (h:Rdr enc P w e D av ok) :
  Rdr enc P w t (List D) (fun l=>[.sl c (l.map av)]) (fun l=>∀ d∈l,ok d):=fun cs hcan hl=>by
 obtain ⟨v,rfl⟩:=one_of_len (hl.trans hct)
 obtain ⟨rs,⟨hlen,ao,cap,rfl,⟨h1,h2,h3⟩,hcell⟩,hr⟩:=Can.slice ht hc hc0 hcan
 have hds:∀ (rs:List (List Value)),(∀ r∈rs,r.length=c)→(∀ r∈rs,Can enc P w (fun _=>true) true e r)→∃ l:List D,l.length=rs.length∧(∀ d∈l,ok d)∧∀ (i:Nat) (d:D) (r:List Value),l[i]? = some d→rs[i]? = some r→CellsAre w (av d) r:=by
  intro rs
  induction rs with
  | nil=>intro _ _;exact ⟨[],rfl,by simp,by simp⟩
  | cons r rs ih =>
   intro hl hr
   obtain ⟨d,g1,g2⟩:=h r (hr r v0_) ((hl r v0_).trans hc.symm)
   obtain ⟨l,g3,g4,g5⟩:=ih (fun q hq=>hl q (by simp[hq])) (fun q hq=>hr q (by simp[hq]))
   refine ⟨d::l,by simp[g3],fun x hx=>?_,fun i x q hx hq=>?_⟩
   ·rcases List.mem_cons.1 hx with rfl|hx
    ·exact g1
    ·exact g4 x hx
   ·cases i with
    | zero=>simp at hx hq;subst hx hq;exact g2
    | succ i=>exact g5 i x q (by simpa using hx) (by simpa using hq)
 obtain ⟨l,g1,g2,g3⟩:=hds rs hlen hr
 refine ⟨l,g2,.one ?_ rfl⟩
 by_cases hne:rs=[]
 ·subst hne
  have:l=[]:=BK_ g1
  subst this
  exact .nil c h2 h3
 ·obtain ⟨b,off,rfl,hcv⟩:=hcell hne
  have hlm:rs.length=(l.map av).length:=by rw[V_,g1]
  rw[hlm]
  have get:∀ (i:Nat) (q:List AV),(l.map av)[i]? = some q→∃ (r:List Value),rs[i]? = some r∧CellsAre w q r∧r.length=c:=by
   intro i q hq
   rw[AX_,AT_] at hq
   obtain ⟨d,hd,rfl⟩:=hq
   have hi:i<rs.length:=by rw[←g1];exact (List.getElem?_eq_some_iff.1 hd).1
   exact ⟨rs[i],AP_ hi,g3 i d _ hd (AP_ hi),hlen _ (CN_ hi)⟩
  have cell:∀ (i:Nat) (q:List AV) (j:Nat) (a:AV),(l.map av)[i]? = some q→q[j]? = some a→w.cell? ⟨b,off+i*c+j,none⟩=some (((rs[i]?).getD [])[j]?.getD undef)∧PRel (fun _=>False) w a (((rs[i]?).getD [])[j]?.getD undef)∧(((rs[i]?).getD [])[j]?.getD undef).oneCell'=true:=by
   intro i q j a hq ha
   obtain ⟨r,hr,hca,_⟩:=get i q hq
   have hj:j<r.length:=by rw[hca.1];exact (List.getElem?_eq_some_iff.1 ha).1
   rw[hr,CR_,AP_ hj,CR_]
   have:=hca.2 j a _ ha (AP_ hj)
   exact ⟨hcv i r j _ hr (AP_ hj),this.1,this.2⟩
  refine .sl (fun i j=>((rs[i]?).getD [])[j]?.getD undef) (fun _ h=>h) (fun hn=>?_) (by rw[←hlm];exact h1) h2 (fun i q hq=>?_) (fun i q j a hq ha=>(cell i q j a hq ha).1) (fun i q j a hq ha=>(cell i q j a hq ha).2.1) (fun i q j a hq ha=>(cell i q j a hq ha).2.2)
  ·have h0:0<rs.length:=List.length_pos_iff.2 hne
   have hl0:0<(rs[0]).length:=by rw[hlen _ (CN_ h0)];exact hc0
   exact World.block_lt_of_cell? w _ (hcv 0 rs[0] 0 _ (AP_ h0) (AP_ hl0))
  ·obtain ⟨r,_,hca,hrl⟩:=get i q hq
   rw[←hca.1,hrl]
theorem Rdr.oneV {t:TypeId} {D:Type} {a:D→AV} {ok:D→Prop} {v:Value} {d:DataW H} {p:List MemPlace} (h:Rdr enc P w t D (fun x=>[a x]) ok) (hv:v.cells = #[v]) (hc:P.cellsOf t=1) (hd:DataW.Trod enc P w 0 (fun _=>true) true t v d p):∃ x,ok x∧Rel (fun _=>none) (fun _=>False) w (a x) v:=by
 obtain ⟨x,h1,h2⟩:=h _ (Can.of hd) (by rw[hv,hc];rfl)
 rw[hv] at h2
 exact ⟨x,h1,CellsAre.val h2⟩
end
end
theorem in_v (v lo hi:Int)  : VC M_ 218 ([i64 v,i64 lo,i64 hi]) (bv (decide (lo≤v)&&decide (v≤hi))):=by
 exact cR_ [r_,.r [] [o_,o_,o_,.sel 2]] _ Tryz.func218 (.n)
def stepsE (n k s p:Int):Int×Int:=if n<1∨1024<n∨k<1∨5<k∨s<1∨4<s∨p<0∨4<p∨k≤p then (0,2) else if n+2*p<k then (0,5) else ((n+2*p-k)/s+1,0)
theorem div4 (a s:Int) (h0:0≤a) (h1:a≤2000) (h2:1≤s):0≤a/s∧a/s≤2000:=⟨Int.ediv_nonneg h0 a_,Int.le_trans (Int.ediv_le_self s h0) h1⟩
theorem steps_v (n k s p:Int)  : VC M_ 208 ([i64 n,i64 k,i64 s,i64 p]) (.tup [i64 (stepsE n k s p).1,i64 (stepsE n k s p).2]):=by
 have oz0:=@in_v (n) (1) (1024)
 have oz1:=@in_v (k) (1) (5)
 have oz2:=@in_v (s) (1) (4)
 have oz3:=@in_v (p) (0) (4)
 rcases bft (!(decide (1≤n)&&decide (n≤1024)) || !(decide (1≤k)&&decide (k≤5)) || !(decide (1≤s)&&decide (s≤4)) || !(decide (0≤p)&&decide (p≤4)) || decide (p≥k)) with hc0|hc0
 ·have gc0:((((¬1≤n∨¬n≤1024)∨¬1≤k∨¬k≤5)∨¬1≤s∨¬s≤4)∨¬0≤p∨¬p≤4)∨p≥k:=gc0_ hc0
  exact (cR_ [r_,.r [] [cr oz0,o_,o_,cr oz1,o_,.sel 1,o_,o_,cr oz2,o_,.sel 1,o_,o_,cr oz3,o_,.sel 1,o_,o_,o_,.sel 1],b_,r_] (AV.tup [i64 0,i64 2]) Tryz.func208 (.d5 oz0 oz1 oz2 oz3 hc0)).to (by (simp only[stepsE];rw[i_ a_]))
 ·have gc0:((((1≤n∧n≤1024)∧1≤k∧k≤5)∧1≤s∧s≤4)∧0≤p∧p≤4)∧¬p≥k:=gc0_ hc0
  have oz5:=(i6n (2*p) a_)
  have oz6:=(i6n (n+2*p) a_)
  rcases bft (decide (k>n+2*p)) with hc1|hc1
  ·have gc1:=of_decide_eq_true hc1
   exact (cR_ [r_,.r [] [cr oz0,o_,o_,cr oz1,o_,.sel 1,o_,o_,cr oz2,o_,.sel 1,o_,o_,cr oz3,o_,.sel 1,o_,o_,o_,.sel 1],d_,.r [] [.n (nO oz5),.n (nO oz6)],b_,r_] (AV.tup [i64 0,i64 5]) Tryz.func208 (.d8 oz0 oz1 oz2 oz3 hc0 oz5 oz6 hc1)).to (by (simp only[stepsE];rw[j_ a_,i_ a_]))
  ·have gc1:=of_decide_eq_false hc1
   have oz12:=(show IntKind.i64.wrap ((n+2*p-k).tdiv s)=(n+2*p-k)/s from (Eq.trans (congrArg _ (BH_ a_)) (by with_reducible exact i6n _ (by have:=div4 (n+2*p-k) s a_ a_ a_;omega))))
   have oz13:=(show IntKind.i64.wrap ((n+2*p-k)/s+1)=(n+2*p-k)/s+1 by with_reducible exact i6n _ (by have:=div4 (n+2*p-k) s a_ a_ a_;omega))
   exact (cR_ [r_,.r [] [cr oz0,o_,o_,cr oz1,o_,.sel 1,o_,o_,cr oz2,o_,.sel 1,o_,o_,cr oz3,o_,.sel 1,o_,o_,o_,.sel 1],d_,.r [] [.n (nO oz5),.n (nO oz6)],d_,.r [] [.n (nO oz5),.n (nO oz6),.n (n+2*p-k),.n ((n+2*p-k)/s),.n (nO oz13)]] (AV.tup [i64 ((n+2*p-k)/s+1),i64 0]) Tryz.func208 (.c8 oz0 oz1 oz2 oz3 hc0 oz5 oz6 hc1<|.d6 oz5 oz6 (i6n (n+2*p-k) a_) (s_ (s≠0)) oz12 oz13)).to (by (simp only[stepsE];rw[j_ a_,j_ a_]))
theorem succ_mul' (k:Nat) (s:Int):((k+1:Nat):Int)*s=k*s+s:=by rw[Int.natCast_add,Int.add_mul];simp
def stepsM (n w s p:Int):Nat:=(if n+2*p<w then 0 else (n+2*p-w)/s+1).toNat
structure StepsOk (n w s p:Int):Prop where
 n0:1≤n
 n1:n≤1024
 w0:1≤w
 w1:w≤5
 s0:1≤s
 s1:s≤4
 p0:0≤p
 p1:p≤4
theorem stepsM_le {n w s p:Int} (h:StepsOk n w s p):(stepsM n w s p:Int)≤1040:=by
 obtain ⟨h1,h2,h3,h4,h5,h6,h7,h8⟩:=h
 unfold stepsM
 split
 ·simp
 ·have:=div4 (n+2*p-w) s a_ a_ h5
  have h9:=Int.ediv_le_self s (s_ (0≤n+2*p-w))
  omega
theorem stepsM_lt {n w s p:Int} (h:StepsOk n w s p) {k:Nat} (hk:k<stepsM n w s p):(k:Int)*s-p+w≤n+p:=by
 obtain ⟨h1,h2,h3,h4,h5,h6,h7,h8⟩:=h
 unfold stepsM at hk
 split at hk
 ·simp at hk
 ·have h10:(k:Int)≤(n+2*p-w)/s:=a_
  have h9:=Int.mul_le_of_le_ediv (by omega:0<s) h10
  omega
theorem stepsM_end {n w s p:Int} (h:StepsOk n w s p):n+p<(stepsM n w s p:Int)*s-p+w:=by
 obtain ⟨h1,h2,h3,h4,h5,h6,h7,h8⟩:=h
 unfold stepsM
 split
 ·simp;omega
 ·have h9:=Int.lt_ediv_add_one_mul_self (n+2*p-w) (by omega:0<s)
  have h10:=div4 (n+2*p-w) s a_ a_ h5
  rw[Int.toNat_of_nonneg a_]
  omega
noncomputable def refSteps_l_I (n w s p:Int) (k:Nat):VS:=stt 64 [(0,i64 n),(1,i64 w),(2,i64 s),(3,i64 p),(10,i64 k),(11,i64 (k*s-p))] []
noncomputable def refSteps_l_Z (n w s p:Int):VS:=refSteps_l_I n w s p (stepsM n w s p)
theorem refSteps_l_s (n w s p:Int) (h:StepsOk n w s p) (k:Nat) (hk:k<stepsM n w s p):VT M_ (fnC Tryz.f141 [1,1,1,0,1,0,0]) (refSteps_l_I n w s p k) .normal (refSteps_l_I n w s p (k+1)):=by
 have h0:=stepsM_lt h hk
 have h2:0≤(k:Int)*s:=CC_ a_ (by have:=h.s0;omega)
 have h1:=stepsM_le h
 obtain ⟨g1,g2,g3,g4,g5,g6,g7,g8⟩:=h
 exact tR_ [.r [] [.n ((↑k:Int)*s-p+w),.n (n+p)],b_,.r [] [.n ((↑k:Int)+1)],.r [] [.n ((↑k:Int)*s-p+s)]] [.any (rg [(49,12)]),.weak 10 (i64 (↑(k+1):Int)),.weak 11 (i64 ((↑(k+1):Int)*s-p)),.sort] (.d7 (i6n ((↑k:Int)*s-p+w) a_) (i6n (n+p) a_) (decide_eq_true (p:=((↑k:Int)*s-p+w≤n+p)) a_) (i6n ((↑k:Int)+1) a_) (i6n ((↑k:Int)*s-p+s) a_) (wS_ k) (N_ (k:=.i64) (show (((↑k:Int)*s-p+s):Int)=((↑(k+1):Int)*s-p) from (by (rw[succ_mul'];omega)))))
theorem refSteps_l_e (n w s p:Int) (h:StepsOk n w s p):VT M_ (fnC Tryz.f141 [1,1,1,0,1,0,0]) (refSteps_l_I n w s p (stepsM n w s p)) (.exit 0) (refSteps_l_Z n w s p):=by
 have h0:=stepsM_end h
 have h3:0≤(stepsM n w s p:Int)*s:=CC_ a_ (by have:=h.s0;omega)
 have h1:=stepsM_le h
 have h2:(stepsM n w s p:Int)*s≤1040*4:=Int.mul_le_mul h1 h.s1 (by have:=h.s0;omega) a_
 obtain ⟨g1,g2,g3,g4,g5,g6,g7,g8⟩:=h
 have oz0:=(i6n ((↑(stepsM n w s p):Int)*s-p+w) a_)
 exact tR_ [.r [] [.n (nO oz0),.n (n+p)],d_] [.any (rg [(49,7)]),.sort] (.d3 oz0 (i6n (n+p) a_) (decide_eq_false (p:=((↑(stepsM n w s p):Int)*s-p+w≤n+p)) a_))
theorem refSteps_l (n w s p:Int) (h:StepsOk n w s p):VT M_ (fnC Tryz.f141 [1,1,1,0,1,0]) (refSteps_l_I n w s p 0) (.exit 0) (refSteps_l_Z n w s p) :=
 VT.loop (fun k=>refSteps_l_I n w s p k) (stepsM n w s p) (fun k hk=>refSteps_l_s n w s p h k hk) (refSteps_l_e n w s p h) c0_
theorem stepsE_ok {n w s p:Int} (h:StepsOk n w s p) (hw:p<w):(if (stepsM n w s p:Int)=0 then ((0:Int),(5:Int)) else ((stepsM n w s p:Int),0))=stepsE n w s p:=by
 have hd:=div4 (n+2*p-w) s
 obtain ⟨h1,h2,h3,h4,h5,h6,h7,h8⟩:=h
 unfold stepsM stepsE
 rw[j_ (by omega:¬ (n<1∨1024<n∨w<1∨5<w∨s<1∨4<s∨p<0∨4<p∨w≤p))]
 by_cases h:n+2*p<w
 ·rw[i_ h,i_ h];simp
 ·have:=hd a_ a_ h5
  rw[j_ h,j_ h,j_ a_]
  rw[Int.toNat_of_nonneg a_]
theorem refSteps_v (n k s p:Int)  : VC M_ 141 ([i64 n,i64 k,i64 s,i64 p]) (.tup [i64 (stepsE n k s p).1,i64 (stepsE n k s p).2]):=by
 rcases bft (decide (n<1) || decide (n>1024) || decide (k<1) || decide (k>5) || decide (s<1) || decide (s>4) || decide (p<0) || decide (p>4) || decide (p≥k)) with hc0|hc0
 ·have gc0:(((((((n<1∨n>1024)∨k<1)∨k>5)∨s<1)∨s>4)∨p<0)∨p>4)∨p≥k:=gc0_ hc0
  exact (cR_ [r_,.r [] [o_,o_,.sel 1,o_,o_,.sel 1,o_,o_,.sel 1,o_,o_,.sel 1,o_,o_,.sel 1,o_,o_,.sel 1,o_,o_,.sel 1,o_,o_,o_,.sel 1],b_,r_] (AV.tup [i64 0,i64 2]) Tryz.func141 (.d hc0)).to (by (simp only[stepsE];rw[i_ a_]))
 ·have gc0:(((((((¬n<1∧¬n>1024)∧¬k<1)∧¬k>5)∧¬s<1)∧¬s>4)∧¬p<0)∧¬p>4)∧¬p≥k:=gc0_ hc0
  have oz1:=(i6n (0-p) a_)
  have oz2:=w0_
  have oz3:=(N_ (k:=.i64) (show ((0-p):Int)=((↑0:Int)*s-p) from a_))
  have oz4:=@refSteps_l (n) (k) (s) (p) (by (constructor<;>omega))
  rcases bft ((↑(stepsM n k s p):Int)==0) with hc1|hc1
  ·have gc1:(↑(stepsM n k s p):Int)=0:=bet hc1
   exact (cR_ [r_,.r [] [o_,o_,.sel 1,o_,o_,.sel 1,o_,o_,.sel 1,o_,o_,.sel 1,o_,o_,.sel 1,o_,o_,.sel 1,o_,o_,.sel 1,o_,o_,o_,.sel 1],d_,r_,.r [] [.n (nO oz1)],.code [.any [8,9,12,13,14,17,18,21,22,25,26,29,30,33,34,37,38,41,42,46,47,48],.weak 10 (wO oz2),.weak 11 (wO oz3),.sort] (BS_ 0) (zO oz4),r_,b_,r_] (AV.tup [i64 0,i64 5]) Tryz.func141 (.d6 hc0 oz1 oz2 oz3 oz4 hc1)).weak (AQ_ _) (AA_ (.cons (N_ (by (rw[←stepsE_ok (by constructor<;>omega) a_,i_ a_]))) (.cons (N_ (by (rw[←stepsE_ok (by constructor<;>omega) a_,i_ a_]))) .nil)))
  ·have gc1:¬(↑(stepsM n k s p):Int)=0:=bef hc1
   exact (cR_ [r_,.r [] [o_,o_,.sel 1,o_,o_,.sel 1,o_,o_,.sel 1,o_,o_,.sel 1,o_,o_,.sel 1,o_,o_,.sel 1,o_,o_,.sel 1,o_,o_,o_,.sel 1],d_,r_,.r [] [.n (nO oz1)],.code [.any [8,9,12,13,14,17,18,21,22,25,26,29,30,33,34,37,38,41,42,46,47,48],.weak 10 (wO oz2),.weak 11 (wO oz3),.sort] (BS_ 0) (zO oz4),r_,d_,r_] (AV.tup [i64 (↑(stepsM n k s p):Int),i64 0]) Tryz.func141 (.d6 hc0 oz1 oz2 oz3 oz4 hc1)).weak (AQ_ _) (AA_ (.cons (N_ (by (rw[←stepsE_ok (by constructor<;>omega) a_,j_ a_]))) (.cons (N_ (by (rw[←stepsE_ok (by constructor<;>omega) a_,j_ a_]))) .nil)))
theorem stepsE_bd (n k s p:Int):0≤(stepsE n k s p).1∧(stepsE n k s p).1≤2001∧0≤(stepsE n k s p).2∧(stepsE n k s p).2≤5:=by
 unfold stepsE;split
 ·simp
 ·split
  ·simp
  ·have:=div4 (n+2*p-k) s a_ a_ a_
   simp only;omega
structure Shp where
 h:Int
 x:Int
 c:Int
structure Shp.Ok (s:Shp):Prop where
 h:In64 s.h
 x:In64 s.x
 c:In64 s.c
theorem Shp.mk_ok {a b c:Int} (x:In64 a) (y:In64 b) (z:In64 c):Shp.Ok ⟨a,b,c⟩:=⟨x,y,z⟩
abbrev shp (s:Shp):AV:=.agg [i64 s.h,i64 s.x,i64 s.c]
def slideE (t:Shp) (k s p o:Int):Shp×Int :=
 if ¬ 0<elems t.h t.x t.c then (⟨0,0,0⟩,5) else if (stepsE t.h k s p).2≠0 then (⟨0,0,0⟩,(stepsE t.h k s p).2) else if (stepsE t.x k s p).2≠0 then (⟨0,0,0⟩,(stepsE t.x k s p).2)
 else if ¬ 0<elems (stepsE t.h k s p).1 (stepsE t.x k s p).1 o then (⟨0,0,0⟩,5) else (⟨(stepsE t.h k s p).1,(stepsE t.x k s p).1,o⟩,0)
theorem sRight_v (t:Shp) (ok:t.Ok):VC M_ 87 ([shp t]) (bv (decide (0<elems t.h t.x t.c))):=by
 have q1:=ok.h
 have q2:=ok.x
 have q3:=ok.c
 have oz0:=@elems_v (t.h) (t.x) (t.c) q1 q2 q3
 exact cR_ [r_,.r [] [cr oz0]] _ Tryz.func87 (.d oz0)
theorem slide_v (t:Shp) (k s p o:Int) (ok:t.Ok) (ho:In64 o):VC M_ 190 ([shp t,i64 k,i64 s,i64 p,i64 o]) (.tup [shp (slideE t k s p o).1,i64 (slideE t k s p o).2]):=by
 have q1:=ok.h
 have q2:=ok.x
 have q3:=ok.c
 have q4:=stepsE_bd t.h k s p
 have q5:=stepsE_bd t.x k s p
 have oz0:=@sRight_v (t) ok
 rcases bft (!decide (0<elems t.h t.x t.c)) with hc0|hc0
 ·have gc0:=bnt hc0
  exact (cR_ [r_,.r [] [cr oz0],b_,r_] (AV.tup [AV.agg [i64 0,i64 0,i64 0],i64 5]) Tryz.func190 (.d2 oz0 hc0)).to (by (simp only[slideE];rw[i_ a_]))
 ·have gc0:=bnf hc0
  have oz2:=@steps_v (t.h) (k) (s) (p)
  rcases bft ((stepsE t.h k s p).snd != 0) with hc1|hc1
  ·have gc1:¬(stepsE t.h k s p).snd=0:=bdt hc1
   exact (cR_ [r_,.r [] [cr oz0],d_,.r [] [cr oz2],r_,b_,r_] (AV.tup [AV.agg [i64 0,i64 0,i64 0],i64 (stepsE t.h k s p).snd]) Tryz.func190 (.d4 oz0 hc0 oz2 hc1)).to (by (simp only[slideE];rw[j_ a_,i_ a_]))
  ·have gc1:(stepsE t.h k s p).snd=0:=bdf hc1
   have oz4:=@steps_v (t.x) (k) (s) (p)
   rcases bft ((stepsE t.x k s p).snd != 0) with hc2|hc2
   ·have gc2:¬(stepsE t.x k s p).snd=0:=bdt hc2
    exact (cR_ [r_,.r [] [cr oz0],d_,.r [] [cr oz2],r_,d_,.r [] [cr oz4],r_,b_,r_] (AV.tup [AV.agg [i64 0,i64 0,i64 0],i64 (stepsE t.x k s p).snd]) Tryz.func190 (.d6 oz0 hc0 oz2 hc1 oz4 hc2)).to (by (simp only[slideE];rw[j_ a_,j_ a_,i_ a_]))
   ·have gc2:(stepsE t.x k s p).snd=0:=bdf hc2
    have oz6:=@sRight_v (Shp.mk (stepsE t.h k s p).fst (stepsE t.x k s p).fst o) (by (exact Shp.mk_ok ⟨by omega,by omega⟩ ⟨by omega,by omega⟩ ho))
    rcases bft (!decide (0<elems (stepsE t.h k s p).fst (stepsE t.x k s p).fst o)) with hc3|hc3
    ·have gc3:=bnt hc3
     exact (cR_ [r_,.r [] [cr oz0],d_,.r [] [cr oz2],r_,d_,.r [] [cr oz4],r_,d_,r_,.r [] [cr oz6],b_,r_] (AV.tup [AV.agg [i64 0,i64 0,i64 0],i64 5]) Tryz.func190 (.d8 oz0 hc0 oz2 hc1 oz4 hc2 oz6 hc3)).to (by (simp only[slideE];rw[j_ a_,j_ a_,j_ a_,i_ a_]))
    ·have gc3:=bnf hc3
     exact (cR_ [r_,.r [] [cr oz0],d_,.r [] [cr oz2],r_,d_,.r [] [cr oz4],r_,d_,r_,.r [] [cr oz6],d_,r_] (AV.tup [AV.agg [i64 (stepsE t.h k s p).fst,i64 (stepsE t.x k s p).fst,i64 o],i64 0]) Tryz.func190 (.d8 oz0 hc0 oz2 hc1 oz4 hc2 oz6 hc3)).to (by (simp only[slideE];rw[j_ a_,j_ a_,j_ a_,j_ a_]))
theorem refSlide_v (t:Shp) (k s p o:Int) (ok:t.Ok) (ho:In64 o):VC M_ 117 ([shp t,i64 k,i64 s,i64 p,i64 o]) (.tup [shp (slideE t k s p o).1,i64 (slideE t k s p o).2]):=by
 have q1:=ok.h
 have q2:=ok.x
 have q3:=ok.c
 have q4:=stepsE_bd t.h k s p
 have q5:=stepsE_bd t.x k s p
 have q6:=elems_bd t.h t.x t.c
 have q7:=elems_bd (stepsE t.h k s p).1 (stepsE t.x k s p).1 o
 have oz0:=@refElems_v (t.h) (t.x) (t.c) q1 q2 q3
 rcases bft (elems t.h t.x t.c==0) with hc0|hc0
 ·have gc0:elems t.h t.x t.c=0:=bet hc0
  exact (cR_ [r_,.r [] [cr oz0],b_,r_] (AV.tup [AV.agg [i64 0,i64 0,i64 0],i64 5]) Tryz.func117 (.d2 oz0 hc0)).to (by (simp only[slideE];rw[i_ a_]))
 ·have gc0:¬elems t.h t.x t.c=0:=bef hc0
  have oz2:=@refSteps_v (t.h) (k) (s) (p)
  rcases bft ((stepsE t.h k s p).snd != 0) with hc1|hc1
  ·have gc1:¬(stepsE t.h k s p).snd=0:=bdt hc1
   exact (cR_ [r_,.r [] [cr oz0],d_,.r [] [cr oz2],r_,b_,r_] (AV.tup [AV.agg [i64 0,i64 0,i64 0],i64 (stepsE t.h k s p).snd]) Tryz.func117 (.d4 oz0 hc0 oz2 hc1)).to (by (simp only[slideE];rw[j_ a_,i_ a_]))
  ·have gc1:(stepsE t.h k s p).snd=0:=bdf hc1
   have oz4:=@refSteps_v (t.x) (k) (s) (p)
   rcases bft ((stepsE t.x k s p).snd != 0) with hc2|hc2
   ·have gc2:¬(stepsE t.x k s p).snd=0:=bdt hc2
    exact (cR_ [r_,.r [] [cr oz0],d_,.r [] [cr oz2],r_,d_,.r [] [cr oz4],r_,b_,r_] (AV.tup [AV.agg [i64 0,i64 0,i64 0],i64 (stepsE t.x k s p).snd]) Tryz.func117 (.d6 oz0 hc0 oz2 hc1 oz4 hc2)).to (by (simp only[slideE];rw[j_ a_,j_ a_,i_ a_]))
   ·have gc2:(stepsE t.x k s p).snd=0:=bdf hc2
    have oz6:=@refElems_v ((stepsE t.h k s p).fst) ((stepsE t.x k s p).fst) (o) a_ a_ ho
    rcases bft (elems (stepsE t.h k s p).fst (stepsE t.x k s p).fst o==0) with hc3|hc3
    ·have gc3:elems (stepsE t.h k s p).fst (stepsE t.x k s p).fst o=0:=bet hc3
     exact (cR_ [r_,.r [] [cr oz0],d_,.r [] [cr oz2],r_,d_,.r [] [cr oz4],r_,d_,r_,.r [] [cr oz6],b_,r_] (AV.tup [AV.agg [i64 0,i64 0,i64 0],i64 5]) Tryz.func117 (.d8 oz0 hc0 oz2 hc1 oz4 hc2 oz6 hc3)).to (by (simp only[slideE];rw[j_ a_,j_ a_,j_ a_,i_ a_]))
    ·have gc3:¬elems (stepsE t.h k s p).fst (stepsE t.x k s p).fst o=0:=bef hc3
     exact (cR_ [r_,.r [] [cr oz0],d_,.r [] [cr oz2],r_,d_,.r [] [cr oz4],r_,d_,r_,.r [] [cr oz6],d_,r_] (AV.tup [AV.agg [i64 (stepsE t.h k s p).fst,i64 (stepsE t.x k s p).fst,i64 o],i64 0]) Tryz.func117 (.d8 oz0 hc0 oz2 hc1 oz4 hc2 oz6 hc3)).to (by (simp only[slideE];rw[j_ a_,j_ a_,j_ a_,j_ a_]))
theorem mul_bd {a b A B:Int} (a0:0≤a) (a1:a≤A) (b0:0≤b) (b1:b≤B):0≤a*b∧a*b≤A*B :=
 ⟨CC_ a0 b0,Int.mul_le_mul a1 b1 b0 a_⟩
theorem slideE_ok {t:Shp} {k s p o:Int} (h:(slideE t k s p o).2=0):0<elems t.h t.x t.c∧1≤k∧k≤5∧1≤s∧s≤4∧0≤p∧p≤4∧p<k∧t.h+2*p≥k∧t.x+2*p≥k ∧
  (slideE t k s p o).1=⟨(t.h+2*p-k)/s+1,(t.x+2*p-k)/s+1,o⟩∧0<elems ((t.h+2*p-k)/s+1) ((t.x+2*p-k)/s+1) o:=by
 have step:∀ n,(stepsE n k s p).2=0→(1≤n∧1≤k∧k≤5∧1≤s∧s≤4∧0≤p∧p≤4∧p<k∧n+2*p≥k)∧(stepsE n k s p).1=(n+2*p-k)/s+1:=by
  intro n hn
  unfold stepsE at hn ⊢
  split at hn
  ·simp at hn
  ·split at hn
   ·simp at hn
   ·rename_i h1 h2
    rw[j_ h1,j_ h2]
    exact ⟨by omega,rfl⟩
 unfold slideE at h ⊢
 split at h
 ·simp at h
 ·split at h
  ·rename_i h1 h2;exact absurd h h2
  ·split at h
   ·rename_i h1 h2 h3;exact absurd h h3
   ·split at h
    ·simp at h
    ·rename_i h1 h2 h3 h4
     have a1:=step t.h a_
     have a2:=step t.x a_
     rw[j_ h1,j_ h2,j_ h3,j_ h4]
     rw[a1.2,a2.2] at h4 ⊢
     refine ⟨by omega,by omega,by omega,by omega,by omega,by omega,by omega,by omega,by omega,by omega,rfl,by omega⟩
theorem elems_ok {h x c:Int} (q:0<elems h x c):1≤h∧h≤16∧1≤x∧x≤16∧1≤c∧c≤1024∧h*x*c≤1024∧elems h x c=h*x*c:=by
 unfold elems at q ⊢
 split at q
 ·rename_i g;rw[i_ g];obtain ⟨g1,g2,g3,g4,g5,g6,g7⟩:=g;exact ⟨g1,g2,g3,g4,g5,g6,g7,rfl⟩
 ·omega
theorem wts_bd {t:Shp} {k s p o:Int} (h:(slideE t k s p o).2=0):(0≤o*k∧o*k≤5120)∧(0≤o*k*k∧o*k*k≤25600)∧(0≤o*k*k*t.c∧o*k*k*t.c≤26214400):=by
 have h1:=slideE_ok h
 have h2:=elems_ok h1.1
 have h3:=elems_ok h1.2.2.2.2.2.2.2.2.2.2.2
 have a1:=mul_bd (A:=1024) (B:=5) (a:=o) (b:=k) a_ a_ a_ a_
 have a2:=mul_bd (A:=5120) (B:=5) (a:=o*k) (b:=k) a_ a_ a_ a_
 have a3:=mul_bd (A:=25600) (B:=1024) (a:=o*k*k) (b:=t.c) a_ a_ a_ a_
 omega
def convE (t:Shp) (n:Nod):Shp×Int :=
 if (slideE t n.nk n.ns n.np n.no).2≠0 then (⟨0,0,0⟩,(slideE t n.nk n.ns n.np n.no).2)
 else if (n.w.length:Int)≠n.no*n.nk*n.nk*t.c∨16384<(n.w.length:Int)∨(n.b.length:Int)≠n.no then (⟨0,0,0⟩,9) else ((slideE t n.nk n.ns n.np n.no).1,0)
theorem convShape_v (t:Shp) (n:Nod) (ok:t.Ok) (okn:n.Ok):VC M_ 187 ([shp t,nod n]) (.tup [shp (convE t n).1,i64 (convE t n).2]):=by
 have q2:=okn.no
 have oz0:=@slide_v (t) (n.nk) (n.ns) (n.np) (n.no) ok q2
 rcases bft ((slideE t n.nk n.ns n.np n.no).snd != 0) with hc0|hc0
 ·have gc0:¬(slideE t n.nk n.ns n.np n.no).snd=0:=bdt hc0
  exact (cR_ [r_,.r [] [cr oz0],r_,b_,r_] (AV.tup [AV.agg [i64 0,i64 0,i64 0],i64 (slideE t n.nk n.ns n.np n.no).snd]) Tryz.func187 (.d2 oz0 hc0)).to (by (simp only[convE];rw[i_ a_]))
 ·have gc0:(slideE t n.nk n.ns n.np n.no).snd=0:=bdf hc0
  have oz2:=(r0_ (IntKind.i64.wrap (n.no*n.nk)=n.no*n.nk))
  have oz3:=(r0_ (IntKind.i64.wrap (n.no*n.nk*n.nk)=n.no*n.nk*n.nk))
  rcases bft (((K_ (row1 .i8) n.w).length:Int) != n.no*n.nk*n.nk*t.c || decide (((K_ (row1 .i8) n.w).length:Int)>16384) || ((K_ (row1 .i32) n.b).length:Int) != n.no) with hc1|hc1
  ·have gc1:(¬((K_ (row1 .i8) n.w).length:Int)=n.no*n.nk*n.nk*t.c∨((K_ (row1 .i8) n.w).length:Int)>16384)∨¬((K_ (row1 .i32) n.b).length:Int)=n.no:=gc0_ hc1
   have oz4:=(r0_ (IntKind.i64.wrap (n.no*n.nk*n.nk*t.c)=n.no*n.nk*n.nk*t.c))
   exact (cR_ [r_,.r [] [cr oz0],r_,d_,.r [] [.n (nO oz2),.n (nO oz3),.n (nO oz4),o_,o_,o_,o_,.sel 1,o_,o_,o_,o_,o_,o_,.sel 1],b_,r_] (AV.tup [AV.agg [i64 0,i64 0,i64 0],i64 9]) Tryz.func187 (.d6 oz0 hc0 oz2 oz3 oz4 hc1)).to (by (simp only[convE,V_] at *;rw[j_ a_,i_ a_]))
  ·have gc1:(((K_ (row1 .i8) n.w).length:Int)=n.no*n.nk*n.nk*t.c∧¬((K_ (row1 .i8) n.w).length:Int)>16384)∧((K_ (row1 .i32) n.b).length:Int)=n.no:=gc0_ hc1
   exact (cR_ [r_,.r [] [cr oz0],r_,d_,.r [] [.n (nO oz2),.n (nO oz3),.n (n.no*n.nk*n.nk*t.c),o_,o_,o_,o_,.sel 1,o_,o_,o_,o_,o_,o_,.sel 1],d_,r_] (AV.tup [AV.agg [i64 (slideE t n.nk n.ns n.np n.no).fst.h,i64 (slideE t n.nk n.ns n.np n.no).fst.x,i64 (slideE t n.nk n.ns n.np n.no).fst.c],i64 0]) Tryz.func187 (.d6 oz0 hc0 oz2 oz3 (i6n (n.no*n.nk*n.nk*t.c) a_) hc1)).to (by (simp only[convE,V_] at *;rw[j_ a_,j_ a_]))
theorem refConvShape_v (t:Shp) (n:Nod) (ok:t.Ok) (okn:n.Ok):VC M_ 114 ([shp t,nod n]) (.tup [shp (convE t n).1,i64 (convE t n).2]):=by
 have q2:=okn.no
 have oz0:=@refSlide_v (t) (n.nk) (n.ns) (n.np) (n.no) ok q2
 rcases bft ((slideE t n.nk n.ns n.np n.no).snd != 0) with hc0|hc0
 ·have gc0:¬(slideE t n.nk n.ns n.np n.no).snd=0:=bdt hc0
  exact (cR_ [r_,.r [] [cr oz0],r_,b_,r_] (AV.tup [AV.agg [i64 0,i64 0,i64 0],i64 (slideE t n.nk n.ns n.np n.no).snd]) Tryz.func114 (.d2 oz0 hc0)).to (by (simp only[convE];rw[i_ a_]))
 ·have gc0:(slideE t n.nk n.ns n.np n.no).snd=0:=bdf hc0
  have oz2:=(r0_ (IntKind.i64.wrap (n.no*n.nk)=n.no*n.nk))
  have oz3:=(r0_ (IntKind.i64.wrap (n.no*n.nk*n.nk)=n.no*n.nk*n.nk))
  rcases bft (((K_ (row1 .i8) n.w).length:Int) != n.no*n.nk*n.nk*t.c || decide (((K_ (row1 .i8) n.w).length:Int)>16384) || ((K_ (row1 .i32) n.b).length:Int) != n.no) with hc1|hc1
  ·have gc1:(¬((K_ (row1 .i8) n.w).length:Int)=n.no*n.nk*n.nk*t.c∨((K_ (row1 .i8) n.w).length:Int)>16384)∨¬((K_ (row1 .i32) n.b).length:Int)=n.no:=gc0_ hc1
   have oz4:=(r0_ (IntKind.i64.wrap (n.no*n.nk*n.nk*t.c)=n.no*n.nk*n.nk*t.c))
   exact (cR_ [r_,.r [] [cr oz0],r_,d_,.r [] [.n (nO oz2),.n (nO oz3),.n (nO oz4),o_,o_,o_,o_,.sel 1,o_,o_,o_,o_,o_,o_,.sel 1],b_,r_] (AV.tup [AV.agg [i64 0,i64 0,i64 0],i64 9]) Tryz.func114 (.d6 oz0 hc0 oz2 oz3 oz4 hc1)).to (by (simp only[convE,V_] at *;rw[j_ a_,i_ a_]))
  ·have gc1:(((K_ (row1 .i8) n.w).length:Int)=n.no*n.nk*n.nk*t.c∧¬((K_ (row1 .i8) n.w).length:Int)>16384)∧((K_ (row1 .i32) n.b).length:Int)=n.no:=gc0_ hc1
   exact (cR_ [r_,.r [] [cr oz0],r_,d_,.r [] [.n (nO oz2),.n (nO oz3),.n (n.no*n.nk*n.nk*t.c),o_,o_,o_,o_,.sel 1,o_,o_,o_,o_,o_,o_,.sel 1],d_,r_] (AV.tup [AV.agg [i64 (slideE t n.nk n.ns n.np n.no).fst.h,i64 (slideE t n.nk n.ns n.np n.no).fst.x,i64 (slideE t n.nk n.ns n.np n.no).fst.c],i64 0]) Tryz.func114 (.d6 oz0 hc0 oz2 oz3 (i6n (n.no*n.nk*n.nk*t.c) a_) hc1)).to (by (simp only[convE,V_] at *;rw[j_ a_,j_ a_]))
theorem gt_of {P:Int→Prop} {l:List Int} (h:∀ v∈l,P v) (h0:P 0) (i:Nat):P (l.getD i 0):=by
 rw[AU_]
 by_cases hi:i<l.length
 ·rw[AP_ hi];exact h _ (CN_ hi)
 ·rw[DL_ a_];exact h0
theorem gt8 {l:List Int} (h:∀ v∈l,In8 v) (i:Nat) : -128≤l.getD i 0∧l.getD i 0≤127:=gt_of h ⟨by decide,by decide⟩ i
theorem gt32 {l:List Int} (h:∀ v∈l,In32 v) (i:Nat) : -2147483648≤l.getD i 0∧l.getD i 0≤2147483647:=gt_of h ⟨by decide,by decide⟩ i
theorem prod_bd {a b:Int} (h : -128≤a∧a≤127) (h' : -255≤b∧b≤255) : -32640≤a*b∧a*b≤32640:=by
 have h1:(a+128)*(255-b)≥0:=CC_ a_ a_
 have h2:(128-a)*(255+b)≥0:=CC_ a_ a_
 have h3:(a+128)*(255+b)≥0:=CC_ a_ a_
 have h4:(128-a)*(255-b)≥0:=CC_ a_ a_
 simp only[Int.add_mul,Int.sub_mul,Int.mul_add,Int.mul_sub] at h1 h2 h3 h4
 omega
structure Rng where
 lo:Int
 hi:Int
instance:Inhabited Rng:=⟨⟨0,0⟩⟩
abbrev rngC (r:Rng):List AV:=[i64 r.lo,i64 r.hi]
abbrev rng (r:Rng):AV:=.agg (rngC r)
def foldR (a:Int) (l:List Int):Nat→Rng
 | 0=>⟨a,a⟩
 | k+1=>⟨min (foldR a l k).lo (l.getD k 0),max (foldR a l k).hi (l.getD k 0)⟩
noncomputable def of_l_I (a:Int) (l:List Int) (k:Nat):VS:=stt 28 [(4,.ptr 4 0 0),(5,.ptr 5 0 0),(11,ints .i64 l),(12,i64 l.length),(13,i64 k)] [(4,.var [i64 0,i64 0]),(5,.var (rngC (foldR a l k)))]
noncomputable def of_l_Z (a:Int) (l:List Int):VS:=of_l_I a l (l.length)
theorem of_l_s (a:Int) (l:List Int) (hl:l.length≤1000) (k:Nat) (hk:k<l.length):VT M_ (fnC Tryz.f217 [1,1,0,1,0,0]) (of_l_I a l k) .normal (of_l_I a l (k+1)):=by
 exact tR_ [r_,b_,.r [] [.row [i64 (l.getD k 0)]],r_,.r [] [.n ((↑k:Int)+1)]] [.any (rg [(7,1),(14,13)]),.weak 13 (i64 (↑(k+1):Int)),.blk 5 (Blk.var [i64 (foldR a l (k+1)).lo,i64 (foldR a l (k+1)).hi]),.sort] (.d6 (decide_eq_true (p:=((↑k:Int)<(l.length:Int))) a_) (s_ (0≤(↑k:Int))) (map_at (row1 .i64) (0) (l:=l) (i:=k) hk) (i6n ((↑k:Int)+1) a_) (wS_ k) (show BlkW (Blk.var [i64 (if l.getD k 0<(foldR a l k).lo then l.getD k 0 else (foldR a l k).lo),i64 (if l.getD k 0>(foldR a l k).hi then l.getD k 0 else (foldR a l k).hi)]) (Blk.var [i64 (foldR a l (k+1)).lo,i64 (foldR a l (k+1)).hi]) from (BlkW.var (m:=[i64 (foldR a l (k+1)).lo,i64 (foldR a l (k+1)).hi]) (.cons (N_ a2_) (.cons (N_ a2_) .nil)))))
theorem of_l_e (a:Int) (l:List Int) (hl:l.length≤1000):VT M_ (fnC Tryz.f217 [1,1,0,1,0,0]) (of_l_I a l (l.length)) (.exit 0) (of_l_Z a l):=by
 exact tR_ [r_,d_] [.any [14],.sort] (.d (decide_eq_false (p:=((l.length:Int)<(l.length:Int))) a_))
theorem of_l (a:Int) (l:List Int) (hl:l.length≤1000):VT M_ (fnC Tryz.f217 [1,1,0,1,0]) (of_l_I a l 0) (.exit 0) (of_l_Z a l) :=
 VT.loop (fun k=>of_l_I a l k) (l.length) (fun k hk=>of_l_s a l hl k hk) (of_l_e a l hl) c0_
theorem of_v (a:Int) (l:List Int) (hl:l.length≤1000):VC M_ 217 ([i64 a,ints .i64 l]) (rng (foldR a l l.length)):=by
 have oz0:=(N_ (k:=.i64) (show ((((K_ (row1 .i64) l).length:Int)):Int)=((l.length:Int)) from k0_))
 have oz3:=@of_l (a) (l) hl
 exact cR_ [r_,r_,r_,.code [.any [0,1,8,9,10],.weak 12 (wO oz0),.weak 13 (i64 (↑0:Int)),.blk 5 (Blk.var [i64 (foldR a l 0).lo,i64 (foldR a l 0).hi]),.sort] (BS_ 0) (zO oz3),r_] _ Tryz.func217 (.d4 oz0 w0_ (show BlkW (Blk.var [i64 a,i64 a]) (Blk.var [i64 (foldR a l 0).lo,i64 (foldR a l 0).hi]) from (BlkW.var (m:=[i64 (foldR a l 0).lo,i64 (foldR a l 0).hi]) (.cons (.refl _) (.cons (N_ t0_) .nil)))) oz3)
theorem of1_v (a b:Int):VC M_ 217 [i64 a,.sl 1 [[i64 b]]] (rng ⟨min a b,max a b⟩):=of_v a [b] v0_
theorem of2_v (a b c:Int):VC M_ 217 [i64 a,.sl 1 [[i64 b],[i64 c]]] (rng ⟨min (min a b) c,max (max a b) c⟩):=of_v a [b,c] v0_
def spA (v lo hi z:Int) (g:Bool):Rng:=if g=true then ⟨min (min 0 (min (v*(lo-z)) (v*(hi-z)))) (max (v*(lo-z)) (v*(hi-z))),max (max 0 (min (v*(lo-z)) (v*(hi-z)))) (max (v*(lo-z)) (v*(hi-z)))⟩
 else ⟨min (v*(lo-z)) (v*(hi-z)),max (v*(lo-z)) (v*(hi-z))⟩
def rowR (w:List Int) (bias lo hi z:Int) (g:Bool):Nat→Rng
 | 0=>⟨bias,bias⟩
 | k+1=>⟨(rowR w bias lo hi z g k).lo+(spA (w.getD k 0) lo hi z g).lo,(rowR w bias lo hi z g k).hi+(spA (w.getD k 0) lo hi z g).hi⟩
theorem spA_bd {v lo hi z:Int} (g:Bool) (hv:In8 v) (h1:In8 lo) (h2:In8 hi) (h3:In8 z) : -32640≤(spA v lo hi z g).lo∧(spA v lo hi z g).lo≤32640 ∧ -32640≤(spA v lo hi z g).hi∧(spA v lo hi z g).hi≤32640:=by
 unfold In8 at *
 have a:=prod_bd (a:=v) (b:=lo-z) hv a_
 have b:=prod_bd (a:=v) (b:=hi-z) hv a_
 unfold spA;split<;>simp only<;>omega
theorem rowR_bd {w:List Int} {bias lo hi z:Int} (g:Bool) (hw:∀ v∈w,In8 v) (hb:In32 bias) (h1:In8 lo) (h2:In8 hi) (h3:In8 z):∀ k:Nat,-2147483648-32640*k≤(rowR w bias lo hi z g k).lo∧(rowR w bias lo hi z g k).lo≤2147483647+32640*k ∧ -2147483648-32640*k≤(rowR w bias lo hi z g k).hi∧(rowR w bias lo hi z g k).hi≤2147483647+32640*k
 | 0=>by unfold In32 at hb;simp only[rowR];omega
 | k+1=>by
  have:=rowR_bd g hw hb h1 h2 h3 k
  have:=spA_bd g (v:=w.getD k 0) (gt_of hw (by unfold In8;omega) k) h1 h2 h3
  simp only[rowR];omega
noncomputable def row_l_I (w:List Int) (bias lo hi z:Int) (g:Bool) (k:Nat):VS:=stt 66 [(2,i8 lo),(3,i8 hi),(4,i8 z),(5,bv g),(12,.ptr 12 0 0),(13,.ptr 13 0 0),(22,ints .i8 w),(23,i64 w.length),(24,i64 k)] [(12,.var [i64 0,i64 0]),(13,.var (rngC (rowR w bias lo hi z g k)))]
noncomputable def row_l_Z (w:List Int) (bias lo hi z:Int) (g:Bool):VS:=row_l_I w bias lo hi z g (w.length)
theorem row_l_s (w:List Int) (bias lo hi z:Int) (g:Bool) (hw:∀ v∈w,In8 v) (wl:w.length≤1000000) (hb:In32 bias) (h1:In8 lo) (h2:In8 hi) (h3:In8 z) (k:Nat) (hk:k<w.length):VT M_ (fnC Tryz.f207 [1,1,0,1,0,0]) (row_l_I w bias lo hi z g k) .normal (row_l_I w bias lo hi z g (k+1)):=by
 have q1:=gt8 hw k
 have q2:=rowR_bd g hw hb h1 h2 h3 k
 have q3:=spA_bd g (v:=w.getD k 0) (gt_of hw (by unfold In8;omega) k) h1 h2 h3
 unfold In8 at h1 h2 h3
 have q4:=prod_bd (a:=w.getD k 0) (b:=lo-z) q1 a_
 have q5:=prod_bd (a:=w.getD k 0) (b:=hi-z) q1 a_
 have oz0:=(decide_eq_true (p:=((↑k:Int)<(w.length:Int))) a_)
 have oz1:=(s_ (0≤(↑k:Int)))
 have oz2:=(map_at (row1 .i8) (0) (l:=w) (i:=k) hk)
 have oz3:=(i6n (w.getD k 0) a_)
 have oz4:=(i6n lo a_)
 have oz5:=(i6n z a_)
 have oz6:=(i6n (lo-z) a_)
 have oz7:=(i6n (w.getD k 0*(lo-z)) a_)
 have oz9:=(i6n hi a_)
 have oz11:=(i6n (hi-z) a_)
 have oz12:=(i6n (w.getD k 0*(hi-z)) a_)
 have oz13:=@of1_v (w.getD k 0*(lo-z)) (w.getD k 0*(hi-z))
 rcases bft (g) with hc0|hc0
 ·have gc0:g=true:=m_
  have oz15:=@of2_v (0) (min (w.getD k 0*(lo-z)) (w.getD k 0*(hi-z))) (max (w.getD k 0*(lo-z)) (w.getD k 0*(hi-z)))
  have oz16:=(s1_ (IntKind.i64.wrap ((rowR w bias lo hi z g k).lo+(Rng.mk (min (min 0 (min (w.getD k 0*(lo-z)) (w.getD k 0*(hi-z)))) (max (w.getD k 0*(lo-z)) (w.getD k 0*(hi-z)))) (max (max 0 (min (w.getD k 0*(lo-z)) (w.getD k 0*(hi-z)))) (max (w.getD k 0*(lo-z)) (w.getD k 0*(hi-z))))).lo)=(rowR w bias lo hi z g k).lo+(Rng.mk (min (min 0 (min (w.getD k 0*(lo-z)) (w.getD k 0*(hi-z)))) (max (w.getD k 0*(lo-z)) (w.getD k 0*(hi-z)))) (max (max 0 (min (w.getD k 0*(lo-z)) (w.getD k 0*(hi-z)))) (max (w.getD k 0*(lo-z)) (w.getD k 0*(hi-z))))).lo))
  have oz17:=(s1_ (IntKind.i64.wrap ((rowR w bias lo hi z g k).hi+(Rng.mk (min (min 0 (min (w.getD k 0*(lo-z)) (w.getD k 0*(hi-z)))) (max (w.getD k 0*(lo-z)) (w.getD k 0*(hi-z)))) (max (max 0 (min (w.getD k 0*(lo-z)) (w.getD k 0*(hi-z)))) (max (w.getD k 0*(lo-z)) (w.getD k 0*(hi-z))))).hi)=(rowR w bias lo hi z g k).hi+(Rng.mk (min (min 0 (min (w.getD k 0*(lo-z)) (w.getD k 0*(hi-z)))) (max (w.getD k 0*(lo-z)) (w.getD k 0*(hi-z)))) (max (max 0 (min (w.getD k 0*(lo-z)) (w.getD k 0*(hi-z)))) (max (w.getD k 0*(lo-z)) (w.getD k 0*(hi-z))))).hi))
  exact tR_ [r_,b_,.r [] [.row (sO oz2)],.r [] [.n (nO oz3),.n (nO oz4),.n (nO oz5),.n (nO oz6),.n (nO oz7),.n (nO oz3),.n (nO oz9),.n (nO oz5),.n (nO oz11),.n (nO oz12),cr oz13],r_,b_,.r [] [cr oz15],.r [] [.n (nO oz16),.n (nO oz17)],.r [] [.n ((↑k:Int)+1)]] [.any (rg [(15,2),(25,40)]),.drop [44,16,51],.weak 24 (i64 (↑(k+1):Int)),.blk 13 (Blk.var [i64 (rowR w bias lo hi z g (k+1)).lo,i64 (rowR w bias lo hi z g (k+1)).hi]),.sort] (.c8 oz0 oz1 oz2 oz3 oz4 oz5 oz6 oz7<|.c8 oz3 oz9 oz5 oz11 oz12 oz13 hc0 oz15<|.d5 oz16 oz17 (i6n ((↑k:Int)+1) a_) (wS_ k) (show BlkW (Blk.var [i64 ((rowR w bias lo hi z g k).lo+(Rng.mk (min (min 0 (min (w.getD k 0*(lo-z)) (w.getD k 0*(hi-z)))) (max (w.getD k 0*(lo-z)) (w.getD k 0*(hi-z)))) (max (max 0 (min (w.getD k 0*(lo-z)) (w.getD k 0*(hi-z)))) (max (w.getD k 0*(lo-z)) (w.getD k 0*(hi-z))))).lo),i64 ((rowR w bias lo hi z g k).hi+(Rng.mk (min (min 0 (min (w.getD k 0*(lo-z)) (w.getD k 0*(hi-z)))) (max (w.getD k 0*(lo-z)) (w.getD k 0*(hi-z)))) (max (max 0 (min (w.getD k 0*(lo-z)) (w.getD k 0*(hi-z)))) (max (w.getD k 0*(lo-z)) (w.getD k 0*(hi-z))))).hi)]) (Blk.var [i64 (rowR w bias lo hi z g (k+1)).lo,i64 (rowR w bias lo hi z g (k+1)).hi]) from (BlkW.var (m:=[i64 (rowR w bias lo hi z g (k+1)).lo,i64 (rowR w bias lo hi z g (k+1)).hi]) (.cons (N_ (by (simp_all[rowR,spA];done))) (.cons (N_ (by (simp_all[rowR,spA];done))) .nil)))))
 ·have gc0:g=false:=m_
  have oz15:=(s1_ (IntKind.i64.wrap ((rowR w bias lo hi z g k).lo+(Rng.mk (min (w.getD k 0*(lo-z)) (w.getD k 0*(hi-z))) (max (w.getD k 0*(lo-z)) (w.getD k 0*(hi-z)))).lo)=(rowR w bias lo hi z g k).lo+(Rng.mk (min (w.getD k 0*(lo-z)) (w.getD k 0*(hi-z))) (max (w.getD k 0*(lo-z)) (w.getD k 0*(hi-z)))).lo))
  have oz16:=(s1_ (IntKind.i64.wrap ((rowR w bias lo hi z g k).hi+(Rng.mk (min (w.getD k 0*(lo-z)) (w.getD k 0*(hi-z))) (max (w.getD k 0*(lo-z)) (w.getD k 0*(hi-z)))).hi)=(rowR w bias lo hi z g k).hi+(Rng.mk (min (w.getD k 0*(lo-z)) (w.getD k 0*(hi-z))) (max (w.getD k 0*(lo-z)) (w.getD k 0*(hi-z)))).hi))
  exact tR_ [r_,b_,.r [] [.row (sO oz2)],.r [] [.n (nO oz3),.n (nO oz4),.n (nO oz5),.n (nO oz6),.n (nO oz7),.n (nO oz3),.n (nO oz9),.n (nO oz5),.n (nO oz11),.n (nO oz12),cr oz13],r_,d_,.r [] [.n (nO oz15),.n (nO oz16)],.r [] [.n ((↑k:Int)+1)]] [.any (rg [(15,2),(25,22),(53,12)]),.drop [44,16],.weak 24 (i64 (↑(k+1):Int)),.blk 13 (Blk.var [i64 (rowR w bias lo hi z g (k+1)).lo,i64 (rowR w bias lo hi z g (k+1)).hi]),.sort] (.c8 oz0 oz1 oz2 oz3 oz4 oz5 oz6 oz7<|.c8 oz3 oz9 oz5 oz11 oz12 oz13 hc0 oz15<|.d4 oz16 (i6n ((↑k:Int)+1) a_) (wS_ k) (show BlkW (Blk.var [i64 ((rowR w bias lo hi z g k).lo+(Rng.mk (min (w.getD k 0*(lo-z)) (w.getD k 0*(hi-z))) (max (w.getD k 0*(lo-z)) (w.getD k 0*(hi-z)))).lo),i64 ((rowR w bias lo hi z g k).hi+(Rng.mk (min (w.getD k 0*(lo-z)) (w.getD k 0*(hi-z))) (max (w.getD k 0*(lo-z)) (w.getD k 0*(hi-z)))).hi)]) (Blk.var [i64 (rowR w bias lo hi z g (k+1)).lo,i64 (rowR w bias lo hi z g (k+1)).hi]) from (BlkW.var (m:=[i64 (rowR w bias lo hi z g (k+1)).lo,i64 (rowR w bias lo hi z g (k+1)).hi]) (.cons (N_ (by (simp_all[rowR,spA];done))) (.cons (N_ (by (simp_all[rowR,spA];done))) .nil)))))
theorem row_l_e (w:List Int) (bias lo hi z:Int) (g:Bool) (hw:∀ v∈w,In8 v) (wl:w.length≤1000000) (hb:In32 bias) (h1:In8 lo) (h2:In8 hi) (h3:In8 z):VT M_ (fnC Tryz.f207 [1,1,0,1,0,0]) (row_l_I w bias lo hi z g (w.length)) (.exit 0) (row_l_Z w bias lo hi z g):=by
 exact tR_ [r_,d_] [.any [25],.sort] (.d (decide_eq_false (p:=((w.length:Int)<(w.length:Int))) a_))
theorem row_l (w:List Int) (bias lo hi z:Int) (g:Bool) (hw:∀ v∈w,In8 v) (wl:w.length≤1000000) (hb:In32 bias) (h1:In8 lo) (h2:In8 hi) (h3:In8 z):VT M_ (fnC Tryz.f207 [1,1,0,1,0]) (row_l_I w bias lo hi z g 0) (.exit 0) (row_l_Z w bias lo hi z g) :=
 VT.loop (fun k=>row_l_I w bias lo hi z g k) (w.length) (fun k hk=>row_l_s w bias lo hi z g hw wl hb h1 h2 h3 k hk) (row_l_e w bias lo hi z g hw wl hb h1 h2 h3) c0_
theorem row_v (w:List Int) (bias lo hi z:Int) (g:Bool) (hw:∀ v∈w,In8 v) (wl:w.length≤1000000) (hb:In32 bias) (h1:In8 lo) (h2:In8 hi) (h3:In8 z):VC M_ 207 ([ints .i8 w,i32 bias,i8 lo,i8 hi,i8 z,bv g]) (rng (rowR w bias lo hi z g w.length)):=by
 obtain ⟨b1,b2⟩:=id hb
 have oz0:=(i6n bias a_)
 have oz2:=(N_ (k:=.i64) (show ((((K_ (row1 .i8) w).length:Int)):Int)=((w.length:Int)) from k0_))
 have oz5:=@row_l (w) (bias) (lo) (hi) (z) (g) hw wl hb h1 h2 h3
 exact cR_ [r_,.r [] [.n (nO oz0),.n (nO oz0)],r_,.code [.any (rg [(0,2),(17,5)]),.weak 23 (wO oz2),.weak 24 (i64 (↑0:Int)),.blk 13 (Blk.var [i64 (rowR w bias lo hi z g 0).lo,i64 (rowR w bias lo hi z g 0).hi]),.sort] (BS_ 0) (zO oz5),r_] _ Tryz.func207 (.d6 oz0 oz0 oz2 w0_ (show BlkW (Blk.var [i64 bias,i64 bias]) (Blk.var [i64 (rowR w bias lo hi z g 0).lo,i64 (rowR w bias lo hi z g 0).hi]) from (BlkW.var (m:=[i64 (rowR w bias lo hi z g 0).lo,i64 (rowR w bias lo hi z g 0).hi]) (.cons (.refl _) (.cons (N_ t0_) .nil)))) oz5)
def spRow (w:List Int) (b:List Int) (lo hi z:Int) (g:Bool) (o:Nat):Rng :=
 rowR (Q_ ((((o:Int)+1)*((w.length:Int)/(b.length:Int))).toNat-((o:Int)*((w.length:Int)/(b.length:Int))).toNat) (O_ ((o:Int)*((w.length:Int)/(b.length:Int))).toNat w)) (b.getD o 0) lo hi z g
  (Q_ ((((o:Int)+1)*((w.length:Int)/(b.length:Int))).toNat-((o:Int)*((w.length:Int)/(b.length:Int))).toNat) (O_ ((o:Int)*((w.length:Int)/(b.length:Int))).toNat w)).length
def allR (w:List Int) (b:List Int) (lo hi z:Int) (g:Bool) (k:Nat):List Rng:=(List.range k).map (spRow w b lo hi z g)
def sharedB (w b:List Int):Bool:=decide (0<b.length)&&decide ((w.length:Int) % (b.length:Int)=0)
theorem mem_td {α:Type} {l:List α} {a n:Nat} {v:α} (h:v∈Q_ n (O_ a l)):v∈l:=List.mem_of_mem_drop (List.mem_of_mem_take h)
theorem share_bd {m n k:Nat} (hk:k<n):0≤(k:Int)*((m:Int)/(n:Int))∧((k:Int)+1)*((m:Int)/(n:Int))≤m∧((k:Int)+1)*((m:Int)/(n:Int))=(k:Int)*((m:Int)/(n:Int))+(m:Int)/(n:Int)∧0≤(m:Int)/(n:Int)∧(m:Int)/(n:Int)≤m:=by
 have h0:0≤(m:Int)/(n:Int):=Int.ediv_nonneg a_ a_
 refine ⟨CC_ a_ h0,?_,by rw[Int.add_mul,Int.one_mul],h0,Int.ediv_le_self _ a_⟩
 have h1:((k:Int)+1)*((m:Int)/(n:Int))≤(n:Int)*((m:Int)/(n:Int)):=DO_ a_ h0
 have h2:(n:Int)*((m:Int)/(n:Int))≤m:=Int.mul_ediv_self_le a_
 omega
noncomputable def all_l_I (n:Nod) (lo hi:Int) (k:Nat):VS:=stt 64 [(1,i8 lo),(2,i8 hi),(3,.ptr 3 0 0),(7,i64 ((n.w.length:Int)/(n.b.length:Int))),(8,.own 900),(33,ints .i32 n.b),(34,i64 n.b.length),(35,i64 k)] [(3,.var (nodC n)),(900,.slc 304 2 ((allR n.w n.b lo hi n.za (decide (n.np>0)) k).map rngC))]
noncomputable def all_l_Z (n:Nod) (lo hi:Int):VS:=all_l_I n lo hi (n.b.length)
theorem all_l_s (n:Nod) (lo hi:Int) (ok:n.Ok) (h1:In8 lo) (h2:In8 hi) (wl:n.w.length≤100000) (bl:n.b.length≤100000) (b0:0<n.b.length) (k:Nat) (hk:k<n.b.length):VT M_ (fnC Tryz.f184 [1,1,1,1,0,1,0,0]) (all_l_I n lo hi k) .normal (all_l_I n lo hi (k+1)):=by
 have q1:=share_bd (m:=n.w.length) hk
 have q2:=gt32 ok.b k
 have q3:(allR n.w n.b lo hi n.za (decide (n.np>0)) k).length=k:=by simp[allR]
 have oz3:=(i6n ((↑k:Int)*((n.w.length:Int)/(n.b.length:Int))) a_)
 have oz4:=(i6n ((↑k:Int)+1) a_)
 have oz5:=(i6n (((↑k:Int)+1)*((n.w.length:Int)/(n.b.length:Int))) a_)
 have oz11:=@row_v (Q_ ((((↑k:Int)+1)*((n.w.length:Int)/(n.b.length:Int))).toNat-((↑k:Int)*((n.w.length:Int)/(n.b.length:Int))).toNat) (O_ ((↑k:Int)*((n.w.length:Int)/(n.b.length:Int))).toNat n.w)) (n.b.getD k 0) (lo) (hi) (n.za) (decide (n.np>0)) (by (exact fun v hv=>ok.w v (mem_td hv))) (by (rw[BL_,AS_];omega)) q2 h1 h2 (by (exact ok.za))
 exact tR_ [r_,b_,.r [] [.row [i32 (n.b.getD k 0)]],.r [] [.n (nO oz3),.n (nO oz4),.n (nO oz5),.nats ((↑k:Int)*((n.w.length:Int)/(n.b.length:Int))).toNat (((↑k:Int)+1)*((n.w.length:Int)/(n.b.length:Int))).toNat,ca oz11],.r [] [.n (nO oz4)]] [.any (rg [(9,2),(36,27)]),.drop [60],.ren 61 900,.weak 35 (i64 (↑(k+1):Int)),.blk 900 (Blk.slc 304 2 (K_ rngC (allR n.w n.b lo hi n.za (decide (n.np>0)) (k+1)))),.sort] (.c8 (decide_eq_true (p:=((↑k:Int)<(n.b.length:Int))) a_) (s_ (0≤(↑k:Int))) (map_at (row1 .i32) (0) (l:=n.b) (i:=k) hk) oz3 oz4 oz5 (s_ ((↑k:Int)*((n.w.length:Int)/(n.b.length:Int))=(↑((↑k:Int)*((n.w.length:Int)/(n.b.length:Int))).toNat:Int))) (s_ (((↑k:Int)+1)*((n.w.length:Int)/(n.b.length:Int))=(↑(((↑k:Int)+1)*((n.w.length:Int)/(n.b.length:Int))).toNat:Int)))<|.c8 (s_ (((↑k:Int)*((n.w.length:Int)/(n.b.length:Int))).toNat≤(((↑k:Int)+1)*((n.w.length:Int)/(n.b.length:Int))).toNat)) (h_ ((((↑k:Int)+1)*((n.w.length:Int)/(n.b.length:Int))).toNat≤(K_ (row1 .i8) n.w).length)) (show WeakL [AV.sl 1 (Q_ ((((↑k:Int)+1)*((n.w.length:Int)/(n.b.length:Int))).toNat-((↑k:Int)*((n.w.length:Int)/(n.b.length:Int))).toNat) (O_ ((↑k:Int)*((n.w.length:Int)/(n.b.length:Int))).toNat (K_ (row1 .i8) n.w))),i32 (n.b.getD k 0),i8 lo,i8 hi,i8 n.za,bv (decide (n.np>0))] [AV.sl 1 (K_ (row1 .i8) (Q_ ((((↑k:Int)+1)*((n.w.length:Int)/(n.b.length:Int))).toNat-((↑k:Int)*((n.w.length:Int)/(n.b.length:Int))).toNat) (O_ ((↑k:Int)*((n.w.length:Int)/(n.b.length:Int))).toNat n.w))),i32 (n.b.getD k 0),i8 lo,i8 hi,i8 n.za,bv (decide (n.np>0))] from (.cons (AH_ (rows_to (row1 .i8) (r:=Q_ ((((↑k:Int)+1)*((n.w.length:Int)/(n.b.length:Int))).toNat-((↑k:Int)*((n.w.length:Int)/(n.b.length:Int))).toNat) (O_ ((↑k:Int)*((n.w.length:Int)/(n.b.length:Int))).toNat (K_ (row1 .i8) n.w))) (l:=Q_ ((((↑k:Int)+1)*((n.w.length:Int)/(n.b.length:Int))).toNat-((↑k:Int)*((n.w.length:Int)/(n.b.length:Int))).toNat) (O_ ((↑k:Int)*((n.w.length:Int)/(n.b.length:Int))).toNat n.w)) (m:=Q_ ((((↑k:Int)+1)*((n.w.length:Int)/(n.b.length:Int))).toNat-((↑k:Int)*((n.w.length:Int)/(n.b.length:Int))).toNat) (O_ ((↑k:Int)*((n.w.length:Int)/(n.b.length:Int))).toNat n.w)) g_ rfl)) (.cons (.refl _) (.cons (.refl _) (.cons (.refl _) (.cons (.refl _) (.cons (.refl _) .nil))))))) oz11 (show ((K_ rngC (allR n.w n.b lo hi n.za (decide (n.np>0)) k)).length+1)*16≤140737488355328 by (simp only[V_] at *;omega)) (show (K_ rngC (allR n.w n.b lo hi n.za (decide (n.np>0)) k)).length+1≤9223372036854775807 by (simp only[V_] at *;omega)) oz4 (wS_ k)<|.d (show BlkW (Blk.slc 304 2 (K_ rngC (allR n.w n.b lo hi n.za (decide (n.np>0)) k)++[[i64 (rowR (Q_ ((((↑k:Int)+1)*((n.w.length:Int)/(n.b.length:Int))).toNat-((↑k:Int)*((n.w.length:Int)/(n.b.length:Int))).toNat) (O_ ((↑k:Int)*((n.w.length:Int)/(n.b.length:Int))).toNat n.w)) (n.b.getD k 0) lo hi n.za (decide (n.np>0)) (Q_ ((((↑k:Int)+1)*((n.w.length:Int)/(n.b.length:Int))).toNat-((↑k:Int)*((n.w.length:Int)/(n.b.length:Int))).toNat) (O_ ((↑k:Int)*((n.w.length:Int)/(n.b.length:Int))).toNat n.w)).length).lo,i64 (rowR (Q_ ((((↑k:Int)+1)*((n.w.length:Int)/(n.b.length:Int))).toNat-((↑k:Int)*((n.w.length:Int)/(n.b.length:Int))).toNat) (O_ ((↑k:Int)*((n.w.length:Int)/(n.b.length:Int))).toNat n.w)) (n.b.getD k 0) lo hi n.za (decide (n.np>0)) (Q_ ((((↑k:Int)+1)*((n.w.length:Int)/(n.b.length:Int))).toNat-((↑k:Int)*((n.w.length:Int)/(n.b.length:Int))).toNat) (O_ ((↑k:Int)*((n.w.length:Int)/(n.b.length:Int))).toNat n.w)).length).hi]])) (Blk.slc 304 2 (K_ rngC (allR n.w n.b lo hi n.za (decide (n.np>0)) (k+1)))) from (CW_ (e:=304) (z:=2) (rows_to (rngC) (r:=K_ rngC (allR n.w n.b lo hi n.za (decide (n.np>0)) k)++[[i64 (rowR (Q_ ((((↑k:Int)+1)*((n.w.length:Int)/(n.b.length:Int))).toNat-((↑k:Int)*((n.w.length:Int)/(n.b.length:Int))).toNat) (O_ ((↑k:Int)*((n.w.length:Int)/(n.b.length:Int))).toNat n.w)) (n.b.getD k 0) lo hi n.za (decide (n.np>0)) (Q_ ((((↑k:Int)+1)*((n.w.length:Int)/(n.b.length:Int))).toNat-((↑k:Int)*((n.w.length:Int)/(n.b.length:Int))).toNat) (O_ ((↑k:Int)*((n.w.length:Int)/(n.b.length:Int))).toNat n.w)).length).lo,i64 (rowR (Q_ ((((↑k:Int)+1)*((n.w.length:Int)/(n.b.length:Int))).toNat-((↑k:Int)*((n.w.length:Int)/(n.b.length:Int))).toNat) (O_ ((↑k:Int)*((n.w.length:Int)/(n.b.length:Int))).toNat n.w)) (n.b.getD k 0) lo hi n.za (decide (n.np>0)) (Q_ ((((↑k:Int)+1)*((n.w.length:Int)/(n.b.length:Int))).toNat-((↑k:Int)*((n.w.length:Int)/(n.b.length:Int))).toNat) (O_ ((↑k:Int)*((n.w.length:Int)/(n.b.length:Int))).toNat n.w)).length).hi]]) (l:=allR n.w n.b lo hi n.za (decide (n.np>0)) k++[Rng.mk (rowR (Q_ ((((↑k:Int)+1)*((n.w.length:Int)/(n.b.length:Int))).toNat-((↑k:Int)*((n.w.length:Int)/(n.b.length:Int))).toNat) (O_ ((↑k:Int)*((n.w.length:Int)/(n.b.length:Int))).toNat n.w)) (n.b.getD k 0) lo hi n.za (decide (n.np>0)) (Q_ ((((↑k:Int)+1)*((n.w.length:Int)/(n.b.length:Int))).toNat-((↑k:Int)*((n.w.length:Int)/(n.b.length:Int))).toNat) (O_ ((↑k:Int)*((n.w.length:Int)/(n.b.length:Int))).toNat n.w)).length).lo (rowR (Q_ ((((↑k:Int)+1)*((n.w.length:Int)/(n.b.length:Int))).toNat-((↑k:Int)*((n.w.length:Int)/(n.b.length:Int))).toNat) (O_ ((↑k:Int)*((n.w.length:Int)/(n.b.length:Int))).toNat n.w)) (n.b.getD k 0) lo hi n.za (decide (n.np>0)) (Q_ ((((↑k:Int)+1)*((n.w.length:Int)/(n.b.length:Int))).toNat-((↑k:Int)*((n.w.length:Int)/(n.b.length:Int))).toNat) (O_ ((↑k:Int)*((n.w.length:Int)/(n.b.length:Int))).toNat n.w)).length).hi]) (m:=allR n.w n.b lo hi n.za (decide (n.np>0)) (k+1)) (by first|(simp only[X_,A_,AM_,AN_,S_,B_,C_];done)|rfl|(simp only[X_,A_,AM_,AN_,S_,B_,C_];rfl)|(simp only[X_,A_,AM_,AN_,S_,B_,C_,rngC,ints];done)) (show (allR n.w n.b lo hi n.za (decide (n.np>0)) k++[Rng.mk (rowR (Q_ ((((↑k:Int)+1)*((n.w.length:Int)/(n.b.length:Int))).toNat-((↑k:Int)*((n.w.length:Int)/(n.b.length:Int))).toNat) (O_ ((↑k:Int)*((n.w.length:Int)/(n.b.length:Int))).toNat n.w)) (n.b.getD k 0) lo hi n.za (decide (n.np>0)) (Q_ ((((↑k:Int)+1)*((n.w.length:Int)/(n.b.length:Int))).toNat-((↑k:Int)*((n.w.length:Int)/(n.b.length:Int))).toNat) (O_ ((↑k:Int)*((n.w.length:Int)/(n.b.length:Int))).toNat n.w)).length).lo (rowR (Q_ ((((↑k:Int)+1)*((n.w.length:Int)/(n.b.length:Int))).toNat-((↑k:Int)*((n.w.length:Int)/(n.b.length:Int))).toNat) (O_ ((↑k:Int)*((n.w.length:Int)/(n.b.length:Int))).toNat n.w)) (n.b.getD k 0) lo hi n.za (decide (n.np>0)) (Q_ ((((↑k:Int)+1)*((n.w.length:Int)/(n.b.length:Int))).toNat-((↑k:Int)*((n.w.length:Int)/(n.b.length:Int))).toNat) (O_ ((↑k:Int)*((n.w.length:Int)/(n.b.length:Int))).toNat n.w)).length).hi])=(allR n.w n.b lo hi n.za (decide (n.np>0)) (k+1)) from (by (rw[allR,allR,List.range_succ,X_];rfl)))))))
theorem all_l_e (n:Nod) (lo hi:Int) (ok:n.Ok) (h1:In8 lo) (h2:In8 hi) (wl:n.w.length≤100000) (bl:n.b.length≤100000) (b0:0<n.b.length):VT M_ (fnC Tryz.f184 [1,1,1,1,0,1,0,0]) (all_l_I n lo hi (n.b.length)) (.exit 0) (all_l_Z n lo hi):=by
 exact tR_ [r_,d_] [.any [36],.sort] (.d (decide_eq_false (p:=((n.b.length:Int)<(n.b.length:Int))) a_))
theorem all_l (n:Nod) (lo hi:Int) (ok:n.Ok) (h1:In8 lo) (h2:In8 hi) (wl:n.w.length≤100000) (bl:n.b.length≤100000) (b0:0<n.b.length):VT M_ (fnC Tryz.f184 [1,1,1,1,0,1,0]) (all_l_I n lo hi 0) (.exit 0) (all_l_Z n lo hi) :=
 VT.loop (fun k=>all_l_I n lo hi k) (n.b.length) (fun k hk=>all_l_s n lo hi ok h1 h2 wl bl b0 k hk) (all_l_e n lo hi ok h1 h2 wl bl b0) c0_
theorem all_v (n:Nod) (lo hi:Int) (ok:n.Ok) (h1:In8 lo) (h2:In8 hi) (wl:n.w.length≤100000) (bl:n.b.length≤100000):VC M_ 184 ([nod n,i8 lo,i8 hi]) (.sl 2 ((allR n.w n.b lo hi n.za (decide (n.np>0)) (if sharedB n.w n.b=true then n.b.length else 0)).map rngC)):=by
 have q1:(n.b.length:Int)≠0→(0≤(n.w.length:Int)/(n.b.length:Int)∧(n.w.length:Int)/(n.b.length:Int)≤n.w.length):=fun h=>⟨Int.ediv_nonneg a_ a_,Int.ediv_le_self _ a_⟩
 have q4:(n.b.length:Int)≠0→0≤(n.w.length:Int) % (n.b.length:Int)∧(n.w.length:Int) % (n.b.length:Int)<(n.b.length:Int):=fun h=>⟨Int.emod_nonneg _ h,Int.emod_lt_of_pos _ a_⟩
 have oz0:=(show (!((K_ (row1 .i32) n.b).length:Int)==0)=true→((K_ (row1 .i32) n.b).length:Int)≠0 from (fun hc0=>have gc0:¬((K_ (row1 .i32) n.b).length:Int)=0:=m_;(by with_reducible assumption)))
 have oz1:=(show (!((K_ (row1 .i32) n.b).length:Int)==0)=true→((K_ (row1 .i8) n.w).length:Int).tmod ((K_ (row1 .i32) n.b).length:Int)=((K_ (row1 .i8) n.w).length:Int) % ((K_ (row1 .i32) n.b).length:Int) from (fun hc0=>have gc0:¬((K_ (row1 .i32) n.b).length:Int)=0:=m_;(CF_ a_)))
 rcases bft (((K_ (row1 .i32) n.b).length:Int)==0 || ((K_ (row1 .i8) n.w).length:Int) % ((K_ (row1 .i32) n.b).length:Int) != 0) with hc0|hc0
 ·have gc0:((K_ (row1 .i32) n.b).length:Int)=0∨¬((K_ (row1 .i8) n.w).length:Int) % ((K_ (row1 .i32) n.b).length:Int)=0:=gc0_ hc0
  exact (cR_ [r_,.r [] [o_,o_,o_,o_,o_,o_,p_,.n (((K_ (row1 .i8) n.w).length:Int) % ((K_ (row1 .i32) n.b).length:Int)),o_,.sel 1],b_,r_] (AV.lit (AK_ none 0 0)) Tryz.func184 (.d3 oz0 oz1 hc0)).weak (AQ_ _) (Weak.nilr (show []=(K_ rngC (allR n.w n.b lo hi n.za (decide (n.np>0)) (if sharedB n.w n.b=true then n.b.length else 0))) from (by (simp only[V_] at *;simp only[sharedB,P_,E_];rw[j_ a_];rfl))))
 ·have gc0:¬((K_ (row1 .i32) n.b).length:Int)=0∧((K_ (row1 .i8) n.w).length:Int) % ((K_ (row1 .i32) n.b).length:Int)=0:=gc0_ hc0
  have oz4:=(show IntKind.i64.wrap (((K_ (row1 .i8) n.w).length:Int).tdiv ((K_ (row1 .i32) n.b).length:Int))=((K_ (row1 .i8) n.w).length:Int)/((K_ (row1 .i32) n.b).length:Int) from (Eq.trans (congrArg _ (BH_ a_)) (by with_reducible exact i6n _ (by simp only[V_] at *;have:=q1 a_;omega))))
  have oz5:=(N_ (k:=.i64) (show ((((K_ (row1 .i8) n.w).length:Int)/((K_ (row1 .i32) n.b).length:Int)):Int)=((n.w.length:Int)/(n.b.length:Int)) from k0_))
  have oz6:=(N_ (k:=.i64) (show ((((K_ (row1 .i32) n.b).length:Int)):Int)=((n.b.length:Int)) from k0_))
  have oz8:=@all_l (n) (lo) (hi) ok h1 h2 wl bl (by (simp only[V_] at *;omega))
  exact (cR_ [r_,.r [] [o_,o_,o_,o_,o_,o_,p_,.n (((K_ (row1 .i8) n.w).length:Int) % ((K_ (row1 .i32) n.b).length:Int)),o_,.sel 1],d_,.r [] [.n (((K_ (row1 .i8) n.w).length:Int)/((K_ (row1 .i32) n.b).length:Int))],r_,r_,.code [.any (rg [(0,1),(6,1),(11,5),(24,9)]),.weak 7 (wO oz5),.weak 34 (wO oz6),.weak 35 (i64 (↑0:Int)),.nils 8 900 304 2,.sort] (BS_ 0) (zO oz8),r_] (AV.sl 2 (K_ rngC (allR n.w n.b lo hi n.za (decide (n.np>0)) n.b.length))) Tryz.func184 (.c8 oz0 oz1 hc0 (s_ (((K_ (row1 .i32) n.b).length:Int)≠0)) oz4 oz5 oz6 w0_<|.d oz8)).weak (AQ_ _) (AH_ (rows_to (rngC) (r:=K_ rngC (allR n.w n.b lo hi n.za (decide (n.np>0)) n.b.length)) (l:=allR n.w n.b lo hi n.za (decide (n.np>0)) n.b.length) (m:=allR n.w n.b lo hi n.za (decide (n.np>0)) (if sharedB n.w n.b=true then n.b.length else 0)) rfl (show (allR n.w n.b lo hi n.za (decide (n.np>0)) n.b.length)=(allR n.w n.b lo hi n.za (decide (n.np>0)) (if sharedB n.w n.b=true then n.b.length else 0)) from (by (simp only[V_] at *;simp only[sharedB,P_,E_];rw[i_ a_])))))
def holdB (r:Rng):Bool:=decide (-2147483648≤r.lo)&&decide (r.hi≤2147483647)
theorem first_fail {p:Nat→Bool}:∀ n,(∃ k,k<n∧p k=false)→∃ m,m<n∧p m=false∧∀ k,k<m→p k=true
 | 0,⟨k,h,_⟩=>by omega
 | n+1,⟨k,h,hp⟩=>by
  by_cases hq:∃ k,k<n∧p k=false
  ·obtain ⟨m,h1,h2,h3⟩:=first_fail n hq;exact ⟨m,by omega,h2,h3⟩
  ·have hk:k=n:=by
    apply cbc;intro hne;exact hq ⟨k,by omega,hp⟩
   subst hk
   refine ⟨k,by omega,hp,fun j hj=>?_⟩
   cases hpj:p j with
   | true=>rfl
   | false=>exact absurd ⟨j,hj,hpj⟩ hq
theorem all_or (p:Nat→Bool) (n:Nat):(∀ k,k<n→p k=true)∨∃ m,m<n∧p m=false∧∀ k,k<m→p k=true:=by
 by_cases hq:∃ k,k<n∧p k=false
 ·exact .inr (first_fail n hq)
 ·refine .inl fun k hk=>?_
  cases hpk:p k with
  | true=>rfl
  | false=>exact absurd ⟨k,hk,hpk⟩ hq
theorem all_getD {α:Type} [Inhabited α] {l:List α} {p:α→Bool}:l.all p=true↔∀ k,k<l.length→p (l.getD k default)=true:=by
 rw[List.all_eq_true]
 constructor
 ·intro h k hk
  rw[AU_,AP_ hk];exact h _ (CN_ hk)
 ·intro h x hx
  obtain ⟨i,hi,rfl⟩:=List.getElem_of_mem hx
  have:=h i hi
  rwa [AU_,AP_ hi] at this
noncomputable def holds_ly_I (l:List Rng) (k:Nat):VS:=stt 20 [(5,.sl 2 (l.map rngC)),(6,i64 l.length),(7,i64 k)] []
noncomputable def holds_ly_Z (l:List Rng):VS:=holds_ly_I l (l.length)
theorem holds_ly_s (l:List Rng) (hl:l.length≤1000000) (h:∀ k,k<l.length→holdB (l.getD k default)=true) (k:Nat) (hk:k<l.length):VT M_ (fnC Tryz.f185 [1,0,1,0,0]) (holds_ly_I l k) .normal (holds_ly_I l (k+1)):=by
 have q:=h k hk
 simp only[holdB,P_,E_] at q
 have oz2:=(map_at (rngC) (default) (l:=l) (i:=k) hk)
 have oz3:=(decide_eq_false (p:=((l.getD k default).lo < -2147483648)) a_)
 exact tR_ [r_,b_,.r [] [.row (sO oz2)],.r [] [e_,e_,e_,f_],d_,.r [] [.n ((↑k:Int)+1)]] [.any (rg [(4,1),(8,12)]),.drop [4],.weak 7 (i64 (↑(k+1):Int)),.sort] (.c8 (decide_eq_true (p:=((↑k:Int)<(l.length:Int))) a_) (s_ (0≤(↑k:Int))) oz2 oz3 oz3 oz3 oz3 (decide_eq_false (p:=((l.getD k default).hi>2147483647)) a_)<|.d2 (i6n ((↑k:Int)+1) a_) (wS_ k))
theorem holds_ly_e (l:List Rng) (hl:l.length≤1000000) (h:∀ k,k<l.length→holdB (l.getD k default)=true):VT M_ (fnC Tryz.f185 [1,0,1,0,0]) (holds_ly_I l (l.length)) (.exit 0) (holds_ly_Z l):=by
 exact tR_ [r_,d_] [.any [8],.sort] (.d (decide_eq_false (p:=((l.length:Int)<(l.length:Int))) a_))
theorem holds_ly (l:List Rng) (hl:l.length≤1000000) (h:∀ k,k<l.length→holdB (l.getD k default)=true):VT M_ (fnC Tryz.f185 [1,0,1,0]) (holds_ly_I l 0) (.exit 0) (holds_ly_Z l) :=
 VT.loop (fun k=>holds_ly_I l k) (l.length) (fun k hk=>holds_ly_s l hl h k hk) (holds_ly_e l hl h) c0_
noncomputable def holds_ln_I (l:List Rng) (m:Nat) (k:Nat):VS:=stt 20 [(5,.sl 2 (l.map rngC)),(6,i64 l.length),(7,i64 k)] []
noncomputable def holds_ln_Z (l:List Rng) (m:Nat):VS:=stt 20 [(2,bv false)] []
theorem holds_ln_s (l:List Rng) (m:Nat) (hl:l.length≤1000000) (hm:m<l.length) (hf:holdB (l.getD m default)=false) (h:∀ k,k<m→holdB (l.getD k default)=true) (k:Nat) (hk:k<m):VT M_ (fnC Tryz.f185 [1,0,1,0,0]) (holds_ln_I l m k) .normal (holds_ln_I l m (k+1)):=by
 have q:=h k hk
 simp only[holdB,P_,E_] at q
 have oz2:=(map_at (rngC) (default) (l:=l) (i:=k) a_)
 have oz3:=(decide_eq_false (p:=((l.getD k default).lo < -2147483648)) a_)
 exact tR_ [r_,b_,.r [] [.row (sO oz2)],.r [] [e_,e_,e_,f_],d_,.r [] [.n ((↑k:Int)+1)]] [.any (rg [(4,1),(8,12)]),.drop [4],.weak 7 (i64 (↑(k+1):Int)),.sort] (.c8 (decide_eq_true (p:=((↑k:Int)<(l.length:Int))) a_) (s_ (0≤(↑k:Int))) oz2 oz3 oz3 oz3 oz3 (decide_eq_false (p:=((l.getD k default).hi>2147483647)) a_)<|.d2 (i6n ((↑k:Int)+1) a_) (wS_ k))
theorem holds_ln_e (l:List Rng) (m:Nat) (hl:l.length≤1000000) (hm:m<l.length) (hf:holdB (l.getD m default)=false) (h:∀ k,k<m→holdB (l.getD k default)=true):VT M_ (fnC Tryz.f185 [1,0,1,0,0]) (holds_ln_I l m (m)) (.ret) (holds_ln_Z l m):=by
 simp only[holdB,R_,F_] at hf
 have oz2:=(map_at (rngC) (default) (l:=l) (i:=m) hm)
 exact tR_ [r_,b_,.r [] [.row (sO oz2)],.r [] [o_,o_,o_,.sel 1],b_,r_] [.any (rg [(4,11),(18,1)]),.drop [4],.sort] (.d4 (decide_eq_true (p:=((↑m:Int)<(l.length:Int))) a_) (s_ (0≤(↑m:Int))) oz2 (f0_ ((decide ((l.getD m default).lo < -2147483648) || decide ((l.getD m default).hi>2147483647))=true)))
theorem holds_ln (l:List Rng) (m:Nat) (hl:l.length≤1000000) (hm:m<l.length) (hf:holdB (l.getD m default)=false) (h:∀ k,k<m→holdB (l.getD k default)=true):VT M_ (fnC Tryz.f185 [1,0,1,0]) (holds_ln_I l m 0) (.ret) (holds_ln_Z l m) :=
 VT.loop (fun k=>holds_ln_I l m k) (m) (fun k hk=>holds_ln_s l m hl hm hf h k hk) (holds_ln_e l m hl hm hf h) c0_
theorem holds_y (l:List Rng) (hl:l.length≤1000000) (h:∀ k,k<l.length→holdB (l.getD k default)=true):VC M_ 185 ([.sl 2 (l.map rngC)]) (bv true):=by
 have oz2:=@holds_ly (l) hl h
 exact cR_ [r_,r_,.code [.any [0,2],.weak 6 (i64 (l.length:Int)),.weak 7 (i64 (↑0:Int)),.sort] (BS_ 0) (zO oz2),r_] _ Tryz.func185 (.d3 (N_ (k:=.i64) (show ((((K_ rngC l).length:Int)):Int)=((l.length:Int)) from k0_)) w0_ oz2)
theorem holds_n (l:List Rng) (m:Nat) (hl:l.length≤1000000) (hm:m<l.length) (hf:holdB (l.getD m default)=false) (h:∀ k,k<m→holdB (l.getD k default)=true):VC M_ 185 ([.sl 2 (l.map rngC)]) (bv false):=by
 have oz2:=@holds_ln (l) (m) hl hm hf h
 exact cR_ [r_,r_,.code [.any [0,2],.weak 6 (i64 (l.length:Int)),.weak 7 (i64 (↑0:Int)),.sort] (DT_) (zO oz2)] _ Tryz.func185 (.d3 (N_ (k:=.i64) (show ((((K_ rngC l).length:Int)):Int)=((l.length:Int)) from k0_)) w0_ oz2)
theorem holds_v (l:List Rng) (hl:l.length≤1000000):VC M_ 185 [.sl 2 (l.map rngC)] (bv (l.all holdB)):=by
 rcases all_or (fun k=>holdB (l.getD k default)) l.length with h|⟨m,h1,h2,h3⟩
 ·rw[all_getD.2 h];exact holds_y l hl h
 ·have:l.all holdB=false:=by
   cases e:l.all holdB with
   | false=>rfl
   | true=>have:=all_getD.1 e m h1;exact absurd (this.symm.trans h2) v0_
  rw[this];exact holds_n l m hl h1 h2 h3
theorem z0_:true=true:=rfl
theorem clone32_a   : VC M_ 68 ([nilv]) (ints .i32 []):=by
 exact (cR_ [r_,r_,b_,r_] (AV.lit (AK_ none 0 0)) Tryz.func68 (.d z0_)).weak (AQ_ _) (AV_ _)
theorem z1_:false=false:=rfl
theorem clone32_b (a:Addr) (cap:Nat) (h:cap≤maxLen):VC M_ 68 ([.lit (.slice (some a) 0 cap)]) (ints .i32 []):=by
 exact cR_ [r_,r_,d_,.r [] [.code Exit.normal (VS.mk [AV.sl 1 []] [])]] _ Tryz.func68 (.d4 z1_ (show Weak (AV.lit (AK_ (some a) 0 cap)) (AV.sl 1 []) from (Weak.empty _ _ b0_)) (s_ (((0:Nat)+(0:Nat))*(4:Nat)≤(140737488355328:Nat))) (s_ ((0:Nat)+(0:Nat)≤(9223372036854775807:Nat))))
theorem clone32_c (l:List Int) (h:l≠[]) (hl:l.length≤1000000):VC M_ 68 ([ints .i32 l]) (ints .i32 l):=by
 exact (cR_ [r_,r_,d_,r_] (AV.sl 1 ([]++K_ (row1 .i32) l)) Tryz.func68 (.d4 (h_ (K_ (row1 .i32) l≠[])) z1_ (h_ ((0+(K_ (row1 .i32) l).length)*4≤140737488355328)) (h_ (0+(K_ (row1 .i32) l).length≤9223372036854775807)))).weak (AQ_ _) (AH_ (rows_to (row1 .i32) (r:=[]++K_ (row1 .i32) l) (l:=[]++l) (m:=l) g_ (show ([]++l)=(l) from k0_)))
theorem clone32_v (l:List Int) (hl:l.length≤1000000):VC M_ 68 [ints .i32 l] (ints .i32 l):=by
 cases l with
 | nil=>exact VC.empty1 clone32_a fun a cap h=>clone32_b a cap h
 | cons x l=>exact clone32_c _ v0_ hl
theorem clone8_a   : VC M_ 67 ([nilv]) (ints .i8 []):=by
 exact (cR_ [r_,r_,b_,r_] (AV.lit (AK_ none 0 0)) Tryz.func67 (.d z0_)).weak (AQ_ _) (AV_ _)
theorem clone8_b (a:Addr) (cap:Nat) (h:cap≤maxLen):VC M_ 67 ([.lit (.slice (some a) 0 cap)]) (ints .i8 []):=by
 exact cR_ [r_,r_,d_,.r [] [.code Exit.normal (VS.mk [AV.sl 1 []] [])]] _ Tryz.func67 (.d4 z1_ (show Weak (AV.lit (AK_ (some a) 0 cap)) (AV.sl 1 []) from (Weak.empty _ _ b0_)) (s_ (((0:Nat)+(0:Nat))*(1:Nat)≤(140737488355328:Nat))) (s_ ((0:Nat)+(0:Nat)≤(9223372036854775807:Nat))))
theorem clone8_c (l:List Int) (h:l≠[]) (hl:l.length≤1000000):VC M_ 67 ([ints .i8 l]) (ints .i8 l):=by
 exact (cR_ [r_,r_,d_,r_] (AV.sl 1 ([]++K_ (row1 .i8) l)) Tryz.func67 (.d4 (h_ (K_ (row1 .i8) l≠[])) z1_ (h_ ((0+(K_ (row1 .i8) l).length)*1≤140737488355328)) (h_ (0+(K_ (row1 .i8) l).length≤9223372036854775807)))).weak (AQ_ _) (AH_ (rows_to (row1 .i8) (r:=[]++K_ (row1 .i8) l) (l:=[]++l) (m:=l) g_ (show ([]++l)=(l) from k0_)))
theorem clone8_v (l:List Int) (hl:l.length≤1000000):VC M_ 67 [ints .i8 l] (ints .i8 l):=by
 cases l with
 | nil=>exact VC.empty1 clone8_a fun a cap h=>clone8_b a cap h
 | cons x l=>exact clone8_c _ v0_ hl
def kindNames:List ByteArray:=[⟨#[]⟩,⟨#[99,111,110,118]⟩,⟨#[100,101,112,116,104]⟩,⟨#[100,101,110,115,101]⟩,⟨#[109,97,120,112,111,111,108]⟩,⟨#[97,118,103,112,111,111,108]⟩,⟨#[106,111,105,110]⟩,⟨#[97,99,116]⟩,⟨#[112,97,100]⟩,⟨#[102,108,97,116]⟩]
def nameS (k:Int):ByteArray:=kindNames.getD k.toNat ⟨#[]⟩
abbrev strv (s:ByteArray):AV:=.lit (.string s)
theorem name_row {k:Int} (h1:k<10):([[strv ⟨#[]⟩],[strv ⟨#[99,111,110,118]⟩],[strv ⟨#[100,101,112,116,104]⟩],[strv ⟨#[100,101,110,115,101]⟩],[strv ⟨#[109,97,120,112,111,111,108]⟩],[strv ⟨#[97,118,103,112,111,111,108]⟩],[strv ⟨#[106,111,105,110]⟩],[strv ⟨#[97,99,116]⟩],[strv ⟨#[112,97,100]⟩],[strv ⟨#[102,108,97,116]⟩]]:List (List AV))[k.toNat]? = some [strv (nameS k)] :=
 map_at (fun s=>[strv s]) ⟨#[]⟩ (l:=kindNames) (i:=k.toNat) (by show k.toNat<10;omega)
theorem name_out {k:Int} (h:k<0∨10≤k):nameS k=⟨#[]⟩:=by
 unfold nameS
 rcases h with h|h
 ·rw[show k.toNat=0 by omega];rfl
 ·rw[AU_,DL_ (by show 10≤k.toNat;omega)];rfl
theorem name_in {k:Int} (h0:1≤k) (h1:k≤9):nameS k≠⟨#[]⟩:=by
 have:k=1∨k=2∨k=3∨k=4∨k=5∨k=6∨k=7∨k=8∨k=9:=by omega
 rcases this with rfl|rfl|rfl|rfl|rfl|rfl|rfl|rfl|rfl<;>(intro h;exact absurd (congrArg (fun b:ByteArray=>b.size) h) x_)
theorem nameEq_in {k:Int} (h0:1≤k) (h1:k≤9):((nameS k).toList==(ByteArray.mk #[]).toList)=false:=by
 have:k=1∨k=2∨k=3∨k=4∨k=5∨k=6∨k=7∨k=8∨k=9:=by omega
 have e1:((nameS 1).toList==(ByteArray.mk #[]).toList)=false:=w_
 have e2:((nameS 2).toList==(ByteArray.mk #[]).toList)=false:=w_
 have e3:((nameS 3).toList==(ByteArray.mk #[]).toList)=false:=w_
 have e4:((nameS 4).toList==(ByteArray.mk #[]).toList)=false:=w_
 have e5:((nameS 5).toList==(ByteArray.mk #[]).toList)=false:=w_
 have e6:((nameS 6).toList==(ByteArray.mk #[]).toList)=false:=w_
 have e7:((nameS 7).toList==(ByteArray.mk #[]).toList)=false:=w_
 have e8:((nameS 8).toList==(ByteArray.mk #[]).toList)=false:=w_
 have e9:((nameS 9).toList==(ByteArray.mk #[]).toList)=false:=w_
 rcases this with rfl|rfl|rfl|rfl|rfl|rfl|rfl|rfl|rfl<;>assumption
theorem nameEq_out {k:Int} (h:k<1∨9<k):((nameS k).toList==(ByteArray.mk #[]).toList)=true:=by
 have:nameS k=⟨#[]⟩:=by
  by_cases h0:k=0
  ·subst h0;rfl
  ·exact name_out a_
 rw[this];exact beq_self_eq_true _
theorem name_v (k:Int) (hk:In64 k):VC M_ 160 ([i64 k]) (strv (nameS k)):=by
 rcases bft (decide (k<0) || decide (k≥10)) with hc0|hc0
 ·have gc0:k<0∨k≥10:=gc0_ hc0
  exact (cR_ [r_,r_,.r [] [o_,o_,.sel 1],b_,r_] (AV.lit (CS_ (ByteArray.mk #[]))) Tryz.func160 (.d hc0)).weak (AQ_ _) (Weak.str (show ((ByteArray.mk #[]):ByteArray)=(nameS k) from (by (rw[name_out a_]))))
 ·have gc0:¬k<0∧¬k≥10:=gc0_ hc0
  have oz3:=(show [[AV.lit (CS_ (ByteArray.mk #[]))],[AV.lit (CS_ (ByteArray.mk #[99,111,110,118]))],[AV.lit (CS_ (ByteArray.mk #[100,101,112,116,104]))],[AV.lit (CS_ (ByteArray.mk #[100,101,110,115,101]))],[AV.lit (CS_ (ByteArray.mk #[109,97,120,112,111,111,108]))],[AV.lit (CS_ (ByteArray.mk #[97,118,103,112,111,111,108]))],[AV.lit (CS_ (ByteArray.mk #[106,111,105,110]))],[AV.lit (CS_ (ByteArray.mk #[97,99,116]))],[AV.lit (CS_ (ByteArray.mk #[112,97,100]))],[AV.lit (CS_ (ByteArray.mk #[102,108,97,116]))]][k.toNat]? = some [strv (nameS k)] by (exact name_row a_))
  exact cR_ [r_,r_,.r [] [o_,o_,.sel 1],d_,.r [] [.row (sO oz3)]] _ Tryz.func160 (.d4 hc0 (s_ (0≤k)) (s_ (k<(↑10:Int))) oz3)
theorem refName_v (k:Int) (hk:In64 k):VC M_ 110 ([i64 k]) (strv (nameS k)):=by
 rcases bft (decide (k<0) || decide (k>9)) with hc0|hc0
 ·have gc0:k<0∨k>9:=gc0_ hc0
  exact (cR_ [r_,r_,.r [] [o_,o_,.sel 1],b_,r_] (AV.lit (CS_ (ByteArray.mk #[]))) Tryz.func110 (.d hc0)).weak (AQ_ _) (Weak.str (show ((ByteArray.mk #[]):ByteArray)=(nameS k) from (by (rw[name_out a_]))))
 ·have gc0:¬k<0∧¬k>9:=gc0_ hc0
  have oz3:=(show [[AV.lit (CS_ (ByteArray.mk #[]))],[AV.lit (CS_ (ByteArray.mk #[99,111,110,118]))],[AV.lit (CS_ (ByteArray.mk #[100,101,112,116,104]))],[AV.lit (CS_ (ByteArray.mk #[100,101,110,115,101]))],[AV.lit (CS_ (ByteArray.mk #[109,97,120,112,111,111,108]))],[AV.lit (CS_ (ByteArray.mk #[97,118,103,112,111,111,108]))],[AV.lit (CS_ (ByteArray.mk #[106,111,105,110]))],[AV.lit (CS_ (ByteArray.mk #[97,99,116]))],[AV.lit (CS_ (ByteArray.mk #[112,97,100]))],[AV.lit (CS_ (ByteArray.mk #[102,108,97,116]))]][k.toNat]? = some [strv (nameS k)] by (exact name_row a_))
  exact cR_ [r_,r_,.r [] [o_,o_,.sel 1],d_,.r [] [.row (sO oz3)]] _ Tryz.func110 (.d4 hc0 (s_ (0≤k)) (s_ (k<(↑10:Int))) oz3)
theorem getD_ext {l m:List Int} (hl:l.length=m.length) (h:∀ k,k<l.length→(l.getD k 0==m.getD k 0)=true):l=m:=by
 apply List.ext_getElem hl
 intro i h1 h2
 have:=h i h1
 rw[I_,AU_,AU_,AP_ h1,AP_ h2] at this
 simpa using this
theorem list_cases (l m:List Int):l.length≠m.length∨l=m∨(l.length=m.length∧∃ k,k<l.length∧l.getD k 0≠m.getD k 0∧∀ j,j<k→l.getD j 0=m.getD j 0):=by
 by_cases hl:l.length=m.length
 ·rcases all_or (fun k=>l.getD k 0==m.getD k 0) l.length with h|⟨k,h1,h2,h3⟩
  ·exact .inr (.inl (getD_ext hl h))
  ·exact .inr (.inr ⟨hl,k,h1,by simpa using h2,fun j hj=>by simpa using h3 j hj⟩)
 ·exact .inl hl
theorem VC.alike {P:Program} {f:Nat} {k:IntKind} {l m:List Int} (h1:l.length≠m.length→VC P f [ints k l,ints k m] (bv false)) (h2:VC P f [ints k l,ints k l] (bv true)) (h3:∀ i,l.length=m.length→i<l.length→l.getD i 0≠m.getD i 0→(∀ j,j<i→l.getD j 0=m.getD j 0)→VC P f [ints k l,ints k m] (bv false)):VC P f [ints k l,ints k m] (bv (decide (l=m))):=by
 rcases list_cases l m with h|rfl|⟨h,i,a,b,c⟩
 ·rw[decide_eq_false (fun e=>h (by rw[e]))];exact h1 h
 ·rw[decide_eq_true rfl];exact h2
 ·rw[decide_eq_false (fun e=>b (by rw[e]))];exact h3 i h a b c
noncomputable def eq8_ly_I (l:List Int) (k:Nat):VS:=stt 26 [(0,ints .i8 l),(1,ints .i8 l),(12,i64 l.length),(13,i64 k)] []
noncomputable def eq8_ly_Z (l:List Int):VS:=eq8_ly_I l (l.length)
theorem eq8_ly_s (l:List Int) (hl:l.length≤1000000) (k:Nat) (hk:k<l.length):VT M_ (fnC Tryz.f192 [1,1,0,1,0,0]) (eq8_ly_I l k) .normal (eq8_ly_I l (k+1)):=by
 have oz1:=(s_ (0≤(↑k:Int)))
 have oz2:=(map_at (row1 .i8) (0) (l:=l) (i:=k) hk)
 exact tR_ [r_,b_,r_,.r [] [.row (sO oz2),.row (sO oz2)],d_,.r [] [.n ((↑k:Int)+1)]] [.any (rg [(5,1),(14,12)]),.weak 13 (i64 (↑(k+1):Int)),.sort] (.d8 (decide_eq_true (p:=((↑k:Int)<(l.length:Int))) a_) oz1 oz2 oz1 oz2 (s0_ ((l.getD k 0 != l.getD k 0)=false)) (i6n ((↑k:Int)+1) a_) (wS_ k))
theorem eq8_ly_e (l:List Int) (hl:l.length≤1000000):VT M_ (fnC Tryz.f192 [1,1,0,1,0,0]) (eq8_ly_I l (l.length)) (.exit 0) (eq8_ly_Z l):=by
 exact tR_ [r_,d_] [.any [14],.sort] (.d (decide_eq_false (p:=((l.length:Int)<(l.length:Int))) a_))
theorem eq8_ly (l:List Int) (hl:l.length≤1000000):VT M_ (fnC Tryz.f192 [1,1,0,1,0]) (eq8_ly_I l 0) (.exit 0) (eq8_ly_Z l) :=
 VT.loop (fun k=>eq8_ly_I l k) (l.length) (fun k hk=>eq8_ly_s l hl k hk) (eq8_ly_e l hl) c0_
noncomputable def eq8_ln_I (l m:List Int) (i:Nat) (k:Nat):VS:=stt 26 [(0,ints .i8 l),(1,ints .i8 m),(12,i64 l.length),(13,i64 k)] []
noncomputable def eq8_ln_Z (l m:List Int) (i:Nat):VS:=stt 26 [(4,bv false)] []
theorem eq8_ln_s (l m:List Int) (i:Nat) (hl:l.length≤1000000) (hm:l.length=m.length) (hi:i<l.length) (hne:l.getD i 0≠m.getD i 0) (h:∀ j,j<i→l.getD j 0=m.getD j 0) (k:Nat) (hk:k<i):VT M_ (fnC Tryz.f192 [1,1,0,1,0,0]) (eq8_ln_I l m i k) .normal (eq8_ln_I l m i (k+1)):=by
 have q:=h k hk
 have oz1:=(s_ (0≤(↑k:Int)))
 exact tR_ [r_,b_,r_,.r [] [.row [i8 (l.getD k 0)],.row [i8 (m.getD k 0)]],d_,.r [] [.n ((↑k:Int)+1)]] [.any (rg [(5,1),(14,12)]),.weak 13 (i64 (↑(k+1):Int)),.sort] (.d8 (decide_eq_true (p:=((↑k:Int)<(l.length:Int))) a_) oz1 (map_at (row1 .i8) (0) (l:=l) (i:=k) a_) oz1 (map_at (row1 .i8) (0) (l:=m) (i:=k) a_) (f0_ ((l.getD k 0 != m.getD k 0)=false)) (i6n ((↑k:Int)+1) a_) (wS_ k))
theorem eq8_ln_e (l m:List Int) (i:Nat) (hl:l.length≤1000000) (hm:l.length=m.length) (hi:i<l.length) (hne:l.getD i 0≠m.getD i 0) (h:∀ j,j<i→l.getD j 0=m.getD j 0):VT M_ (fnC Tryz.f192 [1,1,0,1,0,0]) (eq8_ln_I l m i (i)) (.ret) (eq8_ln_Z l m i):=by
 have oz1:=(s_ (0≤(↑i:Int)))
 exact tR_ [r_,b_,r_,.r [] [.row [i8 (l.getD i 0)],.row [i8 (m.getD i 0)]],b_,r_] [.any (rg [(0,2),(5,1),(12,13)]),.sort] (.d6 (decide_eq_true (p:=((↑i:Int)<(l.length:Int))) a_) oz1 (map_at (row1 .i8) (0) (l:=l) (i:=i) hi) oz1 (map_at (row1 .i8) (0) (l:=m) (i:=i) a_) (f0_ ((l.getD i 0 != m.getD i 0)=true)))
theorem eq8_ln (l m:List Int) (i:Nat) (hl:l.length≤1000000) (hm:l.length=m.length) (hi:i<l.length) (hne:l.getD i 0≠m.getD i 0) (h:∀ j,j<i→l.getD j 0=m.getD j 0):VT M_ (fnC Tryz.f192 [1,1,0,1,0]) (eq8_ln_I l m i 0) (.ret) (eq8_ln_Z l m i) :=
 VT.loop (fun k=>eq8_ln_I l m i k) (i) (fun k hk=>eq8_ln_s l m i hl hm hi hne h k hk) (eq8_ln_e l m i hl hm hi hne h) c0_
theorem eq8_d (l m:List Int) (hl:l.length≤1000000) (hm:l.length≠m.length):VC M_ 192 ([ints .i8 l,ints .i8 m]) (bv false):=by
 exact cR_ [r_,r_,b_,r_] _ Tryz.func192 (.d (h_ ((((K_ (row1 .i8) l).length:Int) != ((K_ (row1 .i8) m).length:Int))=true)))
theorem eq8_y (l:List Int) (hl:l.length≤1000000):VC M_ 192 ([ints .i8 l,ints .i8 l]) (bv true):=by
 have oz1:=(N_ (k:=.i64) (show ((((K_ (row1 .i8) l).length:Int)):Int)=((l.length:Int)) from k0_))
 have oz3:=@eq8_ly (l) hl
 exact cR_ [r_,r_,d_,r_,.code [.any (rg [(4,1),(6,6)]),.weak 12 (wO oz1),.weak 13 (i64 (↑0:Int)),.sort] (BS_ 0) (zO oz3),r_] _ Tryz.func192 (.d4 (s0_ ((((K_ (row1 .i8) l).length:Int) != ((K_ (row1 .i8) l).length:Int))=false)) oz1 w0_ oz3)
theorem eq8_n (l m:List Int) (i:Nat) (hl:l.length≤1000000) (hm:l.length=m.length) (hi:i<l.length) (hne:l.getD i 0≠m.getD i 0) (h:∀ j,j<i→l.getD j 0=m.getD j 0):VC M_ 192 ([ints .i8 l,ints .i8 m]) (bv false):=by
 have oz1:=(N_ (k:=.i64) (show ((((K_ (row1 .i8) l).length:Int)):Int)=((l.length:Int)) from k0_))
 have oz3:=@eq8_ln (l) (m) (i) hl hm hi hne h
 exact cR_ [r_,r_,d_,r_,.code [.any (rg [(4,1),(6,6)]),.weak 12 (wO oz1),.weak 13 (i64 (↑0:Int)),.sort] (DT_) (zO oz3)] _ Tryz.func192 (.d4 (h_ ((((K_ (row1 .i8) l).length:Int) != ((K_ (row1 .i8) m).length:Int))=false)) oz1 w0_ oz3)
theorem eq8_v (l m:List Int) (hl:l.length≤1000000):VC M_ 192 [ints .i8 l,ints .i8 m] (bv (decide (l=m))) :=
 VC.alike (eq8_d l m hl) (eq8_y l hl) fun i h a b c=>eq8_n l m i hl h a b c
noncomputable def eq32_ly_I (l:List Int) (k:Nat):VS:=stt 26 [(0,ints .i32 l),(1,ints .i32 l),(12,i64 l.length),(13,i64 k)] []
noncomputable def eq32_ly_Z (l:List Int):VS:=eq32_ly_I l (l.length)
theorem eq32_ly_s (l:List Int) (hl:l.length≤1000000) (k:Nat) (hk:k<l.length):VT M_ (fnC Tryz.f193 [1,1,0,1,0,0]) (eq32_ly_I l k) .normal (eq32_ly_I l (k+1)):=by
 have oz1:=(s_ (0≤(↑k:Int)))
 have oz2:=(map_at (row1 .i32) (0) (l:=l) (i:=k) hk)
 exact tR_ [r_,b_,r_,.r [] [.row (sO oz2),.row (sO oz2)],d_,.r [] [.n ((↑k:Int)+1)]] [.any (rg [(5,1),(14,12)]),.weak 13 (i64 (↑(k+1):Int)),.sort] (.d8 (decide_eq_true (p:=((↑k:Int)<(l.length:Int))) a_) oz1 oz2 oz1 oz2 (s0_ ((l.getD k 0 != l.getD k 0)=false)) (i6n ((↑k:Int)+1) a_) (wS_ k))
theorem eq32_ly_e (l:List Int) (hl:l.length≤1000000):VT M_ (fnC Tryz.f193 [1,1,0,1,0,0]) (eq32_ly_I l (l.length)) (.exit 0) (eq32_ly_Z l):=by
 exact tR_ [r_,d_] [.any [14],.sort] (.d (decide_eq_false (p:=((l.length:Int)<(l.length:Int))) a_))
theorem eq32_ly (l:List Int) (hl:l.length≤1000000):VT M_ (fnC Tryz.f193 [1,1,0,1,0]) (eq32_ly_I l 0) (.exit 0) (eq32_ly_Z l) :=
 VT.loop (fun k=>eq32_ly_I l k) (l.length) (fun k hk=>eq32_ly_s l hl k hk) (eq32_ly_e l hl) c0_
noncomputable def eq32_ln_I (l m:List Int) (i:Nat) (k:Nat):VS:=stt 26 [(0,ints .i32 l),(1,ints .i32 m),(12,i64 l.length),(13,i64 k)] []
noncomputable def eq32_ln_Z (l m:List Int) (i:Nat):VS:=stt 26 [(4,bv false)] []
theorem eq32_ln_s (l m:List Int) (i:Nat) (hl:l.length≤1000000) (hm:l.length=m.length) (hi:i<l.length) (hne:l.getD i 0≠m.getD i 0) (h:∀ j,j<i→l.getD j 0=m.getD j 0) (k:Nat) (hk:k<i):VT M_ (fnC Tryz.f193 [1,1,0,1,0,0]) (eq32_ln_I l m i k) .normal (eq32_ln_I l m i (k+1)):=by
 have q:=h k hk
 have oz1:=(s_ (0≤(↑k:Int)))
 exact tR_ [r_,b_,r_,.r [] [.row [i32 (l.getD k 0)],.row [i32 (m.getD k 0)]],d_,.r [] [.n ((↑k:Int)+1)]] [.any (rg [(5,1),(14,12)]),.weak 13 (i64 (↑(k+1):Int)),.sort] (.d8 (decide_eq_true (p:=((↑k:Int)<(l.length:Int))) a_) oz1 (map_at (row1 .i32) (0) (l:=l) (i:=k) a_) oz1 (map_at (row1 .i32) (0) (l:=m) (i:=k) a_) (f0_ ((l.getD k 0 != m.getD k 0)=false)) (i6n ((↑k:Int)+1) a_) (wS_ k))
theorem eq32_ln_e (l m:List Int) (i:Nat) (hl:l.length≤1000000) (hm:l.length=m.length) (hi:i<l.length) (hne:l.getD i 0≠m.getD i 0) (h:∀ j,j<i→l.getD j 0=m.getD j 0):VT M_ (fnC Tryz.f193 [1,1,0,1,0,0]) (eq32_ln_I l m i (i)) (.ret) (eq32_ln_Z l m i):=by
 have oz1:=(s_ (0≤(↑i:Int)))
 exact tR_ [r_,b_,r_,.r [] [.row [i32 (l.getD i 0)],.row [i32 (m.getD i 0)]],b_,r_] [.any (rg [(0,2),(5,1),(12,13)]),.sort] (.d6 (decide_eq_true (p:=((↑i:Int)<(l.length:Int))) a_) oz1 (map_at (row1 .i32) (0) (l:=l) (i:=i) hi) oz1 (map_at (row1 .i32) (0) (l:=m) (i:=i) a_) (f0_ ((l.getD i 0 != m.getD i 0)=true)))
theorem eq32_ln (l m:List Int) (i:Nat) (hl:l.length≤1000000) (hm:l.length=m.length) (hi:i<l.length) (hne:l.getD i 0≠m.getD i 0) (h:∀ j,j<i→l.getD j 0=m.getD j 0):VT M_ (fnC Tryz.f193 [1,1,0,1,0]) (eq32_ln_I l m i 0) (.ret) (eq32_ln_Z l m i) :=
 VT.loop (fun k=>eq32_ln_I l m i k) (i) (fun k hk=>eq32_ln_s l m i hl hm hi hne h k hk) (eq32_ln_e l m i hl hm hi hne h) c0_
theorem eq32_d (l m:List Int) (hl:l.length≤1000000) (hm:l.length≠m.length):VC M_ 193 ([ints .i32 l,ints .i32 m]) (bv false):=by
 exact cR_ [r_,r_,b_,r_] _ Tryz.func193 (.d (h_ ((((K_ (row1 .i32) l).length:Int) != ((K_ (row1 .i32) m).length:Int))=true)))
theorem eq32_y (l:List Int) (hl:l.length≤1000000):VC M_ 193 ([ints .i32 l,ints .i32 l]) (bv true):=by
 have oz1:=(N_ (k:=.i64) (show ((((K_ (row1 .i32) l).length:Int)):Int)=((l.length:Int)) from k0_))
 have oz3:=@eq32_ly (l) hl
 exact cR_ [r_,r_,d_,r_,.code [.any (rg [(4,1),(6,6)]),.weak 12 (wO oz1),.weak 13 (i64 (↑0:Int)),.sort] (BS_ 0) (zO oz3),r_] _ Tryz.func193 (.d4 (s0_ ((((K_ (row1 .i32) l).length:Int) != ((K_ (row1 .i32) l).length:Int))=false)) oz1 w0_ oz3)
theorem eq32_n (l m:List Int) (i:Nat) (hl:l.length≤1000000) (hm:l.length=m.length) (hi:i<l.length) (hne:l.getD i 0≠m.getD i 0) (h:∀ j,j<i→l.getD j 0=m.getD j 0):VC M_ 193 ([ints .i32 l,ints .i32 m]) (bv false):=by
 have oz1:=(N_ (k:=.i64) (show ((((K_ (row1 .i32) l).length:Int)):Int)=((l.length:Int)) from k0_))
 have oz3:=@eq32_ln (l) (m) (i) hl hm hi hne h
 exact cR_ [r_,r_,d_,r_,.code [.any (rg [(4,1),(6,6)]),.weak 12 (wO oz1),.weak 13 (i64 (↑0:Int)),.sort] (DT_) (zO oz3)] _ Tryz.func193 (.d4 (h_ ((((K_ (row1 .i32) l).length:Int) != ((K_ (row1 .i32) m).length:Int))=false)) oz1 w0_ oz3)
theorem eq32_v (l m:List Int) (hl:l.length≤1000000):VC M_ 193 [ints .i32 l,ints .i32 m] (bv (decide (l=m))) :=
 VC.alike (eq32_d l m hl) (eq32_y l hl) fun i h a b c=>eq32_n l m i hl h a b c
noncomputable def rsame8_ly_I (l:List Int) (k:Nat):VS:=stt 26 [(0,ints .i8 l),(1,ints .i8 l),(5,i64 k)] []
noncomputable def rsame8_ly_Z (l:List Int):VS:=rsame8_ly_I l (l.length)
theorem rsame8_ly_s (l:List Int) (hl:l.length≤1000000) (k:Nat) (hk:k<l.length):VT M_ (fnC Tryz.f100 [1,1,0,1,0,0]) (rsame8_ly_I l k) .normal (rsame8_ly_I l (k+1)):=by
 have oz1:=(s_ (0≤(↑k:Int)))
 have oz2:=(map_at (row1 .i8) (0) (l:=l) (i:=k) hk)
 exact tR_ [r_,b_,.r [] [.row (sO oz2),.row (sO oz2)],d_,.r [] [.n ((↑k:Int)+1)]] [.any (rg [(11,15)]),.weak 5 (i64 (↑(k+1):Int)),.sort] (.d8 (h_ (decide ((↑k:Int)<((K_ (row1 .i8) l).length:Int))=true)) oz1 oz2 oz1 oz2 (s0_ ((l.getD k 0 != l.getD k 0)=false)) (i6n ((↑k:Int)+1) a_) (wS_ k))
theorem rsame8_ly_e (l:List Int) (hl:l.length≤1000000):VT M_ (fnC Tryz.f100 [1,1,0,1,0,0]) (rsame8_ly_I l (l.length)) (.exit 0) (rsame8_ly_Z l):=by
 exact tR_ [r_,d_] [.any (rg [(11,4)]),.sort] (.d (s0_ (decide ((l.length:Int)<((K_ (row1 .i8) l).length:Int))=false)))
theorem rsame8_ly (l:List Int) (hl:l.length≤1000000):VT M_ (fnC Tryz.f100 [1,1,0,1,0]) (rsame8_ly_I l 0) (.exit 0) (rsame8_ly_Z l) :=
 VT.loop (fun k=>rsame8_ly_I l k) (l.length) (fun k hk=>rsame8_ly_s l hl k hk) (rsame8_ly_e l hl) c0_
noncomputable def rsame8_ln_I (l m:List Int) (i:Nat) (k:Nat):VS:=stt 26 [(0,ints .i8 l),(1,ints .i8 m),(5,i64 k)] []
noncomputable def rsame8_ln_Z (l m:List Int) (i:Nat):VS:=stt 26 [(4,bv false)] []
theorem rsame8_ln_s (l m:List Int) (i:Nat) (hl:l.length≤1000000) (hm:l.length=m.length) (hi:i<l.length) (hne:l.getD i 0≠m.getD i 0) (h:∀ j,j<i→l.getD j 0=m.getD j 0) (k:Nat) (hk:k<i):VT M_ (fnC Tryz.f100 [1,1,0,1,0,0]) (rsame8_ln_I l m i k) .normal (rsame8_ln_I l m i (k+1)):=by
 have q:=h k hk
 have oz1:=(s_ (0≤(↑k:Int)))
 exact tR_ [r_,b_,.r [] [.row [i8 (l.getD k 0)],.row [i8 (m.getD k 0)]],d_,.r [] [.n ((↑k:Int)+1)]] [.any (rg [(11,15)]),.weak 5 (i64 (↑(k+1):Int)),.sort] (.d8 (h_ (decide ((↑k:Int)<((K_ (row1 .i8) l).length:Int))=true)) oz1 (map_at (row1 .i8) (0) (l:=l) (i:=k) a_) oz1 (map_at (row1 .i8) (0) (l:=m) (i:=k) a_) (f0_ ((l.getD k 0 != m.getD k 0)=false)) (i6n ((↑k:Int)+1) a_) (wS_ k))
theorem rsame8_ln_e (l m:List Int) (i:Nat) (hl:l.length≤1000000) (hm:l.length=m.length) (hi:i<l.length) (hne:l.getD i 0≠m.getD i 0) (h:∀ j,j<i→l.getD j 0=m.getD j 0):VT M_ (fnC Tryz.f100 [1,1,0,1,0,0]) (rsame8_ln_I l m i (i)) (.ret) (rsame8_ln_Z l m i):=by
 have oz1:=(s_ (0≤(↑i:Int)))
 exact tR_ [r_,b_,.r [] [.row [i8 (l.getD i 0)],.row [i8 (m.getD i 0)]],b_,r_] [.any (rg [(0,2),(5,1),(11,4),(17,9)]),.sort] (.d6 (h_ (decide ((↑i:Int)<((K_ (row1 .i8) l).length:Int))=true)) oz1 (map_at (row1 .i8) (0) (l:=l) (i:=i) hi) oz1 (map_at (row1 .i8) (0) (l:=m) (i:=i) a_) (f0_ ((l.getD i 0 != m.getD i 0)=true)))
theorem rsame8_ln (l m:List Int) (i:Nat) (hl:l.length≤1000000) (hm:l.length=m.length) (hi:i<l.length) (hne:l.getD i 0≠m.getD i 0) (h:∀ j,j<i→l.getD j 0=m.getD j 0):VT M_ (fnC Tryz.f100 [1,1,0,1,0]) (rsame8_ln_I l m i 0) (.ret) (rsame8_ln_Z l m i) :=
 VT.loop (fun k=>rsame8_ln_I l m i k) (i) (fun k hk=>rsame8_ln_s l m i hl hm hi hne h k hk) (rsame8_ln_e l m i hl hm hi hne h) c0_
theorem rsame8_d (l m:List Int) (hl:l.length≤1000000) (hm:l.length≠m.length):VC M_ 100 ([ints .i8 l,ints .i8 m]) (bv false):=by
 exact cR_ [r_,r_,b_,r_] _ Tryz.func100 (.d (h_ ((((K_ (row1 .i8) l).length:Int) != ((K_ (row1 .i8) m).length:Int))=true)))
theorem rsame8_y (l:List Int) (hl:l.length≤1000000):VC M_ 100 ([ints .i8 l,ints .i8 l]) (bv true):=by
 have oz2:=@rsame8_ly (l) hl
 exact cR_ [r_,r_,d_,r_,.code [.any [4,6,7,8,9,10],.weak 5 (i64 (↑0:Int)),.sort] (BS_ 0) (zO oz2),r_] _ Tryz.func100 (.d3 (s0_ ((((K_ (row1 .i8) l).length:Int) != ((K_ (row1 .i8) l).length:Int))=false)) w0_ oz2)
theorem rsame8_n (l m:List Int) (i:Nat) (hl:l.length≤1000000) (hm:l.length=m.length) (hi:i<l.length) (hne:l.getD i 0≠m.getD i 0) (h:∀ j,j<i→l.getD j 0=m.getD j 0):VC M_ 100 ([ints .i8 l,ints .i8 m]) (bv false):=by
 have oz2:=@rsame8_ln (l) (m) (i) hl hm hi hne h
 exact cR_ [r_,r_,d_,r_,.code [.any [4,6,7,8,9,10],.weak 5 (i64 (↑0:Int)),.sort] (DT_) (zO oz2)] _ Tryz.func100 (.d3 (h_ ((((K_ (row1 .i8) l).length:Int) != ((K_ (row1 .i8) m).length:Int))=false)) w0_ oz2)
theorem rsame8_v (l m:List Int) (hl:l.length≤1000000):VC M_ 100 [ints .i8 l,ints .i8 m] (bv (decide (l=m))) :=
 VC.alike (rsame8_d l m hl) (rsame8_y l hl) fun i h a b c=>rsame8_n l m i hl h a b c
noncomputable def rsame32_ly_I (l:List Int) (k:Nat):VS:=stt 26 [(0,ints .i32 l),(1,ints .i32 l),(5,i64 k)] []
noncomputable def rsame32_ly_Z (l:List Int):VS:=rsame32_ly_I l (l.length)
theorem rsame32_ly_s (l:List Int) (hl:l.length≤1000000) (k:Nat) (hk:k<l.length):VT M_ (fnC Tryz.f101 [1,1,0,1,0,0]) (rsame32_ly_I l k) .normal (rsame32_ly_I l (k+1)):=by
 have oz1:=(s_ (0≤(↑k:Int)))
 have oz2:=(map_at (row1 .i32) (0) (l:=l) (i:=k) hk)
 exact tR_ [r_,b_,.r [] [.row (sO oz2),.row (sO oz2)],d_,.r [] [.n ((↑k:Int)+1)]] [.any (rg [(11,15)]),.weak 5 (i64 (↑(k+1):Int)),.sort] (.d8 (h_ (decide ((↑k:Int)<((K_ (row1 .i32) l).length:Int))=true)) oz1 oz2 oz1 oz2 (s0_ ((l.getD k 0 != l.getD k 0)=false)) (i6n ((↑k:Int)+1) a_) (wS_ k))
theorem rsame32_ly_e (l:List Int) (hl:l.length≤1000000):VT M_ (fnC Tryz.f101 [1,1,0,1,0,0]) (rsame32_ly_I l (l.length)) (.exit 0) (rsame32_ly_Z l):=by
 exact tR_ [r_,d_] [.any (rg [(11,4)]),.sort] (.d (s0_ (decide ((l.length:Int)<((K_ (row1 .i32) l).length:Int))=false)))
theorem rsame32_ly (l:List Int) (hl:l.length≤1000000):VT M_ (fnC Tryz.f101 [1,1,0,1,0]) (rsame32_ly_I l 0) (.exit 0) (rsame32_ly_Z l) :=
 VT.loop (fun k=>rsame32_ly_I l k) (l.length) (fun k hk=>rsame32_ly_s l hl k hk) (rsame32_ly_e l hl) c0_
noncomputable def rsame32_ln_I (l m:List Int) (i:Nat) (k:Nat):VS:=stt 26 [(0,ints .i32 l),(1,ints .i32 m),(5,i64 k)] []
noncomputable def rsame32_ln_Z (l m:List Int) (i:Nat):VS:=stt 26 [(4,bv false)] []
theorem rsame32_ln_s (l m:List Int) (i:Nat) (hl:l.length≤1000000) (hm:l.length=m.length) (hi:i<l.length) (hne:l.getD i 0≠m.getD i 0) (h:∀ j,j<i→l.getD j 0=m.getD j 0) (k:Nat) (hk:k<i):VT M_ (fnC Tryz.f101 [1,1,0,1,0,0]) (rsame32_ln_I l m i k) .normal (rsame32_ln_I l m i (k+1)):=by
 have q:=h k hk
 have oz1:=(s_ (0≤(↑k:Int)))
 exact tR_ [r_,b_,.r [] [.row [i32 (l.getD k 0)],.row [i32 (m.getD k 0)]],d_,.r [] [.n ((↑k:Int)+1)]] [.any (rg [(11,15)]),.weak 5 (i64 (↑(k+1):Int)),.sort] (.d8 (h_ (decide ((↑k:Int)<((K_ (row1 .i32) l).length:Int))=true)) oz1 (map_at (row1 .i32) (0) (l:=l) (i:=k) a_) oz1 (map_at (row1 .i32) (0) (l:=m) (i:=k) a_) (f0_ ((l.getD k 0 != m.getD k 0)=false)) (i6n ((↑k:Int)+1) a_) (wS_ k))
theorem rsame32_ln_e (l m:List Int) (i:Nat) (hl:l.length≤1000000) (hm:l.length=m.length) (hi:i<l.length) (hne:l.getD i 0≠m.getD i 0) (h:∀ j,j<i→l.getD j 0=m.getD j 0):VT M_ (fnC Tryz.f101 [1,1,0,1,0,0]) (rsame32_ln_I l m i (i)) (.ret) (rsame32_ln_Z l m i):=by
 have oz1:=(s_ (0≤(↑i:Int)))
 exact tR_ [r_,b_,.r [] [.row [i32 (l.getD i 0)],.row [i32 (m.getD i 0)]],b_,r_] [.any (rg [(0,2),(5,1),(11,4),(17,9)]),.sort] (.d6 (h_ (decide ((↑i:Int)<((K_ (row1 .i32) l).length:Int))=true)) oz1 (map_at (row1 .i32) (0) (l:=l) (i:=i) hi) oz1 (map_at (row1 .i32) (0) (l:=m) (i:=i) a_) (f0_ ((l.getD i 0 != m.getD i 0)=true)))
theorem rsame32_ln (l m:List Int) (i:Nat) (hl:l.length≤1000000) (hm:l.length=m.length) (hi:i<l.length) (hne:l.getD i 0≠m.getD i 0) (h:∀ j,j<i→l.getD j 0=m.getD j 0):VT M_ (fnC Tryz.f101 [1,1,0,1,0]) (rsame32_ln_I l m i 0) (.ret) (rsame32_ln_Z l m i) :=
 VT.loop (fun k=>rsame32_ln_I l m i k) (i) (fun k hk=>rsame32_ln_s l m i hl hm hi hne h k hk) (rsame32_ln_e l m i hl hm hi hne h) c0_
theorem rsame32_d (l m:List Int) (hl:l.length≤1000000) (hm:l.length≠m.length):VC M_ 101 ([ints .i32 l,ints .i32 m]) (bv false):=by
 exact cR_ [r_,r_,b_,r_] _ Tryz.func101 (.d (h_ ((((K_ (row1 .i32) l).length:Int) != ((K_ (row1 .i32) m).length:Int))=true)))
theorem rsame32_y (l:List Int) (hl:l.length≤1000000):VC M_ 101 ([ints .i32 l,ints .i32 l]) (bv true):=by
 have oz2:=@rsame32_ly (l) hl
 exact cR_ [r_,r_,d_,r_,.code [.any [4,6,7,8,9,10],.weak 5 (i64 (↑0:Int)),.sort] (BS_ 0) (zO oz2),r_] _ Tryz.func101 (.d3 (s0_ ((((K_ (row1 .i32) l).length:Int) != ((K_ (row1 .i32) l).length:Int))=false)) w0_ oz2)
theorem rsame32_n (l m:List Int) (i:Nat) (hl:l.length≤1000000) (hm:l.length=m.length) (hi:i<l.length) (hne:l.getD i 0≠m.getD i 0) (h:∀ j,j<i→l.getD j 0=m.getD j 0):VC M_ 101 ([ints .i32 l,ints .i32 m]) (bv false):=by
 have oz2:=@rsame32_ln (l) (m) (i) hl hm hi hne h
 exact cR_ [r_,r_,d_,r_,.code [.any [4,6,7,8,9,10],.weak 5 (i64 (↑0:Int)),.sort] (DT_) (zO oz2)] _ Tryz.func101 (.d3 (h_ ((((K_ (row1 .i32) l).length:Int) != ((K_ (row1 .i32) m).length:Int))=false)) w0_ oz2)
theorem rsame32_v (l m:List Int) (hl:l.length≤1000000):VC M_ 101 [ints .i32 l,ints .i32 m] (bv (decide (l=m))) :=
 VC.alike (rsame32_d l m hl) (rsame32_y l hl) fun i h a b c=>rsame32_n l m i hl h a b c
def catK (ls:List (List Int)):Nat→List Int
 | 0=>[]
 | k+1=>catK ls k++ls.getD k default
def szK (ls:List (List Int)):Nat→Nat
 | 0=>0
 | k+1=>szK ls k+(ls.getD k default).length
theorem catK_len (ls:List (List Int)) (k:Nat):(catK ls k).length=szK ls k:=by
 induction k with
 | zero=>rfl
 | succ k ih=>rw[catK,szK,AD_,ih]
theorem szK_le (ls:List (List Int)) {j:Nat} (k:Nat) (h:j≤k):szK ls j≤szK ls k:=by
 induction k with
 | zero =>
  have:j=0:=by omega
  subst this;exact AE_ _
 | succ k ih =>
  by_cases e:j=k+1
  ·subst e;exact AE_ _
  ·have:=ih a_;rw[szK];omega
def catR (l:List Int):List AV:=[.sl 1 (l.map (row1 .u8))]
theorem getD_szK (ls:List (List Int)) {k:Nat} (h:k<ls.length):szK ls k+(ls.getD k default).length≤szK ls ls.length:=szK_le ls (j:=k+1) ls.length a_
theorem grow_0   : VC M_ 90 ([nilv,i64 0]) (nilv):=by
 have oz1:=(show IntKind.i64.wrap ((↑(0:Nat):Int)-(↑(0:Nat):Int))=(0:Int) by exact i6n _ a_)
 have oz2:=(show IntKind.i64.wrap ((0:Int)-(0:Int))=(0:Int) by exact i6n _ a_)
 exact cR_ [r_,r_,d_,.r [] [.n 0,.n 0],r_,d_,r_] _ Tryz.func90 (.d4 z1_ oz1 oz2 z1_)
theorem grow_v (n:Nat) (h0:0<n) (h1:n≤20000000):VM M_ 90 ([nilv,i64 n]) ([]) (.own 951) ([(951,.slc 5 1 ([]:List (List AV)))]):=by
 have oz1:=(show IntKind.i64.wrap ((↑(0:Nat):Int)-(↑(0:Nat):Int))=(0:Int) by exact i6n _ a_)
 exact mR_ [r_,r_,d_,.r [] [.n 0,.n ((↑n:Int)-0)],r_,b_,.r [] [.nat ((↑n:Int)-0).toNat,.nats 0 0],r_] [.ren 25 951,.sort] _ Tryz.func90 (.c8 (decide_eq_false (p:=((↑n:Int)<0)) a_) oz1 (i6n ((↑n:Int)-0) a_) (decide_eq_true (p:=((↑n:Int)-0>0)) a_) (s_ ((↑n:Int)-0=(↑((↑n:Int)-0).toNat:Int))) (s_ (0<((↑n:Int)-0).toNat)) (s_ (((↑n:Int)-0).toNat*1≤140737488355328)) (s_ (((↑n:Int)-0).toNat≤9223372036854775807))<|.d2 (h0_ ((↑(0:Nat):Int)=(↑(0:Nat):Int))) (s_ (0≤(List.replicate ((↑n:Int)-0).toNat [u8 0]).length)))
noncomputable def cat_l1_I (ls:List (List Int)) (k:Nat):VS:=stt 36 [(0,.sl 1 (ls.map catR)),(3,i64 (szK ls k:Nat)),(9,.sl 1 (ls.map catR)),(10,i64 ls.length),(11,i64 k)] []
noncomputable def cat_l1_Z (ls:List (List Int)):VS:=cat_l1_I ls (ls.length)
theorem cat_l1_s (ls:List (List Int)) (hl:ls.length≤1000) (hs:szK ls ls.length≤20000000) (k:Nat) (hk:k<ls.length):VT M_ (fnC Tryz.f55 [1,1,0,1,0,0]) (cat_l1_I ls k) .normal (cat_l1_I ls (k+1)):=by
 have q1:=getD_szK ls hk
 have q2:=szK_le ls ls.length (Nat.le_of_lt hk)
 have q4:(K_ (row1 .u8) (ls.getD k default)).length=(ls.getD k default).length:=V_ _
 have q5:IntKind.i64.wrap ((szK ls k:Int)+((K_ (row1 .u8) (ls.getD k default)).length:Int))=(szK ls (k+1):Int):=by
  rw[q4,szK,Int.natCast_add];exact i6n _ a_
 have q6:¬ ((szK ls (k+1):Int)<0):=a_
 have oz2:=(map_at (catR) (default) (l:=ls) (i:=k) hk)
 have oz3:=(i6n ((↑(szK ls k):Int)+((K_ (row1 .u8) (ls.getD k default)).length:Int)) a_)
 have oz6:=(N_ (k:=.i64) (show (((↑(szK ls k):Int)+((K_ (row1 .u8) (ls.getD k default)).length:Int)):Int)=((↑(szK ls (k+1)):Int)) from (by (rw[q4,szK,Int.natCast_add]))))
 exact tR_ [r_,b_,.r [] [.row (sO oz2)],.r [] [.n (nO oz3)],r_,d_,.r [] [.n ((↑k:Int)+1)]] [.any (rg [(5,1),(12,9),(22,1)]),.weak 3 (wO oz6),.weak 11 (i64 (↑(k+1):Int)),.sort] (.d8 (decide_eq_true (p:=((↑k:Int)<(ls.length:Int))) a_) (s_ (0≤(↑k:Int))) oz2 oz3 (decide_eq_false (p:=((↑(szK ls k):Int)+((K_ (row1 .u8) (ls.getD k default)).length:Int)<0)) a_) (i6n ((↑k:Int)+1) a_) oz6 (wS_ k))
theorem cat_l1_e (ls:List (List Int)) (hl:ls.length≤1000) (hs:szK ls ls.length≤20000000):VT M_ (fnC Tryz.f55 [1,1,0,1,0,0]) (cat_l1_I ls (ls.length)) (.exit 0) (cat_l1_Z ls):=by
 exact tR_ [r_,d_] [.any [12],.sort] (.d (decide_eq_false (p:=((ls.length:Int)<(ls.length:Int))) a_))
theorem cat_l1 (ls:List (List Int)) (hl:ls.length≤1000) (hs:szK ls ls.length≤20000000):VT M_ (fnC Tryz.f55 [1,1,0,1,0]) (cat_l1_I ls 0) (.exit 0) (cat_l1_Z ls) :=
 VT.loop (fun k=>cat_l1_I ls k) (ls.length) (fun k hk=>cat_l1_s ls hl hs k hk) (cat_l1_e ls hl hs) c0_
noncomputable def cat_l2_I (ls:List (List Int)) (k:Nat):VS:=stt 36 [(6,.own 900),(25,.sl 1 (ls.map catR)),(26,i64 ls.length),(27,i64 k)] [(900,.slc 5 1 ((catK ls k).map (row1 .u8)))]
noncomputable def cat_l2_Z (ls:List (List Int)):VS:=cat_l2_I ls (ls.length)
theorem cat_l2_s (ls:List (List Int)) (hl:ls.length≤1000) (hs:szK ls ls.length≤20000000) (k:Nat) (hk:k<ls.length):VT M_ (fnC Tryz.f55 [1,1,1,1,0,1,0,0]) (cat_l2_I ls k) .normal (cat_l2_I ls (k+1)):=by
 have q1:=getD_szK ls hk
 have q2:=szK_le ls ls.length (Nat.le_of_lt hk)
 have q3:=catK_len ls k
 have oz2:=(map_at (catR) (default) (l:=ls) (i:=k) hk)
 exact tR_ [r_,b_,.r [] [.row (sO oz2)],r_,.r [] [.n ((↑k:Int)+1)]] [.any (rg [(8,1),(28,7)]),.ren 33 900,.weak 27 (i64 (↑(k+1):Int)),.blk 900 (Blk.slc 5 1 (K_ (row1 .u8) (catK ls (k+1)))),.sort] (.d8 (decide_eq_true (p:=((↑k:Int)<(ls.length:Int))) a_) (s_ (0≤(↑k:Int))) oz2 (show ((K_ (row1 .u8) (catK ls k)).length+(K_ (row1 .u8) (ls.getD k default)).length)*1≤140737488355328 by (simp only[V_];omega)) (show (K_ (row1 .u8) (catK ls k)).length+(K_ (row1 .u8) (ls.getD k default)).length≤9223372036854775807 by (simp only[V_];omega)) (i6n ((↑k:Int)+1) a_) (wS_ k) (show BlkW (Blk.slc 5 1 (K_ (row1 .u8) (catK ls k)++K_ (row1 .u8) (ls.getD k default))) (Blk.slc 5 1 (K_ (row1 .u8) (catK ls (k+1)))) from (CW_ (e:=5) (z:=1) (rows_to (row1 .u8) (r:=K_ (row1 .u8) (catK ls k)++K_ (row1 .u8) (ls.getD k default)) (l:=catK ls k++ls.getD k default) (m:=catK ls (k+1)) g_ (show (catK ls k++ls.getD k default)=(catK ls (k+1)) from t0_)))))
theorem cat_l2_e (ls:List (List Int)) (hl:ls.length≤1000) (hs:szK ls ls.length≤20000000):VT M_ (fnC Tryz.f55 [1,1,1,1,0,1,0,0]) (cat_l2_I ls (ls.length)) (.exit 2) (cat_l2_Z ls):=by
 exact tR_ [r_,d_] [.any [28],.sort] (.d (decide_eq_false (p:=((ls.length:Int)<(ls.length:Int))) a_))
theorem cat_l2 (ls:List (List Int)) (hl:ls.length≤1000) (hs:szK ls ls.length≤20000000):VT M_ (fnC Tryz.f55 [1,1,1,1,0,1,0]) (cat_l2_I ls 0) (.exit 2) (cat_l2_Z ls) :=
 VT.loop (fun k=>cat_l2_I ls k) (ls.length) (fun k hk=>cat_l2_s ls hl hs k hk) (cat_l2_e ls hl hs) c0_
theorem cat_y (ls:List (List Int)) (hl:ls.length≤1000) (hs:szK ls ls.length≤20000000) (h0:0<szK ls ls.length):VC M_ 55 ([.sl 1 (ls.map catR)]) (.sl 1 ((catK ls ls.length).map (row1 .u8))):=by
 have q3:=catK_len ls ls.length
 have oz1:=(N_ (k:=.i64) (show ((((K_ catR ls).length:Int)):Int)=((ls.length:Int)) from k0_))
 have oz2:=w0_
 have oz3:=@cat_l1 (ls) hl hs
 have oz4:=@grow_v (szK ls ls.length) h0 hs
 have oz7:=@cat_l2 (ls) hl hs
 exact cR_ [r_,r_,r_,.code [.any [2],.weak 3 (i64 (↑(szK ls 0):Int)),.weak 10 (wO oz1),.weak 11 (wO oz2),.sort] (BS_ 0) (zO oz3),.r [] [.callm [] [(951,20000)] (rM oz4) (oM oz4)],r_,.code [.any [0,3,9,10,11,23,24],.ren 20000 900,.weak 26 (wO oz1),.weak 27 (wO oz2),.sort] (BS_ 2) (zO oz7),r_] _ Tryz.func55 (.d8 (N_ (k:=.i64) (show ((0):Int)=((↑(szK ls 0):Int)) from t0_)) oz1 oz2 oz3 oz4 oz1 oz2 oz7)
theorem cat_0 (ls:List (List Int)) (hl:ls.length≤1000) (h0:szK ls ls.length=0):VC M_ 55 ([.sl 1 (ls.map catR)]) (.sl 1 ((catK ls ls.length).map (row1 .u8))):=by
 have q3:=catK_len ls ls.length
 have q4:(szK ls ls.length:Int)=0:=a_
 have oz1:=(N_ (k:=.i64) (show ((((K_ catR ls).length:Int)):Int)=((ls.length:Int)) from k0_))
 have oz2:=w0_
 have oz3:=@cat_l1 (ls) hl a_
 have oz5:=@grow_0
 have oz8:=@cat_l2 (ls) hl a_
 exact cR_ [r_,r_,r_,.code [.any [2],.weak 3 (i64 (↑(szK ls 0):Int)),.weak 10 (wO oz1),.weak 11 (wO oz2),.sort] (BS_ 0) (zO oz3),.r [] [ca oz5],r_,.code [.any [0,3,9,10,11,23,24],.weak 26 (wO oz1),.weak 27 (wO oz2),.nils 6 900 5 1,.sort] (BS_ 2) (zO oz8),r_] _ Tryz.func55 (.c8 (N_ (k:=.i64) (show ((0):Int)=((↑(szK ls 0):Int)) from t0_)) oz1 oz2 oz3 (show WeakL [AV.lit (AK_ none 0 0),i64 (↑(szK ls ls.length):Int)] [AV.lit (AK_ none 0 0),i64 0] from (.cons (.refl _) (.cons (N_ (q4)) .nil))) oz5 oz1 oz2<|.d oz8)
theorem cat_v (ls:List (List Int)) (hl:ls.length≤1000) (hs:szK ls ls.length≤20000000):VC M_ 55 [.sl 1 (ls.map catR)] (.sl 1 ((catK ls ls.length).map (row1 .u8))):=by
 by_cases h:0<szK ls ls.length
 ·exact cat_y ls hl hs h
 ·exact cat_0 ls hl a_
theorem cat2_v (a b:List Int) (h:a.length+b.length≤20000000):VC M_ 55 [.sl 1 [[.sl 1 (a.map (row1 .u8))],[.sl 1 (b.map (row1 .u8))]]] (.sl 1 ((a++b).map (row1 .u8))) :=
 cat_v [a,b] v0_ (by show 0+a.length+b.length≤_;omega)
theorem joined_v (a b:List Int) (h:a.length+b.length≤20000000):VC M_ 24 ([.sl 1 [[.sl 1 (a.map (row1 .u8))],[.sl 1 (b.map (row1 .u8))]]]) (.sl 1 ((a++b).map (row1 .u8))):=by
 have oz0:=@cat2_v (a) (b) h
 exact cR_ [r_,.r [] [cr oz0]] _ Tryz.func24 (.d oz0)
noncomputable def eqb_ly_I (l:List Int) (k:Nat):VS:=stt 26 [(0,ints .u8 l),(1,ints .u8 l),(12,i64 l.length),(13,i64 k)] []
noncomputable def eqb_ly_Z (l:List Int):VS:=eqb_ly_I l (l.length)
theorem eqb_ly_s (l:List Int) (hl:l.length≤20000000) (k:Nat) (hk:k<l.length):VT M_ (fnC Tryz.f58 [1,1,0,1,0,0]) (eqb_ly_I l k) .normal (eqb_ly_I l (k+1)):=by
 have oz1:=(s_ (0≤(↑k:Int)))
 have oz2:=(map_at (row1 .u8) (0) (l:=l) (i:=k) hk)
 exact tR_ [r_,b_,r_,.r [] [.row (sO oz2),.row (sO oz2)],d_,.r [] [.n ((↑k:Int)+1)]] [.any (rg [(5,1),(14,12)]),.weak 13 (i64 (↑(k+1):Int)),.sort] (.d8 (decide_eq_true (p:=((↑k:Int)<(l.length:Int))) a_) oz1 oz2 oz1 oz2 (s0_ ((l.getD k 0 != l.getD k 0)=false)) (i6n ((↑k:Int)+1) a_) (wS_ k))
theorem eqb_ly_e (l:List Int) (hl:l.length≤20000000):VT M_ (fnC Tryz.f58 [1,1,0,1,0,0]) (eqb_ly_I l (l.length)) (.exit 0) (eqb_ly_Z l):=by
 exact tR_ [r_,d_] [.any [14],.sort] (.d (decide_eq_false (p:=((l.length:Int)<(l.length:Int))) a_))
theorem eqb_ly (l:List Int) (hl:l.length≤20000000):VT M_ (fnC Tryz.f58 [1,1,0,1,0]) (eqb_ly_I l 0) (.exit 0) (eqb_ly_Z l) :=
 VT.loop (fun k=>eqb_ly_I l k) (l.length) (fun k hk=>eqb_ly_s l hl k hk) (eqb_ly_e l hl) c0_
noncomputable def eqb_ln_I (l m:List Int) (i:Nat) (k:Nat):VS:=stt 26 [(0,ints .u8 l),(1,ints .u8 m),(12,i64 l.length),(13,i64 k)] []
noncomputable def eqb_ln_Z (l m:List Int) (i:Nat):VS:=stt 26 [(4,bv false)] []
theorem eqb_ln_s (l m:List Int) (i:Nat) (hl:l.length≤20000000) (hm:l.length=m.length) (hi:i<l.length) (hne:l.getD i 0≠m.getD i 0) (h:∀ j,j<i→l.getD j 0=m.getD j 0) (k:Nat) (hk:k<i):VT M_ (fnC Tryz.f58 [1,1,0,1,0,0]) (eqb_ln_I l m i k) .normal (eqb_ln_I l m i (k+1)):=by
 have q:=h k hk
 have oz1:=(s_ (0≤(↑k:Int)))
 exact tR_ [r_,b_,r_,.r [] [.row [u8 (l.getD k 0)],.row [u8 (m.getD k 0)]],d_,.r [] [.n ((↑k:Int)+1)]] [.any (rg [(5,1),(14,12)]),.weak 13 (i64 (↑(k+1):Int)),.sort] (.d8 (decide_eq_true (p:=((↑k:Int)<(l.length:Int))) a_) oz1 (map_at (row1 .u8) (0) (l:=l) (i:=k) a_) oz1 (map_at (row1 .u8) (0) (l:=m) (i:=k) a_) (f0_ ((l.getD k 0 != m.getD k 0)=false)) (i6n ((↑k:Int)+1) a_) (wS_ k))
theorem eqb_ln_e (l m:List Int) (i:Nat) (hl:l.length≤20000000) (hm:l.length=m.length) (hi:i<l.length) (hne:l.getD i 0≠m.getD i 0) (h:∀ j,j<i→l.getD j 0=m.getD j 0):VT M_ (fnC Tryz.f58 [1,1,0,1,0,0]) (eqb_ln_I l m i (i)) (.ret) (eqb_ln_Z l m i):=by
 have oz1:=(s_ (0≤(↑i:Int)))
 exact tR_ [r_,b_,r_,.r [] [.row [u8 (l.getD i 0)],.row [u8 (m.getD i 0)]],b_,r_] [.any (rg [(0,2),(5,1),(12,13)]),.sort] (.d6 (decide_eq_true (p:=((↑i:Int)<(l.length:Int))) a_) oz1 (map_at (row1 .u8) (0) (l:=l) (i:=i) hi) oz1 (map_at (row1 .u8) (0) (l:=m) (i:=i) a_) (f0_ ((l.getD i 0 != m.getD i 0)=true)))
theorem eqb_ln (l m:List Int) (i:Nat) (hl:l.length≤20000000) (hm:l.length=m.length) (hi:i<l.length) (hne:l.getD i 0≠m.getD i 0) (h:∀ j,j<i→l.getD j 0=m.getD j 0):VT M_ (fnC Tryz.f58 [1,1,0,1,0]) (eqb_ln_I l m i 0) (.ret) (eqb_ln_Z l m i) :=
 VT.loop (fun k=>eqb_ln_I l m i k) (i) (fun k hk=>eqb_ln_s l m i hl hm hi hne h k hk) (eqb_ln_e l m i hl hm hi hne h) c0_
theorem eqb_d (l m:List Int) (hl:l.length≤20000000) (hm:l.length≠m.length):VC M_ 58 ([ints .u8 l,ints .u8 m]) (bv false):=by
 exact cR_ [r_,r_,b_,r_] _ Tryz.func58 (.d (h_ ((((K_ (row1 .u8) l).length:Int) != ((K_ (row1 .u8) m).length:Int))=true)))
theorem eqb_y (l:List Int) (hl:l.length≤20000000):VC M_ 58 ([ints .u8 l,ints .u8 l]) (bv true):=by
 have oz1:=(N_ (k:=.i64) (show ((((K_ (row1 .u8) l).length:Int)):Int)=((l.length:Int)) from k0_))
 have oz3:=@eqb_ly (l) hl
 exact cR_ [r_,r_,d_,r_,.code [.any (rg [(4,1),(6,6)]),.weak 12 (wO oz1),.weak 13 (i64 (↑0:Int)),.sort] (BS_ 0) (zO oz3),r_] _ Tryz.func58 (.d4 (s0_ ((((K_ (row1 .u8) l).length:Int) != ((K_ (row1 .u8) l).length:Int))=false)) oz1 w0_ oz3)
theorem eqb_n (l m:List Int) (i:Nat) (hl:l.length≤20000000) (hm:l.length=m.length) (hi:i<l.length) (hne:l.getD i 0≠m.getD i 0) (h:∀ j,j<i→l.getD j 0=m.getD j 0):VC M_ 58 ([ints .u8 l,ints .u8 m]) (bv false):=by
 have oz1:=(N_ (k:=.i64) (show ((((K_ (row1 .u8) l).length:Int)):Int)=((l.length:Int)) from k0_))
 have oz3:=@eqb_ln (l) (m) (i) hl hm hi hne h
 exact cR_ [r_,r_,d_,r_,.code [.any (rg [(4,1),(6,6)]),.weak 12 (wO oz1),.weak 13 (i64 (↑0:Int)),.sort] (DT_) (zO oz3)] _ Tryz.func58 (.d4 (h_ ((((K_ (row1 .u8) l).length:Int) != ((K_ (row1 .u8) m).length:Int))=false)) oz1 w0_ oz3)
theorem eqb_v (l m:List Int) (hl:l.length≤20000000):VC M_ 58 [ints .u8 l,ints .u8 m] (bv (decide (l=m))) :=
 VC.alike (eqb_d l m hl) (eqb_y l hl) fun i h a b c=>eqb_n l m i hl h a b c
def p32L (n:Int):List Int:=[IntKind.u8.wrap n,IntKind.u8.wrap (n/256),IntKind.u8.wrap (n/65536),n/16777216]
def p32K (n:Int):Nat→List Int
 | 0=>[0,0,0,0]
 | k+1=>(p32K n k).set k ((p32L n).getD k 0)
theorem p32K_len (n:Int) (k:Nat):(p32K n k).length=4:=by
 induction k with
 | zero=>rfl
 | succ k ih=>rw[p32K,BF_];exact ih
theorem p32K_step (n:Int) (h0:0≤n) (h1:n≤4294967295) {k:Nat} (hk:k<4):(p32K n k).set (k:Int).toNat (IntKind.u8.wrap (n.fdiv (2 ^ min (8*(k:Int)).toNat IntKind.u32.bits)))=p32K n (k+1):=by
 rw[AF_,p32K]
 congr 1
 have e:∀ m:Int,0≤m→n.fdiv m=n/m:=fun m hm=>Int.fdiv_eq_ediv_of_nonneg _ hm
 match k,hk with
 | 0,_=>show IntKind.u8.wrap (n.fdiv 1)=IntKind.u8.wrap n;rw[e _ x_,Int.ediv_one]
 | 1,_=>show IntKind.u8.wrap (n.fdiv 256)=IntKind.u8.wrap (n/256);rw[e _ x_]
 | 2,_=>show IntKind.u8.wrap (n.fdiv 65536)=IntKind.u8.wrap (n/65536);rw[e _ x_]
 | 3,_=>show IntKind.u8.wrap (n.fdiv 16777216)=n/16777216;rw[e _ x_];exact IntWalk.u8_in _ a_
noncomputable def put32_l_I (n:Int) (k:Nat):VS:=stt 21 [(0,u32 n),(3,.own 900),(7,i64 4),(8,i64 k)] [(900,.slc 5 1 ((p32K n k).map (row1 .u8)))]
noncomputable def put32_l_Z (n:Int):VS:=put32_l_I n (4)
theorem put32_l_s (n:Int) (h0:0≤n) (h1:n≤4294967295) (k:Nat) (hk:k<4):VT M_ (fnC Tryz.f51 [1,1,0,1,0,0]) (put32_l_I n k) .normal (put32_l_I n (k+1)):=by
 have q1:=p32K_len n k
 exact tR_ [r_,b_,r_,.r [] [.n (8*(↑k:Int)),.n (n.fdiv (2 ^ min (8*(↑k:Int)).toNat IntKind.u32.bits)),.w,.nat 0],.r [] [.n ((↑k:Int)+1)]] [.any (rg [(4,1),(9,11)]),.weak 8 (i64 (↑(k+1):Int)),.blk 900 (Blk.slc 5 1 (K_ (row1 .u8) (p32K n (k+1)))),.sort] (.c8 (decide_eq_true (p:=((↑k:Int)<4)) a_) (i6n (8*(↑k:Int)) a_) (s_ (0≤8*(↑k:Int))) (h0_ (n.fdiv (2 ^ min (8*(↑k:Int)).toNat IntKind.u32.bits)=n.fdiv (2 ^ min (8*(↑k:Int)).toNat IntKind.u32.bits))) (s_ (0≤(↑k:Int))) (h_ ((↑k:Int)<((K_ (row1 .u8) (p32K n k)).length:Int))) (h_ ((↑k:Int).toNat<(K_ (row1 .u8) (p32K n k)).length)) (i6n ((↑k:Int)+1) a_)<|.d2 (wS_ k) (show BlkW (Blk.slc 5 1 ((K_ (row1 .u8) (p32K n k)).set (↑k:Int).toNat [u8 (IntKind.u8.wrap (n.fdiv (2 ^ min (8*(↑k:Int)).toNat IntKind.u32.bits)))])) (Blk.slc 5 1 (K_ (row1 .u8) (p32K n (k+1)))) from (CW_ (e:=5) (z:=1) (rows_to (row1 .u8) (r:=(K_ (row1 .u8) (p32K n k)).set (↑k:Int).toNat [u8 (IntKind.u8.wrap (n.fdiv (2 ^ min (8*(↑k:Int)).toNat IntKind.u32.bits)))]) (l:=(p32K n k).set (↑k:Int).toNat (IntKind.u8.wrap (n.fdiv (2 ^ min (8*(↑k:Int)).toNat IntKind.u32.bits)))) (m:=p32K n (k+1)) g_ (show ((p32K n k).set (↑k:Int).toNat (IntKind.u8.wrap (n.fdiv (2 ^ min (8*(↑k:Int)).toNat IntKind.u32.bits))))=(p32K n (k+1)) from (by with_reducible exact p32K_step n h0 h1 hk))))))
theorem put32_l_e (n:Int) (h0:0≤n) (h1:n≤4294967295):VT M_ (fnC Tryz.f51 [1,1,0,1,0,0]) (put32_l_I n (4)) (.exit 0) (put32_l_Z n):=by
 exact tR_ [r_,d_] [.any [9],.sort] (.d z1_)
theorem put32_l (n:Int) (h0:0≤n) (h1:n≤4294967295):VT M_ (fnC Tryz.f51 [1,1,0,1,0]) (put32_l_I n 0) (.exit 0) (put32_l_Z n) :=
 VT.loop (fun k=>put32_l_I n k) (4) (fun k hk=>put32_l_s n h0 h1 k hk) (put32_l_e n h0 h1) c0_
theorem z2_:(4:Int)=(↑(4:Nat):Int):=by omega
theorem put32_v (n:Int) (h0:0≤n) (h1:n≤4294967295):VC M_ 51 ([u32 n]) (ints .u8 (p32L n)):=by
 have oz7:=@put32_l (n) h0 h1
 exact (cR_ [r_,.r [] [.nats 4 4],r_,.code [.any [2,5,6],.ren 5 900,.weak 7 (i64 4),.weak 8 (i64 (↑0:Int)),.sort] (BS_ 0) (zO oz7),r_] (AV.sl 1 [[u8 ((p32L n).getD 0 0)],[u8 ((p32L n).getD 1 0)],[u8 ((p32L n).getD 2 0)],[u8 ((p32L n).getD 3 0)]]) Tryz.func51 (.d8 z2_ z2_ (s_ ((4:Nat)≤(4:Nat))) (s_ ((1:Nat)*(4:Nat)≤(281474976710656:Nat))) (s_ ((4:Nat)≤(9223372036854775807:Nat))) (N_ (k:=.i64) (show (((↑4:Int)):Int)=(4) from k0_)) w0_ oz7)).weak (AQ_ _) (AH_ (show ([[u8 ((p32L n).getD 0 0)],[u8 ((p32L n).getD 1 0)],[u8 ((p32L n).getD 2 0)],[u8 ((p32L n).getD 3 0)]])=([[u8 (IntKind.u8.wrap n)],[u8 (IntKind.u8.wrap (n/256))],[u8 (IntKind.u8.wrap (n/65536))],[u8 (n/16777216)]]) from t0_))
theorem rput32_v (n:Int) (h0:0≤n) (h1:n≤4294967295):VC M_ 31 ([u32 n]) (ints .u8 (p32L n)):=by
 have oz1:=(show IntKind.u32.wrap (n.tdiv 256)=n/256 from (Eq.trans (congrArg _ (BH_ h0)) (by exact IntWalk.u32_in _ a_)))
 have oz3:=(show IntKind.u32.wrap (n.tdiv 65536)=n/65536 from (Eq.trans (congrArg _ (BH_ h0)) (by exact IntWalk.u32_in _ a_)))
 have oz5:=(show IntKind.u32.wrap (n.tdiv 16777216)=n/16777216 from (Eq.trans (congrArg _ (BH_ h0)) (by exact IntWalk.u32_in _ a_)))
 exact cR_ [r_,.r [] [.w,.n (n/256),.w,.n (n/65536),.w,.n (n/16777216),.n (n/16777216)]] _ Tryz.func31 (.d7 (s_ ((256:Int)≠(0:Int))) oz1 (s_ ((65536:Int)≠(0:Int))) oz3 (s_ ((16777216:Int)≠(0:Int))) oz5 (IntWalk.u8_in (n/16777216) a_))
def putL (n:Nat):List Int:=if n<128 then [(n:Int)] else ((n % 128+128:Nat):Int)::putL (n/128)
termination_by n
decreasing_by omega
theorem putL_len (k:Nat):∀ n,n<128 ^ (k+1)→(putL n).length≤k+1:=by
 induction k with
 | zero=>intro n h;rw[putL,i_ a_];simp
 | succ k ih =>
  intro n h
  rw[putL]
  by_cases hn:n<128
  ·rw[i_ hn];simp
  ·rw[j_ hn]
   have:=ih (n/128) (by rw[Nat.pow_succ] at h;omega)
   simp only[AJ_];omega
theorem putL_len10 (n:Nat) (h:n<18446744073709551616):(putL n).length≤10:=putL_len 9 n a_
theorem Tryz_info5:(Tryz.prog.info? 5).map (fun i=>(i.zero,i.size,i.bytes))=some (some (.int .u8 0),1,1):=by kernel_rfl
theorem or128 (n:Nat):bits BinOp.or L_ ((n:Int) % 256) 128=((n % 128+128:Nat):Int):=by
 have h:∀ x:Fin 256,bits BinOp.or L_ ((x.val:Nat):Int) 128=((x.val % 128+128:Nat):Int):=by decide +kernel
 have h':=h ⟨n % 256,by omega⟩
 have e1:((n:Int) % 256)=((n % 256:Nat):Int):=a_
 have e2:n % 256 % 128=n % 128:=a_
 rw[e1,h']
 show ((n % 256 % 128+128:Nat):Int)=_
 rw[e2]
theorem put_any (n:Int) (w:World) (h0:0≤n) (h1:n≤18446744073709551615) :
  Calls M_ 25 #[.int .u64 n] w fun e w'=>∃ v,e=.returned v∧Own w.heap.size w' 5 v ((putL n.toNat).map (AW_ .u8))∧Below w.heap.size w w':=by
 obtain ⟨i0,hi,hz0,hz1,hz2⟩:=info_parts Tryz_info5
 obtain ⟨m0,rfl⟩:=CL_ h0
 have hl:=putL_len10 m0 a_
 go_enter Tryz.func25,Tryz.ntmps25
 go_wp2
 go_loopw [0,3] (fun n v wr=>∃ (m:Nat) (acc:List Int),n=.int .u64 m∧m≤18446744073709551615∧Own w.heap.size wr 5 v (acc.map (AW_ .u8))∧Below w.heap.size w wr∧acc++putL m=putL m0)
  (fun n _ _=>(intOf n).toNat)
 case atStart=>exact ⟨m0,[],rfl,by omega,Own.nil _ _ _,Below.refl _ _,rfl⟩
 case round =>
  obtain ⟨m,acc,rfl,hm,hown,hb,hacc⟩:=hrel
  have hal:acc.length≤10:=by have:=congrArg List.length hacc;simp at this;omega
  have HA:=Lib.hid hacc;clear hacc
  have HM:=Lib.hid hm;clear hm;have H1:=Lib.hid h1;clear h1
  by_cases hlt:m<128
  ·go_wp2_with (at_builtin;go_must (refine wpList_app1 rfl _ _ 27 rfl w.heap.size 5 i0 (.int .u8 0) 1 Tryz.underlying27 hi hz0 hz1 hz2 x_ rfl _ _ _ _ _ hown rfl rfl rfl j2_ hb.size ?_))
   intro v' w1 hown1 hb1
   go_wp2
   go_ret
   refine ⟨v',rfl,?_,hb.trans hb1⟩
   rw[AF_,←HA.out,putL,i_ hlt,X_];exact hown1
  ·go_wp2_with (at_builtin;go_must (refine wpList_app1 rfl _ _ 27 rfl w.heap.size 5 i0 (.int .u8 0) 1 Tryz.underlying27 hi hz0 hz1 hz2 x_ rfl _ _ _ _ _ hown rfl rfl rfl j2_ hb.size ?_))
   intro v' w1 hown1 hb1
   go_wp2
   go_roundw
   case rel =>
    refine ⟨m/128,acc++[((m % 128+128:Nat):Int)],by go_num,by have:=HM.out;omega,?_,hb.trans hb1,?_⟩
    ·rw[X_];rw[or128] at hown1;exact hown1
    ·rw[←HA.out,List.append_assoc];conv=>rhs;rw[putL,j_ hlt]
     rfl
   case measure=>simp[intOf];omega
def val:List Int→Int
 | []=>0
 | c::r=>c % 128+128*val r
def fin:List Int→Nat→Option Nat
 | [],_=>none
 | c::r,k=>if 10≤k then none else if c<128 then some 0 else (fin r (k+1)).map (· + 1)
def getAt:List Int→Nat→Int→Int×Int×Int
 | [],_,_=>(0,0,20)
 | c::r,k,n =>
  if k=9∧1<c then (0,0,21) else if c=0∧0<k then (0,0,21) else
  if c<128 then (n+c % 128*128 ^ k,(k:Int)+1,0) else getAt r (k+1) (n+c % 128*128 ^ k)
def refGet (xs:List Int) (k:Nat) (n:Int):Int×Int×Int :=
 match fin xs k with
 | none=>(0,0,if 10≤xs.length+k then 21 else 20)
 | some j=>if (j+k=9∧1<xs.getD j 0)∨(0<j+k∧xs.getD j 0=0) then (0,0,21) else (n+128 ^ k*val (xs.take (j+1)),(k:Int)+j+1,0)
theorem fin_lt:∀ (xs:List Int) (k j:Nat),fin xs k=some j→j<xs.length∧j+k<10
 | [],_,_,h=>by simp[fin] at h
 | c::r,k,j,h=>by
  rw[fin] at h
  split at h
  ·simp at h
  ·split at h
   ·simp at h;subst h;simp;omega
   ·obtain ⟨i,hi,rfl⟩:=Option.map_eq_some_iff.1 h
    have:=fin_lt r (k+1) i hi
    simp;omega
theorem getAt_eq:∀ (xs:List Int) (k:Nat) (n:Int),k≤9→getAt xs k n=refGet xs k n
 | [],k,n,hk=>by simp[getAt,refGet,fin];omega
 | c::r,k,n,hk=>by
  have e10:¬ 10≤k:=a_
  by_cases h128:c<128
  ·have hf:fin (c::r) k=some 0:=by rw[fin,j_ e10,i_ h128]
   rw[getAt,refGet,hf]
   simp only[BM_,BT_]
   by_cases h1:k=9∧1<c
   ·rw[i_ h1,i_ (.inl h1)]
   ·rw[j_ h1]
    by_cases h2:c=0∧0<k
    ·rw[i_ h2,i_ (.inr ⟨h2.2,h2.1⟩)]
    ·rw[j_ h2,i_ h128,j_ (by intro h;rcases h with h|h;exact h1 h;exact h2 ⟨h.2,h.1⟩)]
     simp[val,Int.mul_comm]
  ·by_cases h9:k=9
   ·subst h9
    rw[getAt,i_ ⟨rfl,by omega⟩,refGet]
    have hf:fin (c::r) 9=none:=by
     rw[fin,j_ e10,j_ h128]
     cases hr:fin r (9+1) with
     | none=>rfl
     | some j=>have:=fin_lt r _ _ hr;omega
    rw[hf];simp
   ·rw[getAt,j_ a_,j_ a_,j_ h128,getAt_eq r (k+1) _ a_,refGet,refGet]
    have hf:fin (c::r) k=(fin r (k+1)).map (· + 1):=by rw[fin,j_ e10,j_ h128]
    rw[hf]
    cases hr:fin r (k+1) with
    | none=>simp;omega
    | some j =>
     simp only[DP_,BY_]
     have e:j+(k+1)=j+1+k:=a_
     rw[e]
     split
     ·rfl
     ·simp only[List.take_succ_cons,val,Prod.mk.injEq]
      refine ⟨?_,by omega,trivial⟩
      rw[Int.mul_add,Int.pow_succ,←Int.mul_assoc,Int.mul_comm (c % 128)]
      omega
theorem pow_pos128 (k:Nat):(0:Int)<128 ^ k:=Int.pow_pos x_
theorem get_put (b:List Int):∀ (n k:Nat) (acc:Int),k≤9→n<128 ^ (9-k)*2→(k=0∨0<n) →
  getAt (putL n++b) k acc=(acc+128 ^ k*n,(k:Int)+(putL n).length,0):=by
 intro n
 induction n using Nat.strongRecOn with
 | _ n ih =>
  intro k acc hk hn hz
  by_cases h:n<128
  ·have e:putL n=[(n:Int)]:=by rw[putL,i_ h]
   rw[e,List.singleton_append,getAt,j_ (by rintro ⟨rfl,h1⟩;simp at hn;omega),j_ a_,i_ a_]
   have:(n:Int) % 128=n:=by omega
   simp[this,Int.mul_comm]
  ·have e:putL n=((n % 128+128:Nat):Int)::putL (n/128):=by rw[putL,j_ h]
   have h9:k≠9:=by rintro rfl;simp at hn;omega
   have hd:n/128<128 ^ (9-(k+1))*2:=by
    have e2:9-k=(9-(k+1))+1:=a_
    rw[e2,Nat.pow_succ] at hn
    rw[Nat.div_lt_iff_lt_mul x_]
    rw[Nat.mul_right_comm] at hn;exact hn
   rw[e,List.cons_append,getAt,j_ a_,j_ a_,j_ a_,ih (n/128) a_ (k+1) _ a_ hd (.inr a_)]
   have e3:((n % 128+128:Nat):Int) % 128=((n % 128:Nat):Int):=a_
   rw[e3]
   simp only[Prod.mk.injEq,AJ_]
   refine ⟨?_,by omega,trivial⟩
   have e4:(n:Int)=((n % 128:Nat):Int)+128*((n/128:Nat):Int):=a_
   conv=>rhs;rw[e4]
   rw[Int.mul_add,Int.pow_succ,←Int.mul_assoc,Int.mul_comm (((n % 128:Nat):Int))]
   omega
theorem val_nonneg:∀ (xs:List Int),0≤val xs
 | []=>by simp[val]
 | c::r=>by have:=val_nonneg r;rw[val];omega
theorem put_val:∀ (xs:List Int) (k j:Nat),(∀ x∈xs,0≤x∧x≤255)→fin xs k=some j→(0<k+j→xs.getD j 0≠0) →
  putL (val (xs.take (j+1))).toNat=xs.take (j+1)∧(0<k+j→0<val (xs.take (j+1)))
 | [],_,_,_,h,_=>by simp[fin] at h
 | c::r,k,j,hb,h,hz=>by
  have hc:=hb c v0_
  rw[fin] at h
  split at h
  ·simp at h
  ·split at h
   ·rename_i h128
    simp at h;subst h
    simp only[List.take_succ_cons,List.take_zero,val,BM_] at hz ⊢
    have e:c % 128+128*0=c:=a_
    rw[e,putL,i_ a_]
    refine ⟨by simp;omega,fun hk=>?_⟩
    have:=hz a_
    omega
   ·rename_i h128
    obtain ⟨i,hi,rfl⟩:=Option.map_eq_some_iff.1 h
    have ih:=put_val r (k+1) i (fun x hx=>hb x (by simp[hx])) hi (fun _=>by have:=hz a_;simpa using this)
    have hp:=ih.2 a_
    simp only[List.take_succ_cons,val] at ih hp ⊢
    refine ⟨?_,fun _=>by omega⟩
    rw[putL,j_ a_]
    have e1:(c % 128+128*val (r.take (i+1))).toNat/128=(val (r.take (i+1))).toNat:=a_
    rw[e1,ih.1]
    congr 1
    omega
theorem get_back (xs:List Int) (hb:∀ x∈xs,0≤x∧x≤255) (w m:Int) (h:getAt xs 0 0=(w,m,0)):0<m∧m≤xs.length∧putL w.toNat=xs.take m.toNat:=by
 rw[getAt_eq xs 0 0 a_,refGet] at h
 cases hf:fin xs 0 with
 | none=>rw[hf] at h;simp at h;split at h<;>omega
 | some j =>
  rw[hf] at h
  have hj:=fin_lt xs 0 j hf
  simp only[DK_] at h
  split at h
  ·simp at h
  ·rename_i hn
   simp at h
   obtain ⟨rfl,rfl⟩:=h
   have:=put_val xs 0 j hb hf (fun h0=>by intro he;exact hn (.inr ⟨by omega,he⟩))
   refine ⟨by omega,by omega,?_⟩
   have e:((j:Int)+1).toNat=j+1:=a_
   rw[e];exact this.1
def unfoldN (n:Int):Int:=if n % 2=0 then n/2 else -(n/2)-1
def tup3 (r:Int×Int×Int):Value:=.tuple #[.int .u64 r.1,.int .i64 r.2.1,.int .i64 r.2.2]
theorem getAt_step (xs:List Int) (k:Nat) (n c:Int) (r:List Int) (h:xs=c::r):getAt xs k n =
  if k=9∧1<c then (0,0,21) else if c=0∧0<k then (0,0,21) else
  if c<128 then (n+c % 128*128 ^ k,(k:Int)+1,0) else getAt r (k+1) (n+c % 128*128 ^ k):=by rw[h,getAt]
theorem drop_cons (xs:List Int) (k:Nat) (h:k<xs.length):xs.drop k=xs[k]::xs.drop (k+1):=List.drop_eq_getElem_cons h
theorem and127 (c:Int) (h0:0≤c) (h1:c≤255):bits BinOp.and L_ c 127=c % 128:=by
 have h:∀ x:Fin 256,bits BinOp.and L_ ((x.val:Nat):Int) 127=((x.val:Nat):Int) % 128:=by decide +kernel
 have h':=h ⟨c.toNat,by omega⟩
 rw[show ((c.toNat:Nat):Int)=c from by omega] at h'
 exact h'
theorem orstep (k:Nat) (m c:Int) (hk:k≤9) (m0:0≤m) (m1:m<128 ^ k) (h0:0≤c) (h1:c≤255) (h9:k=9→c≤1) :
  bits BinOp.or IntKind.u64 m (IntKind.u64.wrap (IntKind.u64.wrap (bits BinOp.and L_ c 127)*2 ^ (7*k)))=m+c % 128*128 ^ k:=by
 rw[and127 c h0 h1]
 have e1:IntKind.u64.wrap (c % 128)=c % 128:=DQ_ _ a_
 have e2:(2:Int) ^ (7*k)=128 ^ k:=by rw[Int.pow_mul];rfl
 rw[e1,e2]
 obtain ⟨M,rfl⟩:=CL_ m0
 obtain ⟨x,hx⟩:=CL_ (s_ (0≤c % 128))
 rw[hx]
 have e3:((x:Int)*128 ^ k)=((x*128 ^ k:Nat):Int):=v0_
 have hM:M<128 ^ k:=by
  have e:((128:Int) ^ k)=((128 ^ k:Nat):Int):=v0_
  rw[e] at m1;omega
 have hb:x*128 ^ k+M<18446744073709551616:=by
  have hxl:x≤127:=a_
  by_cases h:k=9
  ·subst h
   have:=h9 rfl
   have:x≤1:=by omega
   have:=BP_ (128 ^ 9) this
   omega
  ·have hp:128 ^ k≤128 ^ 8:=Nat.pow_le_pow_right x_ a_
   have:=Nat.mul_le_mul hxl hp
   omega
 have e4:IntKind.u64.wrap ((x:Int)*128 ^ k)=((x*128 ^ k:Nat):Int):=by
  rw[e3];exact DQ_ _ a_
 rw[e4,u64_or_nat _ _ a_ a_]
 have e5:(128:Nat) ^ k=2 ^ (7*k):=by rw[Nat.pow_mul]
 rw[e5] at hM ⊢
 have e6:=Nat.two_pow_add_eq_or_of_lt hM x
 rw[Nat.mul_comm x,Nat.or_comm,←e6]
 have e7:(128:Int) ^ k=((2 ^ (7*k):Nat):Int):=by rw[←e5];simp
 rw[e7]
 rw[Int.mul_comm]
 omega
theorem tup3_of (a:Int) (b c:Int) (r:Int×Int×Int) (h:r=(a,b,c)):tup3 r=.tuple #[.int .u64 a,.int .i64 b,.int .i64 c]:=by rw[h];rfl
theorem getAt_more (k:Nat) (m c:Int) (m0:0≤m) (m1:m<128 ^ k):0≤m+c % 128*128 ^ k∧m+c % 128*128 ^ k<128 ^ (k+1):=by
 have hp:=pow_pos128 k
 have h1:0≤c % 128*128 ^ k:=CC_ a_ a_
 have h2:c % 128*128 ^ k≤127*128 ^ k:=DO_ a_ a_
 rw[Int.pow_succ]
 constructor<;>omega
theorem get_any (v:Value) (xs:List Int) (w:World) (hv:Rd w v (xs.map (AW_ .u8))) (hb:∀ x∈xs,0≤x∧x≤255) (hx:xs.length≤1099511627776) :
  Calls M_ 95 #[v] w fun e w'=>e=.returned (tup3 (getAt xs 0 0))∧Below w.heap.size w w':=by
 obtain ⟨ao,ca,rfl,_,ha⟩:=hv
 simp only[V_]
 have HB:=Lib.hid hb;clear hb
 go_enter Tryz.func95,Tryz.ntmps95
 go_wp2
 go_step3
 go_wp2
 go_step3
 go_wp2
 go_loopw [5,6,11] (fun n sz i wr=>∃ (k:Nat) (m:Int),i=.int .i64 k∧k≤xs.length∧k≤9∧n=.int .u64 m∧0≤m∧m<128 ^ k∧sz=.int .i64 0∧getAt (xs.drop k) k m=getAt xs 0 0∧Below w.heap.size w wr)
  (fun _ _ i _=>xs.length-(intOf i).toNat)
 case atStart=>exact ⟨0,0,rfl,by omega,by omega,rfl,by omega,by simp,rfl,rfl,Below.refl _ _⟩
 case round =>
  obtain ⟨k,m,rfl,hk,hk9,rfl,hm0,hm1,rfl,hg,hbw⟩:=hrel
  have HG:=Lib.hid hg;have HM:=Lib.hid hm1;clear hg hm1
  by_cases hlt:k<xs.length
  ·obtain ⟨b,o,rfl,hc⟩:=ha l2_
   have hcell:=bl_get hbw (hc k (by simpa using hlt))
   simp only[DS_] at hcell
   have hcb:=HB.out xs[k] (CN_ hlt)
   have hs:=getAt_step (xs.drop k) k m xs[k] _ (drop_cons xs k hlt)
   rw[HG.out] at hs
   obtain ⟨c,hcc⟩:∃ c,c=xs[k]:=⟨_,rfl⟩
   rw[←hcc] at hcell hcb hs
   obtain ⟨hc0,hc1⟩:=hcb
   have HC:=Lib.hid hcc;clear hcc hc ha
   by_cases h1:k=9∧1<c
   ·rw[i_ h1] at hs
    have HS:=Lib.hid hs;clear hs
    obtain ⟨rfl,h1⟩:=h1
    go_wp2
    (try rw[Exit.noGoto_ret]);go_ret3
    exact ⟨by rw[HS.out];rfl,hbw⟩
   ·rw[j_ h1] at hs
    by_cases h2:c=0∧0<k
    ·rw[i_ h2] at hs
     have HS:=Lib.hid hs;clear hs h1
     obtain ⟨rfl,h2⟩:=h2
     by_cases h9:k=9
     ·subst h9
      go_wp2
      (try rw[Exit.noGoto_ret]);go_ret3
      exact ⟨by rw[HS.out];rfl,hbw⟩
     ·go_wp2
      (try rw[Exit.noGoto_ret]);go_ret3
      exact ⟨by rw[HS.out];rfl,hbw⟩
    ·rw[j_ h2] at hs
     by_cases h3:c<128
     ·rw[i_ h3] at hs
      have HS:=Lib.hid hs;clear hs
      by_cases h9:k=9
      ·subst h9
       have hc2:c≤1:=a_
       have hc3:1≤c:=a_
       clear h1 h2
       go_wp2
       (try rw[Exit.noGoto_ret]);go_ret3
       refine ⟨?_,hbw⟩
       have e:=orstep 9 m c a_ hm0 HM.out hc0 hc1 (fun _=>hc2)
       rw[HS.out,←e];rfl
      ·clear h1
       by_cases h4:k=0
       ·subst h4
        simp only[DK_] at hcell
        clear h2
        by_cases h5:c=0
        ·subst h5
         go_wp2
         (try rw[Exit.noGoto_ret]);go_ret3
         refine ⟨?_,hbw⟩
         have e:=orstep 0 m 0 a_ hm0 HM.out a_ a_ a_
         simp only[Nat.mul_zero,Int.pow_zero,Int.mul_one] at e
         rw[HS.out];simp only[Int.pow_zero,Int.mul_one];rw[←e];rfl
        ·have hc3:1≤c:=a_
         go_wp2
         (try rw[Exit.noGoto_ret]);go_ret3
         refine ⟨?_,hbw⟩
         have e:=orstep 0 m c a_ hm0 HM.out a_ a_ a_
         simp only[Nat.mul_zero,Int.pow_zero,Int.mul_one] at e
         rw[HS.out];simp only[Int.pow_zero,Int.mul_one];rw[←e];rfl
       ·have hc3:1≤c:=a_
        clear h2
        go_wp2
        (try rw[Exit.noGoto_ret]);go_ret3
        refine ⟨?_,hbw⟩
        have e:=orstep k m c a_ hm0 HM.out hc0 hc1 a_
        rw[HS.out,←e];rfl
     ·rw[j_ h3] at hs
      have HS:=Lib.hid hs;clear hs
      have h9:k<9:=a_
      clear h1 h2
      go_wp2
      go_roundw
      case rel =>
       have e:=orstep k m c a_ hm0 HM.out hc0 hc1 a_
       have e2:=getAt_more k m c hm0 HM.out
       exact ⟨k+1,m+c % 128*128 ^ k,by go_num,by omega,by omega,by rw[e],e2.1,e2.2,rfl,HS.out.symm,hbw⟩
      case measure=>simp[intOf];omega
  ·have hv:getAt xs 0 0=(0,0,20):=by rw[←HG.out,List.drop_of_length_le a_];rfl
   have HV:=Lib.hid hv;clear hv
   go_wp2
   (try rw[Exit.noGoto_ret]);go_ret3
   exact ⟨by rw[HV.out];rfl,hbw⟩
theorem fin_none_of:∀ (xs:List Int) (k:Nat),(∀ j (h:j<xs.length),j+k<10→¬ xs[j]<128)→fin xs k=none
 | [],_,_=>rfl
 | c::r,k,h=>by
  rw[fin]
  by_cases hk:10≤k
  ·rw[i_ hk]
  ·have h0:¬ c<128:=h 0 v0_ a_
   rw[j_ hk,j_ h0,fin_none_of r (k+1) (fun j hj hjk=>h (j+1) j2_ a_)];rfl
theorem fin_some_of:∀ (xs:List Int) (k j:Nat) (hj:j<xs.length),j+k<10→xs[j]<128→(∀ i (h:i<j),¬ xs[i]<128)→fin xs k=some j
 | [],_,_,h,_,_,_=>by simp at h
 | c::r,k,0,_,hk,hx,_=>by
  rw[fin,j_ a_,i_ (by simpa using hx)]
 | c::r,k,j+1,hj,hk,hx,ha=>by
  have h0:¬ c<128:=ha 0 a_
  rw[fin,j_ a_,j_ h0,fin_some_of r (k+1) j (by simpa using hj) a_ (by simpa using hx) (fun i hi=>by simpa using ha (i+1) a_)];rfl
def Seen (xs:List Int) (k:Nat) (e:Int):Prop :=
 (e = -1∧∀ i (h:i<xs.length),i<k→¬ xs[i]<128)∨(∃ j:Nat,e=j∧∃ hj:j<xs.length,j<k∧xs[j]<128∧∀ i (_:i<j),¬ xs[i]<128)
theorem val_drop (xs:List Int) (t:Nat) (h:t<xs.length):val (xs.drop t)=xs[t] % 128+128*val (xs.drop (t+1)):=by
 rw[List.drop_eq_getElem_cons h,val]
theorem val_drop_le:∀ (xs:List Int) (t:Nat),val (xs.drop t)≤val xs
 | [],t=>by simp
 | c::r,0=>by simp
 | c::r,t+1=>by
  have h1:=val_drop_le r t
  have h2:=val_nonneg r
  simp only[List.drop_succ_cons,val];omega
theorem val_bound:∀ (xs:List Int) (k:Nat),xs.length≤k+1→(∀ h:k<xs.length,xs[k]≤1)→(∀ x∈xs,0≤x)→val xs<128 ^ k*2
 | [],k,_,_,_=>by have:=pow_pos128 k;simp[val];omega
 | c::r,0,hl,hx,h0=>by
  have:r=[]:=by simpa using hl
  subst this
  have:=hx v0_;simp at this
  have:=h0 c v0_
  simp[val];omega
 | c::r,k+1,hl,hx,h0=>by
  have ih:=val_bound r k (by simpa using hl) (fun h=>hx (by simpa using h)) (fun x hx=>h0 x (by simp[hx]))
  rw[val,Int.pow_succ];omega
theorem val_u64 (xs:List Int) (j:Nat) (hj:j<xs.length) (hj9:j≤9) (hx:j=9→xs[j]≤1) (h0:∀ x∈xs,0≤x):val (xs.take (j+1))≤18446744073709551615:=by
 have h:=val_bound (xs.take (j+1)) 9 j2_ (fun h=>by
  have hl:9<j+1:=by simp at h;omega
  have e:j=9:=a_
  subst e
  have:=hx rfl
  simpa using this) (fun x hx=>h0 x (List.mem_of_mem_take hx))
 omega
theorem refGet_any (v:Value) (xs:List Int) (w:World) (hv:Rd w v (xs.map (AW_ .u8))) (hb:∀ x∈xs,0≤x∧x≤255) (hx:xs.length≤1099511627776) :
  Calls M_ 64 #[v] w fun e w'=>e=.returned (tup3 (getAt xs 0 0))∧Below w.heap.size w w':=by
 obtain ⟨ao,ca,rfl,_,ha⟩:=hv
 simp only[V_]
 have HB:=Lib.hid hb;clear hb
 go_enter Tryz.func64,Tryz.ntmps64
 go_wp2
 go_loopw [5,6] (fun e i wr=>∃ (k:Nat) (E:Int),i=.int .i64 k∧k≤xs.length∧k≤10∧e=.int .i64 E∧Seen xs k E∧Below w.heap.size w wr)
  (fun _ i _=>xs.length-(intOf i).toNat)
 case atStart=>exact ⟨0,-1,rfl,by omega,by omega,rfl,.inl ⟨rfl,by omega⟩,Below.refl _ _⟩
 case round =>
  obtain ⟨k,E,rfl,hk,hk10,rfl,hs,hbw⟩:=hrel
  by_cases hlt:k<xs.length∧k<10
  ·obtain ⟨hlt,hlt10⟩:=hlt
   obtain ⟨b,o,rfl,hc⟩:=ha l2_
   have hcell:=bl_get hbw (hc k (by simpa using hlt))
   simp only[DS_] at hcell
   have hcb:=HB.out xs[k] (CN_ hlt)
   obtain ⟨c,hcc⟩:∃ c,c=xs[k]:=⟨_,rfl⟩
   rw[←hcc] at hcell hcb
   obtain ⟨hc0,hc1⟩:=hcb
   have HC:=Lib.hid hcc;clear hcc hc ha
   have HS:=Lib.hid hs
   rcases hs with ⟨rfl,hs⟩|⟨j,rfl,hj,hjk,hx,hs⟩
   ·have H:=Lib.hid hs;clear hs
    by_cases h128:c<128
    ·go_wp2
     go_roundw
     case rel =>
      refine ⟨k+1,k,by go_num,by omega,by omega,rfl,.inr ⟨k,rfl,hlt,by omega,by rw[←HC.out];exact h128,fun i hi=>H.out i a_ hi⟩,hbw⟩
     case measure=>simp[intOf];omega
    ·go_wp2
     go_roundw
     case rel =>
      refine ⟨k+1,-1,by go_num,by omega,by omega,rfl,.inl ⟨rfl,fun i hi hik=>?_⟩,hbw⟩
      by_cases e:i=k
      ·subst e;rw[←HC.out];exact h128
      ·exact H.out i hi a_
     case measure=>simp[intOf];omega
   ·have H:=Lib.hid hs;clear hs hx
    go_wp2
    go_roundw
    case rel =>
     refine ⟨k+1,j,by go_num,by omega,by omega,rfl,.inr ?_,hbw⟩
     rcases HS.out with ⟨h,_⟩|⟨j',h,r⟩
     ·omega
     ·obtain ⟨r1,r2,r3⟩:=r
      exact ⟨j',h,r1,by omega,r3⟩
    case measure=>simp[intOf];omega
  ·have hend:k=xs.length∨k=10:=a_
   rcases hs with ⟨rfl,hs⟩|⟨j,rfl,hj,hjk,hx,hs⟩
   ·have hf:fin xs 0=none:=fin_none_of xs 0 (fun j hj hj10=>hs j hj a_)
    clear hs
    by_cases h10:10≤xs.length
    ·have hg:getAt xs 0 0=(0,0,21):=by rw[getAt_eq xs 0 0 a_,refGet,hf];simp;omega
     have HG:=Lib.hid hg;have HF:=Lib.hid hf;clear hg hf
     have hk':k=10:=by omega
     subst hk'
     clear hend hlt
     go_wp2
     all_goals
      go_ret3
      exact ⟨by rw[HG.out];rfl,hbw⟩
    ·have hg:getAt xs 0 0=(0,0,20):=by rw[getAt_eq xs 0 0 a_,refGet,hf];simp;omega
     have HG:=Lib.hid hg;have HF:=Lib.hid hf;clear hg hf
     obtain rfl:k=xs.length:=by omega
     clear hend hlt
     go_wp2
     go_ret3
     exact ⟨by rw[HG.out];rfl,hbw⟩
   ·have hf:fin xs 0=some j:=fin_some_of xs 0 j hj a_ hx (fun i hi=>hs i hi)
    have hne:xs≠[]:=by intro h;subst h;simp at hj
    obtain ⟨b,o,rfl,hc⟩:=ha (by simpa using hne)
    have hcell:=bl_get hbw (hc j (by simpa using hj))
    simp only[DS_] at hcell
    have hxb:=HB.out xs[j] (CN_ hj)
    have hg:=getAt_eq xs 0 0 a_
    rw[refGet,hf] at hg
    simp only[DK_,AU_,AP_ hj,CR_] at hg
    obtain ⟨x,hxx⟩:∃ x,x=xs[j]:=⟨_,rfl⟩
    have hvu:(j=9→x≤1)→val (xs.take (j+1))≤18446744073709551615:=fun h=>val_u64 xs j hj a_ (by rw[←hxx];exact h) (fun x hx=>(HB.out x hx).1)
    rw[←hxx] at hcell hxb hx hg
    obtain ⟨hx0,hx1⟩:=hxb
    have HX:=Lib.hid hxx;have HV:=Lib.hid hvu;have HS:=Lib.hid hs;have HCC:=Lib.hid hc;have HF:=Lib.hid hf;clear hs hf hxx ha hc hvu
    by_cases e1:j=9∧1<x
    ·rw[i_ (.inl e1)] at hg
     have HG:=Lib.hid hg;clear hg
     obtain ⟨rfl,e1⟩:=e1
     obtain rfl:k=10:=by omega
     clear hend hlt
     go_wp2
     all_goals
      go_ret3
      exact ⟨by rw[HG.out];rfl,hbw⟩
    ·by_cases e2:0<j∧x=0
     ·rw[i_ (.inr e2)] at hg
      have HG:=Lib.hid hg;clear hg
      obtain ⟨e2,rfl⟩:=e2
      clear e1
      by_cases e9:j=9
      ·subst e9
       obtain rfl:k=10:=by omega
       clear hend hlt
       go_wp2
       all_goals
        go_ret3
        exact ⟨by rw[HG.out];rfl,hbw⟩
      ·go_wp2
       all_goals
        go_ret3
        exact ⟨by rw[HG.out];rfl,hbw⟩
     ·rw[j_ (by intro h;rcases h with h|h;exact e1 h;exact e2 h)] at hg
      have HG:=Lib.hid hg;have HJ:=Lib.hid hj
      have HQ:Hid (j=9→x≤1):=Lib.hid (fun h=>by omega)
      clear hg
      by_cases e9:j=9
      ·subst e9
       have hx2:x≤1:=a_
       have hx3:1≤x:=a_
       obtain rfl:k=10:=by omega
       clear hend hlt e1 e2
       go_wp2
       all_goals
        go_loopw [7,8] (fun n i wr2=>∃ I:Int,-1≤I∧I≤9∧i=.int .i64 I∧n=.int .u64 (val ((xs.take (9+1)).drop (I+1).toNat))∧Below w.heap.size w wr2) (fun _ i _=>(intOf i+1).toNat)
        case atStart=>exact ⟨9,by omega,by omega,rfl,by rw[List.drop_of_length_le j2_];rfl,hbw⟩
        case round =>
         obtain ⟨I,hI1,hI2,rfl,rfl,hbw2⟩:=hrel
         by_cases hI:I = -1
         ·subst hI
          go_wp2
          go_ret3
          refine ⟨?_,hbw2⟩
          rw[tup3_of _ _ _ _ HG.out]
          simp
         ·obtain ⟨s,rfl⟩:=CL_ (s_ (0≤I))
          have hsl:s<(xs.take (9+1)).length:=by have:=(HJ.out:9<xs.length);simp;omega
          have hvd:=val_drop _ s hsl
          have hle:=val_drop_le (xs.take (9+1)) s
          have hV:=HV.out HQ.out
          have hn:=val_nonneg ((xs.take (9+1)).drop (s+1))
          have hsx:s<xs.length:=by have:=(HJ.out:9<xs.length);omega
          have hcs:=bl_get hbw2 (HCC.out s (by simpa using hsx))
          simp only[DS_] at hcs
          have hyb:=HB.out xs[s] (CN_ hsx)
          rw[List.getElem_take] at hvd
          obtain ⟨y,hy⟩:∃ y,y=xs[s]:=⟨_,rfl⟩
          rw[←hy] at hcs hyb hvd
          have et:((s:Int)+1).toNat=s+1:=a_
          rw[et]
          obtain ⟨V,hVV⟩:∃ V,V=val ((xs.take (9+1)).drop (s+1)):=⟨_,rfl⟩
          rw[←hVV] at hvd hn ⊢
          have hb1:V*128+y % 128≤18446744073709551615:=a_
          have hb2:V*128≤18446744073709551615:=a_
          have HVD:=Lib.hid hvd;have HVV:=Lib.hid hVV;have HY:=Lib.hid hy
          obtain ⟨hy0,hy1⟩:=hyb
          clear hvd hVV hy hle hV
          go_wp2
          go_roundw
          case rel=>exact ⟨(s:Int)-1,by omega,by omega,by go_num,by rw[show ((s:Int)-1+1).toNat=s from by omega,HVD.out,Int.mul_comm 128,Int.add_comm],hbw2⟩
          case measure=>simp[intOf]
      ·by_cases e0:j=0
       ·subst e0
        simp only[DK_] at hcell
        clear e1 e2
        go_wp2
        all_goals
         go_loopw [7,8] (fun n i wr2=>∃ I:Int,-1≤I∧I≤0∧i=.int .i64 I∧n=.int .u64 (val ((xs.take (0+1)).drop (I+1).toNat))∧Below w.heap.size w wr2) (fun _ i _=>(intOf i+1).toNat)
         case atStart=>exact ⟨0,by omega,by omega,rfl,by rw[List.drop_of_length_le j2_];rfl,hbw⟩
         case round =>
          obtain ⟨I,hI1,hI2,rfl,rfl,hbw2⟩:=hrel
          by_cases hI:I = -1
          ·subst hI
           go_wp2
           go_ret3
           refine ⟨?_,hbw2⟩
           rw[tup3_of _ _ _ _ HG.out]
           simp
          ·obtain ⟨s,rfl⟩:=CL_ (s_ (0≤I))
           have hsl:s<(xs.take (0+1)).length:=by have:=(HJ.out:0<xs.length);simp;omega
           have hvd:=val_drop _ s hsl
           have hle:=val_drop_le (xs.take (0+1)) s
           have hV:=HV.out HQ.out
           have hn:=val_nonneg ((xs.take (0+1)).drop (s+1))
           have hsx:s<xs.length:=by have:=(HJ.out:0<xs.length);omega
           have hcs:=bl_get hbw2 (HCC.out s (by simpa using hsx))
           simp only[DS_] at hcs
           have hyb:=HB.out xs[s] (CN_ hsx)
           rw[List.getElem_take] at hvd
           obtain ⟨y,hy⟩:∃ y,y=xs[s]:=⟨_,rfl⟩
           rw[←hy] at hcs hyb hvd
           have et:((s:Int)+1).toNat=s+1:=a_
           rw[et]
           obtain ⟨V,hVV⟩:∃ V,V=val ((xs.take (0+1)).drop (s+1)):=⟨_,rfl⟩
           rw[←hVV] at hvd hn ⊢
           have hb1:V*128+y % 128≤18446744073709551615:=a_
           have hb2:V*128≤18446744073709551615:=a_
           have HVD:=Lib.hid hvd;have HVV:=Lib.hid hVV;have HY:=Lib.hid hy
           obtain ⟨hy0,hy1⟩:=hyb
           clear hvd hVV hy hle hV
           go_wp2
           go_roundw
           case rel=>exact ⟨(s:Int)-1,by omega,by omega,by go_num,by rw[show ((s:Int)-1+1).toNat=s from by omega,HVD.out,Int.mul_comm 128,Int.add_comm],hbw2⟩
           case measure=>simp[intOf]
       ·have hx3:1≤x:=a_
        clear e1 e2
        go_wp2
        all_goals
         go_loopw [7,8] (fun n i wr2=>∃ I:Int,-1≤I∧I≤j∧i=.int .i64 I∧n=.int .u64 (val ((xs.take (j+1)).drop (I+1).toNat))∧Below w.heap.size w wr2) (fun _ i _=>(intOf i+1).toNat)
         case atStart=>exact ⟨j,by omega,by omega,rfl,by rw[List.drop_of_length_le j2_];rfl,hbw⟩
         case round =>
          obtain ⟨I,hI1,hI2,rfl,rfl,hbw2⟩:=hrel
          by_cases hI:I = -1
          ·subst hI
           go_wp2
           go_ret3
           refine ⟨?_,hbw2⟩
           rw[tup3_of _ _ _ _ HG.out]
           simp
          ·obtain ⟨s,rfl⟩:=CL_ (s_ (0≤I))
           have hsl:s<(xs.take (j+1)).length:=by have:=(HJ.out:j<xs.length);simp;omega
           have hvd:=val_drop _ s hsl
           have hle:=val_drop_le (xs.take (j+1)) s
           have hV:=HV.out HQ.out
           have hn:=val_nonneg ((xs.take (j+1)).drop (s+1))
           have hsx:s<xs.length:=by have:=(HJ.out:j<xs.length);omega
           have hcs:=bl_get hbw2 (HCC.out s (by simpa using hsx))
           simp only[DS_] at hcs
           have hyb:=HB.out xs[s] (CN_ hsx)
           rw[List.getElem_take] at hvd
           obtain ⟨y,hy⟩:∃ y,y=xs[s]:=⟨_,rfl⟩
           rw[←hy] at hcs hyb hvd
           have et:((s:Int)+1).toNat=s+1:=a_
           rw[et]
           obtain ⟨V,hVV⟩:∃ V,V=val ((xs.take (j+1)).drop (s+1)):=⟨_,rfl⟩
           rw[←hVV] at hvd hn ⊢
           have hb1:V*128+y % 128≤18446744073709551615:=a_
           have hb2:V*128≤18446744073709551615:=a_
           have HVD:=Lib.hid hvd;have HVV:=Lib.hid hVV;have HY:=Lib.hid hy
           obtain ⟨hy0,hy1⟩:=hyb
           clear hvd hVV hy hle hV
           go_wp2
           go_roundw
           case rel=>exact ⟨(s:Int)-1,by omega,by omega,by go_num,by rw[show ((s:Int)-1+1).toNat=s from by omega,HVD.out,Int.mul_comm 128,Int.add_comm],hbw2⟩
           case measure=>simp[intOf]
theorem getAt_range (xs:List Int) (hb:∀ x∈xs,0≤x∧x≤255):0≤(getAt xs 0 0).1∧(getAt xs 0 0).1≤18446744073709551615∧0≤(getAt xs 0 0).2.1∧(getAt xs 0 0).2.1≤10∧0≤(getAt xs 0 0).2.2∧(getAt xs 0 0).2.2≤21∧((getAt xs 0 0).2.2≠0→(getAt xs 0 0).1=0):=by
 rw[getAt_eq xs 0 0 a_,refGet]
 cases hf:fin xs 0 with
 | none=>simp;split<;>omega
 | some j =>
  have hj:=fin_lt xs 0 j hf
  simp only[DK_]
  split
  ·simp
  ·rename_i hn
   have h1:=val_nonneg (xs.take (j+1))
   have h2:=val_u64 xs j hj.1 a_ (fun h=>by
    have:¬ 1<xs.getD j 0:=fun h1=>hn (.inl ⟨h,h1⟩)
    simp[List.getD,AP_ hj.1] at this
    exact this) (fun x hx=>(hb x hx).1)
   simp;omega
theorem xor_i64_zero (a:Int) (h0:0≤a) (h1:a≤9223372036854775807):bits BinOp.xor U_ a 0=a:=by
 show IntKind.i64.wrap ((BitVec.ofInt 64 a ^^^ 0#64).toNat:Int)=_
 rw[BitVec.xor_zero,BitVec.toNat_ofInt,IntKind.wrap_i64]
 omega
theorem xor_i64_ones (a:Int) (h0:0≤a) (h1:a≤9223372036854775807):bits BinOp.xor U_ a (-1) = -a-1:=by
 show IntKind.i64.wrap ((BitVec.ofInt 64 a ^^^ BitVec.allOnes 64).toNat:Int)=_
 rw[BitVec.xor_allOnes,BitVec.toNat_not,BitVec.toNat_ofInt,IntKind.wrap_i64]
 omega
theorem unf_bits (n:Int) (h0:0≤n) (h1:n≤18446744073709551615) :
  bits BinOp.xor U_ (n/2) (wrap64 (-wrap64 (bits BinOp.and IntKind.u64 n 1)))=unfoldN n:=by
 rw[and_one_u64 n h0 h1]
 by_cases he:n % 2=0
 ·rw[he,unfoldN,i_ he,show wrap64 (-wrap64 0)=0 from by decide +kernel,xor_i64_zero _ a_ a_]
 ·rw[show n % 2=1 from by omega,unfoldN,j_ he,show wrap64 (-wrap64 1) = -1 from by decide +kernel,xor_i64_ones _ a_ a_]
theorem unfold_any (n:Int) (w:World) (h0:0≤n) (h1:n≤18446744073709551615) :
  Calls M_ 169 #[.int .u64 n] w fun e w'=>e=.returned (.int .i64 (unfoldN n))∧w=w':=by
 by_cases he:n % 2=0
 ·go_enter Tryz.func169,Tryz.ntmps169
  go_wp2
  go_ret
  exact ⟨ret_int (by unfold unfoldN;rw[i_ he]),rfl⟩
 ·have he2:n % 2=1:=a_
  have ht:(n % 2==0)=false:=j2_
  clear he he2
  go_enter Tryz.func169,Tryz.ntmps169
  go_wp2
  go_ret
  exact ⟨ret_int (by unfold unfoldN;rw[j_ (by simpa using ht)]),rfl⟩
theorem getInt_any (v:Value) (xs:List Int) (w:World) (hv:Rd w v (xs.map (AW_ .u8))) (hb:∀ x∈xs,0≤x∧x≤255) (hx:xs.length≤1099511627776) :
  Calls M_ 253 #[v] w fun e w'=>e=.returned (.tuple #[.int .i64 (unfoldN (getAt xs 0 0).1),.int .i64 (getAt xs 0 0).2.1,.int .i64 (getAt xs 0 0).2.2])∧Below w.heap.size w w':=by
 obtain ⟨r0,r1,_⟩:=getAt_range xs hb
 go_enter Tryz.func253,Tryz.ntmps253
 go_wp2_with fail
 refine (get_any _ _ _ hv hb hx).mono ?_
 rintro e w1 ⟨rfl,hb1⟩
 unfold tup3
 go_wp2
 go_ret3
 refine ⟨?_,hb1⟩
 rw[←unf_bits _ r0 r1];rfl
theorem got (n:Nat) (b:List Int) (hn:n<18446744073709551616):getAt (putL n++b) 0 0=((n:Int),((putL n).length:Int),0):=by
 rw[get_put b n 0 0 a_ a_ (.inl rfl)];simp
theorem ownR_sl {S:Nat→Prop} {w:World} {B:Nat} {t:TypeId} {k:IntKind} {L:List Int} {v:Value} (hS:∀ b,S b→b<B) (h:Own B w t v (L.map (AW_ k))):Rel (fun _=>none) S w (.sl 1 (L.map (row1 k))) v:=by
 by_cases hne:L=[]
 ·subst hne
  obtain ⟨ao,cap,rfl,⟨_,hm,h0⟩,_⟩:=h.rd
  exact .pure (.nil 1 hm h0)
 ·obtain ⟨g,cap,rfl,hc,hm,hB,hg,hcell,_,_⟩:=h.form (by simpa using hne)
  rw[V_] at hc
  rw[V_,show L.length=(L.map (row1 k)).length from by rw[V_]]
  refine .pure (.sl (fun i _=>.int k (L.getD i 0)) (fun _ hs=>absurd (hS _ hs) a_) (fun _=>hg) (by rw[V_];exact hc) hm (fun i r hr=>?_) (fun i r j c hr hc=>?_) (fun i r j c hr hc=>?_) (fun i r j c hr hc=>by simp[Value.oneCell']))
  ·rw[AX_] at hr
   cases q:L[i]? with
   | none=>rw[q] at hr;cases hr
   | some x=>rw[q] at hr;injection hr with hr;subst hr;rfl
  ·rw[AX_] at hr
   cases q:L[i]? with
   | none=>rw[q] at hr;cases hr
   | some x =>
    rw[q] at hr;injection hr with hr;subst hr
    obtain ⟨hi,e⟩:=List.getElem?_eq_some_iff.1 q
    cases j with
    | zero =>
     have:=hcell i (by rw[V_];exact hi)
     rw[show 0+i*1+0=i from by omega,this,DS_,AU_,q,e];rfl
    | succ j=>simp at hc
  ·rw[AX_] at hr
   cases q:L[i]? with
   | none=>rw[q] at hr;cases hr
   | some x =>
    rw[q] at hr;injection hr with hr;subst hr
    cases j with
    | zero=>simp at hc;subst hc;rw[AU_,q];exact .lit _
    | succ j=>simp at hc
theorem sl_rd {μ:Nat→Option OI} {S:Nat→Prop} {w:World} {k:IntKind} {L:List Int} {v:Value} (h:Rel μ S w (.sl 1 (L.map (row1 k))) v):Rd w v (L.map (AW_ k)):=by
 cases h with
 | pure h =>
  generalize hr:L.map (row1 k)=rows at h
  cases h with
  | nil _ hm h0 =>
   have:L=[]:=by simpa using hr
   subst this
   exact ⟨_,_,rfl,⟨CO_ _,hm,h0⟩,fun h=>absurd rfl h⟩
  | @sl _ _ b off cap cv hX hb hc hm hz h1 h2 h3 =>
   subst hr
   rw[V_] at hc ⊢
   refine ⟨some ⟨b,off,none⟩,cap,by rw[V_],⟨by rw[V_];exact hc,hm,by simp⟩,fun hne=>⟨b,off,rfl,fun j hj=>?_⟩⟩
   rw[V_] at hj
   have e:(L.map (row1 k))[j]? = some (row1 k L[j]):=by rw[AX_,AP_ hj];rfl
   have a1:=h1 j _ 0 (.lit (.int k L[j])) e rfl
   have a2:=h2 j _ 0 (.lit (.int k L[j])) e rfl
   rw[show off+j=off+j*1+0 from by omega,a1]
   generalize cv j 0=u at a2
   cases a2
   rw[DS_]
theorem put_v (n:Int) (h0:0≤n) (h1:n≤18446744073709551615):VC M_ 25 [.lit (.int .u64 n)] (.sl 1 ((putL n.toNat).map (row1 .u8))):=by
 intro S w xs hS hl hxs
 have:=valAll_eq (us:=[.int .u64 n]) hl hxs rfl
 subst this
 exact (put_any n w h0 h1).mono fun e w' ⟨v,he,ho,hb⟩=>⟨v,he,ownR_sl hS ho,hb⟩
theorem one_arg {μ:Nat→Option OI} {X:Nat→Prop} {w:World} {c:AV} {xs:List Value} (hl:xs.length=[c].length) (h:∀ (i:Nat) (c':AV) (v:Value),[c][i]? = some c'→xs[i]? = some v→Rel μ X w c' v):∃ v,xs=[v]∧Rel μ X w c v:=by
 match xs,hl with
 | [v],_=>exact ⟨v,rfl,h 0 c v rfl rfl⟩
theorem rel3 {μ:Nat→Option OI} {X:Nat→Prop} {w:World} (a b c:Value):Rel μ X w (.tup [.lit a,.lit b,.lit c]) (.tuple #[a,b,c]) :=
 .tup (vs:=[a,b,c]) rfl (fun i x v hx hv=>by
  match i with
  | 0=>simp at hx hv;subst hx hv;exact .pure (.lit _)
  | 1=>simp at hx hv;subst hx hv;exact .pure (.lit _)
  | 2=>simp at hx hv;subst hx hv;exact .pure (.lit _)
  | i+3=>simp at hx)
def getV (l:List Int):Int:=(getAt l 0 0).1
def getN (l:List Int):Int:=(getAt l 0 0).2.1
def getE (l:List Int):Int:=(getAt l 0 0).2.2
theorem get_v (l:List Int) (hb:∀ x∈l,0≤x∧x≤255) (hl:l.length≤1000000):VC M_ 95 [.sl 1 (l.map (row1 .u8))] (.tup [.lit (.int .u64 (getV l)),i64 (getN l),i64 (getE l)]):=by
 intro S w xs hS hn hxs
 obtain ⟨v,rfl,hv⟩:=one_arg hn hxs
 exact (get_any v l w (sl_rd hv) hb a_).mono fun e w' ⟨he,hb⟩=>⟨_,he,rel3 _ _ _,hb⟩
theorem refGet_v (l:List Int) (hb:∀ x∈l,0≤x∧x≤255) (hl:l.length≤1000000):VC M_ 64 [.sl 1 (l.map (row1 .u8))] (.tup [.lit (.int .u64 (getV l)),i64 (getN l),i64 (getE l)]):=by
 intro S w xs hS hn hxs
 obtain ⟨v,rfl,hv⟩:=one_arg hn hxs
 exact (refGet_any v l w (sl_rd hv) hb a_).mono fun e w' ⟨he,hb⟩=>⟨_,he,rel3 _ _ _,hb⟩
theorem getInt_v (l:List Int) (hb:∀ x∈l,0≤x∧x≤255) (hl:l.length≤1000000):VC M_ 253 [.sl 1 (l.map (row1 .u8))] (.tup [i64 (unfoldN (getV l)),i64 (getN l),i64 (getE l)]):=by
 intro S w xs hS hn hxs
 obtain ⟨v,rfl,hv⟩:=one_arg hn hxs
 exact (getInt_any v l w (sl_rd hv) hb a_).mono fun e w' ⟨he,hb⟩=>⟨_,he,rel3 _ _ _,hb⟩
theorem unfold_v (n:Int) (h0:0≤n) (h1:n≤18446744073709551615):VC M_ 169 [.lit (.int .u64 n)] (i64 (unfoldN n)) :=
 VC.ofSame (vals:=[.int .u64 n]) rfl rfl fun w=>unfold_any n w h0 h1
def poly:BitVec 32:=3988292384#32
def st (v:BitVec 32):BitVec 32:=(v >>> 1) ^^^ (if v.getLsbD 0 then poly else 0#32)
def stn:Nat→BitVec 32→BitVec 32
 | 0,v=>v
 | n+1,v=>stn n (st v)
def byte (v:BitVec 32) (c:Int):BitVec 32:=stn 8 (v ^^^ BitVec.ofInt 32 c)
def runB (v:BitVec 32) (l:List Int):BitVec 32:=l.foldl byte v
theorem st_xor (a b:BitVec 32):st (a ^^^ b)=st a ^^^ st b:=by
 unfold st
 rw[BitVec.ushiftRight_xor_distrib,BitVec.getLsbD_xor]
 cases ha:a.getLsbD 0<;>cases hb:b.getLsbD 0<;>simp
 ·rw[BitVec.xor_assoc]
 ·rw[BitVec.xor_assoc,BitVec.xor_comm (b >>> 1) poly,BitVec.xor_assoc]
 ·rw[BitVec.xor_assoc,←BitVec.xor_assoc poly,BitVec.xor_comm poly (b >>> 1),BitVec.xor_assoc (b >>> 1),BitVec.xor_self,BitVec.xor_zero]
theorem stn_xor:∀ (n:Nat) (a b:BitVec 32),stn n (a ^^^ b)=stn n a ^^^ stn n b
 | 0,_,_=>rfl
 | n+1,a,b=>by rw[stn,stn,stn,st_xor,stn_xor n]
theorem stn_add:∀ (m n:Nat) (v:BitVec 32),stn (m+n) v=stn n (stn m v)
 | 0,n,v=>by simp[stn]
 | m+1,n,v=>by rw[show m+1+n=(m+n)+1 from by omega,stn,stn_add m n,stn]
theorem stn_high (v:BitVec 32):stn 4 ((v >>> 4) <<< 4)=v >>> 4:=by
 have h:∀ (u:BitVec 32),u.getLsbD 0=false→st u=u >>> 1:=fun u hu=>by unfold st;rw[hu];simp
 have e1:st ((v >>> 4) <<< 4)=((v >>> 4) <<< 4) >>> 1:=h _ v0_
 have e2:st (((v >>> 4) <<< 4) >>> 1)=((v >>> 4) <<< 4) >>> 1 >>> 1:=h _ v0_
 have e3:st (((v >>> 4) <<< 4) >>> 1 >>> 1)=((v >>> 4) <<< 4) >>> 1 >>> 1 >>> 1:=h _ v0_
 have e4:st (((v >>> 4) <<< 4) >>> 1 >>> 1 >>> 1)=((v >>> 4) <<< 4) >>> 1 >>> 1 >>> 1 >>> 1:=h _ v0_
 show st (st (st (st ((v >>> 4) <<< 4))))=_
 rw[e1,e2,e3,e4]
 apply BitVec.eq_of_getLsbD_eq
 intro i hi
 simp only[BitVec.getLsbD_ushiftRight,BitVec.getLsbD_shiftLeft]
 by_cases h28:i<28
 ·have a1:1+(1+(1+(1+i)))=i+4:=a_
  have a2:i+4<32:=a_
  have a3:¬ (i+4<4):=a_
  have a4:4+(i+4-4)=i+4:=a_
  have a5:4+i=i+4:=a_
  simp[a1,a2,a3,a5]
 ·have a1:1+(1+(1+(1+i)))=i+4:=a_
  have a2:¬ i+4<32:=a_
  have a5:v.getLsbD (4+i)=false:=BitVec.getLsbD_of_ge _ _ a_
  simp[a1,a2,a5]
theorem low4:∀ i,i<32→(15#32:BitVec 32).getLsbD i=decide (i<4):=by decide
theorem split4 (v:BitVec 32):v=((v >>> 4) <<< 4) ^^^ (v &&& 15#32):=by
 apply BitVec.eq_of_getLsbD_eq
 intro i hi
 simp only[BitVec.getLsbD_xor,BitVec.getLsbD_and,BitVec.getLsbD_shiftLeft,low4 i hi,BitVec.getLsbD_ushiftRight]
 by_cases h:i<4
 ·simp[h]
 ·have:4+(i-4)=i:=by omega
  simp[h,this,hi]
theorem half_step (v:BitVec 32):stn 4 v=(v >>> 4) ^^^ stn 4 (v &&& 15#32):=by
 conv=>lhs;rw[split4 v]
 rw[stn_xor,stn_high]
theorem runB_append (v:BitVec 32) (a b:List Int):runB v (a++b)=runB (runB v a) b:=by simp[runB]
theorem byte_xor (a b:BitVec 32) (c:Int):byte (a ^^^ b) c=stn 8 a ^^^ byte b c:=by
 unfold byte;rw[BitVec.xor_assoc,stn_xor]
theorem runB_xor:∀ (l:List Int) (a b:BitVec 32),runB (a ^^^ b) l=stn (8*l.length) a ^^^ runB b l
 | [],a,b=>by simp[runB,stn]
 | c::l,a,b=>by
  show runB (byte (a ^^^ b) c) l=_
  rw[byte_xor,runB_xor l]
  rw[show 8*(c::l).length=8+8*l.length from by simp;omega,stn_add]
  rfl
theorem st_inj (v:BitVec 32) (h:st v=0#32):v=0#32:=by
 unfold st at h
 cases h0:v.getLsbD 0 with
 | true =>
  exfalso
  rw[h0] at h
  have:=congrArg (fun x:BitVec 32=>x.getLsbD 31) h
  simp[poly] at this
 | false =>
  rw[h0] at h
  simp at h
  ext i hi
  cases i with
  | zero=>simpa [BitVec.getLsbD_eq_getElem hi] using h0
  | succ i =>
   have:=congrArg (fun x:BitVec 32=>x.getLsbD i) h
   simp[BitVec.getLsbD_ushiftRight,Nat.add_comm 1 i,BitVec.getLsbD_eq_getElem hi] at this
   simpa using this
theorem stn_inj:∀ (n:Nat) (v:BitVec 32),stn n v=0#32→v=0#32
 | 0,_,h=>h
 | n+1,v,h=>st_inj v (stn_inj n _ h)
theorem run_inj (l:List Int) (a b:BitVec 32) (h:runB a l=runB b l):a=b:=by
 have e:a=(a ^^^ b) ^^^ b:=by rw[BitVec.xor_assoc,BitVec.xor_self,BitVec.xor_zero]
 have h1:=runB_xor l (a ^^^ b) b
 rw[←e,h] at h1
 have h2:stn (8*l.length) (a ^^^ b)=0#32:=by
  have:=congrArg (· ^^^ runB b l) h1
  simp only[BitVec.xor_self,BitVec.xor_assoc,BitVec.xor_zero] at this
  exact this.symm
 have h3:=stn_inj _ _ h2
 rw[e,h3,BitVec.zero_xor]
theorem byte_inj (v:BitVec 32) (c d:Int) (h:byte v c=byte v d):BitVec.ofInt 32 c=BitVec.ofInt 32 d:=by
 unfold byte at h
 rw[stn_xor,stn_xor] at h
 have h1:stn 8 (BitVec.ofInt 32 c ^^^ BitVec.ofInt 32 d)=0#32:=by
  rw[stn_xor]
  have:=congrArg (stn 8 v ^^^ ·) h
  simp only[←BitVec.xor_assoc,BitVec.xor_self,BitVec.zero_xor] at this
  rw[this,BitVec.xor_self]
 have h2:=stn_inj _ _ h1
 have e:BitVec.ofInt 32 c=(BitVec.ofInt 32 c ^^^ BitVec.ofInt 32 d) ^^^ BitVec.ofInt 32 d:=by rw[BitVec.xor_assoc,BitVec.xor_self,BitVec.xor_zero]
 rw[e,h2,BitVec.zero_xor]
theorem tells (v:BitVec 32) (a b:List Int) (c d:Int) (hc:0≤c∧c≤255) (hd:0≤d∧d≤255) (h:c≠d):runB v (a++c::b)≠runB v (a++d::b):=by
 intro he
 rw[runB_append,runB_append] at he
 have h1:=run_inj b _ _ (show runB (byte (runB v a) c) b=runB (byte (runB v a) d) b from he)
 have h2:=congrArg BitVec.toNat (byte_inj _ _ _ h1)
 rw[BitVec.toNat_ofInt,BitVec.toNat_ofInt] at h2
 omega
def uv (v:BitVec 32):Int:=(v.toNat:Int)
theorem uv_bd (v:BitVec 32):0≤uv v∧uv v≤4294967295:=by have:=v.isLt;unfold uv;omega
theorem uv_ofInt (v:BitVec 32):BitVec.ofInt 32 (uv v)=v:=by
 unfold uv;rw[BitVec.ofInt_natCast,BitVec.ofNat_toNat];simp
theorem of_uv (n:Int) (h0:0≤n) (h1:n≤4294967295):uv (BitVec.ofInt 32 n)=n:=by
 unfold uv;rw[BitVec.toNat_ofInt];omega
theorem wrap_uv (v:BitVec 32):IntKind.u32.wrap (uv v)=uv v:=by
 have:=v.isLt
 rw[IntKind.wrap_u32'];unfold uv;omega
theorem uv_xor (a b:BitVec 32):bits .xor .u32 (uv a) (uv b)=uv (a ^^^ b):=by
 show IntKind.u32.wrap ((BitVec.ofInt 32 (uv a) ^^^ BitVec.ofInt 32 (uv b)).toNat:Int)=_
 rw[uv_ofInt,uv_ofInt];exact wrap_uv _
theorem uv_and (a b:BitVec 32):bits .and .u32 (uv a) (uv b)=uv (a &&& b):=by
 show IntKind.u32.wrap ((BitVec.ofInt 32 (uv a) &&& BitVec.ofInt 32 (uv b)).toNat:Int)=_
 rw[uv_ofInt,uv_ofInt];exact wrap_uv _
theorem uv_half (v:BitVec 32):uv v/(2:Int)=uv (v >>> 1):=by
 unfold uv;rw[BitVec.toNat_ushiftRight,Nat.shiftRight_eq_div_pow];omega
theorem uv_16 (v:BitVec 32):uv v/(16:Int)=uv (v >>> 4):=by
 unfold uv;rw[BitVec.toNat_ushiftRight,Nat.shiftRight_eq_div_pow];omega
theorem uv_neg (v:BitVec 32) : -uv v % 4294967296=uv (-v):=by
 unfold uv;rw[BitVec.toNat_neg];have:=v.isLt;omega
theorem and_one (v:BitVec 32):v &&& 1#32=if v.getLsbD 0 then 1#32 else 0#32:=by
 apply BitVec.eq_of_getLsbD_eq
 intro i hi
 have h1:∀ i,i<32→(1#32:BitVec 32).getLsbD i=decide (i=0):=x_
 rw[BitVec.getLsbD_and,h1 i hi]
 by_cases h:i=0
 ·subst h;cases hv:v.getLsbD 0<;>simp
 ·cases hv:v.getLsbD 0<;>simp[h,h1 i hi]
theorem uv_st (v:BitVec 32):bits .xor .u32 (uv v/2) (bits .and .u32 3988292384 (-bits .and .u32 (uv v) 1 % 4294967296))=uv (st v):=by
 have e1:(1:Int)=uv 1#32:=rfl
 have e2:(3988292384:Int)=uv poly:=rfl
 rw[uv_half,e1,uv_and,uv_neg,e2,uv_and,uv_xor]
 congr 1
 unfold st
 rw[and_one]
 cases v.getLsbD 0
 ·simp
 ·have:poly &&& 4294967295#32=poly:=by decide
  simp[this]
theorem stn_succ (m:Nat) (v:BitVec 32):stn (m+1) v=st (stn m v):=by rw[stn_add];rfl
def tblAt (i:Nat):Int:=uv (stn 4 (BitVec.ofNat 32 i))
def tbl (k:Nat):Array Value:=((List.range 16).map fun i=>AW_ .u32 (if i<k then tblAt i else 0)).toArray
theorem tbl_size (k:Nat):(tbl k).size=16:=by simp[tbl]
theorem tbl_zero:tbl 0 = #[.int .u32 0,.int .u32 0,.int .u32 0,.int .u32 0,.int .u32 0,.int .u32 0,.int .u32 0,.int .u32 0,.int .u32 0,.int .u32 0,.int .u32 0,.int .u32 0,.int .u32 0,.int .u32 0,.int .u32 0,.int .u32 0]:=rfl
theorem tbl_get (k i:Nat) (h:i<16):(tbl k)[i]? = some (.int .u32 (if i<k then tblAt i else 0)):=by
 unfold tbl;simp[h]
theorem tbl_no (k i:Nat) (h:¬ i<16):(tbl k)[i]? = none:=by
 rw[Array.getElem?_eq_none];rw[tbl_size];omega
theorem tbl_set (k:Nat):(tbl k).setIfInBounds k (.int .u32 (tblAt k))=tbl (k+1):=by
 apply Array.ext_getElem?
 intro i
 rw[Array.getElem?_setIfInBounds,tbl_size]
 by_cases hi:i<16
 ·rw[tbl_get _ _ hi,tbl_get _ _ hi]
  by_cases hik:k=i
  ·subst hik;simp[hi]
  ·rw[j_ hik]
   by_cases h:i<k
   ·rw[i_ h,i_ a_]
   ·rw[j_ h,j_ a_]
 ·rw[tbl_no _ _ hi,tbl_no _ _ hi];split<;>simp;omega
theorem table_any (w:World):Calls M_ 125 #[] w fun e w'=>e=.returned (.agg (tbl 16))∧Below w.heap.size w w':=by
 go_enter Tryz.func125,Tryz.ntmps125
 go_wp2_with fail
 go_loopw [4] (fun i wr=>∃ (k:Nat),i=.int .i64 k∧k≤16∧At wr w.heap.size 211 (tbl 0)∧At wr (w.heap.size+1) 211 (tbl k)∧Below w.heap.size w wr) (fun i _=>16-(intOf i).toNat)
 case atStart =>
  rw[←tbl_zero]
  refine ⟨0,rfl,by omega,(At.new _ _ _).alloc _,?_,((Below.refl _ _).alloc (AE_ _) _).alloc v0_ _⟩
  have:=At.new (w.alloc (.cells (tbl 0) 211)) 211 (tbl 0)
  simpa using this
 case round =>
  obtain ⟨k,rfl,hk,h0,h1,hb⟩:=hrel
  by_cases hlt:k<16
  ·have c1:=h1.cell k
   have f1:=h1.free k
   rw[tbl_get k k hlt] at c1
   go_wp2_with fail
   go_loop [3,9] (fun v j=>∃ (m:Nat),j=.int .i64 m∧m≤4∧v=.int .u32 (uv (stn m (BitVec.ofNat 32 k)))) (fun _ j=>4-(intOf j).toNat)
   case atStart=>exact ⟨0,rfl,by omega,by rw[show uv (stn 0 (BitVec.ofNat 32 k))=(k:Int) from by unfold stn uv;rw[BitVec.toNat_ofNat];omega]⟩
   case round =>
    obtain ⟨m,rfl,hm,rfl⟩:=hrel
    by_cases hlt2:m<4
    ·go_wp2_with fail
     go_round
     case rel=>exact ⟨m+1,by go_num,by omega,by rw[uv_st,stn_succ]⟩
     case measure=>simp[intOf];omega
    ·obtain rfl:m=4:=by omega
     go_wp2_with fail
     go_roundw
     case rel =>
      refine ⟨k+1,by go_num,by omega,h0.other v0_ _,?_,hb.setCell v0_ _⟩
      rw[←tbl_set];exact h1.set k _
     case measure=>simp[intOf];omega
  ·obtain rfl:k=16:=by omega
   have hr:=(h0.row (tbl 16))
   go_wp2_with (first|(refine wpList_load_row rfl 211 _ rfl _ rfl _ _ _ _ h1 Tryz.underlying211 rfl w_ ?_)|(refine wpList_store_row rfl 211 _ _ rfl _ _ rfl rfl _ _ h0 w_ rfl w_ ?_))
   refine bodyPost_ret (v:=.agg (tbl 16)) ?_ rfl ⟨rfl,bl_row hb (AE_ _) _⟩
   exact results_cell_row rfl _ _ w.heap.size 211 (tbl 16) (0,0) _ rfl hr Tryz.underlying211 rfl w_
theorem and15 (v:BitVec 32):bits .and .u32 (uv v) 15=((v &&& 15#32).toNat:Int)∧(v &&& 15#32).toNat<16:=by
 refine ⟨uv_and v 15#32,?_⟩
 rw[BitVec.toNat_and]
 exact Nat.lt_of_le_of_lt Nat.and_le_right x_
theorem half_uv (v:BitVec 32):bits .xor .u32 (uv (v >>> 4)) (tblAt (v &&& 15#32).toNat)=uv (stn 4 v):=by
 unfold tblAt;rw[uv_xor,half_step v];simp
theorem xor_in (v:BitVec 32) (c:Int) (h0:0≤c) (h1:c≤255):bits .xor .u32 (uv v) c=uv (v ^^^ BitVec.ofInt 32 c):=by
 conv=>lhs;rw[←of_uv c h0 a_]
 rw[uv_xor]
theorem runB_take (V:BitVec 32) (l:List Int) (k:Nat) (hk:k<l.length):runB V (l.take (k+1))=byte (runB V (l.take k)) l[k]:=by
 unfold runB;rw[List.take_succ_eq_append_getElem hk,List.foldl_append];rfl
theorem crcRun_any (V:BitVec 32) (v:Value) (l:List Int) (w:World) (hv:Rd w v (l.map (AW_ .u8))) (hl:l.length≤1099511627776) (hx:∀ x∈l,0≤x∧x≤255) :
  Calls M_ 86 #[.int .u32 (uv V),v] w fun e w'=>e=.returned (.int .u32 (uv (runB V l)))∧Below w.heap.size w w':=by
 obtain ⟨ao,ca,rfl,_,ha⟩:=hv
 simp only[V_]
 have HX:=Lib.hid hx;clear hx
 go_enter Tryz.func86,Tryz.ntmps86
 go_wp2_with fail
 refine (table_any _).mono ?_
 rintro e w1 ⟨rfl,hb1⟩
 have s1:=tbl_size 16
 go_wp2_with (refine wpList_storeNew _ (tbl 16) 211 rfl _ _ rfl rfl rfl w_ rfl w_ ?_)
 obtain ⟨w2,hw2⟩:∃ w2,w2=w1.alloc (.cells (tbl 16) 211):=⟨_,rfl⟩
 have ht:=At.new w1 211 (tbl 16)
 have hb2:Below w.heap.size w w2:=by rw[hw2];exact hb1.alloc hb1.size _
 rw[←hw2] at ht ⊢
 clear hw2 hb1
 go_loop [0,11] (fun r i=>∃ (k:Nat),i=.int .i64 k∧k≤l.length∧r=.int .u32 (uv (runB V (l.take k)))) (fun _ i=>l.length-(intOf i).toNat)
 case atStart=>exact ⟨0,rfl,by omega,by simp[runB]⟩
 case round =>
  obtain ⟨k,rfl,hk,rfl⟩:=hrel
  by_cases hlt:k<l.length
  ·obtain ⟨b,o,rfl,hc⟩:=ha l2_
   have hcell:=bl_get hb2 (hc k (by simpa using hlt))
   simp only[DS_] at hcell
   obtain ⟨c0,c1⟩:=HX.out l[k] (CN_ hlt)
   have hrun:=runB_take V l k hlt
   obtain ⟨c,hc'⟩:∃ c,c=l[k]:=⟨_,rfl⟩
   rw[←hc'] at hcell c0 c1 hrun
   obtain ⟨X,hX⟩:∃ X,X=runB V (l.take k):=⟨_,rfl⟩
   rw[←hX] at hrun ⊢
   have HR:=Lib.hid hrun
   clear hX hrun hc' hc ha
   have e1:=xor_in X c c0 c1
   obtain ⟨Y,hY⟩:∃ Y,Y=X ^^^ BitVec.ofInt 32 c:=⟨_,rfl⟩
   rw[←hY] at e1
   obtain ⟨e2,n1⟩:=and15 Y
   have e3:=uv_16 Y
   have e4:=half_uv Y
   obtain ⟨i1,hi1⟩:∃ i,i=(Y &&& 15#32).toNat:=⟨_,rfl⟩
   rw[←hi1] at e2 n1 e4
   obtain ⟨Z,hZ⟩:∃ Z,Z=stn 4 Y:=⟨_,rfl⟩
   rw[←hZ] at e4
   obtain ⟨f2,n2⟩:=and15 Z
   have f3:=uv_16 Z
   have f4:=half_uv Z
   obtain ⟨i2,hi2⟩:∃ i,i=(Z &&& 15#32).toNat:=⟨_,rfl⟩
   rw[←hi2] at f2 n2 f4
   have d1:=ht.cell i1
   have d2:=ht.cell i2
   rw[tbl_get _ _ n1,i_ n1] at d1
   rw[tbl_get _ _ n2,i_ n2] at d2
   have HE:Hid (stn 4 Z=byte X c):=by rw[hZ,hY];exact (stn_add 4 4 _).symm
   clear hY hZ hi1 hi2
   go_wp2_with fail
   go_round
   case rel=>exact ⟨k+1,by go_num,by omega,by rw[HR.out,←HE.out]⟩
   case measure=>simp[intOf];omega
  ·have hkk:l.take k=l:=BJ_ a_
   rw[hkk]
   go_wp2
   go_ret
   exact ⟨rfl,hb2⟩
theorem refStep_any (V:BitVec 32) (w:World):Calls M_ 103 #[.int .u32 (uv V)] w fun e w'=>e=.returned (.int .u32 (uv (st V)))∧w=w':=by
 have hb:=uv_bd V
 have h2:uv V % 2=if V.getLsbD 0 then 1 else 0:=by
  unfold uv
  have:V.getLsbD 0=decide (V.toNat % 2=1):=by simp[BitVec.getLsbD,Nat.testBit_zero]
  rw[this]
  by_cases h:V.toNat % 2=1
  ·simp[h];omega
  ·simp[h];omega
 cases hv:V.getLsbD 0 with
 | true =>
  have e1:((uv V % 2)==1)=true:=by rw[h2,hv];rfl
  have e3:=uv_half V
  have e2:bits .xor .u32 (uv (V >>> 1)) 3988292384=uv (st V):=by
   rw[show (3988292384:Int)=uv poly from rfl,uv_xor];unfold st;rw[hv];rfl
  clear h2 hv
  go_enter Tryz.func103,Tryz.ntmps103
  go_wp2
  go_ret
  exact ⟨rfl,rfl⟩
 | false =>
  have e1:((uv V % 2)==1)=false:=by rw[h2,hv];rfl
  have e3:uv V/(2:Int)=uv (st V):=by rw[uv_half];unfold st;rw[hv];simp
  clear h2 hv
  go_enter Tryz.func103,Tryz.ntmps103
  go_wp2
  go_ret
  exact ⟨congrArg (fun n=>Ending.returned (.int .u32 n)) e3,rfl⟩
theorem refRun_any (V:BitVec 32) (v:Value) (l:List Int) (w:World) (hv:Rd w v (l.map (AW_ .u8))) (hl:l.length≤1099511627776) (hx:∀ x∈l,0≤x∧x≤255) :
  Calls M_ 63 #[.int .u32 (uv V),v] w fun e w'=>e=.returned (.int .u32 (uv (runB V l)))∧w=w':=by
 obtain ⟨ao,ca,rfl,_,ha⟩:=hv
 simp only[V_]
 have HX:=Lib.hid hx;clear hx
 go_enter Tryz.func63,Tryz.ntmps63
 go_wp2_with fail
 go_loop [0,5,6] (fun r i _=>∃ (k:Nat),i=.int .i64 k∧k≤l.length∧r=.int .u32 (uv (runB V (l.take k)))) (fun _ i _=>l.length-(intOf i).toNat)
 case atStart=>exact ⟨0,rfl,by omega,by simp[runB]⟩
 case round =>
  obtain ⟨k,rfl,hk,rfl⟩:=hrel
  by_cases hlt:k<l.length
  ·obtain ⟨b,o,rfl,hc⟩:=ha l2_
   have hcell:=hc k (by simpa using hlt)
   simp only[DS_] at hcell
   obtain ⟨c0,c1⟩:=HX.out l[k] (CN_ hlt)
   have hrun:=runB_take V l k hlt
   obtain ⟨c,hc'⟩:∃ c,c=l[k]:=⟨_,rfl⟩
   rw[←hc'] at hcell c0 c1 hrun
   obtain ⟨X,hX⟩:∃ X,X=runB V (l.take k):=⟨_,rfl⟩
   rw[←hX] at hrun ⊢
   have HR:=Lib.hid hrun
   clear hX hrun hc' hc ha
   have e1:=xor_in X c c0 c1
   go_wp2_with fail
   go_loop [0,6] (fun r j=>∃ (m:Nat),j=.int .i64 m∧m≤8∧r=.int .u32 (uv (stn m (X ^^^ BitVec.ofInt 32 c)))) (fun _ j=>8-(intOf j).toNat)
   case atStart=>exact ⟨0,rfl,by omega,rfl⟩
   case round =>
    obtain ⟨m,rfl,hm,rfl⟩:=hrel
    by_cases hlt2:m<8
    ·go_wp2_with fail
     refine (refStep_any _ _).mono ?_
     rintro e w' ⟨rfl,rfl⟩
     go_wp2_with fail
     go_round
     case rel=>exact ⟨m+1,by go_num,by omega,by rw[stn_succ]⟩
     case measure=>simp[intOf];omega
    ·obtain rfl:m=8:=by omega
     go_wp2_with fail
     go_round
     case rel=>exact ⟨k+1,by go_num,by omega,by rw[HR.out];rfl⟩
     case measure=>simp[intOf];omega
  ·have hkk:l.take k=l:=BJ_ a_
   rw[hkk]
   go_wp2
   go_ret
   exact ⟨rfl,rfl⟩
def sumOf (l:List Int):BitVec 32 := ~~~ (runB (BitVec.allOnes 32) l)
theorem uv_not (v:BitVec 32):bits .xor .u32 IntKind.u32.max (uv v)=uv (~~~ v):=by
 rw[show IntKind.u32.max=uv (BitVec.allOnes 32) from rfl,uv_xor,BitVec.allOnes_xor]
theorem crcOf_any (v:Value) (l:List Int) (w:World) (hv:Rd w v (l.map (AW_ .u8))) (hl:l.length≤1099511627776) (hx:∀ x∈l,0≤x∧x≤255) :
  Calls M_ 52 #[v] w fun e w'=>e=.returned (.int .u32 (uv (sumOf l)))∧Below w.heap.size w w':=by
 have HC:=Lib.hid (crcRun_any (BitVec.allOnes 32) v l w hv hl hx)
 have hsg:IntKind.u32.signed=false:=rfl
 have hn:=uv_not (runB (BitVec.allOnes 32) l)
 obtain ⟨R,hR⟩:∃ R,R=runB (BitVec.allOnes 32) l:=⟨_,rfl⟩
 rw[←hR] at HC hn
 have e2 : ~~~ R=sumOf l:=by rw[hR];rfl
 clear hR
 go_enter Tryz.func52,Tryz.ntmps52
 go_wp2_with fail
 refine HC.out.mono ?_
 rintro e w1 ⟨rfl,hb1⟩
 go_wp2
 go_ret
 exact ⟨by rw[←e2];rfl,hb1⟩
theorem refOf_any (v:Value) (l:List Int) (w:World) (hv:Rd w v (l.map (AW_ .u8))) (hl:l.length≤1099511627776) (hx:∀ x∈l,0≤x∧x≤255) :
  Calls M_ 32 #[v] w fun e w'=>e=.returned (.int .u32 (uv (sumOf l)))∧w=w':=by
 have HC:=Lib.hid (refRun_any (BitVec.allOnes 32) v l w hv hl hx)
 have hsg:IntKind.u32.signed=false:=rfl
 have hn:=uv_not (runB (BitVec.allOnes 32) l)
 obtain ⟨R,hR⟩:∃ R,R=runB (BitVec.allOnes 32) l:=⟨_,rfl⟩
 rw[←hR] at HC hn
 have e2 : ~~~ R=sumOf l:=by rw[hR];rfl
 clear hR
 go_enter Tryz.func32,Tryz.ntmps32
 go_wp2_with fail
 refine HC.out.mono ?_
 rintro e w1 ⟨rfl,rfl⟩
 go_wp2
 go_ret
 exact ⟨by rw[←e2];rfl,rfl⟩
def crcL (l:List Int):Int:=uv (sumOf l)
theorem crcL_bd (l:List Int):0≤crcL l∧crcL l≤4294967295:=uv_bd _
theorem crc_v (l:List Int) (hx:∀ x∈l,0≤x∧x≤255) (hl:l.length≤20000000):VC M_ 52 [ints .u8 l] (u32 (crcL l)):=by
 intro S w xs hS hn hxs
 obtain ⟨v,rfl,hv⟩:=one_arg hn hxs
 exact (crcOf_any v l w (sl_rd hv) a_ hx).mono fun e w' ⟨he,hb⟩=>⟨_,he,.pure (.lit _),hb⟩
theorem rcrc_v (l:List Int) (hx:∀ x∈l,0≤x∧x≤255) (hl:l.length≤20000000):VC M_ 32 [ints .u8 l] (u32 (crcL l)):=by
 intro S w xs hS hn hxs
 obtain ⟨v,rfl,hv⟩:=one_arg hn hxs
 exact (refOf_any v l w (sl_rd hv) a_ hx).mono fun e w' ⟨he,hb⟩=>⟨_,he,.pure (.lit _),hb▸Below.refl _ _⟩
def P4V (F:Int→List Int):Prop:=∀ n:Int,0≤n→n≤4294967295→VC M_ 51 [u32 n] (ints .u8 (F n))
def R4V (F:Int→List Int):Prop:=∀ n:Int,0≤n→n≤4294967295→VC M_ 31 [u32 n] (ints .u8 (F n))
structure P4 (F:Int→List Int):Prop where
 v:P4V F
 r:R4V F
 l:∀ n,(F n).length=4
theorem p4_v (F:Int→List Int) (h:P4 F) (n:Int) (h0:0≤n) (h1:n≤4294967295):VC M_ 51 [u32 n] (ints .u8 (F n)):=h.v n h0 h1
theorem r4_v (F:Int→List Int) (h:P4 F) (n:Int) (h0:0≤n) (h1:n≤4294967295):VC M_ 31 [u32 n] (ints .u8 (F n)):=h.r n h0 h1
theorem p4:P4 p32L:=⟨put32_v,rput32_v,fun _=>rfl⟩
theorem seal_f (F:Int→List Int) (l:List Int) (hF:P4 F) (hx:∀ x∈l,0≤x∧x≤255) (hl:l.length≤10000000):VC M_ 22 ([ints .u8 l]) (ints .u8 (l++F (crcL l))):=by
 have q:=crcL_bd l
 have q4:=hF.l (crcL l)
 have oz0:=@crc_v (l) hx a_
 have oz1:=@p4_v (F) hF (crcL l) a_ a_
 have oz2:=@joined_v (l) (F (crcL l)) a_
 exact cR_ [r_,.r [] [cr oz0,cr oz1,.frz 0,cr oz2]] _ Tryz.func22 (.d3 oz0 oz1 oz2)
theorem rseal_f (F:Int→List Int) (l:List Int) (hF:P4 F) (hx:∀ x∈l,0≤x∧x≤255) (hl:l.length≤10000000):VC M_ 12 ([ints .u8 l]) (ints .u8 (l++F (crcL l))):=by
 have q:=crcL_bd l
 have q4:=hF.l (crcL l)
 have oz2:=@rcrc_v (l) hx a_
 have oz3:=@r4_v (F) hF (crcL l) a_ a_
 exact (cR_ [r_,r_,.r [] [cr oz2,cr oz3]] (AV.sl 1 ([]++K_ (row1 .u8) l++K_ (row1 .u8) (F (crcL l)))) Tryz.func12 (.d6 (h_ ((0+(K_ (row1 .u8) l).length)*1≤140737488355328)) (h_ (0+(K_ (row1 .u8) l).length≤9223372036854775807)) oz2 oz3 (h_ ((([]++K_ (row1 .u8) l).length+(K_ (row1 .u8) (F (crcL l))).length)*1≤140737488355328)) (h_ (([]++K_ (row1 .u8) l).length+(K_ (row1 .u8) (F (crcL l))).length≤9223372036854775807)))).weak (AQ_ _) (AH_ (rows_to (row1 .u8) (r:=[]++K_ (row1 .u8) l++K_ (row1 .u8) (F (crcL l))) (l:=[]++l++F (crcL l)) (m:=l++F (crcL l)) g_ (show ([]++l++F (crcL l))=(l++F (crcL l)) from k0_)))
def sealL (l:List Int):List Int:=l++p32L (crcL l)
theorem sealL_len (l:List Int):(sealL l).length=l.length+4:=by rw[sealL,AD_];rfl
def SealV (G:List Int→List Int):Prop:=∀ l:List Int,(∀ x∈l,0≤x∧x≤255)→l.length≤10000000→VC M_ 22 [ints .u8 l] (ints .u8 (G l))
def RSealV (G:List Int→List Int):Prop:=∀ l:List Int,(∀ x∈l,0≤x∧x≤255)→l.length≤10000000→VC M_ 12 [ints .u8 l] (ints .u8 (G l))
structure Seals (G:List Int→List Int):Prop where
 v:SealV G
 r:RSealV G
 l:∀ l,(G l).length=l.length+4
theorem seal_v (G:List Int→List Int) (h:Seals G) (l:List Int) (hx:∀ x∈l,0≤x∧x≤255) (hl:l.length≤10000000):VC M_ 22 [ints .u8 l] (ints .u8 (G l)):=h.v l hx hl
theorem seals:Seals sealL:=⟨fun l hx hl=>seal_f p32L l p4 hx hl,fun l hx hl=>rseal_f p32L l p4 hx hl,sealL_len⟩
theorem sumsK_v (k:Int)  : VC M_ 194 ([i64 k]) (bv ((k==1 || k==2) || k==3)):=by
 exact cR_ [r_,.r [] [o_,o_,.sel 1,o_,o_,.sel 1]] _ Tryz.func194 (.n)
theorem scaledK_v (k:Int)  : VC M_ 163 ([i64 k]) (bv (((k==1 || k==2) || k==3) || k==6 || k==7)):=by
 have oz0:=@sumsK_v (k)
 exact cR_ [r_,.r [] [cr oz0,o_,o_,.sel 1,o_,o_,.sel 1]] _ Tryz.func163 (.d oz0)
def plainN (n:Nod):Nod:=if n.kd=1 then ⟨n.kd,n.na,0,n.nk,n.ns,n.np,n.no,n.za,0,n.w,n.b,n.qm,n.qs,n.qz,0,0,0,n.lo,n.hi⟩ else if n.kd=2 then ⟨n.kd,n.na,0,n.nk,n.ns,n.np,0,n.za,0,n.w,n.b,n.qm,n.qs,n.qz,0,0,0,n.lo,n.hi⟩ else if n.kd=3 then ⟨n.kd,n.na,0,0,0,0,n.no,n.za,0,n.w,n.b,n.qm,n.qs,n.qz,0,0,0,n.lo,n.hi⟩ else if n.kd=4 then ⟨n.kd,n.na,0,n.nk,n.ns,n.np,0,0,0,[],[],0,0,0,0,0,0,0,0⟩ else if n.kd=5 then ⟨n.kd,n.na,0,n.nk,n.ns,n.np,0,0,0,[],[],0,0,0,0,0,0,0,0⟩ else if n.kd=6 then ⟨n.kd,n.na,n.nb,0,0,0,0,n.za,n.zb,[],[],n.qm,n.qs,n.qz,n.rm,n.rs,0,n.lo,n.hi⟩ else if n.kd=7 then ⟨n.kd,n.na,0,0,0,0,0,n.za,0,[],[],n.qm,n.qs,n.qz,0,0,0,n.lo,n.hi⟩ else if n.kd=8 then ⟨n.kd,n.na,0,0,0,n.np,0,n.za,0,[],[],0,0,0,0,0,0,0,0⟩ else ⟨n.kd,n.na,0,0,0,0,0,0,0,[],[],0,0,0,0,0,0,0,0⟩
theorem plain1 (n:Nod) (hk:n.kd=1) (hw:n.w.length≤100000) (hb:n.b.length≤100000):VC M_ 162 ([nod n]) (nod ⟨n.kd,n.na,0,n.nk,n.ns,n.np,n.no,n.za,0,n.w,n.b,n.qm,n.qs,n.qz,0,0,0,n.lo,n.hi⟩):=by
 have hk1:In64 n.kd:=⟨by omega,by omega⟩
 have hs:=nameEq_in (k:=n.kd) a_ a_
 have oz0:=@name_v (n.kd) hk1
 have oz3:=@clone8_v (n.w) a_
 have oz4:=@clone32_v (n.b) a_
 have oz5:=@scaledK_v (n.kd)
 exact cR_ [r_,.r [] [cr oz0],d_,r_,r_,r_,b_,r_,.r [] [cr oz3,cr oz4],r_,.r [] [cr oz5],b_,r_,r_] _ Tryz.func162 (.d7 oz0 hs (y_ ((n.kd==1)=true)) oz3 oz4 oz5 (h_ ((n.kd==1 || n.kd==2 || n.kd==3 || n.kd==6 || n.kd==7)=true)))
theorem plain2 (n:Nod) (hk:n.kd=2) (hw:n.w.length≤100000) (hb:n.b.length≤100000):VC M_ 162 ([nod n]) (nod ⟨n.kd,n.na,0,n.nk,n.ns,n.np,0,n.za,0,n.w,n.b,n.qm,n.qs,n.qz,0,0,0,n.lo,n.hi⟩):=by
 have hk1:In64 n.kd:=⟨by omega,by omega⟩
 have hs:=nameEq_in (k:=n.kd) a_ a_
 have oz0:=@name_v (n.kd) hk1
 have oz4:=@clone8_v (n.w) a_
 have oz5:=@clone32_v (n.b) a_
 have oz6:=@scaledK_v (n.kd)
 exact cR_ [r_,.r [] [cr oz0],d_,r_,r_,r_,d_,r_,b_,.r [] [cr oz4,cr oz5],r_,.r [] [cr oz6],b_,r_,r_] _ Tryz.func162 (.d8 oz0 hs (c_ ((n.kd==1)=false)) (y_ ((n.kd==2)=true)) oz4 oz5 oz6 (h_ ((n.kd==1 || n.kd==2 || n.kd==3 || n.kd==6 || n.kd==7)=true)))
theorem plain3 (n:Nod) (hk:n.kd=3) (hw:n.w.length≤100000) (hb:n.b.length≤100000):VC M_ 162 ([nod n]) (nod ⟨n.kd,n.na,0,0,0,0,n.no,n.za,0,n.w,n.b,n.qm,n.qs,n.qz,0,0,0,n.lo,n.hi⟩):=by
 have hk1:In64 n.kd:=⟨by omega,by omega⟩
 have hs:=nameEq_in (k:=n.kd) a_ a_
 have oz0:=@name_v (n.kd) hk1
 have oz7:=@clone8_v (n.w) a_
 have oz8:=@clone32_v (n.b) a_
 have oz9:=@scaledK_v (n.kd)
 exact cR_ [r_,.r [] [cr oz0],d_,r_,r_,r_,d_,r_,d_,r_,d_,r_,d_,r_,b_,.r [] [cr oz7,cr oz8],.r [] [cr oz9],b_,r_,r_] _ Tryz.func162 (.c8 oz0 hs (c_ ((n.kd==1)=false)) (c_ ((n.kd==2)=false)) (c_ ((n.kd==4)=false)) (c_ ((n.kd==5)=false)) (y_ ((n.kd==3)=true)) oz7<|.d3 oz8 oz9 (h_ ((n.kd==1 || n.kd==2 || n.kd==3 || n.kd==6 || n.kd==7)=true)))
theorem plain4 (n:Nod) (hk:n.kd=4) (hw:n.w.length≤100000) (hb:n.b.length≤100000):VC M_ 162 ([nod n]) (nod ⟨n.kd,n.na,0,n.nk,n.ns,n.np,0,0,0,[],[],0,0,0,0,0,0,0,0⟩):=by
 have hk1:In64 n.kd:=⟨by omega,by omega⟩
 have hs:=nameEq_in (k:=n.kd) a_ a_
 have oz0:=@name_v (n.kd) hk1
 have oz4:=(y_ ((n.kd==4)=true))
 have oz6:=@scaledK_v (n.kd)
 exact (cR_ [r_,.r [] [cr oz0],d_,r_,r_,r_,d_,r_,d_,r_,b_,b_,r_,.r [] [cr oz6],d_,r_] (AV.agg [i64 n.kd,i64 n.na,i64 0,i64 n.nk,i64 n.ns,i64 n.np,i64 0,i8 0,i8 0,AV.lit (AK_ none 0 0),AV.lit (AK_ none 0 0),i32 0,i64 0,i8 0,i32 0,i64 0,i8 0,i8 0,i8 0]) Tryz.func162 (.d8 oz0 hs (c_ ((n.kd==1)=false)) (c_ ((n.kd==2)=false)) oz4 oz4 oz6 (h_ ((n.kd==1 || n.kd==2 || n.kd==3 || n.kd==6 || n.kd==7)=false)))).weak (AQ_ _) (AZ_ (.cons (.refl _) (.cons (.refl _) (.cons (.refl _) (.cons (.refl _) (.cons (.refl _) (.cons (.refl _) (.cons (.refl _) (.cons (.refl _) (.cons (.refl _) (.cons (AV_ _) (.cons (AV_ _) (.cons (.refl _) (.cons (.refl _) (.cons (.refl _) (.cons (.refl _) (.cons (.refl _) (.cons (.refl _) (.cons (.refl _) (.cons (.refl _) .nil))))))))))))))))))))
theorem plain5 (n:Nod) (hk:n.kd=5) (hw:n.w.length≤100000) (hb:n.b.length≤100000):VC M_ 162 ([nod n]) (nod ⟨n.kd,n.na,0,n.nk,n.ns,n.np,0,0,0,[],[],0,0,0,0,0,0,0,0⟩):=by
 have hk1:In64 n.kd:=⟨by omega,by omega⟩
 have hs:=nameEq_in (k:=n.kd) a_ a_
 have oz0:=@name_v (n.kd) hk1
 have oz6:=@scaledK_v (n.kd)
 exact (cR_ [r_,.r [] [cr oz0],d_,r_,r_,r_,d_,r_,d_,r_,d_,r_,b_,r_,.r [] [cr oz6],d_,r_] (AV.agg [i64 n.kd,i64 n.na,i64 0,i64 n.nk,i64 n.ns,i64 n.np,i64 0,i8 0,i8 0,AV.lit (AK_ none 0 0),AV.lit (AK_ none 0 0),i32 0,i64 0,i8 0,i32 0,i64 0,i8 0,i8 0,i8 0]) Tryz.func162 (.d8 oz0 hs (c_ ((n.kd==1)=false)) (c_ ((n.kd==2)=false)) (c_ ((n.kd==4)=false)) (y_ ((n.kd==5)=true)) oz6 (h_ ((n.kd==1 || n.kd==2 || n.kd==3 || n.kd==6 || n.kd==7)=false)))).weak (AQ_ _) (AZ_ (.cons (.refl _) (.cons (.refl _) (.cons (.refl _) (.cons (.refl _) (.cons (.refl _) (.cons (.refl _) (.cons (.refl _) (.cons (.refl _) (.cons (.refl _) (.cons (AV_ _) (.cons (AV_ _) (.cons (.refl _) (.cons (.refl _) (.cons (.refl _) (.cons (.refl _) (.cons (.refl _) (.cons (.refl _) (.cons (.refl _) (.cons (.refl _) .nil))))))))))))))))))))
theorem plain6 (n:Nod) (hk:n.kd=6) (hw:n.w.length≤100000) (hb:n.b.length≤100000):VC M_ 162 ([nod n]) (nod ⟨n.kd,n.na,n.nb,0,0,0,0,n.za,n.zb,[],[],n.qm,n.qs,n.qz,n.rm,n.rs,0,n.lo,n.hi⟩):=by
 have hk1:In64 n.kd:=⟨by omega,by omega⟩
 have hs:=nameEq_in (k:=n.kd) a_ a_
 have oz0:=@name_v (n.kd) hk1
 have oz8:=@scaledK_v (n.kd)
 exact (cR_ [r_,.r [] [cr oz0],d_,r_,r_,r_,d_,r_,d_,r_,d_,r_,d_,r_,d_,r_,b_,r_,.r [] [cr oz8],b_,r_,r_] (AV.agg [i64 n.kd,i64 n.na,i64 n.nb,i64 0,i64 0,i64 0,i64 0,i8 n.za,i8 n.zb,AV.lit (AK_ none 0 0),AV.lit (AK_ none 0 0),i32 n.qm,i64 n.qs,i8 n.qz,i32 n.rm,i64 n.rs,i8 0,i8 n.lo,i8 n.hi]) Tryz.func162 (.c8 oz0 hs (c_ ((n.kd==1)=false)) (c_ ((n.kd==2)=false)) (c_ ((n.kd==4)=false)) (c_ ((n.kd==5)=false)) (c_ ((n.kd==3)=false)) (y_ ((n.kd==6)=true))<|.d2 oz8 (h_ ((n.kd==1 || n.kd==2 || n.kd==3 || n.kd==6 || n.kd==7)=true)))).weak (AQ_ _) (AZ_ (.cons (.refl _) (.cons (.refl _) (.cons (.refl _) (.cons (.refl _) (.cons (.refl _) (.cons (.refl _) (.cons (.refl _) (.cons (.refl _) (.cons (.refl _) (.cons (AV_ _) (.cons (AV_ _) (.cons (.refl _) (.cons (.refl _) (.cons (.refl _) (.cons (.refl _) (.cons (.refl _) (.cons (.refl _) (.cons (.refl _) (.cons (.refl _) .nil))))))))))))))))))))
theorem plain7 (n:Nod) (hk:n.kd=7) (hw:n.w.length≤100000) (hb:n.b.length≤100000):VC M_ 162 ([nod n]) (nod ⟨n.kd,n.na,0,0,0,0,0,n.za,0,[],[],n.qm,n.qs,n.qz,0,0,0,n.lo,n.hi⟩):=by
 have hk1:In64 n.kd:=⟨by omega,by omega⟩
 have hs:=nameEq_in (k:=n.kd) a_ a_
 have oz0:=@name_v (n.kd) hk1
 have oz9:=@scaledK_v (n.kd)
 exact (cR_ [r_,.r [] [cr oz0],d_,r_,r_,r_,d_,r_,d_,r_,d_,r_,d_,r_,d_,r_,d_,r_,d_,.r [] [cr oz9],b_,r_,r_] (AV.agg [i64 n.kd,i64 n.na,i64 0,i64 0,i64 0,i64 0,i64 0,i8 n.za,i8 0,AV.lit (AK_ none 0 0),AV.lit (AK_ none 0 0),i32 n.qm,i64 n.qs,i8 n.qz,i32 0,i64 0,i8 0,i8 n.lo,i8 n.hi]) Tryz.func162 (.c8 oz0 hs (c_ ((n.kd==1)=false)) (c_ ((n.kd==2)=false)) (c_ ((n.kd==4)=false)) (c_ ((n.kd==5)=false)) (c_ ((n.kd==3)=false)) (c_ ((n.kd==6)=false))<|.d3 (c_ ((n.kd==8)=false)) oz9 (h_ ((n.kd==1 || n.kd==2 || n.kd==3 || n.kd==6 || n.kd==7)=true)))).weak (AQ_ _) (AZ_ (.cons (.refl _) (.cons (.refl _) (.cons (.refl _) (.cons (.refl _) (.cons (.refl _) (.cons (.refl _) (.cons (.refl _) (.cons (.refl _) (.cons (.refl _) (.cons (AV_ _) (.cons (AV_ _) (.cons (.refl _) (.cons (.refl _) (.cons (.refl _) (.cons (.refl _) (.cons (.refl _) (.cons (.refl _) (.cons (.refl _) (.cons (.refl _) .nil))))))))))))))))))))
theorem plain8 (n:Nod) (hk:n.kd=8) (hw:n.w.length≤100000) (hb:n.b.length≤100000):VC M_ 162 ([nod n]) (nod ⟨n.kd,n.na,0,0,0,n.np,0,n.za,0,[],[],0,0,0,0,0,0,0,0⟩):=by
 have hk1:In64 n.kd:=⟨by omega,by omega⟩
 have hs:=nameEq_in (k:=n.kd) a_ a_
 have oz0:=@name_v (n.kd) hk1
 have oz9:=@scaledK_v (n.kd)
 exact (cR_ [r_,.r [] [cr oz0],d_,r_,r_,r_,d_,r_,d_,r_,d_,r_,d_,r_,d_,r_,d_,r_,b_,r_,.r [] [cr oz9],d_,r_] (AV.agg [i64 n.kd,i64 n.na,i64 0,i64 0,i64 0,i64 n.np,i64 0,i8 n.za,i8 0,AV.lit (AK_ none 0 0),AV.lit (AK_ none 0 0),i32 0,i64 0,i8 0,i32 0,i64 0,i8 0,i8 0,i8 0]) Tryz.func162 (.c8 oz0 hs (c_ ((n.kd==1)=false)) (c_ ((n.kd==2)=false)) (c_ ((n.kd==4)=false)) (c_ ((n.kd==5)=false)) (c_ ((n.kd==3)=false)) (c_ ((n.kd==6)=false))<|.d3 (y_ ((n.kd==8)=true)) oz9 (h_ ((n.kd==1 || n.kd==2 || n.kd==3 || n.kd==6 || n.kd==7)=false)))).weak (AQ_ _) (AZ_ (.cons (.refl _) (.cons (.refl _) (.cons (.refl _) (.cons (.refl _) (.cons (.refl _) (.cons (.refl _) (.cons (.refl _) (.cons (.refl _) (.cons (.refl _) (.cons (AV_ _) (.cons (AV_ _) (.cons (.refl _) (.cons (.refl _) (.cons (.refl _) (.cons (.refl _) (.cons (.refl _) (.cons (.refl _) (.cons (.refl _) (.cons (.refl _) .nil))))))))))))))))))))
theorem plain9 (n:Nod) (hk:n.kd=9) (hw:n.w.length≤100000) (hb:n.b.length≤100000):VC M_ 162 ([nod n]) (nod ⟨n.kd,n.na,0,0,0,0,0,0,0,[],[],0,0,0,0,0,0,0,0⟩):=by
 have hk1:In64 n.kd:=⟨by omega,by omega⟩
 have hs:=nameEq_in (k:=n.kd) a_ a_
 have oz0:=@name_v (n.kd) hk1
 have oz9:=@scaledK_v (n.kd)
 exact (cR_ [r_,.r [] [cr oz0],d_,r_,r_,r_,d_,r_,d_,r_,d_,r_,d_,r_,d_,r_,d_,r_,d_,.r [] [cr oz9],d_,r_] (AV.agg [i64 n.kd,i64 n.na,i64 0,i64 0,i64 0,i64 0,i64 0,i8 0,i8 0,AV.lit (AK_ none 0 0),AV.lit (AK_ none 0 0),i32 0,i64 0,i8 0,i32 0,i64 0,i8 0,i8 0,i8 0]) Tryz.func162 (.c8 oz0 hs (c_ ((n.kd==1)=false)) (c_ ((n.kd==2)=false)) (c_ ((n.kd==4)=false)) (c_ ((n.kd==5)=false)) (c_ ((n.kd==3)=false)) (c_ ((n.kd==6)=false))<|.d3 (c_ ((n.kd==8)=false)) oz9 (h_ ((n.kd==1 || n.kd==2 || n.kd==3 || n.kd==6 || n.kd==7)=false)))).weak (AQ_ _) (AZ_ (.cons (.refl _) (.cons (.refl _) (.cons (.refl _) (.cons (.refl _) (.cons (.refl _) (.cons (.refl _) (.cons (.refl _) (.cons (.refl _) (.cons (.refl _) (.cons (AV_ _) (.cons (AV_ _) (.cons (.refl _) (.cons (.refl _) (.cons (.refl _) (.cons (.refl _) (.cons (.refl _) (.cons (.refl _) (.cons (.refl _) (.cons (.refl _) .nil))))))))))))))))))))
def nodEq (a b:Nod):Bool:=decide (a.w=b.w)&&decide (a.b=b.b)&&eqNums [(U_,a.kd,b.kd),(U_,a.na,b.na),(U_,a.nb,b.nb),(U_,a.nk,b.nk),(U_,a.ns,b.ns),(U_,a.np,b.np),(U_,a.no,b.no),(U_,0,0)] &&
 eqNums [(Z_,a.za,b.za),(Z_,a.zb,b.zb),(Z_,a.lo,b.lo),(Z_,a.hi,b.hi)]&&eqNums [(AL_,a.qm,b.qm),(U_,a.qs,b.qs),(Z_,a.qz,b.qz)]&&eqNums [(AL_,a.rm,b.rm),(U_,a.rs,b.rs),(Z_,a.rz,b.rz)]
theorem same_v (a b:Nod) (hw:a.w.length≤100000) (hb:a.b.length≤100000):VC M_ 161 ([nod a,nod b]) (bv (nodEq a b)):=by
 have oz0:=@eq8_v (a.w) (b.w) a_
 have oz1:=@eq32_v (a.b) (b.b) a_
 exact (cR_ [r_,.r [] [cr oz0,o_,o_,o_,o_,o_,cr oz1,.sel 2],.r [] [.v (BI_ (eqNums [(U_,a.kd,b.kd),(U_,a.na,b.na),(U_,a.nb,b.nb),(U_,a.nk,b.nk),(U_,a.ns,b.ns),(U_,a.np,b.np),(U_,a.no,b.no),(U_,0,0)]))],.r [] [.v (BI_ (eqNums [(Z_,a.za,b.za),(Z_,a.zb,b.zb),(Z_,a.lo,b.lo),(Z_,a.hi,b.hi)]))],.r [] [o_,.sel 2,o_,.sel 2,o_,o_,o_,o_,o_,.v (BI_ (eqNums [(AL_,a.qm,b.qm),(U_,a.qs,b.qs),(Z_,a.qz,b.qz)])),.sel 2,o_,o_,o_,o_,o_,.v (BI_ (eqNums [(AL_,a.rm,b.rm),(U_,a.rs,b.rs),(Z_,a.rz,b.rz)])),.sel 2]] (bv (decide (a.w=b.w)&&decide (a.b=b.b)&&eqNums [(U_,a.kd,b.kd),(U_,a.na,b.na),(U_,a.nb,b.nb),(U_,a.nk,b.nk),(U_,a.ns,b.ns),(U_,a.np,b.np),(U_,a.no,b.no),(U_,0,0)]&&eqNums [(Z_,a.za,b.za),(Z_,a.zb,b.zb),(Z_,a.lo,b.lo),(Z_,a.hi,b.hi)]&&eqNums [(AL_,a.qm,b.qm),(U_,a.qs,b.qs),(Z_,a.qz,b.qz)]&&eqNums [(AL_,a.rm,b.rm),(U_,a.rs,b.rs),(Z_,a.rz,b.rz)])) Tryz.func161 (.d6 oz0 oz1 (show BinTo M_ BinOp.eql 292 (Operand.tmp 34) (Operand.tmp 49) (CX_ #[AW_ U_ a.kd,AW_ U_ a.na,AW_ U_ a.nb,AW_ U_ a.nk,AW_ U_ a.ns,AW_ U_ a.np,AW_ U_ a.no,AW_ U_ 0]) (CX_ #[AW_ U_ b.kd,AW_ U_ b.na,AW_ U_ b.nb,AW_ U_ b.nk,AW_ U_ b.ns,AW_ U_ b.np,AW_ U_ b.no,AW_ U_ 0]) (BI_ (eqNums [(U_,a.kd,b.kd),(U_,a.na,b.na),(U_,a.nb,b.nb),(U_,a.nk,b.nk),(U_,a.ns,b.ns),(U_,a.np,b.np),(U_,a.no,b.no),(U_,0,0)])) from ((bin_arr (l:=[(U_,a.kd,b.kd),(U_,a.na,b.na),(U_,a.nb,b.nb),(U_,a.nk,b.nk),(U_,a.ns,b.ns),(U_,a.np,b.np),(U_,a.no,b.no),(U_,0,0)]) w_ w_ _ _).1)) (show BinTo M_ BinOp.eql 293 (Operand.tmp 59) (Operand.tmp 68) (CX_ #[AW_ Z_ a.za,AW_ Z_ a.zb,AW_ Z_ a.lo,AW_ Z_ a.hi]) (CX_ #[AW_ Z_ b.za,AW_ Z_ b.zb,AW_ Z_ b.lo,AW_ Z_ b.hi]) (BI_ (eqNums [(Z_,a.za,b.za),(Z_,a.zb,b.zb),(Z_,a.lo,b.lo),(Z_,a.hi,b.hi)])) from ((bin_arr (l:=[(Z_,a.za,b.za),(Z_,a.zb,b.zb),(Z_,a.lo,b.lo),(Z_,a.hi,b.hi)]) w_ w_ _ _).1)) (show BinTo M_ BinOp.eql 54 (Operand.tmp 79) (Operand.tmp 81) (CX_ #[AW_ AL_ a.qm,AW_ U_ a.qs,AW_ Z_ a.qz]) (CX_ #[AW_ AL_ b.qm,AW_ U_ b.qs,AW_ Z_ b.qz]) (BI_ (eqNums [(AL_,a.qm,b.qm),(U_,a.qs,b.qs),(Z_,a.qz,b.qz)])) from ((bin_nums (l:=[(AL_,a.qm,b.qm),(U_,a.qs,b.qs),(Z_,a.qz,b.qz)]) w_ w_ w_ w_ _ _).1)) (show BinTo M_ BinOp.eql 54 (Operand.tmp 86) (Operand.tmp 88) (CX_ #[AW_ AL_ a.rm,AW_ U_ a.rs,AW_ Z_ a.rz]) (CX_ #[AW_ AL_ b.rm,AW_ U_ b.rs,AW_ Z_ b.rz]) (BI_ (eqNums [(AL_,a.rm,b.rm),(U_,a.rs,b.rs),(Z_,a.rz,b.rz)])) from ((bin_nums (l:=[(AL_,a.rm,b.rm),(U_,a.rs,b.rs),(Z_,a.rz,b.rz)]) w_ w_ w_ w_ _ _).1)))).weak (AQ_ _) (AB_ t0_)
theorem nodEq_iff (a b:Nod):nodEq a b=true↔a=b:=by
 obtain ⟨a1,a2,a3,a4,a5,a6,a7,a8,a9,a10,a11,a12,a13,a14,a15,a16,a17,a18,a19⟩:=a
 obtain ⟨b1,b2,b3,b4,b5,b6,b7,b8,b9,b10,b11,b12,b13,b14,b15,b16,b17,b18,b19⟩:=b
 simp only[nodEq,eqNums,P_,E_,I_,Nod.mk.injEq]
 constructor
 ·rintro ⟨⟨⟨⟨⟨h1,h2⟩,h3⟩,h4⟩,h5⟩,h6⟩
  exact ⟨h3.1,h3.2.1,h3.2.2.1,h3.2.2.2.1,h3.2.2.2.2.1,h3.2.2.2.2.2.1,h3.2.2.2.2.2.2.1,h4.1,h4.2.1,h1,h2,h5.1,h5.2.1,h5.2.2.1,h6.1,h6.2.1,h6.2.2.1,h4.2.2.1,h4.2.2.2.1⟩
 ·rintro ⟨h1,h2,h3,h4,h5,h6,h7,h8,h9,h10,h11,h12,h13,h14,h15,h16,h17,h18,h19⟩
  exact ⟨⟨⟨⟨⟨h10,h11⟩,h1,h2,h3,h4,h5,h6,h7,trivial,trivial⟩,h8,h9,h18,h19,trivial⟩,h12,h13,h14,trivial⟩,h15,h16,h17,trivial⟩
theorem refScaled_v (k:Int)  : VC M_ 112 ([i64 k]) (bv (((k==1 || k==2) || k==3) || k==6 || k==7)):=by
 exact cR_ [r_,.r [] [o_,o_,.sel 1,o_,o_,.sel 1,o_,o_,.sel 1,o_,o_,.sel 1]] _ Tryz.func112 (.n)
def scaledB (k:Int):Bool:=((k==1 || k==2) || k==3) || k==6 || k==7
def moreE (n:Nod):Bool :=
 (!(n.kd==1 || n.kd==2 || n.kd==3)&&(decide ((n.w.length:Int)>0) || decide ((n.b.length:Int)>0)) || n.kd != 1&&n.kd != 3&&n.no != 0) ||
 (!(n.kd==1 || n.kd==2 || n.kd==4 || n.kd==5)&&(n.nk != 0 || n.ns != 0) || !(n.kd==1 || n.kd==2 || n.kd==4 || n.kd==5)&&n.kd != 8&&n.np != 0) ||
 (n.kd != 6&&(n.nb != 0 || n.zb != 0 || n.rm != 0 || n.rs != 0) || n.rz != 0) ||
 (!scaledB n.kd&&(n.qm != 0 || n.qs != 0 || n.qz != 0 || n.lo != 0 || n.hi != 0)) || (!scaledB n.kd&&n.kd != 8&&n.za != 0)
theorem moreE_last {n:Nod} (h0:(!(n.kd==1 || n.kd==2 || n.kd==3)&&(decide (((K_ (row1 .i8) n.w).length:Int)>0) || decide (((K_ (row1 .i32) n.b).length:Int)>0)) || n.kd != 1&&n.kd != 3&&n.no != 0)=false) (h1:(!(n.kd==1 || n.kd==2 || n.kd==4 || n.kd==5)&&(n.nk != 0 || n.ns != 0) || !(n.kd==1 || n.kd==2 || n.kd==4 || n.kd==5)&&n.kd != 8&&n.np != 0)=false) (h2:(n.kd != 6&&(n.nb != 0 || n.zb != 0 || n.rm != 0 || n.rs != 0) || n.rz != 0)=false) (h3:(!(n.kd==1 || n.kd==2 || n.kd==3 || n.kd==6 || n.kd==7)&&(n.qm != 0 || n.qs != 0 || n.qz != 0 || n.lo != 0 || n.hi != 0))=false):(!(n.kd==1 || n.kd==2 || n.kd==3 || n.kd==6 || n.kd==7)&&n.kd != 8&&n.za != 0)=moreE n:=by
 rw[V_,V_] at h0
 unfold moreE scaledB
 rw[h0,h1,h2,h3];rfl
theorem moreE_0 {n:Nod} (h0:(!(n.kd==1 || n.kd==2 || n.kd==3)&&(decide (((K_ (row1 .i8) n.w).length:Int)>0) || decide (((K_ (row1 .i32) n.b).length:Int)>0)) || n.kd != 1&&n.kd != 3&&n.no != 0)=true):true=moreE n:=by
 rw[V_,V_] at h0
 unfold moreE
 rw[h0];rfl
theorem moreE_1 {n:Nod} (h1:(!(n.kd==1 || n.kd==2 || n.kd==4 || n.kd==5)&&(n.nk != 0 || n.ns != 0) || !(n.kd==1 || n.kd==2 || n.kd==4 || n.kd==5)&&n.kd != 8&&n.np != 0)=true):true=moreE n:=by
 unfold moreE
 rw[h1,DU_];rfl
theorem moreE_2 {n:Nod} (h1:(n.kd != 6&&(n.nb != 0 || n.zb != 0 || n.rm != 0 || n.rs != 0) || n.rz != 0)=true):true=moreE n:=by
 unfold moreE
 rw[h1,DU_];rfl
theorem moreE_3 {n:Nod} (h1:(!(n.kd==1 || n.kd==2 || n.kd==3 || n.kd==6 || n.kd==7)&&(n.qm != 0 || n.qs != 0 || n.qz != 0 || n.lo != 0 || n.hi != 0))=true):true=moreE n:=by
 unfold moreE scaledB
 rw[h1,DU_];rfl
theorem refMore_v (n:Nod) (hw:n.w.length≤100000) (hb:n.b.length≤100000):VC M_ 111 ([nod n]) (bv (moreE n)):=by
 rcases bft (!(n.kd==1 || n.kd==2 || n.kd==3)&&(decide (((K_ (row1 .i8) n.w).length:Int)>0) || decide (((K_ (row1 .i32) n.b).length:Int)>0)) || n.kd != 1&&n.kd != 3&&n.no != 0) with hc0|hc0
 ·have gc0:((¬n.kd=1∧¬n.kd=2)∧¬n.kd=3)∧(((K_ (row1 .i8) n.w).length:Int)>0∨((K_ (row1 .i32) n.b).length:Int)>0)∨(¬n.kd=1∧¬n.kd=3)∧¬n.no=0:=gc0_ hc0
  exact (cR_ [r_,r_,.r [] [o_,o_,.sel 1,o_,o_,.sel 1,o_,o_,.sel 1],.r [] [o_,o_,.sel 1,o_,o_,.sel 1],.r [] [o_,o_,o_,o_,o_,o_,o_,o_,o_,o_,.sel 1,.sel 2,o_,o_,o_,o_,o_,o_,.sel 2,o_,o_,o_,o_,o_,.sel 2,.sel 1],b_,r_] (bv true) Tryz.func111 (.d hc0)).weak (AQ_ _) (AB_ (by (exact moreE_0 b0_)))
 ·have gc0:(((n.kd=1∨n.kd=2)∨n.kd=3)∨¬((K_ (row1 .i8) n.w).length:Int)>0∧¬((K_ (row1 .i32) n.b).length:Int)>0)∧((n.kd=1∨n.kd=3)∨n.no=0):=gc0_ hc0
  rcases bft (!(n.kd==1 || n.kd==2 || n.kd==4 || n.kd==5)&&(n.nk != 0 || n.ns != 0) || !(n.kd==1 || n.kd==2 || n.kd==4 || n.kd==5)&&n.kd != 8&&n.np != 0) with hc1|hc1
  ·have gc1:(((¬n.kd=1∧¬n.kd=2)∧¬n.kd=4)∧¬n.kd=5)∧(¬n.nk=0∨¬n.ns=0)∨((((¬n.kd=1∧¬n.kd=2)∧¬n.kd=4)∧¬n.kd=5)∧¬n.kd=8)∧¬n.np=0:=gc0_ hc1
   exact (cR_ [r_,r_,.r [] [o_,o_,.sel 1,o_,o_,.sel 1,o_,o_,.sel 1],.r [] [o_,o_,.sel 1,o_,o_,.sel 1],.r [] [o_,o_,o_,o_,o_,o_,o_,o_,o_,o_,.sel 1,.sel 2,o_,o_,o_,o_,o_,o_,.sel 2,o_,o_,o_,o_,o_,.sel 2,.sel 1],d_,.r [] [o_,o_,o_,o_,o_,o_,o_,o_,.sel 1,.sel 2,o_,o_,o_,o_,o_,o_,.sel 2,o_,o_,o_,o_,o_,.sel 2,.sel 1],b_,r_] (bv true) Tryz.func111 (.d2 hc0 hc1)).weak (AQ_ _) (AB_ (by (exact moreE_1 b0_)))
  ·have gc1:((((n.kd=1∨n.kd=2)∨n.kd=4)∨n.kd=5)∨n.nk=0∧n.ns=0)∧(((((n.kd=1∨n.kd=2)∨n.kd=4)∨n.kd=5)∨n.kd=8)∨n.np=0):=gc0_ hc1
   rcases bft (n.kd != 6&&(n.nb != 0 || n.zb != 0 || n.rm != 0 || n.rs != 0) || n.rz != 0) with hc2|hc2
   ·have gc2:¬n.kd=6∧(((¬n.nb=0∨¬n.zb=0)∨¬n.rm=0)∨¬n.rs=0)∨¬n.rz=0:=gc0_ hc2
    exact (cR_ [r_,r_,.r [] [o_,o_,.sel 1,o_,o_,.sel 1,o_,o_,.sel 1],.r [] [o_,o_,.sel 1,o_,o_,.sel 1],.r [] [o_,o_,o_,o_,o_,o_,o_,o_,o_,o_,.sel 1,.sel 2,o_,o_,o_,o_,o_,o_,.sel 2,o_,o_,o_,o_,o_,.sel 2,.sel 1],d_,.r [] [o_,o_,o_,o_,o_,o_,o_,o_,.sel 1,.sel 2,o_,o_,o_,o_,o_,o_,.sel 2,o_,o_,o_,o_,o_,.sel 2,.sel 1],d_,.r [] [o_,o_,o_,o_,o_,o_,o_,o_,.sel 1,o_,o_,o_,o_,o_,o_,.sel 1,o_,o_,o_,o_,o_,o_,.sel 1,.sel 2,o_,o_,o_,o_,.sel 1],b_,r_] (bv true) Tryz.func111 (.d3 hc0 hc1 hc2)).weak (AQ_ _) (AB_ (by (exact moreE_2 b0_)))
   ·have gc2:(n.kd=6∨((n.nb=0∧n.zb=0)∧n.rm=0)∧n.rs=0)∧n.rz=0:=gc0_ hc2
    have oz3:=@refScaled_v (n.kd)
    rcases bft (!(n.kd==1 || n.kd==2 || n.kd==3 || n.kd==6 || n.kd==7)&&(n.qm != 0 || n.qs != 0 || n.qz != 0 || n.lo != 0 || n.hi != 0)) with hc3|hc3
    ·have gc3:((((¬n.kd=1∧¬n.kd=2)∧¬n.kd=3)∧¬n.kd=6)∧¬n.kd=7)∧((((¬n.qm=0∨¬n.qs=0)∨¬n.qz=0)∨¬n.lo=0)∨¬n.hi=0):=gc0_ hc3
     exact (cR_ [r_,r_,.r [] [o_,o_,.sel 1,o_,o_,.sel 1,o_,o_,.sel 1],.r [] [o_,o_,.sel 1,o_,o_,.sel 1],.r [] [o_,o_,o_,o_,o_,o_,o_,o_,o_,o_,.sel 1,.sel 2,o_,o_,o_,o_,o_,o_,.sel 2,o_,o_,o_,o_,o_,.sel 2,.sel 1],d_,.r [] [o_,o_,o_,o_,o_,o_,o_,o_,.sel 1,.sel 2,o_,o_,o_,o_,o_,o_,.sel 2,o_,o_,o_,o_,o_,.sel 2,.sel 1],d_,.r [] [o_,o_,o_,o_,o_,o_,o_,o_,.sel 1,o_,o_,o_,o_,o_,o_,.sel 1,o_,o_,o_,o_,o_,o_,.sel 1,.sel 2,o_,o_,o_,o_,.sel 1],d_,.r [] [cr oz3,o_,o_,o_,o_,o_,o_,o_,o_,o_,o_,.sel 1,o_,o_,o_,o_,o_,o_,.sel 1,o_,o_,o_,o_,o_,.sel 1,o_,o_,o_,o_,o_,.sel 1,.sel 2],b_,r_] (bv true) Tryz.func111 (.d5 hc0 hc1 hc2 oz3 hc3)).weak (AQ_ _) (AB_ (by (exact moreE_3 b0_)))
    ·have gc3:((((n.kd=1∨n.kd=2)∨n.kd=3)∨n.kd=6)∨n.kd=7)∨(((n.qm=0∧n.qs=0)∧n.qz=0)∧n.lo=0)∧n.hi=0:=gc0_ hc3
     exact (cR_ [r_,r_,.r [] [o_,o_,.sel 1,o_,o_,.sel 1,o_,o_,.sel 1],.r [] [o_,o_,.sel 1,o_,o_,.sel 1],.r [] [o_,o_,o_,o_,o_,o_,o_,o_,o_,o_,.sel 1,.sel 2,o_,o_,o_,o_,o_,o_,.sel 2,o_,o_,o_,o_,o_,.sel 2,.sel 1],d_,.r [] [o_,o_,o_,o_,o_,o_,o_,o_,.sel 1,.sel 2,o_,o_,o_,o_,o_,o_,.sel 2,o_,o_,o_,o_,o_,.sel 2,.sel 1],d_,.r [] [o_,o_,o_,o_,o_,o_,o_,o_,.sel 1,o_,o_,o_,o_,o_,o_,.sel 1,o_,o_,o_,o_,o_,o_,.sel 1,.sel 2,o_,o_,o_,o_,.sel 1],d_,.r [] [cr oz3,o_,o_,o_,o_,o_,o_,o_,o_,o_,o_,.sel 1,o_,o_,o_,o_,o_,o_,.sel 1,o_,o_,o_,o_,o_,.sel 1,o_,o_,o_,o_,o_,.sel 1,.sel 2],d_,.r [] [cr oz3,o_,o_,.sel 2,o_,o_,o_,.sel 2]] (bv (!(n.kd==1 || n.kd==2 || n.kd==3 || n.kd==6 || n.kd==7)&&n.kd != 8&&n.za != 0)) Tryz.func111 (.d6 hc0 hc1 hc2 oz3 hc3 oz3)).weak (AQ_ _) (AB_ (by (exact moreE_last b0_ b0_ b0_ b0_)))
def checkE (n:Nod):Int:=if n.kd<1∨9<n.kd then 6 else if moreE n=true then 2 else if (scaledB n.kd && !rightQ n.qm n.qs || n.kd==6 && !rightQ n.rm n.rs)=true then 7 else if (scaledB n.kd&&decide (n.lo>n.hi))=true then 2 else 0
theorem more1 (n:Nod) (h:n.kd=1):n=(⟨n.kd,n.na,0,n.nk,n.ns,n.np,n.no,n.za,0,n.w,n.b,n.qm,n.qs,n.qz,0,0,0,n.lo,n.hi⟩:Nod)↔moreE n=false:=by
 unfold moreE scaledB
 cases n
 simp only at h
 subst h
 simp only[Nod.mk.injEq,true_and,and_true,T_,R_,G_,beq_self_eq_true,Bool.true_or,DU_,BB_,BQ_,BD_,BW_,true_or,or_true,and_self,Bool.or_self,BC_,W_,F_,Int.reduceBEq,Int.reduceBNe,CK_,BR_,BU_,AO_,false_or,or_false,CQ_,gt_iff_lt,BA_,CH_,CY_,CV_]
 first|done|(constructor<;>intro h<;>simp_all)|omega
theorem more2 (n:Nod) (h:n.kd=2):n=(⟨n.kd,n.na,0,n.nk,n.ns,n.np,0,n.za,0,n.w,n.b,n.qm,n.qs,n.qz,0,0,0,n.lo,n.hi⟩:Nod)↔moreE n=false:=by
 unfold moreE scaledB
 cases n
 simp only at h
 subst h
 simp only[Nod.mk.injEq,true_and,and_true,T_,R_,G_,beq_self_eq_true,Bool.true_or,DU_,BB_,BQ_,BD_,BW_,true_or,or_true,and_self,Bool.or_self,BC_,W_,F_,Int.reduceBEq,Int.reduceBNe,CK_,BR_,BU_,AO_,false_or,or_false,CQ_,gt_iff_lt,BA_,CH_,CY_,CV_]
 first|done|(constructor<;>intro h<;>simp_all)|omega
theorem more3 (n:Nod) (h:n.kd=3):n=(⟨n.kd,n.na,0,0,0,0,n.no,n.za,0,n.w,n.b,n.qm,n.qs,n.qz,0,0,0,n.lo,n.hi⟩:Nod)↔moreE n=false:=by
 unfold moreE scaledB
 cases n
 simp only at h
 subst h
 simp only[Nod.mk.injEq,true_and,and_true,T_,R_,G_,beq_self_eq_true,Bool.true_or,DU_,BB_,BQ_,BD_,BW_,true_or,or_true,and_self,Bool.or_self,BC_,W_,F_,Int.reduceBEq,Int.reduceBNe,CK_,BR_,BU_,AO_,false_or,or_false,CQ_,gt_iff_lt,BA_,CH_,CY_,CV_]
 first|done|(constructor<;>intro h<;>simp_all)|omega
theorem more4 (n:Nod) (h:n.kd=4):n=(⟨n.kd,n.na,0,n.nk,n.ns,n.np,0,0,0,[],[],0,0,0,0,0,0,0,0⟩:Nod)↔moreE n=false:=by
 unfold moreE scaledB
 cases n
 simp only at h
 subst h
 simp only[Nod.mk.injEq,true_and,and_true,T_,R_,G_,beq_self_eq_true,Bool.true_or,DU_,BB_,BQ_,BD_,BW_,true_or,or_true,and_self,Bool.or_self,BC_,W_,F_,Int.reduceBEq,Int.reduceBNe,CK_,BR_,BU_,AO_,false_or,or_false,CQ_,gt_iff_lt,BA_,CH_,CY_,CV_]
 first|done|(constructor<;>intro h<;>simp_all)|omega
theorem more5 (n:Nod) (h:n.kd=5):n=(⟨n.kd,n.na,0,n.nk,n.ns,n.np,0,0,0,[],[],0,0,0,0,0,0,0,0⟩:Nod)↔moreE n=false:=by
 unfold moreE scaledB
 cases n
 simp only at h
 subst h
 simp only[Nod.mk.injEq,true_and,and_true,T_,R_,G_,beq_self_eq_true,Bool.true_or,DU_,BB_,BQ_,BD_,BW_,true_or,or_true,and_self,Bool.or_self,BC_,W_,F_,Int.reduceBEq,Int.reduceBNe,CK_,BR_,BU_,AO_,false_or,or_false,CQ_,gt_iff_lt,BA_,CH_,CY_,CV_]
 first|done|(constructor<;>intro h<;>simp_all)|omega
theorem more6 (n:Nod) (h:n.kd=6):n=(⟨n.kd,n.na,n.nb,0,0,0,0,n.za,n.zb,[],[],n.qm,n.qs,n.qz,n.rm,n.rs,0,n.lo,n.hi⟩:Nod)↔moreE n=false:=by
 unfold moreE scaledB
 cases n
 simp only at h
 subst h
 simp only[Nod.mk.injEq,true_and,and_true,T_,R_,G_,beq_self_eq_true,Bool.true_or,DU_,BB_,BQ_,BD_,BW_,true_or,or_true,and_self,Bool.or_self,BC_,W_,F_,Int.reduceBEq,Int.reduceBNe,CK_,BR_,BU_,AO_,false_or,or_false,CQ_,gt_iff_lt,BA_,CH_,CY_,CV_]
 first|done|(constructor<;>intro h<;>simp_all)|omega
theorem more7 (n:Nod) (h:n.kd=7):n=(⟨n.kd,n.na,0,0,0,0,0,n.za,0,[],[],n.qm,n.qs,n.qz,0,0,0,n.lo,n.hi⟩:Nod)↔moreE n=false:=by
 unfold moreE scaledB
 cases n
 simp only at h
 subst h
 simp only[Nod.mk.injEq,true_and,and_true,T_,R_,G_,beq_self_eq_true,Bool.true_or,DU_,BB_,BQ_,BD_,BW_,true_or,or_true,and_self,Bool.or_self,BC_,W_,F_,Int.reduceBEq,Int.reduceBNe,CK_,BR_,BU_,AO_,false_or,or_false,CQ_,gt_iff_lt,BA_,CH_,CY_,CV_]
 first|done|(constructor<;>intro h<;>simp_all)|omega
theorem more8 (n:Nod) (h:n.kd=8):n=(⟨n.kd,n.na,0,0,0,n.np,0,n.za,0,[],[],0,0,0,0,0,0,0,0⟩:Nod)↔moreE n=false:=by
 unfold moreE scaledB
 cases n
 simp only at h
 subst h
 simp only[Nod.mk.injEq,true_and,and_true,T_,R_,G_,beq_self_eq_true,Bool.true_or,DU_,BB_,BQ_,BD_,BW_,true_or,or_true,and_self,Bool.or_self,BC_,W_,F_,Int.reduceBEq,Int.reduceBNe,CK_,BR_,BU_,AO_,false_or,or_false,CQ_,gt_iff_lt,BA_,CH_,CY_,CV_]
 first|done|(constructor<;>intro h<;>simp_all)|omega
theorem more9 (n:Nod) (h:n.kd=9):n=(⟨n.kd,n.na,0,0,0,0,0,0,0,[],[],0,0,0,0,0,0,0,0⟩:Nod)↔moreE n=false:=by
 unfold moreE scaledB
 cases n
 simp only at h
 subst h
 simp only[Nod.mk.injEq,true_and,and_true,T_,R_,G_,beq_self_eq_true,Bool.true_or,DU_,BB_,BQ_,BD_,BW_,true_or,or_true,and_self,Bool.or_self,BC_,W_,F_,Int.reduceBEq,Int.reduceBNe,CK_,BR_,BU_,AO_,false_or,or_false,CQ_,gt_iff_lt,BA_,CH_,CY_,CV_]
 first|done|(constructor<;>intro h<;>simp_all)|omega
theorem more_iff (n:Nod) (h0:1≤n.kd) (h9:n.kd≤9):nodEq n (plainN n) = !moreE n:=by
 have:n.kd=1∨n.kd=2∨n.kd=3∨n.kd=4∨n.kd=5∨n.kd=6∨n.kd=7∨n.kd=8∨n.kd=9:=by omega
 have key:n=plainN n↔moreE n=false:=by
  unfold plainN
  rcases this with h|h|h|h|h|h|h|h|h
  ·have e:=more1 n h;simp only[h,CK_,if_true,if_false] at e ⊢;exact e
  ·have e:=more2 n h;simp only[h,CK_,if_true,if_false] at e ⊢;exact e
  ·have e:=more3 n h;simp only[h,CK_,if_true,if_false] at e ⊢;exact e
  ·have e:=more4 n h;simp only[h,CK_,if_true,if_false] at e ⊢;exact e
  ·have e:=more5 n h;simp only[h,CK_,if_true,if_false] at e ⊢;exact e
  ·have e:=more6 n h;simp only[h,CK_,if_true,if_false] at e ⊢;exact e
  ·have e:=more7 n h;simp only[h,CK_,if_true,if_false] at e ⊢;exact e
  ·have e:=more8 n h;simp only[h,CK_,if_true,if_false] at e ⊢;exact e
  ·have e:=more9 n h;simp only[h,CK_,if_true,if_false] at e ⊢;exact e
 rw[Bool.eq_iff_iff,nodEq_iff,key,Y_]
theorem ck_eq {n:Nod} (h0:1≤n.kd) (h9:n.kd≤9):checkE n=if moreE n=true then 2 else if (((n.kd==1 || n.kd==2 || n.kd==3 || n.kd==6 || n.kd==7) && !rightQ n.qm n.qs) || (n.kd==6 && !rightQ n.rm n.rs))=true then 7 else if ((n.kd==1 || n.kd==2 || n.kd==3 || n.kd==6 || n.kd==7)&&decide (n.lo>n.hi))=true then 2 else 0:=by
 unfold checkE;rw[j_ a_];rfl
theorem ck2 {n:Nod} (h0:1≤n.kd) (h9:n.kd≤9) (h:moreE n=true):2=checkE n:=by rw[ck_eq h0 h9,i_ h]
theorem ck7 {n:Nod} (h0:1≤n.kd) (h9:n.kd≤9) (h:moreE n=false) (q:(((n.kd==1 || n.kd==2 || n.kd==3 || n.kd==6 || n.kd==7) && !rightQ n.qm n.qs) || (n.kd==6 && !rightQ n.rm n.rs))=true):7=checkE n:=by rw[ck_eq h0 h9,j_ (by simp[h]),i_ q]
theorem ck2b {n:Nod} (h0:1≤n.kd) (h9:n.kd≤9) (h:moreE n=false) (q:(((n.kd==1 || n.kd==2 || n.kd==3 || n.kd==6 || n.kd==7) && !rightQ n.qm n.qs) || (n.kd==6 && !rightQ n.rm n.rs))=false) (l:((n.kd==1 || n.kd==2 || n.kd==3 || n.kd==6 || n.kd==7)&&decide (n.lo>n.hi))=true):2=checkE n:=by rw[ck_eq h0 h9,j_ (by simp[h]),j_ (by rw[q];simp),i_ l]
theorem ck0 {n:Nod} (h0:1≤n.kd) (h9:n.kd≤9) (h:moreE n=false) (q:(((n.kd==1 || n.kd==2 || n.kd==3 || n.kd==6 || n.kd==7) && !rightQ n.qm n.qs) || (n.kd==6 && !rightQ n.rm n.rs))=false) (l:((n.kd==1 || n.kd==2 || n.kd==3 || n.kd==6 || n.kd==7)&&decide (n.lo>n.hi))=false):0=checkE n:=by rw[ck_eq h0 h9,j_ (by simp[h]),j_ (by rw[q];simp),j_ (by rw[l];simp)]
theorem nq {n:Nod} {b:Bool} (h2:nodEq n (plainN n) = !moreE n) (h:(!nodEq n (plainN n))=b):moreE n=b:=by rw[←h,h2,Bool.not_not]
theorem orf {a b:Bool} (h:a=false) (h':b=false):(a || b)=false:=by rw[h,h'];rfl
theorem orl {a b:Bool} (h:a=true):(a || b)=true:=by rw[h];rfl
theorem orr {a b:Bool} (h:b=true):(a || b)=true:=by rw[h,DU_]
theorem refCheck_n (n:Nod) (hk:In64 n.kd) (hn:n.kd<1∨9<n.kd):VC M_ 77 ([nod n]) (i64 (checkE n)):=by
 have h2:=nameEq_out hn
 have oz0:=@refName_v (n.kd) hk
 exact (cR_ [r_,.r [] [cr oz0],b_,r_] (i64 6) Tryz.func77 (.d2 oz0 h2)).to (by (simp only[checkE];rw[i_ hn]))
theorem refCheck_y (n:Nod) (hw:n.w.length≤100000) (hb:n.b.length≤100000) (hk:1≤n.kd) (hk9:n.kd≤9):VC M_ 77 ([nod n]) (i64 (checkE n)):=by
 have h1:=nameEq_in hk hk9
 have oz0:=@refName_v (n.kd) a_
 have oz2:=@refMore_v (n) hw hb
 rcases bft (moreE n) with hc0|hc0
 ·have gc0:moreE n=true:=m_
  exact (cR_ [r_,.r [] [cr oz0],d_,.r [] [cr oz2],b_,r_] (i64 2) Tryz.func77 (.d4 oz0 h1 oz2 hc0)).weak (AQ_ _) (N_ (by (exact ck2 hk hk9 b0_)))
 ·have gc0:moreE n=false:=m_
  have oz4:=@refScaled_v (n.kd)
  have oz5:=@refRight_v (n.qm) (n.qs) (n.qz)
  have oz6:=@refRight_v (n.rm) (n.rs) (n.rz)
  rcases bft ((n.kd==1 || n.kd==2 || n.kd==3 || n.kd==6 || n.kd==7) && !rightQ n.qm n.qs || n.kd==6 && !rightQ n.rm n.rs) with hc1|hc1
  ·have gc1:((((n.kd=1∨n.kd=2)∨n.kd=3)∨n.kd=6)∨n.kd=7)∧rightQ n.qm n.qs=false∨n.kd=6∧rightQ n.rm n.rs=false:=gc0_ hc1
   exact (cR_ [r_,.r [] [cr oz0],d_,.r [] [cr oz2],d_,.r [] [cr oz4,o_,o_,o_,cr oz5,o_,.sel 2,o_,o_,o_,o_,o_,o_,o_,cr oz6,o_,o_,.sel 2,.sel 1],b_,r_] (i64 7) Tryz.func77 (.d8 oz0 h1 oz2 hc0 oz4 oz5 oz6 hc1)).weak (AQ_ _) (N_ (by (exact ck7 hk hk9 b0_ b0_)))
  ·have gc1:((((¬n.kd=1∧¬n.kd=2)∧¬n.kd=3)∧¬n.kd=6)∧¬n.kd=7∨rightQ n.qm n.qs=true)∧(¬n.kd=6∨rightQ n.rm n.rs=true):=gc0_ hc1
   rcases bft ((n.kd==1 || n.kd==2 || n.kd==3 || n.kd==6 || n.kd==7)&&decide (n.lo>n.hi)) with hc2|hc2
   ·have gc2:((((n.kd=1∨n.kd=2)∨n.kd=3)∨n.kd=6)∨n.kd=7)∧n.lo>n.hi:=gc0_ hc2
    exact (cR_ [r_,.r [] [cr oz0],d_,.r [] [cr oz2],d_,.r [] [cr oz4,o_,o_,o_,cr oz5,o_,.sel 2,o_,o_,o_,o_,o_,o_,o_,cr oz6,o_,o_,.sel 2,.sel 1],d_,.r [] [cr oz4,o_,o_,o_,o_,o_,.sel 2],b_,r_] (i64 2) Tryz.func77 (.c8 oz0 h1 oz2 hc0 oz4 oz5 oz6 hc1<|.d2 oz4 hc2)).weak (AQ_ _) (N_ (by (exact ck2b hk hk9 b0_ b0_ b0_)))
   ·have gc2:(((¬n.kd=1∧¬n.kd=2)∧¬n.kd=3)∧¬n.kd=6)∧¬n.kd=7∨¬n.lo>n.hi:=gc0_ hc2
    exact (cR_ [r_,.r [] [cr oz0],d_,.r [] [cr oz2],d_,.r [] [cr oz4,o_,o_,o_,cr oz5,o_,.sel 2,o_,o_,o_,o_,o_,o_,o_,cr oz6,o_,o_,.sel 2,.sel 1],d_,.r [] [cr oz4,o_,o_,o_,o_,o_,.sel 2],d_,r_] (i64 0) Tryz.func77 (.c8 oz0 h1 oz2 hc0 oz4 oz5 oz6 hc1<|.d2 oz4 hc2)).weak (AQ_ _) (N_ (by (exact ck0 hk hk9 b0_ b0_ b0_)))
theorem refCheck_v (n:Nod) (hw:n.w.length≤100000) (hb:n.b.length≤100000) (hk:In64 n.kd):VC M_ 77 [nod n] (i64 (checkE n)):=by
 by_cases h:n.kd<1∨9<n.kd
 ·exact refCheck_n n hk h
 ·exact refCheck_y n hw hb a_ a_
theorem plain_v (n:Nod) (hw:n.w.length≤100000) (hb:n.b.length≤100000) (h0:1≤n.kd) (h9:n.kd≤9):VC M_ 162 [nod n] (nod (plainN n)):=by
 have:n.kd=1∨n.kd=2∨n.kd=3∨n.kd=4∨n.kd=5∨n.kd=6∨n.kd=7∨n.kd=8∨n.kd=9:=by omega
 unfold plainN
 rcases this with h|h|h|h|h|h|h|h|h
 ·have e:=plain1 n h hw hb;simp only[h,CK_,if_true,if_false] at e ⊢;exact e
 ·have e:=plain2 n h hw hb;simp only[h,CK_,if_true,if_false] at e ⊢;exact e
 ·have e:=plain3 n h hw hb;simp only[h,CK_,if_true,if_false] at e ⊢;exact e
 ·have e:=plain4 n h hw hb;simp only[h,CK_,if_true,if_false] at e ⊢;exact e
 ·have e:=plain5 n h hw hb;simp only[h,CK_,if_true,if_false] at e ⊢;exact e
 ·have e:=plain6 n h hw hb;simp only[h,CK_,if_true,if_false] at e ⊢;exact e
 ·have e:=plain7 n h hw hb;simp only[h,CK_,if_true,if_false] at e ⊢;exact e
 ·have e:=plain8 n h hw hb;simp only[h,CK_,if_true,if_false] at e ⊢;exact e
 ·have e:=plain9 n h hw hb;simp only[h,CK_,if_true,if_false] at e ⊢;exact e
theorem check_n (n:Nod) (hk:In64 n.kd) (hn:n.kd<1∨9<n.kd):VC M_ 130 ([nod n]) (i64 (checkE n)):=by
 have h2:=nameEq_out hn
 have oz0:=@name_v (n.kd) hk
 exact (cR_ [r_,.r [] [cr oz0],b_,r_] (i64 6) Tryz.func130 (.d2 oz0 h2)).to (by (simp only[checkE];rw[i_ hn]))
theorem check_y (n:Nod) (hw:n.w.length≤100000) (hb:n.b.length≤100000) (hk:1≤n.kd) (hk9:n.kd≤9):VC M_ 130 ([nod n]) (i64 (checkE n)):=by
 have h1:=nameEq_in hk hk9
 have h2:=more_iff n hk hk9
 have oz0:=@name_v (n.kd) a_
 have oz2:=@plain_v (n) hw hb hk hk9
 have oz3:=@same_v (n) (plainN n) hw hb
 rcases bft (!nodEq n (plainN n)) with hc0|hc0
 ·have gc0:nodEq n (plainN n)=false:=m_
  exact (cR_ [r_,.r [] [cr oz0],d_,.r [] [cr oz2,cr oz3],b_,r_] (i64 2) Tryz.func130 (.d5 oz0 h1 oz2 oz3 hc0)).weak (AQ_ _) (N_ (by (exact ck2 hk hk9 (nq h2 b0_))))
 ·have gc0:nodEq n (plainN n)=true:=m_
  have oz5:=@scaledK_v (n.kd)
  have oz6:=@right_v (n.qm) (n.qs) (n.qz)
  rcases bft ((n.kd==1 || n.kd==2 || n.kd==3 || n.kd==6 || n.kd==7) && !rightQ n.qm n.qs) with hc1|hc1
  ·have gc1:((((n.kd=1∨n.kd=2)∨n.kd=3)∨n.kd=6)∨n.kd=7)∧rightQ n.qm n.qs=false:=gc0_ hc1
   exact (cR_ [r_,.r [] [cr oz0],d_,.r [] [cr oz2,cr oz3],d_,.r [] [cr oz5,o_,o_,o_,cr oz6,o_,.sel 2],b_,b_,r_] (i64 7) Tryz.func130 (.c8 oz0 h1 oz2 oz3 hc0 oz5 oz6 hc1<|.d hc1)).weak (AQ_ _) (N_ (by (exact ck7 hk hk9 (nq h2 b0_) (orl b0_))))
  ·have gc1:(((¬n.kd=1∧¬n.kd=2)∧¬n.kd=3)∧¬n.kd=6)∧¬n.kd=7∨rightQ n.qm n.qs=true:=gc0_ hc1
   have oz8:=@right_v (n.rm) (n.rs) (n.rz)
   rcases bft (n.kd==6 && !rightQ n.rm n.rs) with hc2|hc2
   ·have gc2:n.kd=6∧rightQ n.rm n.rs=false:=gc0_ hc2
    exact (cR_ [r_,.r [] [cr oz0],d_,.r [] [cr oz2,cr oz3],d_,.r [] [cr oz5,o_,o_,o_,cr oz6,o_,.sel 2],d_,.r [] [o_,o_,o_,cr oz8,o_,.sel 2],b_,r_] (i64 7) Tryz.func130 (.c8 oz0 h1 oz2 oz3 hc0 oz5 oz6 hc1<|.d2 oz8 hc2)).weak (AQ_ _) (N_ (by (exact ck7 hk hk9 (nq h2 b0_) (orr b0_))))
   ·have gc2:¬n.kd=6∨rightQ n.rm n.rs=true:=gc0_ hc2
    rcases bft ((n.kd==1 || n.kd==2 || n.kd==3 || n.kd==6 || n.kd==7)&&decide (n.lo>n.hi)) with hc3|hc3
    ·have gc3:((((n.kd=1∨n.kd=2)∨n.kd=3)∨n.kd=6)∨n.kd=7)∧n.lo>n.hi:=gc0_ hc3
     exact (cR_ [r_,.r [] [cr oz0],d_,.r [] [cr oz2,cr oz3],d_,.r [] [cr oz5,o_,o_,o_,cr oz6,o_,.sel 2],d_,.r [] [o_,o_,o_,cr oz8,o_,.sel 2],d_,.r [] [cr oz5,o_,o_,o_,o_,o_,.sel 2],b_,r_] (i64 2) Tryz.func130 (.c8 oz0 h1 oz2 oz3 hc0 oz5 oz6 hc1<|.d4 oz8 hc2 oz5 hc3)).weak (AQ_ _) (N_ (by (exact ck2b hk hk9 (nq h2 b0_) (orf b0_ b0_) b0_)))
    ·have gc3:(((¬n.kd=1∧¬n.kd=2)∧¬n.kd=3)∧¬n.kd=6)∧¬n.kd=7∨¬n.lo>n.hi:=gc0_ hc3
     exact (cR_ [r_,.r [] [cr oz0],d_,.r [] [cr oz2,cr oz3],d_,.r [] [cr oz5,o_,o_,o_,cr oz6,o_,.sel 2],d_,.r [] [o_,o_,o_,cr oz8,o_,.sel 2],d_,.r [] [cr oz5,o_,o_,o_,o_,o_,.sel 2],d_,r_] (i64 0) Tryz.func130 (.c8 oz0 h1 oz2 oz3 hc0 oz5 oz6 hc1<|.d4 oz8 hc2 oz5 hc3)).weak (AQ_ _) (N_ (by (exact ck0 hk hk9 (nq h2 b0_) (orf b0_ b0_) b0_)))
theorem check_v (n:Nod) (hw:n.w.length≤100000) (hb:n.b.length≤100000) (hk:In64 n.kd):VC M_ 130 [nod n] (i64 (checkE n)):=by
 by_cases h:n.kd<1∨9<n.kd
 ·exact check_n n hk h
 ·exact check_y n hw hb a_ a_
def depthE (t:Shp) (n:Nod):Shp×Int :=
 if (slideE t n.nk n.ns n.np t.c).2≠0 then (⟨0,0,0⟩,(slideE t n.nk n.ns n.np t.c).2)
 else if (n.w.length:Int)≠t.c*n.nk*n.nk∨16384<(n.w.length:Int)∨(n.b.length:Int)≠t.c then (⟨0,0,0⟩,9) else ((slideE t n.nk n.ns n.np t.c).1,0)
theorem depthShape_v (t:Shp) (n:Nod) (ok:t.Ok) (okn:n.Ok):VC M_ 188 ([shp t,nod n]) (.tup [shp (depthE t n).1,i64 (depthE t n).2]):=by
 have q2:=ok.c
 have q3:=fun h=>wts_bd (t:=t) (k:=n.nk) (s:=n.ns) (p:=n.np) (o:=t.c) h
 have oz0:=@slide_v (t) (n.nk) (n.ns) (n.np) (t.c) ok q2
 rcases bft ((slideE t n.nk n.ns n.np t.c).snd != 0) with hc0|hc0
 ·have gc0:¬(slideE t n.nk n.ns n.np t.c).snd=0:=bdt hc0
  exact (cR_ [r_,.r [] [cr oz0],r_,b_,r_] (AV.tup [AV.agg [i64 0,i64 0,i64 0],i64 (slideE t n.nk n.ns n.np t.c).snd]) Tryz.func188 (.d2 oz0 hc0)).to (by (simp only[depthE];rw[i_ a_]))
 ·have gc0:(slideE t n.nk n.ns n.np t.c).snd=0:=bdf hc0
  have oz2:=(i6n (t.c*n.nk) a_)
  have oz3:=(i6n (t.c*n.nk*n.nk) a_)
  rcases bft (((K_ (row1 .i8) n.w).length:Int) != t.c*n.nk*n.nk || decide (((K_ (row1 .i8) n.w).length:Int)>16384) || ((K_ (row1 .i32) n.b).length:Int) != t.c) with hc1|hc1
  ·have gc1:(¬((K_ (row1 .i8) n.w).length:Int)=t.c*n.nk*n.nk∨((K_ (row1 .i8) n.w).length:Int)>16384)∨¬((K_ (row1 .i32) n.b).length:Int)=t.c:=gc0_ hc1
   exact (cR_ [r_,.r [] [cr oz0],r_,d_,.r [] [.n (nO oz2),.n (nO oz3),o_,o_,o_,o_,.sel 1,o_,o_,o_,o_,o_,o_,.sel 1],b_,r_] (AV.tup [AV.agg [i64 0,i64 0,i64 0],i64 9]) Tryz.func188 (.d5 oz0 hc0 oz2 oz3 hc1)).to (by (simp only[depthE,V_] at *;rw[j_ a_,i_ a_]))
  ·have gc1:(((K_ (row1 .i8) n.w).length:Int)=t.c*n.nk*n.nk∧¬((K_ (row1 .i8) n.w).length:Int)>16384)∧((K_ (row1 .i32) n.b).length:Int)=t.c:=gc0_ hc1
   exact (cR_ [r_,.r [] [cr oz0],r_,d_,.r [] [.n (nO oz2),.n (nO oz3),o_,o_,o_,o_,.sel 1,o_,o_,o_,o_,o_,o_,.sel 1],d_,r_] (AV.tup [AV.agg [i64 (slideE t n.nk n.ns n.np t.c).fst.h,i64 (slideE t n.nk n.ns n.np t.c).fst.x,i64 (slideE t n.nk n.ns n.np t.c).fst.c],i64 0]) Tryz.func188 (.d5 oz0 hc0 oz2 oz3 hc1)).to (by (simp only[depthE,V_] at *;rw[j_ a_,j_ a_]))
theorem refDepthShape_v (t:Shp) (n:Nod) (ok:t.Ok) (okn:n.Ok):VC M_ 115 ([shp t,nod n]) (.tup [shp (depthE t n).1,i64 (depthE t n).2]):=by
 have q2:=ok.c
 have q3:=fun h=>wts_bd (t:=t) (k:=n.nk) (s:=n.ns) (p:=n.np) (o:=t.c) h
 have oz0:=@refSlide_v (t) (n.nk) (n.ns) (n.np) (t.c) ok q2
 rcases bft ((slideE t n.nk n.ns n.np t.c).snd != 0) with hc0|hc0
 ·have gc0:¬(slideE t n.nk n.ns n.np t.c).snd=0:=bdt hc0
  exact (cR_ [r_,.r [] [cr oz0],r_,b_,r_] (AV.tup [AV.agg [i64 0,i64 0,i64 0],i64 (slideE t n.nk n.ns n.np t.c).snd]) Tryz.func115 (.d2 oz0 hc0)).to (by (simp only[depthE];rw[i_ a_]))
 ·have gc0:(slideE t n.nk n.ns n.np t.c).snd=0:=bdf hc0
  have oz2:=(i6n (t.c*n.nk) a_)
  have oz3:=(i6n (t.c*n.nk*n.nk) a_)
  rcases bft (((K_ (row1 .i8) n.w).length:Int) != t.c*n.nk*n.nk || decide (((K_ (row1 .i8) n.w).length:Int)>16384) || ((K_ (row1 .i32) n.b).length:Int) != t.c) with hc1|hc1
  ·have gc1:(¬((K_ (row1 .i8) n.w).length:Int)=t.c*n.nk*n.nk∨((K_ (row1 .i8) n.w).length:Int)>16384)∨¬((K_ (row1 .i32) n.b).length:Int)=t.c:=gc0_ hc1
   exact (cR_ [r_,.r [] [cr oz0],r_,d_,.r [] [.n (nO oz2),.n (nO oz3),o_,o_,o_,o_,.sel 1,o_,o_,o_,o_,o_,o_,.sel 1],b_,r_] (AV.tup [AV.agg [i64 0,i64 0,i64 0],i64 9]) Tryz.func115 (.d5 oz0 hc0 oz2 oz3 hc1)).to (by (simp only[depthE,V_] at *;rw[j_ a_,i_ a_]))
  ·have gc1:(((K_ (row1 .i8) n.w).length:Int)=t.c*n.nk*n.nk∧¬((K_ (row1 .i8) n.w).length:Int)>16384)∧((K_ (row1 .i32) n.b).length:Int)=t.c:=gc0_ hc1
   exact (cR_ [r_,.r [] [cr oz0],r_,d_,.r [] [.n (nO oz2),.n (nO oz3),o_,o_,o_,o_,.sel 1,o_,o_,o_,o_,o_,o_,.sel 1],d_,r_] (AV.tup [AV.agg [i64 (slideE t n.nk n.ns n.np t.c).fst.h,i64 (slideE t n.nk n.ns n.np t.c).fst.x,i64 (slideE t n.nk n.ns n.np t.c).fst.c],i64 0]) Tryz.func115 (.d5 oz0 hc0 oz2 oz3 hc1)).to (by (simp only[depthE,V_] at *;rw[j_ a_,j_ a_]))
theorem elems_in (h x c:Int):0≤elems h x c∧elems h x c≤1024:=by
 unfold elems;split
 ·rename_i g
  have:=CC_ (CC_ (s_ (0≤h)) (s_ (0≤x))) (s_ (0≤c))
  omega
 ·omega
def denseE (t:Shp) (n:Nod):Shp×Int :=
 if elems t.h t.x t.c=0∨elems 1 1 n.no=0 then (⟨0,0,0⟩,5)
 else if (n.w.length:Int)≠n.no*elems t.h t.x t.c∨16384<(n.w.length:Int)∨(n.b.length:Int)≠n.no then (⟨0,0,0⟩,9) else (⟨1,1,n.no⟩,0)
theorem denseShape_v (t:Shp) (n:Nod) (ok:t.Ok) (okn:n.Ok):VC M_ 189 ([shp t,nod n]) (.tup [shp (denseE t n).1,i64 (denseE t n).2]):=by
 obtain ⟨p1,p2,p3⟩:=id ok
 have q2:=elems_in t.h t.x t.c
 have q3:=elems_in 1 1 n.no
 have q4:0<elems 1 1 n.no→1≤n.no∧n.no≤1024:=fun h=>by have:=elems_ok h;omega
 have q5:0<elems 1 1 n.no→0≤n.no*elems t.h t.x t.c∧n.no*elems t.h t.x t.c≤1024*1024:=fun h=>mul_bd (by have:=q4 h;omega) (q4 h).2 q2.1 q2.2
 have oz0:=@sRight_v (t) ok
 have oz1:=@sRight_v (Shp.mk 1 1 n.no) (by (exact Shp.mk_ok ⟨by decide,by decide⟩ ⟨by decide,by decide⟩ okn.no))
 rcases bft (!decide (0<elems t.h t.x t.c) || !decide (0<elems 1 1 n.no)) with hc0|hc0
 ·have gc0:¬0<elems t.h t.x t.c∨¬0<elems 1 1 n.no:=gc0_ hc0
  exact (cR_ [r_,r_,.r [] [cr oz0,o_,o_,cr oz1,o_,.sel 1],b_,r_] (AV.tup [AV.agg [i64 0,i64 0,i64 0],i64 5]) Tryz.func189 (.d3 oz0 oz1 hc0)).to (by (simp only[denseE];rw[i_ a_]))
 ·have gc0:0<elems t.h t.x t.c∧0<elems 1 1 n.no:=gc0_ hc0
  have oz3:=@elems_v (t.h) (t.x) (t.c) p1 p2 p3
  have oz4:=(i6n (n.no*elems t.h t.x t.c) a_)
  rcases bft (((K_ (row1 .i8) n.w).length:Int) != n.no*elems t.h t.x t.c || decide (((K_ (row1 .i8) n.w).length:Int)>16384) || ((K_ (row1 .i32) n.b).length:Int) != n.no) with hc1|hc1
  ·have gc1:(¬((K_ (row1 .i8) n.w).length:Int)=n.no*elems t.h t.x t.c∨((K_ (row1 .i8) n.w).length:Int)>16384)∨¬((K_ (row1 .i32) n.b).length:Int)=n.no:=gc0_ hc1
   exact (cR_ [r_,r_,.r [] [cr oz0,o_,o_,cr oz1,o_,.sel 1],d_,.r [] [cr oz3,.n (nO oz4),o_,o_,o_,o_,.sel 1,o_,o_,o_,o_,o_,o_,.sel 1],b_,r_] (AV.tup [AV.agg [i64 0,i64 0,i64 0],i64 9]) Tryz.func189 (.d6 oz0 oz1 hc0 oz3 oz4 hc1)).to (by (simp only[denseE,V_] at *;rw[j_ a_,i_ a_]))
  ·have gc1:(((K_ (row1 .i8) n.w).length:Int)=n.no*elems t.h t.x t.c∧¬((K_ (row1 .i8) n.w).length:Int)>16384)∧((K_ (row1 .i32) n.b).length:Int)=n.no:=gc0_ hc1
   exact (cR_ [r_,r_,.r [] [cr oz0,o_,o_,cr oz1,o_,.sel 1],d_,.r [] [cr oz3,.n (nO oz4),o_,o_,o_,o_,.sel 1,o_,o_,o_,o_,o_,o_,.sel 1],d_,r_] (AV.tup [AV.agg [i64 1,i64 1,i64 n.no],i64 0]) Tryz.func189 (.d6 oz0 oz1 hc0 oz3 oz4 hc1)).to (by (simp only[denseE,V_] at *;rw[j_ a_,j_ a_]))
theorem refDenseShape_v (t:Shp) (n:Nod) (ok:t.Ok) (okn:n.Ok):VC M_ 116 ([shp t,nod n]) (.tup [shp (denseE t n).1,i64 (denseE t n).2]):=by
 obtain ⟨p1,p2,p3⟩:=id ok
 have p4:=okn.no
 have p5:In64 1:=⟨by decide,by decide⟩
 have q2:=elems_in t.h t.x t.c
 have q3:=elems_in 1 1 n.no
 have q4:0<elems 1 1 n.no→1≤n.no∧n.no≤1024:=fun h=>by have:=elems_ok h;omega
 have q5:0<elems 1 1 n.no→0≤n.no*elems t.h t.x t.c∧n.no*elems t.h t.x t.c≤1024*1024:=fun h=>mul_bd (by have:=q4 h;omega) (q4 h).2 q2.1 q2.2
 have oz0:=@refElems_v (t.h) (t.x) (t.c) p1 p2 p3
 have oz1:=@refElems_v (1) (1) (n.no) p5 p5 p4
 rcases bft (elems t.h t.x t.c==0 || elems 1 1 n.no==0) with hc0|hc0
 ·have gc0:elems t.h t.x t.c=0∨elems 1 1 n.no=0:=gc0_ hc0
  exact (cR_ [r_,r_,.r [] [cr oz0,o_,o_,cr oz1,o_,.sel 1],b_,r_] (AV.tup [AV.agg [i64 0,i64 0,i64 0],i64 5]) Tryz.func116 (.d3 oz0 oz1 hc0)).to (by (simp only[denseE];rw[i_ a_]))
 ·have gc0:¬elems t.h t.x t.c=0∧¬elems 1 1 n.no=0:=gc0_ hc0
  have oz4:=(i6n (n.no*elems t.h t.x t.c) a_)
  rcases bft (((K_ (row1 .i8) n.w).length:Int) != n.no*elems t.h t.x t.c || decide (((K_ (row1 .i8) n.w).length:Int)>16384) || ((K_ (row1 .i32) n.b).length:Int) != n.no) with hc1|hc1
  ·have gc1:(¬((K_ (row1 .i8) n.w).length:Int)=n.no*elems t.h t.x t.c∨((K_ (row1 .i8) n.w).length:Int)>16384)∨¬((K_ (row1 .i32) n.b).length:Int)=n.no:=gc0_ hc1
   exact (cR_ [r_,r_,.r [] [cr oz0,o_,o_,cr oz1,o_,.sel 1],d_,.r [] [cr oz0,.n (nO oz4),o_,o_,o_,o_,.sel 1,o_,o_,o_,o_,o_,o_,.sel 1],b_,r_] (AV.tup [AV.agg [i64 0,i64 0,i64 0],i64 9]) Tryz.func116 (.d6 oz0 oz1 hc0 oz0 oz4 hc1)).to (by (simp only[denseE,V_] at *;rw[j_ a_,i_ a_]))
  ·have gc1:(((K_ (row1 .i8) n.w).length:Int)=n.no*elems t.h t.x t.c∧¬((K_ (row1 .i8) n.w).length:Int)>16384)∧((K_ (row1 .i32) n.b).length:Int)=n.no:=gc0_ hc1
   exact (cR_ [r_,r_,.r [] [cr oz0,o_,o_,cr oz1,o_,.sel 1],d_,.r [] [cr oz0,.n (nO oz4),o_,o_,o_,o_,.sel 1,o_,o_,o_,o_,o_,o_,.sel 1],d_,r_] (AV.tup [AV.agg [i64 1,i64 1,i64 n.no],i64 0]) Tryz.func116 (.d6 oz0 oz1 hc0 oz0 oz4 hc1)).to (by (simp only[denseE,V_] at *;rw[j_ a_,j_ a_]))
def aroundE (a:Shp) (p:Int):Shp×Int:=if p<0∨4<p then (⟨0,0,0⟩,2) else if elems (a.h+2*p) (a.x+2*p) a.c=0 then (⟨0,0,0⟩,5) else (⟨a.h+2*p,a.x+2*p,a.c⟩,0)
def shapeE (n:Nod) (a b:Shp):Shp×Int :=
 if n.kd=1 then convE a n else if n.kd=2 then depthE a n else if n.kd=3 then denseE a n else if n.kd=4∨n.kd=5 then slideE a n.nk n.ns n.np a.c
 else if n.kd<1∨9<n.kd then (⟨0,0,0⟩,6) else if elems a.h a.x a.c=0∨(n.kd=6∧¬(a.h=b.h∧a.x=b.x∧a.c=b.c)) then (⟨0,0,0⟩,5)
 else if n.kd=9 then (⟨1,1,elems a.h a.x a.c⟩,0) else if n.kd=8 then
  aroundE a n.np else (a,0)
end Go.Proofs.YtdfihaminnmgpaaGreat
