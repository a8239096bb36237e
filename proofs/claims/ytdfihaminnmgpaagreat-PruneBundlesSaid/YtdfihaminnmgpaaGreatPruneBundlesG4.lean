/- A part of this claim. No condition. -/
import Derived.Test.YtdfihaminnmgpaaGreatPruneBundlesG3
set_option maxRecDepth 100000
set_option maxHeartbeats 2000000
set_option linter.unusedVariables false
set_option linter.unusedSimpArgs false
set_option linter.unnecessarySimpa false
namespace Go.Proofs.YtdfihaminnmgpaaGreat
open Go.RowKit
open Bool renaming and_eq_true→O_,and_eq_false_iff→P_,or_eq_false_iff→Q_,not_eq_false'→T_,not_eq_true'→U_,or_eq_true→X_,and_true→B_,false_and→AD_,true_and→BN_,not_false→BP_,and_false→BR_,not_true→BS_,false_or→BT_,false_eq_true→BV_,or_false→BW_,true_eq_false→CH_,or_true→DL_
open Exit renaming exit→AA_,ret→DN_
open Int renaming mul_nonneg→BK_,tdiv_eq_ediv_of_nonneg→BE_,tmod_eq_emod_of_nonneg→CK_,reduceEq→CL_,not_lt→CO_,natCast_nonpos_iff→CY_
open IntKind renaming i64→L_,i8→R_,i32→V_
open IntWalk renaming i32_in→CV_
open List renaming map→K_,length_map→S_,getElem?_eq_getElem→W_,getD_eq_getElem?_getD→Z_,map_replicate→A_,map_append→C_,map_cons→D_,map_take→AK_,map_drop→AL_,map_nil→AM_,map_set→AN_,take→AW_,length_append→AX_,eq_nil_of_length_eq_zero→AC_,length_take→AE_,length_cons→AJ_,drop→BY_,length_drop→BZ_,length_nil→BB_,mem_append→CW_,length_eq_zero_iff→CX_,all_eq_true→CZ_,getElem_mem→CD_
open Nat renaming le_refl→AT_
open Tryz renaming prog→N_
open Value renaming int→AO_,bool→AI_,agg→BG_
open Weak renaming int→M_,tup→AS_,agg→AV_,rows→CM_,bool→DK_
open WeakL renaming refl→Y_
def nodEq (a b:Nod):Bool:=decide (a.w=b.w)&&decide (a.b=b.b)&&eqNums [(L_,a.kd,b.kd),(L_,a.na,b.na),(L_,a.nb,b.nb),(L_,a.nk,b.nk),(L_,a.ns,b.ns),(L_,a.np,b.np),(L_,a.no,b.no),(L_,0,0)] &&
 eqNums [(R_,a.za,b.za),(R_,a.zb,b.zb),(R_,a.lo,b.lo),(R_,a.hi,b.hi)]&&eqNums [(V_,a.qm,b.qm),(L_,a.qs,b.qs),(R_,a.qz,b.qz)]&&eqNums [(V_,a.rm,b.rm),(L_,a.rs,b.rs),(R_,a.rz,b.rz)]
theorem same_v (a b:Nod) (hw:a.w.length≤100000) (hb:a.b.length≤100000):VC N_ 161 ([nod a,nod b]) (bv (nodEq a b)):=by
 have oz0:=@eq8_v (a.w) (b.w) (by omega)
 have oz1:=@eq32_v (a.b) (b.b) (by omega)
 exact (cR_ [r_,.r [] [cr oz0,o_,o_,o_,o_,o_,cr oz1,.sel 2],.r [] [.v (AI_ (eqNums [(L_,a.kd,b.kd),(L_,a.na,b.na),(L_,a.nb,b.nb),(L_,a.nk,b.nk),(L_,a.ns,b.ns),(L_,a.np,b.np),(L_,a.no,b.no),(L_,0,0)]))],.r [] [.v (AI_ (eqNums [(R_,a.za,b.za),(R_,a.zb,b.zb),(R_,a.lo,b.lo),(R_,a.hi,b.hi)]))],.r [] [o_,.sel 2,o_,.sel 2,o_,o_,o_,o_,o_,.v (AI_ (eqNums [(V_,a.qm,b.qm),(L_,a.qs,b.qs),(R_,a.qz,b.qz)])),.sel 2,o_,o_,o_,o_,o_,.v (AI_ (eqNums [(V_,a.rm,b.rm),(L_,a.rs,b.rs),(R_,a.rz,b.rz)])),.sel 2]] (bv (decide (a.w=b.w)&&decide (a.b=b.b)&&eqNums [(L_,a.kd,b.kd),(L_,a.na,b.na),(L_,a.nb,b.nb),(L_,a.nk,b.nk),(L_,a.ns,b.ns),(L_,a.np,b.np),(L_,a.no,b.no),(L_,0,0)]&&eqNums [(R_,a.za,b.za),(R_,a.zb,b.zb),(R_,a.lo,b.lo),(R_,a.hi,b.hi)]&&eqNums [(V_,a.qm,b.qm),(L_,a.qs,b.qs),(R_,a.qz,b.qz)]&&eqNums [(V_,a.rm,b.rm),(L_,a.rs,b.rs),(R_,a.rz,b.rz)])) Tryz.func161 (.d6 oz0 oz1 (show BinTo N_ BinOp.eql 292 (Operand.tmp 34) (Operand.tmp 49) (BG_ #[AO_ L_ a.kd,AO_ L_ a.na,AO_ L_ a.nb,AO_ L_ a.nk,AO_ L_ a.ns,AO_ L_ a.np,AO_ L_ a.no,AO_ L_ 0]) (BG_ #[AO_ L_ b.kd,AO_ L_ b.na,AO_ L_ b.nb,AO_ L_ b.nk,AO_ L_ b.ns,AO_ L_ b.np,AO_ L_ b.no,AO_ L_ 0]) (AI_ (eqNums [(L_,a.kd,b.kd),(L_,a.na,b.na),(L_,a.nb,b.nb),(L_,a.nk,b.nk),(L_,a.ns,b.ns),(L_,a.np,b.np),(L_,a.no,b.no),(L_,0,0)])) from ((bin_arr (l:=[(L_,a.kd,b.kd),(L_,a.na,b.na),(L_,a.nb,b.nb),(L_,a.nk,b.nk),(L_,a.ns,b.ns),(L_,a.np,b.np),(L_,a.no,b.no),(L_,0,0)]) (by kernel_rfl) (by kernel_rfl) _ _).1)) (show BinTo N_ BinOp.eql 293 (Operand.tmp 59) (Operand.tmp 68) (BG_ #[AO_ R_ a.za,AO_ R_ a.zb,AO_ R_ a.lo,AO_ R_ a.hi]) (BG_ #[AO_ R_ b.za,AO_ R_ b.zb,AO_ R_ b.lo,AO_ R_ b.hi]) (AI_ (eqNums [(R_,a.za,b.za),(R_,a.zb,b.zb),(R_,a.lo,b.lo),(R_,a.hi,b.hi)])) from ((bin_arr (l:=[(R_,a.za,b.za),(R_,a.zb,b.zb),(R_,a.lo,b.lo),(R_,a.hi,b.hi)]) (by kernel_rfl) (by kernel_rfl) _ _).1)) (show BinTo N_ BinOp.eql 54 (Operand.tmp 79) (Operand.tmp 81) (BG_ #[AO_ V_ a.qm,AO_ L_ a.qs,AO_ R_ a.qz]) (BG_ #[AO_ V_ b.qm,AO_ L_ b.qs,AO_ R_ b.qz]) (AI_ (eqNums [(V_,a.qm,b.qm),(L_,a.qs,b.qs),(R_,a.qz,b.qz)])) from ((bin_nums (l:=[(V_,a.qm,b.qm),(L_,a.qs,b.qs),(R_,a.qz,b.qz)]) (by kernel_rfl) (by kernel_rfl) (by kernel_rfl) (by kernel_rfl) _ _).1)) (show BinTo N_ BinOp.eql 54 (Operand.tmp 86) (Operand.tmp 88) (BG_ #[AO_ V_ a.rm,AO_ L_ a.rs,AO_ R_ a.rz]) (BG_ #[AO_ V_ b.rm,AO_ L_ b.rs,AO_ R_ b.rz]) (AI_ (eqNums [(V_,a.rm,b.rm),(L_,a.rs,b.rs),(R_,a.rz,b.rz)])) from ((bin_nums (l:=[(V_,a.rm,b.rm),(L_,a.rs,b.rs),(R_,a.rz,b.rz)]) (by kernel_rfl) (by kernel_rfl) (by kernel_rfl) (by kernel_rfl) _ _).1)))).weak (Y_ _) (DK_ (by rfl))
theorem nodEq_iff (a b:Nod):nodEq a b=true↔a=b:=by
 obtain ⟨a1,a2,a3,a4,a5,a6,a7,a8,a9,a10,a11,a12,a13,a14,a15,a16,a17,a18,a19⟩:=a
 obtain ⟨b1,b2,b3,b4,b5,b6,b7,b8,b9,b10,b11,b12,b13,b14,b15,b16,b17,b18,b19⟩:=b
 simp only[nodEq,eqNums,O_,E_,I_,Nod.mk.injEq]
 constructor
 ·rintro ⟨⟨⟨⟨⟨h1,h2⟩,h3⟩,h4⟩,h5⟩,h6⟩
  exact ⟨h3.1,h3.2.1,h3.2.2.1,h3.2.2.2.1,h3.2.2.2.2.1,h3.2.2.2.2.2.1,h3.2.2.2.2.2.2.1,h4.1,h4.2.1,h1,h2,h5.1,h5.2.1,h5.2.2.1,h6.1,h6.2.1,h6.2.2.1,h4.2.2.1,h4.2.2.2.1⟩
 ·rintro ⟨h1,h2,h3,h4,h5,h6,h7,h8,h9,h10,h11,h12,h13,h14,h15,h16,h17,h18,h19⟩
  exact ⟨⟨⟨⟨⟨h10,h11⟩,h1,h2,h3,h4,h5,h6,h7,trivial,trivial⟩,h8,h9,h18,h19,trivial⟩,h12,h13,h14,trivial⟩,h15,h16,h17,trivial⟩
theorem refScaled_v (k:Int)  : VC N_ 112 ([i64 k]) (bv (((k==1 || k==2) || k==3) || k==6 || k==7)):=by
 exact cR_ [r_,.r [] [o_,o_,.sel 1,o_,o_,.sel 1,o_,o_,.sel 1,o_,o_,.sel 1]] _ Tryz.func112 (.n)
def scaledB (k:Int):Bool:=((k==1 || k==2) || k==3) || k==6 || k==7
def moreE (n:Nod):Bool :=
 (!(n.kd==1 || n.kd==2 || n.kd==3)&&(decide ((n.w.length:Int)>0) || decide ((n.b.length:Int)>0)) || n.kd != 1&&n.kd != 3&&n.no != 0) ||
 (!(n.kd==1 || n.kd==2 || n.kd==4 || n.kd==5)&&(n.nk != 0 || n.ns != 0) || !(n.kd==1 || n.kd==2 || n.kd==4 || n.kd==5)&&n.kd != 8&&n.np != 0) ||
 (n.kd != 6&&(n.nb != 0 || n.zb != 0 || n.rm != 0 || n.rs != 0) || n.rz != 0) ||
 (!scaledB n.kd&&(n.qm != 0 || n.qs != 0 || n.qz != 0 || n.lo != 0 || n.hi != 0)) || (!scaledB n.kd&&n.kd != 8&&n.za != 0)
theorem moreE_last {n:Nod} (h0:(!(n.kd==1 || n.kd==2 || n.kd==3)&&(decide (((K_ (row1 .i8) n.w).length:Int)>0) || decide (((K_ (row1 .i32) n.b).length:Int)>0)) || n.kd != 1&&n.kd != 3&&n.no != 0)=false) (h1:(!(n.kd==1 || n.kd==2 || n.kd==4 || n.kd==5)&&(n.nk != 0 || n.ns != 0) || !(n.kd==1 || n.kd==2 || n.kd==4 || n.kd==5)&&n.kd != 8&&n.np != 0)=false) (h2:(n.kd != 6&&(n.nb != 0 || n.zb != 0 || n.rm != 0 || n.rs != 0) || n.rz != 0)=false) (h3:(!(n.kd==1 || n.kd==2 || n.kd==3 || n.kd==6 || n.kd==7)&&(n.qm != 0 || n.qs != 0 || n.qz != 0 || n.lo != 0 || n.hi != 0))=false):(!(n.kd==1 || n.kd==2 || n.kd==3 || n.kd==6 || n.kd==7)&&n.kd != 8&&n.za != 0)=moreE n:=by
 rw[S_,S_] at h0
 unfold moreE scaledB
 rw[h0,h1,h2,h3];rfl
theorem moreE_0 {n:Nod} (h0:(!(n.kd==1 || n.kd==2 || n.kd==3)&&(decide (((K_ (row1 .i8) n.w).length:Int)>0) || decide (((K_ (row1 .i32) n.b).length:Int)>0)) || n.kd != 1&&n.kd != 3&&n.no != 0)=true):true=moreE n:=by
 rw[S_,S_] at h0
 unfold moreE
 rw[h0];rfl
theorem moreE_1 {n:Nod} (h1:(!(n.kd==1 || n.kd==2 || n.kd==4 || n.kd==5)&&(n.nk != 0 || n.ns != 0) || !(n.kd==1 || n.kd==2 || n.kd==4 || n.kd==5)&&n.kd != 8&&n.np != 0)=true):true=moreE n:=by
 unfold moreE
 rw[h1,DL_];rfl
theorem moreE_2 {n:Nod} (h1:(n.kd != 6&&(n.nb != 0 || n.zb != 0 || n.rm != 0 || n.rs != 0) || n.rz != 0)=true):true=moreE n:=by
 unfold moreE
 rw[h1,DL_];rfl
theorem moreE_3 {n:Nod} (h1:(!(n.kd==1 || n.kd==2 || n.kd==3 || n.kd==6 || n.kd==7)&&(n.qm != 0 || n.qs != 0 || n.qz != 0 || n.lo != 0 || n.hi != 0))=true):true=moreE n:=by
 unfold moreE scaledB
 rw[h1,DL_];rfl
theorem refMore_v (n:Nod) (hw:n.w.length≤100000) (hb:n.b.length≤100000):VC N_ 111 ([nod n]) (bv (moreE n)):=by
 rcases bft (!(n.kd==1 || n.kd==2 || n.kd==3)&&(decide (((K_ (row1 .i8) n.w).length:Int)>0) || decide (((K_ (row1 .i32) n.b).length:Int)>0)) || n.kd != 1&&n.kd != 3&&n.no != 0) with hc0|hc0
 ·have gc0:((¬n.kd=1∧¬n.kd=2)∧¬n.kd=3)∧(((K_ (row1 .i8) n.w).length:Int)>0∨((K_ (row1 .i32) n.b).length:Int)>0)∨(¬n.kd=1∧¬n.kd=3)∧¬n.no=0:=gc0_ hc0
  exact (cR_ [r_,r_,.r [] [o_,o_,.sel 1,o_,o_,.sel 1,o_,o_,.sel 1],.r [] [o_,o_,.sel 1,o_,o_,.sel 1],.r [] [o_,o_,o_,o_,o_,o_,o_,o_,o_,o_,.sel 1,.sel 2,o_,o_,o_,o_,o_,o_,.sel 2,o_,o_,o_,o_,o_,.sel 2,.sel 1],b_,r_] (bv true) Tryz.func111 (.d hc0)).weak (Y_ _) (DK_ (by (exact moreE_0 (by assumption))))
 ·have gc0:(((n.kd=1∨n.kd=2)∨n.kd=3)∨¬((K_ (row1 .i8) n.w).length:Int)>0∧¬((K_ (row1 .i32) n.b).length:Int)>0)∧((n.kd=1∨n.kd=3)∨n.no=0):=gc0_ hc0
  rcases bft (!(n.kd==1 || n.kd==2 || n.kd==4 || n.kd==5)&&(n.nk != 0 || n.ns != 0) || !(n.kd==1 || n.kd==2 || n.kd==4 || n.kd==5)&&n.kd != 8&&n.np != 0) with hc1|hc1
  ·have gc1:(((¬n.kd=1∧¬n.kd=2)∧¬n.kd=4)∧¬n.kd=5)∧(¬n.nk=0∨¬n.ns=0)∨((((¬n.kd=1∧¬n.kd=2)∧¬n.kd=4)∧¬n.kd=5)∧¬n.kd=8)∧¬n.np=0:=gc0_ hc1
   exact (cR_ [r_,r_,.r [] [o_,o_,.sel 1,o_,o_,.sel 1,o_,o_,.sel 1],.r [] [o_,o_,.sel 1,o_,o_,.sel 1],.r [] [o_,o_,o_,o_,o_,o_,o_,o_,o_,o_,.sel 1,.sel 2,o_,o_,o_,o_,o_,o_,.sel 2,o_,o_,o_,o_,o_,.sel 2,.sel 1],d_,.r [] [o_,o_,o_,o_,o_,o_,o_,o_,.sel 1,.sel 2,o_,o_,o_,o_,o_,o_,.sel 2,o_,o_,o_,o_,o_,.sel 2,.sel 1],b_,r_] (bv true) Tryz.func111 (.d2 hc0 hc1)).weak (Y_ _) (DK_ (by (exact moreE_1 (by assumption))))
  ·have gc1:((((n.kd=1∨n.kd=2)∨n.kd=4)∨n.kd=5)∨n.nk=0∧n.ns=0)∧(((((n.kd=1∨n.kd=2)∨n.kd=4)∨n.kd=5)∨n.kd=8)∨n.np=0):=gc0_ hc1
   rcases bft (n.kd != 6&&(n.nb != 0 || n.zb != 0 || n.rm != 0 || n.rs != 0) || n.rz != 0) with hc2|hc2
   ·have gc2:¬n.kd=6∧(((¬n.nb=0∨¬n.zb=0)∨¬n.rm=0)∨¬n.rs=0)∨¬n.rz=0:=gc0_ hc2
    exact (cR_ [r_,r_,.r [] [o_,o_,.sel 1,o_,o_,.sel 1,o_,o_,.sel 1],.r [] [o_,o_,.sel 1,o_,o_,.sel 1],.r [] [o_,o_,o_,o_,o_,o_,o_,o_,o_,o_,.sel 1,.sel 2,o_,o_,o_,o_,o_,o_,.sel 2,o_,o_,o_,o_,o_,.sel 2,.sel 1],d_,.r [] [o_,o_,o_,o_,o_,o_,o_,o_,.sel 1,.sel 2,o_,o_,o_,o_,o_,o_,.sel 2,o_,o_,o_,o_,o_,.sel 2,.sel 1],d_,.r [] [o_,o_,o_,o_,o_,o_,o_,o_,.sel 1,o_,o_,o_,o_,o_,o_,.sel 1,o_,o_,o_,o_,o_,o_,.sel 1,.sel 2,o_,o_,o_,o_,.sel 1],b_,r_] (bv true) Tryz.func111 (.d3 hc0 hc1 hc2)).weak (Y_ _) (DK_ (by (exact moreE_2 (by assumption))))
   ·have gc2:(n.kd=6∨((n.nb=0∧n.zb=0)∧n.rm=0)∧n.rs=0)∧n.rz=0:=gc0_ hc2
    have oz3:=@refScaled_v (n.kd)
    rcases bft (!(n.kd==1 || n.kd==2 || n.kd==3 || n.kd==6 || n.kd==7)&&(n.qm != 0 || n.qs != 0 || n.qz != 0 || n.lo != 0 || n.hi != 0)) with hc3|hc3
    ·have gc3:((((¬n.kd=1∧¬n.kd=2)∧¬n.kd=3)∧¬n.kd=6)∧¬n.kd=7)∧((((¬n.qm=0∨¬n.qs=0)∨¬n.qz=0)∨¬n.lo=0)∨¬n.hi=0):=gc0_ hc3
     exact (cR_ [r_,r_,.r [] [o_,o_,.sel 1,o_,o_,.sel 1,o_,o_,.sel 1],.r [] [o_,o_,.sel 1,o_,o_,.sel 1],.r [] [o_,o_,o_,o_,o_,o_,o_,o_,o_,o_,.sel 1,.sel 2,o_,o_,o_,o_,o_,o_,.sel 2,o_,o_,o_,o_,o_,.sel 2,.sel 1],d_,.r [] [o_,o_,o_,o_,o_,o_,o_,o_,.sel 1,.sel 2,o_,o_,o_,o_,o_,o_,.sel 2,o_,o_,o_,o_,o_,.sel 2,.sel 1],d_,.r [] [o_,o_,o_,o_,o_,o_,o_,o_,.sel 1,o_,o_,o_,o_,o_,o_,.sel 1,o_,o_,o_,o_,o_,o_,.sel 1,.sel 2,o_,o_,o_,o_,.sel 1],d_,.r [] [cr oz3,o_,o_,o_,o_,o_,o_,o_,o_,o_,o_,.sel 1,o_,o_,o_,o_,o_,o_,.sel 1,o_,o_,o_,o_,o_,.sel 1,o_,o_,o_,o_,o_,.sel 1,.sel 2],b_,r_] (bv true) Tryz.func111 (.d5 hc0 hc1 hc2 oz3 hc3)).weak (Y_ _) (DK_ (by (exact moreE_3 (by assumption))))
    ·have gc3:((((n.kd=1∨n.kd=2)∨n.kd=3)∨n.kd=6)∨n.kd=7)∨(((n.qm=0∧n.qs=0)∧n.qz=0)∧n.lo=0)∧n.hi=0:=gc0_ hc3
     exact (cR_ [r_,r_,.r [] [o_,o_,.sel 1,o_,o_,.sel 1,o_,o_,.sel 1],.r [] [o_,o_,.sel 1,o_,o_,.sel 1],.r [] [o_,o_,o_,o_,o_,o_,o_,o_,o_,o_,.sel 1,.sel 2,o_,o_,o_,o_,o_,o_,.sel 2,o_,o_,o_,o_,o_,.sel 2,.sel 1],d_,.r [] [o_,o_,o_,o_,o_,o_,o_,o_,.sel 1,.sel 2,o_,o_,o_,o_,o_,o_,.sel 2,o_,o_,o_,o_,o_,.sel 2,.sel 1],d_,.r [] [o_,o_,o_,o_,o_,o_,o_,o_,.sel 1,o_,o_,o_,o_,o_,o_,.sel 1,o_,o_,o_,o_,o_,o_,.sel 1,.sel 2,o_,o_,o_,o_,.sel 1],d_,.r [] [cr oz3,o_,o_,o_,o_,o_,o_,o_,o_,o_,o_,.sel 1,o_,o_,o_,o_,o_,o_,.sel 1,o_,o_,o_,o_,o_,.sel 1,o_,o_,o_,o_,o_,.sel 1,.sel 2],d_,.r [] [cr oz3,o_,o_,.sel 2,o_,o_,o_,.sel 2]] (bv (!(n.kd==1 || n.kd==2 || n.kd==3 || n.kd==6 || n.kd==7)&&n.kd != 8&&n.za != 0)) Tryz.func111 (.d6 hc0 hc1 hc2 oz3 hc3 oz3)).weak (Y_ _) (DK_ (by (exact moreE_last (by assumption) (by assumption) (by assumption) (by assumption))))
def checkE (n:Nod):Int:=if n.kd<1∨9<n.kd then 6 else if moreE n=true then 2 else if (scaledB n.kd && !rightQ n.qm n.qs || n.kd==6 && !rightQ n.rm n.rs)=true then 7 else if (scaledB n.kd&&decide (n.lo>n.hi))=true then 2 else 0
theorem more1 (n:Nod) (h:n.kd=1):n=(⟨n.kd,n.na,0,n.nk,n.ns,n.np,n.no,n.za,0,n.w,n.b,n.qm,n.qs,n.qz,0,0,0,n.lo,n.hi⟩:Nod)↔moreE n=false:=by
 unfold moreE scaledB
 cases n
 simp only at h
 subst h
 simp only[Nod.mk.injEq,true_and,and_true,Q_,P_,G_,beq_self_eq_true,Bool.true_or,DL_,BS_,AD_,BW_,BR_,true_or,or_true,and_self,Bool.or_self,BT_,T_,F_,Int.reduceBEq,Int.reduceBNe,CL_,BP_,BN_,B_,false_or,or_false,CO_,gt_iff_lt,BV_,CH_,CY_,CX_]
 first|done|(constructor<;>intro h<;>simp_all)|omega
theorem more2 (n:Nod) (h:n.kd=2):n=(⟨n.kd,n.na,0,n.nk,n.ns,n.np,0,n.za,0,n.w,n.b,n.qm,n.qs,n.qz,0,0,0,n.lo,n.hi⟩:Nod)↔moreE n=false:=by
 unfold moreE scaledB
 cases n
 simp only at h
 subst h
 simp only[Nod.mk.injEq,true_and,and_true,Q_,P_,G_,beq_self_eq_true,Bool.true_or,DL_,BS_,AD_,BW_,BR_,true_or,or_true,and_self,Bool.or_self,BT_,T_,F_,Int.reduceBEq,Int.reduceBNe,CL_,BP_,BN_,B_,false_or,or_false,CO_,gt_iff_lt,BV_,CH_,CY_,CX_]
 first|done|(constructor<;>intro h<;>simp_all)|omega
theorem more3 (n:Nod) (h:n.kd=3):n=(⟨n.kd,n.na,0,0,0,0,n.no,n.za,0,n.w,n.b,n.qm,n.qs,n.qz,0,0,0,n.lo,n.hi⟩:Nod)↔moreE n=false:=by
 unfold moreE scaledB
 cases n
 simp only at h
 subst h
 simp only[Nod.mk.injEq,true_and,and_true,Q_,P_,G_,beq_self_eq_true,Bool.true_or,DL_,BS_,AD_,BW_,BR_,true_or,or_true,and_self,Bool.or_self,BT_,T_,F_,Int.reduceBEq,Int.reduceBNe,CL_,BP_,BN_,B_,false_or,or_false,CO_,gt_iff_lt,BV_,CH_,CY_,CX_]
 first|done|(constructor<;>intro h<;>simp_all)|omega
theorem more4 (n:Nod) (h:n.kd=4):n=(⟨n.kd,n.na,0,n.nk,n.ns,n.np,0,0,0,[],[],0,0,0,0,0,0,0,0⟩:Nod)↔moreE n=false:=by
 unfold moreE scaledB
 cases n
 simp only at h
 subst h
 simp only[Nod.mk.injEq,true_and,and_true,Q_,P_,G_,beq_self_eq_true,Bool.true_or,DL_,BS_,AD_,BW_,BR_,true_or,or_true,and_self,Bool.or_self,BT_,T_,F_,Int.reduceBEq,Int.reduceBNe,CL_,BP_,BN_,B_,false_or,or_false,CO_,gt_iff_lt,BV_,CH_,CY_,CX_]
 first|done|(constructor<;>intro h<;>simp_all)|omega
theorem more5 (n:Nod) (h:n.kd=5):n=(⟨n.kd,n.na,0,n.nk,n.ns,n.np,0,0,0,[],[],0,0,0,0,0,0,0,0⟩:Nod)↔moreE n=false:=by
 unfold moreE scaledB
 cases n
 simp only at h
 subst h
 simp only[Nod.mk.injEq,true_and,and_true,Q_,P_,G_,beq_self_eq_true,Bool.true_or,DL_,BS_,AD_,BW_,BR_,true_or,or_true,and_self,Bool.or_self,BT_,T_,F_,Int.reduceBEq,Int.reduceBNe,CL_,BP_,BN_,B_,false_or,or_false,CO_,gt_iff_lt,BV_,CH_,CY_,CX_]
 first|done|(constructor<;>intro h<;>simp_all)|omega
theorem more6 (n:Nod) (h:n.kd=6):n=(⟨n.kd,n.na,n.nb,0,0,0,0,n.za,n.zb,[],[],n.qm,n.qs,n.qz,n.rm,n.rs,0,n.lo,n.hi⟩:Nod)↔moreE n=false:=by
 unfold moreE scaledB
 cases n
 simp only at h
 subst h
 simp only[Nod.mk.injEq,true_and,and_true,Q_,P_,G_,beq_self_eq_true,Bool.true_or,DL_,BS_,AD_,BW_,BR_,true_or,or_true,and_self,Bool.or_self,BT_,T_,F_,Int.reduceBEq,Int.reduceBNe,CL_,BP_,BN_,B_,false_or,or_false,CO_,gt_iff_lt,BV_,CH_,CY_,CX_]
 first|done|(constructor<;>intro h<;>simp_all)|omega
theorem more7 (n:Nod) (h:n.kd=7):n=(⟨n.kd,n.na,0,0,0,0,0,n.za,0,[],[],n.qm,n.qs,n.qz,0,0,0,n.lo,n.hi⟩:Nod)↔moreE n=false:=by
 unfold moreE scaledB
 cases n
 simp only at h
 subst h
 simp only[Nod.mk.injEq,true_and,and_true,Q_,P_,G_,beq_self_eq_true,Bool.true_or,DL_,BS_,AD_,BW_,BR_,true_or,or_true,and_self,Bool.or_self,BT_,T_,F_,Int.reduceBEq,Int.reduceBNe,CL_,BP_,BN_,B_,false_or,or_false,CO_,gt_iff_lt,BV_,CH_,CY_,CX_]
 first|done|(constructor<;>intro h<;>simp_all)|omega
theorem more8 (n:Nod) (h:n.kd=8):n=(⟨n.kd,n.na,0,0,0,n.np,0,n.za,0,[],[],0,0,0,0,0,0,0,0⟩:Nod)↔moreE n=false:=by
 unfold moreE scaledB
 cases n
 simp only at h
 subst h
 simp only[Nod.mk.injEq,true_and,and_true,Q_,P_,G_,beq_self_eq_true,Bool.true_or,DL_,BS_,AD_,BW_,BR_,true_or,or_true,and_self,Bool.or_self,BT_,T_,F_,Int.reduceBEq,Int.reduceBNe,CL_,BP_,BN_,B_,false_or,or_false,CO_,gt_iff_lt,BV_,CH_,CY_,CX_]
 first|done|(constructor<;>intro h<;>simp_all)|omega
theorem more9 (n:Nod) (h:n.kd=9):n=(⟨n.kd,n.na,0,0,0,0,0,0,0,[],[],0,0,0,0,0,0,0,0⟩:Nod)↔moreE n=false:=by
 unfold moreE scaledB
 cases n
 simp only at h
 subst h
 simp only[Nod.mk.injEq,true_and,and_true,Q_,P_,G_,beq_self_eq_true,Bool.true_or,DL_,BS_,AD_,BW_,BR_,true_or,or_true,and_self,Bool.or_self,BT_,T_,F_,Int.reduceBEq,Int.reduceBNe,CL_,BP_,BN_,B_,false_or,or_false,CO_,gt_iff_lt,BV_,CH_,CY_,CX_]
 first|done|(constructor<;>intro h<;>simp_all)|omega
theorem more_iff (n:Nod) (h0:1≤n.kd) (h9:n.kd≤9):nodEq n (plainN n) = !moreE n:=by
 have:n.kd=1∨n.kd=2∨n.kd=3∨n.kd=4∨n.kd=5∨n.kd=6∨n.kd=7∨n.kd=8∨n.kd=9:=by omega
 have key:n=plainN n↔moreE n=false:=by
  unfold plainN
  rcases this with h|h|h|h|h|h|h|h|h
  ·have e:=more1 n h;simp only[h,CL_,if_true,if_false] at e ⊢;exact e
  ·have e:=more2 n h;simp only[h,CL_,if_true,if_false] at e ⊢;exact e
  ·have e:=more3 n h;simp only[h,CL_,if_true,if_false] at e ⊢;exact e
  ·have e:=more4 n h;simp only[h,CL_,if_true,if_false] at e ⊢;exact e
  ·have e:=more5 n h;simp only[h,CL_,if_true,if_false] at e ⊢;exact e
  ·have e:=more6 n h;simp only[h,CL_,if_true,if_false] at e ⊢;exact e
  ·have e:=more7 n h;simp only[h,CL_,if_true,if_false] at e ⊢;exact e
  ·have e:=more8 n h;simp only[h,CL_,if_true,if_false] at e ⊢;exact e
  ·have e:=more9 n h;simp only[h,CL_,if_true,if_false] at e ⊢;exact e
 rw[Bool.eq_iff_iff,nodEq_iff,key,U_]
theorem ck_eq {n:Nod} (h0:1≤n.kd) (h9:n.kd≤9):checkE n=if moreE n=true then 2 else if (((n.kd==1 || n.kd==2 || n.kd==3 || n.kd==6 || n.kd==7) && !rightQ n.qm n.qs) || (n.kd==6 && !rightQ n.rm n.rs))=true then 7 else if ((n.kd==1 || n.kd==2 || n.kd==3 || n.kd==6 || n.kd==7)&&decide (n.lo>n.hi))=true then 2 else 0:=by
 unfold checkE;rw[j_ (by omega)];rfl
theorem ck2 {n:Nod} (h0:1≤n.kd) (h9:n.kd≤9) (h:moreE n=true):2=checkE n:=by rw[ck_eq h0 h9,i_ h]
theorem ck7 {n:Nod} (h0:1≤n.kd) (h9:n.kd≤9) (h:moreE n=false) (q:(((n.kd==1 || n.kd==2 || n.kd==3 || n.kd==6 || n.kd==7) && !rightQ n.qm n.qs) || (n.kd==6 && !rightQ n.rm n.rs))=true):7=checkE n:=by rw[ck_eq h0 h9,j_ (by simp[h]),i_ q]
theorem ck2b {n:Nod} (h0:1≤n.kd) (h9:n.kd≤9) (h:moreE n=false) (q:(((n.kd==1 || n.kd==2 || n.kd==3 || n.kd==6 || n.kd==7) && !rightQ n.qm n.qs) || (n.kd==6 && !rightQ n.rm n.rs))=false) (l:((n.kd==1 || n.kd==2 || n.kd==3 || n.kd==6 || n.kd==7)&&decide (n.lo>n.hi))=true):2=checkE n:=by rw[ck_eq h0 h9,j_ (by simp[h]),j_ (by rw[q];simp),i_ l]
theorem ck0 {n:Nod} (h0:1≤n.kd) (h9:n.kd≤9) (h:moreE n=false) (q:(((n.kd==1 || n.kd==2 || n.kd==3 || n.kd==6 || n.kd==7) && !rightQ n.qm n.qs) || (n.kd==6 && !rightQ n.rm n.rs))=false) (l:((n.kd==1 || n.kd==2 || n.kd==3 || n.kd==6 || n.kd==7)&&decide (n.lo>n.hi))=false):0=checkE n:=by rw[ck_eq h0 h9,j_ (by simp[h]),j_ (by rw[q];simp),j_ (by rw[l];simp)]
theorem nq {n:Nod} {b:Bool} (h2:nodEq n (plainN n) = !moreE n) (h:(!nodEq n (plainN n))=b):moreE n=b:=by rw[←h,h2,Bool.not_not]
theorem orf {a b:Bool} (h:a=false) (h':b=false):(a || b)=false:=by rw[h,h'];rfl
theorem orl {a b:Bool} (h:a=true):(a || b)=true:=by rw[h];rfl
theorem orr {a b:Bool} (h:b=true):(a || b)=true:=by rw[h,DL_]
theorem refCheck_n (n:Nod) (hk:In64 n.kd) (hn:n.kd<1∨9<n.kd):VC N_ 77 ([nod n]) (i64 (checkE n)):=by
 have h2:=nameEq_out hn
 have oz0:=@refName_v (n.kd) hk
 exact (cR_ [r_,.r [] [cr oz0],b_,r_] (i64 6) Tryz.func77 (.d2 oz0 h2)).to (by (simp only[checkE];rw[i_ hn]))
theorem refCheck_y (n:Nod) (hw:n.w.length≤100000) (hb:n.b.length≤100000) (hk:1≤n.kd) (hk9:n.kd≤9):VC N_ 77 ([nod n]) (i64 (checkE n)):=by
 have h1:=nameEq_in hk hk9
 have oz0:=@refName_v (n.kd) (by omega)
 have oz2:=@refMore_v (n) hw hb
 rcases bft (moreE n) with hc0|hc0
 ·have gc0:moreE n=true:=by first|exact hc0|exact of_decide_eq_true hc0|exact of_decide_eq_false hc0|simpa [eqNums] using hc0|(simp[eqNums] at hc0 ⊢;first|done|assumption|omega)
  exact (cR_ [r_,.r [] [cr oz0],d_,.r [] [cr oz2],b_,r_] (i64 2) Tryz.func77 (.d4 oz0 h1 oz2 hc0)).weak (Y_ _) (M_ (by (exact ck2 hk hk9 (by assumption))))
 ·have gc0:moreE n=false:=by first|exact hc0|exact of_decide_eq_true hc0|exact of_decide_eq_false hc0|simpa [eqNums] using hc0|(simp[eqNums] at hc0 ⊢;first|done|assumption|omega)
  have oz4:=@refScaled_v (n.kd)
  have oz5:=@refRight_v (n.qm) (n.qs) (n.qz)
  have oz6:=@refRight_v (n.rm) (n.rs) (n.rz)
  rcases bft ((n.kd==1 || n.kd==2 || n.kd==3 || n.kd==6 || n.kd==7) && !rightQ n.qm n.qs || n.kd==6 && !rightQ n.rm n.rs) with hc1|hc1
  ·have gc1:((((n.kd=1∨n.kd=2)∨n.kd=3)∨n.kd=6)∨n.kd=7)∧rightQ n.qm n.qs=false∨n.kd=6∧rightQ n.rm n.rs=false:=gc0_ hc1
   exact (cR_ [r_,.r [] [cr oz0],d_,.r [] [cr oz2],d_,.r [] [cr oz4,o_,o_,o_,cr oz5,o_,.sel 2,o_,o_,o_,o_,o_,o_,o_,cr oz6,o_,o_,.sel 2,.sel 1],b_,r_] (i64 7) Tryz.func77 (.d8 oz0 h1 oz2 hc0 oz4 oz5 oz6 hc1)).weak (Y_ _) (M_ (by (exact ck7 hk hk9 (by assumption) (by assumption))))
  ·have gc1:((((¬n.kd=1∧¬n.kd=2)∧¬n.kd=3)∧¬n.kd=6)∧¬n.kd=7∨rightQ n.qm n.qs=true)∧(¬n.kd=6∨rightQ n.rm n.rs=true):=gc0_ hc1
   rcases bft ((n.kd==1 || n.kd==2 || n.kd==3 || n.kd==6 || n.kd==7)&&decide (n.lo>n.hi)) with hc2|hc2
   ·have gc2:((((n.kd=1∨n.kd=2)∨n.kd=3)∨n.kd=6)∨n.kd=7)∧n.lo>n.hi:=gc0_ hc2
    exact (cR_ [r_,.r [] [cr oz0],d_,.r [] [cr oz2],d_,.r [] [cr oz4,o_,o_,o_,cr oz5,o_,.sel 2,o_,o_,o_,o_,o_,o_,o_,cr oz6,o_,o_,.sel 2,.sel 1],d_,.r [] [cr oz4,o_,o_,o_,o_,o_,.sel 2],b_,r_] (i64 2) Tryz.func77 (.c8 oz0 h1 oz2 hc0 oz4 oz5 oz6 hc1<|.d2 oz4 hc2)).weak (Y_ _) (M_ (by (exact ck2b hk hk9 (by assumption) (by assumption) (by assumption))))
   ·have gc2:(((¬n.kd=1∧¬n.kd=2)∧¬n.kd=3)∧¬n.kd=6)∧¬n.kd=7∨¬n.lo>n.hi:=gc0_ hc2
    exact (cR_ [r_,.r [] [cr oz0],d_,.r [] [cr oz2],d_,.r [] [cr oz4,o_,o_,o_,cr oz5,o_,.sel 2,o_,o_,o_,o_,o_,o_,o_,cr oz6,o_,o_,.sel 2,.sel 1],d_,.r [] [cr oz4,o_,o_,o_,o_,o_,.sel 2],d_,r_] (i64 0) Tryz.func77 (.c8 oz0 h1 oz2 hc0 oz4 oz5 oz6 hc1<|.d2 oz4 hc2)).weak (Y_ _) (M_ (by (exact ck0 hk hk9 (by assumption) (by assumption) (by assumption))))
theorem refCheck_v (n:Nod) (hw:n.w.length≤100000) (hb:n.b.length≤100000) (hk:In64 n.kd):VC N_ 77 [nod n] (i64 (checkE n)):=by
 by_cases h:n.kd<1∨9<n.kd
 ·exact refCheck_n n hk h
 ·exact refCheck_y n hw hb (by omega) (by omega)
theorem plain_v (n:Nod) (hw:n.w.length≤100000) (hb:n.b.length≤100000) (h0:1≤n.kd) (h9:n.kd≤9):VC N_ 162 [nod n] (nod (plainN n)):=by
 have:n.kd=1∨n.kd=2∨n.kd=3∨n.kd=4∨n.kd=5∨n.kd=6∨n.kd=7∨n.kd=8∨n.kd=9:=by omega
 unfold plainN
 rcases this with h|h|h|h|h|h|h|h|h
 ·have e:=plain1 n h hw hb;simp only[h,CL_,if_true,if_false] at e ⊢;exact e
 ·have e:=plain2 n h hw hb;simp only[h,CL_,if_true,if_false] at e ⊢;exact e
 ·have e:=plain3 n h hw hb;simp only[h,CL_,if_true,if_false] at e ⊢;exact e
 ·have e:=plain4 n h hw hb;simp only[h,CL_,if_true,if_false] at e ⊢;exact e
 ·have e:=plain5 n h hw hb;simp only[h,CL_,if_true,if_false] at e ⊢;exact e
 ·have e:=plain6 n h hw hb;simp only[h,CL_,if_true,if_false] at e ⊢;exact e
 ·have e:=plain7 n h hw hb;simp only[h,CL_,if_true,if_false] at e ⊢;exact e
 ·have e:=plain8 n h hw hb;simp only[h,CL_,if_true,if_false] at e ⊢;exact e
 ·have e:=plain9 n h hw hb;simp only[h,CL_,if_true,if_false] at e ⊢;exact e
theorem check_n (n:Nod) (hk:In64 n.kd) (hn:n.kd<1∨9<n.kd):VC N_ 130 ([nod n]) (i64 (checkE n)):=by
 have h2:=nameEq_out hn
 have oz0:=@name_v (n.kd) hk
 exact (cR_ [r_,.r [] [cr oz0],b_,r_] (i64 6) Tryz.func130 (.d2 oz0 h2)).to (by (simp only[checkE];rw[i_ hn]))
theorem check_y (n:Nod) (hw:n.w.length≤100000) (hb:n.b.length≤100000) (hk:1≤n.kd) (hk9:n.kd≤9):VC N_ 130 ([nod n]) (i64 (checkE n)):=by
 have h1:=nameEq_in hk hk9
 have h2:=more_iff n hk hk9
 have oz0:=@name_v (n.kd) (by omega)
 have oz2:=@plain_v (n) hw hb hk hk9
 have oz3:=@same_v (n) (plainN n) hw hb
 rcases bft (!nodEq n (plainN n)) with hc0|hc0
 ·have gc0:nodEq n (plainN n)=false:=by first|exact hc0|exact of_decide_eq_true hc0|exact of_decide_eq_false hc0|simpa [eqNums] using hc0|(simp[eqNums] at hc0 ⊢;first|done|assumption|omega)
  exact (cR_ [r_,.r [] [cr oz0],d_,.r [] [cr oz2,cr oz3],b_,r_] (i64 2) Tryz.func130 (.d5 oz0 h1 oz2 oz3 hc0)).weak (Y_ _) (M_ (by (exact ck2 hk hk9 (nq h2 (by assumption)))))
 ·have gc0:nodEq n (plainN n)=true:=by first|exact hc0|exact of_decide_eq_true hc0|exact of_decide_eq_false hc0|simpa [eqNums] using hc0|(simp[eqNums] at hc0 ⊢;first|done|assumption|omega)
  have oz5:=@scaledK_v (n.kd)
  have oz6:=@right_v (n.qm) (n.qs) (n.qz)
  rcases bft ((n.kd==1 || n.kd==2 || n.kd==3 || n.kd==6 || n.kd==7) && !rightQ n.qm n.qs) with hc1|hc1
  ·have gc1:((((n.kd=1∨n.kd=2)∨n.kd=3)∨n.kd=6)∨n.kd=7)∧rightQ n.qm n.qs=false:=gc0_ hc1
   exact (cR_ [r_,.r [] [cr oz0],d_,.r [] [cr oz2,cr oz3],d_,.r [] [cr oz5,o_,o_,o_,cr oz6,o_,.sel 2],b_,b_,r_] (i64 7) Tryz.func130 (.c8 oz0 h1 oz2 oz3 hc0 oz5 oz6 hc1<|.d hc1)).weak (Y_ _) (M_ (by (exact ck7 hk hk9 (nq h2 (by assumption)) (orl (by assumption)))))
  ·have gc1:(((¬n.kd=1∧¬n.kd=2)∧¬n.kd=3)∧¬n.kd=6)∧¬n.kd=7∨rightQ n.qm n.qs=true:=gc0_ hc1
   have oz8:=@right_v (n.rm) (n.rs) (n.rz)
   rcases bft (n.kd==6 && !rightQ n.rm n.rs) with hc2|hc2
   ·have gc2:n.kd=6∧rightQ n.rm n.rs=false:=gc0_ hc2
    exact (cR_ [r_,.r [] [cr oz0],d_,.r [] [cr oz2,cr oz3],d_,.r [] [cr oz5,o_,o_,o_,cr oz6,o_,.sel 2],d_,.r [] [o_,o_,o_,cr oz8,o_,.sel 2],b_,r_] (i64 7) Tryz.func130 (.c8 oz0 h1 oz2 oz3 hc0 oz5 oz6 hc1<|.d2 oz8 hc2)).weak (Y_ _) (M_ (by (exact ck7 hk hk9 (nq h2 (by assumption)) (orr (by assumption)))))
   ·have gc2:¬n.kd=6∨rightQ n.rm n.rs=true:=gc0_ hc2
    rcases bft ((n.kd==1 || n.kd==2 || n.kd==3 || n.kd==6 || n.kd==7)&&decide (n.lo>n.hi)) with hc3|hc3
    ·have gc3:((((n.kd=1∨n.kd=2)∨n.kd=3)∨n.kd=6)∨n.kd=7)∧n.lo>n.hi:=gc0_ hc3
     exact (cR_ [r_,.r [] [cr oz0],d_,.r [] [cr oz2,cr oz3],d_,.r [] [cr oz5,o_,o_,o_,cr oz6,o_,.sel 2],d_,.r [] [o_,o_,o_,cr oz8,o_,.sel 2],d_,.r [] [cr oz5,o_,o_,o_,o_,o_,.sel 2],b_,r_] (i64 2) Tryz.func130 (.c8 oz0 h1 oz2 oz3 hc0 oz5 oz6 hc1<|.d4 oz8 hc2 oz5 hc3)).weak (Y_ _) (M_ (by (exact ck2b hk hk9 (nq h2 (by assumption)) (orf (by assumption) (by assumption)) (by assumption))))
    ·have gc3:(((¬n.kd=1∧¬n.kd=2)∧¬n.kd=3)∧¬n.kd=6)∧¬n.kd=7∨¬n.lo>n.hi:=gc0_ hc3
     exact (cR_ [r_,.r [] [cr oz0],d_,.r [] [cr oz2,cr oz3],d_,.r [] [cr oz5,o_,o_,o_,cr oz6,o_,.sel 2],d_,.r [] [o_,o_,o_,cr oz8,o_,.sel 2],d_,.r [] [cr oz5,o_,o_,o_,o_,o_,.sel 2],d_,r_] (i64 0) Tryz.func130 (.c8 oz0 h1 oz2 oz3 hc0 oz5 oz6 hc1<|.d4 oz8 hc2 oz5 hc3)).weak (Y_ _) (M_ (by (exact ck0 hk hk9 (nq h2 (by assumption)) (orf (by assumption) (by assumption)) (by assumption))))
theorem check_v (n:Nod) (hw:n.w.length≤100000) (hb:n.b.length≤100000) (hk:In64 n.kd):VC N_ 130 [nod n] (i64 (checkE n)):=by
 by_cases h:n.kd<1∨9<n.kd
 ·exact check_n n hk h
 ·exact check_y n hw hb (by omega) (by omega)
def depthE (t:Shp) (n:Nod):Shp×Int :=
 if (slideE t n.nk n.ns n.np t.c).2≠0 then (⟨0,0,0⟩,(slideE t n.nk n.ns n.np t.c).2)
 else if (n.w.length:Int)≠t.c*n.nk*n.nk∨16384<(n.w.length:Int)∨(n.b.length:Int)≠t.c then (⟨0,0,0⟩,9) else ((slideE t n.nk n.ns n.np t.c).1,0)
theorem depthShape_v (t:Shp) (n:Nod) (ok:t.Ok) (okn:n.Ok):VC N_ 188 ([shp t,nod n]) (.tup [shp (depthE t n).1,i64 (depthE t n).2]):=by
 have q2:=ok.c
 have q3:=fun h=>wts_bd (t:=t) (k:=n.nk) (s:=n.ns) (p:=n.np) (o:=t.c) h
 have oz0:=@slide_v (t) (n.nk) (n.ns) (n.np) (t.c) ok q2
 rcases bft ((slideE t n.nk n.ns n.np t.c).snd != 0) with hc0|hc0
 ·have gc0:¬(slideE t n.nk n.ns n.np t.c).snd=0:=bdt hc0
  exact (cR_ [r_,.r [] [cr oz0],r_,b_,r_] (AV.tup [AV.agg [i64 0,i64 0,i64 0],i64 (slideE t n.nk n.ns n.np t.c).snd]) Tryz.func188 (.d2 oz0 hc0)).to (by (simp only[depthE];rw[i_ (by omega)]))
 ·have gc0:(slideE t n.nk n.ns n.np t.c).snd=0:=bdf hc0
  have oz2:=(i6n (t.c*n.nk) (by omega))
  have oz3:=(i6n (t.c*n.nk*n.nk) (by omega))
  rcases bft (((K_ (row1 .i8) n.w).length:Int) != t.c*n.nk*n.nk || decide (((K_ (row1 .i8) n.w).length:Int)>16384) || ((K_ (row1 .i32) n.b).length:Int) != t.c) with hc1|hc1
  ·have gc1:(¬((K_ (row1 .i8) n.w).length:Int)=t.c*n.nk*n.nk∨((K_ (row1 .i8) n.w).length:Int)>16384)∨¬((K_ (row1 .i32) n.b).length:Int)=t.c:=gc0_ hc1
   exact (cR_ [r_,.r [] [cr oz0],r_,d_,.r [] [.n (nO oz2),.n (nO oz3),o_,o_,o_,o_,.sel 1,o_,o_,o_,o_,o_,o_,.sel 1],b_,r_] (AV.tup [AV.agg [i64 0,i64 0,i64 0],i64 9]) Tryz.func188 (.d5 oz0 hc0 oz2 oz3 hc1)).to (by (simp only[depthE,S_] at *;rw[j_ (by omega),i_ (by omega)]))
  ·have gc1:(((K_ (row1 .i8) n.w).length:Int)=t.c*n.nk*n.nk∧¬((K_ (row1 .i8) n.w).length:Int)>16384)∧((K_ (row1 .i32) n.b).length:Int)=t.c:=gc0_ hc1
   exact (cR_ [r_,.r [] [cr oz0],r_,d_,.r [] [.n (nO oz2),.n (nO oz3),o_,o_,o_,o_,.sel 1,o_,o_,o_,o_,o_,o_,.sel 1],d_,r_] (AV.tup [AV.agg [i64 (slideE t n.nk n.ns n.np t.c).fst.h,i64 (slideE t n.nk n.ns n.np t.c).fst.x,i64 (slideE t n.nk n.ns n.np t.c).fst.c],i64 0]) Tryz.func188 (.d5 oz0 hc0 oz2 oz3 hc1)).to (by (simp only[depthE,S_] at *;rw[j_ (by omega),j_ (by omega)]))
theorem refDepthShape_v (t:Shp) (n:Nod) (ok:t.Ok) (okn:n.Ok):VC N_ 115 ([shp t,nod n]) (.tup [shp (depthE t n).1,i64 (depthE t n).2]):=by
 have q2:=ok.c
 have q3:=fun h=>wts_bd (t:=t) (k:=n.nk) (s:=n.ns) (p:=n.np) (o:=t.c) h
 have oz0:=@refSlide_v (t) (n.nk) (n.ns) (n.np) (t.c) ok q2
 rcases bft ((slideE t n.nk n.ns n.np t.c).snd != 0) with hc0|hc0
 ·have gc0:¬(slideE t n.nk n.ns n.np t.c).snd=0:=bdt hc0
  exact (cR_ [r_,.r [] [cr oz0],r_,b_,r_] (AV.tup [AV.agg [i64 0,i64 0,i64 0],i64 (slideE t n.nk n.ns n.np t.c).snd]) Tryz.func115 (.d2 oz0 hc0)).to (by (simp only[depthE];rw[i_ (by omega)]))
 ·have gc0:(slideE t n.nk n.ns n.np t.c).snd=0:=bdf hc0
  have oz2:=(i6n (t.c*n.nk) (by omega))
  have oz3:=(i6n (t.c*n.nk*n.nk) (by omega))
  rcases bft (((K_ (row1 .i8) n.w).length:Int) != t.c*n.nk*n.nk || decide (((K_ (row1 .i8) n.w).length:Int)>16384) || ((K_ (row1 .i32) n.b).length:Int) != t.c) with hc1|hc1
  ·have gc1:(¬((K_ (row1 .i8) n.w).length:Int)=t.c*n.nk*n.nk∨((K_ (row1 .i8) n.w).length:Int)>16384)∨¬((K_ (row1 .i32) n.b).length:Int)=t.c:=gc0_ hc1
   exact (cR_ [r_,.r [] [cr oz0],r_,d_,.r [] [.n (nO oz2),.n (nO oz3),o_,o_,o_,o_,.sel 1,o_,o_,o_,o_,o_,o_,.sel 1],b_,r_] (AV.tup [AV.agg [i64 0,i64 0,i64 0],i64 9]) Tryz.func115 (.d5 oz0 hc0 oz2 oz3 hc1)).to (by (simp only[depthE,S_] at *;rw[j_ (by omega),i_ (by omega)]))
  ·have gc1:(((K_ (row1 .i8) n.w).length:Int)=t.c*n.nk*n.nk∧¬((K_ (row1 .i8) n.w).length:Int)>16384)∧((K_ (row1 .i32) n.b).length:Int)=t.c:=gc0_ hc1
   exact (cR_ [r_,.r [] [cr oz0],r_,d_,.r [] [.n (nO oz2),.n (nO oz3),o_,o_,o_,o_,.sel 1,o_,o_,o_,o_,o_,o_,.sel 1],d_,r_] (AV.tup [AV.agg [i64 (slideE t n.nk n.ns n.np t.c).fst.h,i64 (slideE t n.nk n.ns n.np t.c).fst.x,i64 (slideE t n.nk n.ns n.np t.c).fst.c],i64 0]) Tryz.func115 (.d5 oz0 hc0 oz2 oz3 hc1)).to (by (simp only[depthE,S_] at *;rw[j_ (by omega),j_ (by omega)]))
theorem elems_in (h x c:Int):0≤elems h x c∧elems h x c≤1024:=by
 unfold elems;split
 ·rename_i g
  have:=BK_ (BK_ (s_ (0≤h)) (s_ (0≤x))) (s_ (0≤c))
  omega
 ·omega
def denseE (t:Shp) (n:Nod):Shp×Int :=
 if elems t.h t.x t.c=0∨elems 1 1 n.no=0 then (⟨0,0,0⟩,5)
 else if (n.w.length:Int)≠n.no*elems t.h t.x t.c∨16384<(n.w.length:Int)∨(n.b.length:Int)≠n.no then (⟨0,0,0⟩,9) else (⟨1,1,n.no⟩,0)
theorem denseShape_v (t:Shp) (n:Nod) (ok:t.Ok) (okn:n.Ok):VC N_ 189 ([shp t,nod n]) (.tup [shp (denseE t n).1,i64 (denseE t n).2]):=by
 obtain ⟨p1,p2,p3⟩:=id ok
 have q2:=elems_in t.h t.x t.c
 have q3:=elems_in 1 1 n.no
 have q4:0<elems 1 1 n.no→1≤n.no∧n.no≤1024:=fun h=>by have:=elems_ok h;omega
 have q5:0<elems 1 1 n.no→0≤n.no*elems t.h t.x t.c∧n.no*elems t.h t.x t.c≤1024*1024:=fun h=>mul_bd (by have:=q4 h;omega) (q4 h).2 q2.1 q2.2
 have oz0:=@sRight_v (t) ok
 have oz1:=@sRight_v (Shp.mk 1 1 n.no) (by (exact Shp.mk_ok ⟨by decide,by decide⟩ ⟨by decide,by decide⟩ okn.no))
 rcases bft (!decide (0<elems t.h t.x t.c) || !decide (0<elems 1 1 n.no)) with hc0|hc0
 ·have gc0:¬0<elems t.h t.x t.c∨¬0<elems 1 1 n.no:=gc0_ hc0
  exact (cR_ [r_,r_,.r [] [cr oz0,o_,o_,cr oz1,o_,.sel 1],b_,r_] (AV.tup [AV.agg [i64 0,i64 0,i64 0],i64 5]) Tryz.func189 (.d3 oz0 oz1 hc0)).to (by (simp only[denseE];rw[i_ (by omega)]))
 ·have gc0:0<elems t.h t.x t.c∧0<elems 1 1 n.no:=gc0_ hc0
  have oz3:=@elems_v (t.h) (t.x) (t.c) p1 p2 p3
  have oz4:=(i6n (n.no*elems t.h t.x t.c) (by omega))
  rcases bft (((K_ (row1 .i8) n.w).length:Int) != n.no*elems t.h t.x t.c || decide (((K_ (row1 .i8) n.w).length:Int)>16384) || ((K_ (row1 .i32) n.b).length:Int) != n.no) with hc1|hc1
  ·have gc1:(¬((K_ (row1 .i8) n.w).length:Int)=n.no*elems t.h t.x t.c∨((K_ (row1 .i8) n.w).length:Int)>16384)∨¬((K_ (row1 .i32) n.b).length:Int)=n.no:=gc0_ hc1
   exact (cR_ [r_,r_,.r [] [cr oz0,o_,o_,cr oz1,o_,.sel 1],d_,.r [] [cr oz3,.n (nO oz4),o_,o_,o_,o_,.sel 1,o_,o_,o_,o_,o_,o_,.sel 1],b_,r_] (AV.tup [AV.agg [i64 0,i64 0,i64 0],i64 9]) Tryz.func189 (.d6 oz0 oz1 hc0 oz3 oz4 hc1)).to (by (simp only[denseE,S_] at *;rw[j_ (by omega),i_ (by omega)]))
  ·have gc1:(((K_ (row1 .i8) n.w).length:Int)=n.no*elems t.h t.x t.c∧¬((K_ (row1 .i8) n.w).length:Int)>16384)∧((K_ (row1 .i32) n.b).length:Int)=n.no:=gc0_ hc1
   exact (cR_ [r_,r_,.r [] [cr oz0,o_,o_,cr oz1,o_,.sel 1],d_,.r [] [cr oz3,.n (nO oz4),o_,o_,o_,o_,.sel 1,o_,o_,o_,o_,o_,o_,.sel 1],d_,r_] (AV.tup [AV.agg [i64 1,i64 1,i64 n.no],i64 0]) Tryz.func189 (.d6 oz0 oz1 hc0 oz3 oz4 hc1)).to (by (simp only[denseE,S_] at *;rw[j_ (by omega),j_ (by omega)]))
theorem refDenseShape_v (t:Shp) (n:Nod) (ok:t.Ok) (okn:n.Ok):VC N_ 116 ([shp t,nod n]) (.tup [shp (denseE t n).1,i64 (denseE t n).2]):=by
 obtain ⟨p1,p2,p3⟩:=id ok
 have p4:=okn.no
 have p5:In64 1:=⟨by decide,by decide⟩
 have q2:=elems_in t.h t.x t.c
 have q3:=elems_in 1 1 n.no
 have q4:0<elems 1 1 n.no→1≤n.no∧n.no≤1024:=fun h=>by have:=elems_ok h;omega
 have q5:0<elems 1 1 n.no→0≤n.no*elems t.h t.x t.c∧n.no*elems t.h t.x t.c≤1024*1024:=fun h=>mul_bd (by have:=q4 h;omega) (q4 h).2 q2.1 q2.2
 have oz0:=@refElems_v (t.h) (t.x) (t.c) p1 p2 p3
 have oz1:=@refElems_v (1) (1) (n.no) p5 p5 p4
 rcases bft (elems t.h t.x t.c==0 || elems 1 1 n.no==0) with hc0|hc0
 ·have gc0:elems t.h t.x t.c=0∨elems 1 1 n.no=0:=gc0_ hc0
  exact (cR_ [r_,r_,.r [] [cr oz0,o_,o_,cr oz1,o_,.sel 1],b_,r_] (AV.tup [AV.agg [i64 0,i64 0,i64 0],i64 5]) Tryz.func116 (.d3 oz0 oz1 hc0)).to (by (simp only[denseE];rw[i_ (by omega)]))
 ·have gc0:¬elems t.h t.x t.c=0∧¬elems 1 1 n.no=0:=gc0_ hc0
  have oz4:=(i6n (n.no*elems t.h t.x t.c) (by omega))
  rcases bft (((K_ (row1 .i8) n.w).length:Int) != n.no*elems t.h t.x t.c || decide (((K_ (row1 .i8) n.w).length:Int)>16384) || ((K_ (row1 .i32) n.b).length:Int) != n.no) with hc1|hc1
  ·have gc1:(¬((K_ (row1 .i8) n.w).length:Int)=n.no*elems t.h t.x t.c∨((K_ (row1 .i8) n.w).length:Int)>16384)∨¬((K_ (row1 .i32) n.b).length:Int)=n.no:=gc0_ hc1
   exact (cR_ [r_,r_,.r [] [cr oz0,o_,o_,cr oz1,o_,.sel 1],d_,.r [] [cr oz0,.n (nO oz4),o_,o_,o_,o_,.sel 1,o_,o_,o_,o_,o_,o_,.sel 1],b_,r_] (AV.tup [AV.agg [i64 0,i64 0,i64 0],i64 9]) Tryz.func116 (.d6 oz0 oz1 hc0 oz0 oz4 hc1)).to (by (simp only[denseE,S_] at *;rw[j_ (by omega),i_ (by omega)]))
  ·have gc1:(((K_ (row1 .i8) n.w).length:Int)=n.no*elems t.h t.x t.c∧¬((K_ (row1 .i8) n.w).length:Int)>16384)∧((K_ (row1 .i32) n.b).length:Int)=n.no:=gc0_ hc1
   exact (cR_ [r_,r_,.r [] [cr oz0,o_,o_,cr oz1,o_,.sel 1],d_,.r [] [cr oz0,.n (nO oz4),o_,o_,o_,o_,.sel 1,o_,o_,o_,o_,o_,o_,.sel 1],d_,r_] (AV.tup [AV.agg [i64 1,i64 1,i64 n.no],i64 0]) Tryz.func116 (.d6 oz0 oz1 hc0 oz0 oz4 hc1)).to (by (simp only[denseE,S_] at *;rw[j_ (by omega),j_ (by omega)]))
def aroundE (a:Shp) (p:Int):Shp×Int:=if p<0∨4<p then (⟨0,0,0⟩,2) else if elems (a.h+2*p) (a.x+2*p) a.c=0 then (⟨0,0,0⟩,5) else (⟨a.h+2*p,a.x+2*p,a.c⟩,0)
def shapeE (n:Nod) (a b:Shp):Shp×Int :=
 if n.kd=1 then convE a n else if n.kd=2 then depthE a n else if n.kd=3 then denseE a n else if n.kd=4∨n.kd=5 then slideE a n.nk n.ns n.np a.c
 else if n.kd<1∨9<n.kd then (⟨0,0,0⟩,6) else if elems a.h a.x a.c=0∨(n.kd=6∧¬(a.h=b.h∧a.x=b.x∧a.c=b.c)) then (⟨0,0,0⟩,5)
 else if n.kd=9 then (⟨1,1,elems a.h a.x a.c⟩,0) else if n.kd=8 then
  aroundE a n.np else (a,0)
theorem around_v (a:Shp) (p:Int) (ok:a.Ok) (h0:0<elems a.h a.x a.c):VC N_ 209 ([shp a,i64 p]) (.tup [shp (aroundE a p).1,i64 (aroundE a p).2]):=by
 have q:=elems_ok h0
 have q2:=elems_in (a.h+2*p) (a.x+2*p) a.c
 have q3:=ok.c
 rcases bft (decide (p<0) || decide (p>4)) with hc0|hc0
 ·have gc0:p<0∨p>4:=gc0_ hc0
  exact (cR_ [r_,.r [] [o_,o_,.sel 1],b_,r_] (AV.tup [AV.agg [i64 0,i64 0,i64 0],i64 2]) Tryz.func209 (.d hc0)).weak (Y_ _) (AS_ (.cons (AV_ (.cons (M_ (by (unfold aroundE;(repeat first|rw[i_ (by omega)]|rw[j_ (by omega)])))) (.cons (M_ (by (unfold aroundE;(repeat first|rw[i_ (by omega)]|rw[j_ (by omega)])))) (.cons (M_ (by (unfold aroundE;(repeat first|rw[i_ (by omega)]|rw[j_ (by omega)])))) .nil)))) (.cons (M_ (by (unfold aroundE;(repeat first|rw[i_ (by omega)]|rw[j_ (by omega)])))) .nil)))
 ·have gc0:¬p<0∧¬p>4:=gc0_ hc0
  have oz1:=(i6n (2*p) (by omega))
  have oz2:=(i6n (a.h+2*p) (by omega))
  have oz4:=(i6n (a.x+2*p) (by omega))
  have oz5:=@sRight_v (Shp.mk (a.h+2*p) (a.x+2*p) a.c) (by (exact Shp.mk_ok ⟨by omega,by omega⟩ ⟨by omega,by omega⟩ q3))
  rcases bft (!decide (0<elems (a.h+2*p) (a.x+2*p) a.c)) with hc1|hc1
  ·have gc1:=bnt hc1
   exact (cR_ [r_,.r [] [o_,o_,.sel 1],d_,.r [] [.n (nO oz1),.n (nO oz2),.n (nO oz1),.n (nO oz4)],.r [] [cr oz5],b_,r_] (AV.tup [AV.agg [i64 0,i64 0,i64 0],i64 5]) Tryz.func209 (.d7 hc0 oz1 oz2 oz1 oz4 oz5 hc1)).weak (Y_ _) (AS_ (.cons (AV_ (.cons (M_ (by (unfold aroundE;(repeat first|rw[i_ (by omega)]|rw[j_ (by omega)])))) (.cons (M_ (by (unfold aroundE;(repeat first|rw[i_ (by omega)]|rw[j_ (by omega)])))) (.cons (M_ (by (unfold aroundE;(repeat first|rw[i_ (by omega)]|rw[j_ (by omega)])))) .nil)))) (.cons (M_ (by (unfold aroundE;(repeat first|rw[i_ (by omega)]|rw[j_ (by omega)])))) .nil)))
  ·have gc1:=bnf hc1
   exact (cR_ [r_,.r [] [o_,o_,.sel 1],d_,.r [] [.n (nO oz1),.n (nO oz2),.n (nO oz1),.n (nO oz4)],.r [] [cr oz5],d_,r_] (AV.tup [AV.agg [i64 (a.h+2*p),i64 (a.x+2*p),i64 a.c],i64 0]) Tryz.func209 (.d7 hc0 oz1 oz2 oz1 oz4 oz5 hc1)).weak (Y_ _) (AS_ (.cons (AV_ (.cons (M_ (by (unfold aroundE;(repeat first|rw[i_ (by omega)]|rw[j_ (by omega)])))) (.cons (M_ (by (unfold aroundE;(repeat first|rw[i_ (by omega)]|rw[j_ (by omega)])))) (.cons (M_ (by (unfold aroundE;(repeat first|rw[i_ (by omega)]|rw[j_ (by omega)])))) .nil)))) (.cons (M_ (by (unfold aroundE;(repeat first|rw[i_ (by omega)]|rw[j_ (by omega)])))) .nil)))
theorem plainShape_v (n:Nod) (a b:Shp) (ok:a.Ok) (okb:b.Ok) (hk:6≤n.kd) (hk9:n.kd≤9):VC N_ 191 ([nod n,shp a,shp b]) (.tup [shp (shapeE n a b).1,i64 (shapeE n a b).2]):=by
 obtain ⟨p1,p2,p3⟩:=id ok
 have q2:=elems_in a.h a.x a.c
 have oz0:=@sRight_v (a) ok
 rcases bft (!decide (0<elems a.h a.x a.c)) with hc0|hc0
 ·have gc0:=bnt hc0
  exact (cR_ [r_,.r [] [cr oz0],b_,r_] (AV.tup [AV.agg [i64 0,i64 0,i64 0],i64 5]) Tryz.func191 (.d2 oz0 hc0)).weak (Y_ _) (AS_ (.cons (AV_ (.cons (M_ (by (unfold shapeE;(repeat first|rw[i_ (by omega)]|rw[j_ (by omega)])))) (.cons (M_ (by (unfold shapeE;(repeat first|rw[i_ (by omega)]|rw[j_ (by omega)])))) (.cons (M_ (by (unfold shapeE;(repeat first|rw[i_ (by omega)]|rw[j_ (by omega)])))) .nil)))) (.cons (M_ (by (unfold shapeE;(repeat first|rw[i_ (by omega)]|rw[j_ (by omega)])))) .nil)))
 ·have gc0:=bnf hc0
  rcases bft (n.kd==6) with hc1|hc1
  ·have gc1:n.kd=6:=bet hc1
   have oz3:=(show BinTo N_ BinOp.neq 23 (Operand.tmp 16) (Operand.tmp 17) (BG_ #[AO_ L_ a.h,AO_ L_ a.x,AO_ L_ a.c]) (BG_ #[AO_ L_ b.h,AO_ L_ b.x,AO_ L_ b.c]) (AI_ !eqNums [(L_,a.h,b.h),(L_,a.x,b.x),(L_,a.c,b.c)]) from ((bin_nums (l:=[(L_,a.h,b.h),(L_,a.x,b.x),(L_,a.c,b.c)]) (by kernel_rfl) (by kernel_rfl) (by kernel_rfl) (by kernel_rfl) _ _).2))
   rcases bft (!eqNums [(L_,a.h,b.h),(L_,a.x,b.x),(L_,a.c,b.c)]) with hc2|hc2
   ·have gc2:¬(a.h=b.h∧a.x=b.x∧a.c=b.c):=gc0_ hc2
    exact (cR_ [r_,.r [] [cr oz0],d_,r_,r_,b_,.r [] [.v (AI_ !eqNums [(L_,a.h,b.h),(L_,a.x,b.x),(L_,a.c,b.c)])],b_,r_] (AV.tup [AV.agg [i64 0,i64 0,i64 0],i64 5]) Tryz.func191 (.d5 oz0 hc0 hc1 oz3 hc2)).weak (Y_ _) (AS_ (.cons (AV_ (.cons (M_ (by (unfold shapeE;(repeat first|rw[i_ (by omega)]|rw[j_ (by omega)])))) (.cons (M_ (by (unfold shapeE;(repeat first|rw[i_ (by omega)]|rw[j_ (by omega)])))) (.cons (M_ (by (unfold shapeE;(repeat first|rw[i_ (by omega)]|rw[j_ (by omega)])))) .nil)))) (.cons (M_ (by (unfold shapeE;(repeat first|rw[i_ (by omega)]|rw[j_ (by omega)])))) .nil)))
   ·have gc2:a.h=b.h∧a.x=b.x∧a.c=b.c:=gc0_ hc2
    exact (cR_ [r_,.r [] [cr oz0],d_,r_,r_,b_,.r [] [.v (AI_ !eqNums [(L_,a.h,b.h),(L_,a.x,b.x),(L_,a.c,b.c)])],d_,r_] (AV.tup [AV.agg [i64 a.h,i64 a.x,i64 a.c],i64 0]) Tryz.func191 (.d5 oz0 hc0 hc1 oz3 hc2)).weak (Y_ _) (AS_ (.cons (AV_ (.cons (M_ (by (unfold shapeE;(repeat first|rw[i_ (by omega)]|rw[j_ (by omega)])))) (.cons (M_ (by (unfold shapeE;(repeat first|rw[i_ (by omega)]|rw[j_ (by omega)])))) (.cons (M_ (by (unfold shapeE;(repeat first|rw[i_ (by omega)]|rw[j_ (by omega)])))) .nil)))) (.cons (M_ (by (unfold shapeE;(repeat first|rw[i_ (by omega)]|rw[j_ (by omega)])))) .nil)))
  ·have gc1:¬n.kd=6:=bef hc1
   rcases bft (n.kd==8) with hc2|hc2
   ·have gc2:n.kd=8:=bet hc2
    have oz4:=@around_v (a) (n.np) ok gc0
    exact (cR_ [r_,.r [] [cr oz0],d_,r_,r_,d_,r_,b_,.r [] [cr oz4]] (AV.tup [AV.agg [i64 (aroundE a n.np).fst.h,i64 (aroundE a n.np).fst.x,i64 (aroundE a n.np).fst.c],i64 (aroundE a n.np).snd]) Tryz.func191 (.d5 oz0 hc0 hc1 hc2 oz4)).weak (Y_ _) (AS_ (.cons (AV_ (.cons (M_ (by (unfold shapeE;(repeat first|rw[i_ (by omega)]|rw[j_ (by omega)])))) (.cons (M_ (by (unfold shapeE;(repeat first|rw[i_ (by omega)]|rw[j_ (by omega)])))) (.cons (M_ (by (unfold shapeE;(repeat first|rw[i_ (by omega)]|rw[j_ (by omega)])))) .nil)))) (.cons (M_ (by (unfold shapeE;(repeat first|rw[i_ (by omega)]|rw[j_ (by omega)])))) .nil)))
   ·have gc2:¬n.kd=8:=bef hc2
    rcases bft (n.kd==9) with hc3|hc3
    ·have gc3:n.kd=9:=bet hc3
     have oz5:=@elems_v (a.h) (a.x) (a.c) p1 p2 p3
     exact (cR_ [r_,.r [] [cr oz0],d_,r_,r_,d_,r_,d_,r_,b_,.r [] [cr oz5]] (AV.tup [AV.agg [i64 1,i64 1,i64 (elems a.h a.x a.c)],i64 0]) Tryz.func191 (.d6 oz0 hc0 hc1 hc2 hc3 oz5)).weak (Y_ _) (AS_ (.cons (AV_ (.cons (M_ (by (unfold shapeE;(repeat first|rw[i_ (by omega)]|rw[j_ (by omega)])))) (.cons (M_ (by (unfold shapeE;(repeat first|rw[i_ (by omega)]|rw[j_ (by omega)])))) (.cons (M_ (by (unfold shapeE;(repeat first|rw[i_ (by omega)]|rw[j_ (by omega)])))) .nil)))) (.cons (M_ (by (unfold shapeE;(repeat first|rw[i_ (by omega)]|rw[j_ (by omega)])))) .nil)))
    ·have gc3:¬n.kd=9:=bef hc3
     exact (cR_ [r_,.r [] [cr oz0],d_,r_,r_,d_,r_,d_,r_,d_,r_] (AV.tup [AV.agg [i64 a.h,i64 a.x,i64 a.c],i64 0]) Tryz.func191 (.d5 oz0 hc0 hc1 hc2 hc3)).weak (Y_ _) (AS_ (.cons (AV_ (.cons (M_ (by (unfold shapeE;(repeat first|rw[i_ (by omega)]|rw[j_ (by omega)])))) (.cons (M_ (by (unfold shapeE;(repeat first|rw[i_ (by omega)]|rw[j_ (by omega)])))) (.cons (M_ (by (unfold shapeE;(repeat first|rw[i_ (by omega)]|rw[j_ (by omega)])))) .nil)))) (.cons (M_ (by (unfold shapeE;(repeat first|rw[i_ (by omega)]|rw[j_ (by omega)])))) .nil)))
theorem kshape_v (n:Nod) (a b:Shp) (ok:a.Ok) (okb:b.Ok) (okn:n.Ok):VC N_ 158 ([nod n,shp a,shp b]) (.tup [shp (shapeE n a b).1,i64 (shapeE n a b).2]):=by
 obtain ⟨p1,p2,p3⟩:=id ok
 rcases bft (n.kd==1) with hc0|hc0
 ·have gc0:n.kd=1:=bet hc0
  have oz1:=@convShape_v (a) (n) ok okn
  exact (cR_ [r_,r_,r_,b_,.r [] [cr oz1]] (AV.tup [AV.agg [i64 (convE a n).fst.h,i64 (convE a n).fst.x,i64 (convE a n).fst.c],i64 (convE a n).snd]) Tryz.func158 (.d2 hc0 oz1)).weak (Y_ _) (AS_ (.cons (AV_ (.cons (M_ (by (unfold shapeE;(repeat first|rw[i_ (by omega)]|rw[j_ (by omega)])))) (.cons (M_ (by (unfold shapeE;(repeat first|rw[i_ (by omega)]|rw[j_ (by omega)])))) (.cons (M_ (by (unfold shapeE;(repeat first|rw[i_ (by omega)]|rw[j_ (by omega)])))) .nil)))) (.cons (M_ (by (unfold shapeE;(repeat first|rw[i_ (by omega)]|rw[j_ (by omega)])))) .nil)))
 ·have gc0:¬n.kd=1:=bef hc0
  rcases bft (n.kd==2) with hc1|hc1
  ·have gc1:n.kd=2:=bet hc1
   have oz2:=@depthShape_v (a) (n) ok okn
   exact (cR_ [r_,r_,r_,d_,r_,b_,.r [] [cr oz2]] (AV.tup [AV.agg [i64 (depthE a n).fst.h,i64 (depthE a n).fst.x,i64 (depthE a n).fst.c],i64 (depthE a n).snd]) Tryz.func158 (.d3 hc0 hc1 oz2)).weak (Y_ _) (AS_ (.cons (AV_ (.cons (M_ (by (unfold shapeE;(repeat first|rw[i_ (by omega)]|rw[j_ (by omega)])))) (.cons (M_ (by (unfold shapeE;(repeat first|rw[i_ (by omega)]|rw[j_ (by omega)])))) (.cons (M_ (by (unfold shapeE;(repeat first|rw[i_ (by omega)]|rw[j_ (by omega)])))) .nil)))) (.cons (M_ (by (unfold shapeE;(repeat first|rw[i_ (by omega)]|rw[j_ (by omega)])))) .nil)))
  ·have gc1:¬n.kd=2:=bef hc1
   rcases bft (n.kd==3) with hc2|hc2
   ·have gc2:n.kd=3:=bet hc2
    have oz3:=@denseShape_v (a) (n) ok okn
    exact (cR_ [r_,r_,r_,d_,r_,d_,r_,b_,.r [] [cr oz3]] (AV.tup [AV.agg [i64 (denseE a n).fst.h,i64 (denseE a n).fst.x,i64 (denseE a n).fst.c],i64 (denseE a n).snd]) Tryz.func158 (.d4 hc0 hc1 hc2 oz3)).weak (Y_ _) (AS_ (.cons (AV_ (.cons (M_ (by (unfold shapeE;(repeat first|rw[i_ (by omega)]|rw[j_ (by omega)])))) (.cons (M_ (by (unfold shapeE;(repeat first|rw[i_ (by omega)]|rw[j_ (by omega)])))) (.cons (M_ (by (unfold shapeE;(repeat first|rw[i_ (by omega)]|rw[j_ (by omega)])))) .nil)))) (.cons (M_ (by (unfold shapeE;(repeat first|rw[i_ (by omega)]|rw[j_ (by omega)])))) .nil)))
   ·have gc2:¬n.kd=3:=bef hc2
    rcases bft (n.kd==4) with hc3|hc3
    ·have gc3:n.kd=4:=bet hc3
     have oz5:=@slide_v (a) (n.nk) (n.ns) (n.np) (a.c) ok p3
     exact (cR_ [r_,r_,r_,d_,r_,d_,r_,d_,r_,b_,b_,.r [] [cr oz5]] (AV.tup [AV.agg [i64 (slideE a n.nk n.ns n.np a.c).fst.h,i64 (slideE a n.nk n.ns n.np a.c).fst.x,i64 (slideE a n.nk n.ns n.np a.c).fst.c],i64 (slideE a n.nk n.ns n.np a.c).snd]) Tryz.func158 (.d6 hc0 hc1 hc2 hc3 hc3 oz5)).weak (Y_ _) (AS_ (.cons (AV_ (.cons (M_ (by (unfold shapeE;(repeat first|rw[i_ (by omega)]|rw[j_ (by omega)])))) (.cons (M_ (by (unfold shapeE;(repeat first|rw[i_ (by omega)]|rw[j_ (by omega)])))) (.cons (M_ (by (unfold shapeE;(repeat first|rw[i_ (by omega)]|rw[j_ (by omega)])))) .nil)))) (.cons (M_ (by (unfold shapeE;(repeat first|rw[i_ (by omega)]|rw[j_ (by omega)])))) .nil)))
    ·have gc3:¬n.kd=4:=bef hc3
     rcases bft (n.kd==5) with hc4|hc4
     ·have gc4:n.kd=5:=bet hc4
      have oz5:=@slide_v (a) (n.nk) (n.ns) (n.np) (a.c) ok p3
      exact (cR_ [r_,r_,r_,d_,r_,d_,r_,d_,r_,d_,r_,b_,.r [] [cr oz5]] (AV.tup [AV.agg [i64 (slideE a n.nk n.ns n.np a.c).fst.h,i64 (slideE a n.nk n.ns n.np a.c).fst.x,i64 (slideE a n.nk n.ns n.np a.c).fst.c],i64 (slideE a n.nk n.ns n.np a.c).snd]) Tryz.func158 (.d6 hc0 hc1 hc2 hc3 hc4 oz5)).weak (Y_ _) (AS_ (.cons (AV_ (.cons (M_ (by (unfold shapeE;(repeat first|rw[i_ (by omega)]|rw[j_ (by omega)])))) (.cons (M_ (by (unfold shapeE;(repeat first|rw[i_ (by omega)]|rw[j_ (by omega)])))) (.cons (M_ (by (unfold shapeE;(repeat first|rw[i_ (by omega)]|rw[j_ (by omega)])))) .nil)))) (.cons (M_ (by (unfold shapeE;(repeat first|rw[i_ (by omega)]|rw[j_ (by omega)])))) .nil)))
     ·have gc4:¬n.kd=5:=bef hc4
      rcases bft (n.kd==6) with hc5|hc5
      ·have gc5:n.kd=6:=bet hc5
       have oz7:=@plainShape_v (n) (a) (b) ok okb (by omega) (by omega)
       exact cR_ [r_,r_,r_,d_,r_,d_,r_,d_,r_,d_,r_,d_,r_,b_,b_,.r [] [cr oz7]] _ Tryz.func158 (.d8 hc0 hc1 hc2 hc3 hc4 hc5 hc5 oz7)
      ·have gc5:¬n.kd=6:=bef hc5
       rcases bft (n.kd==7) with hc6|hc6
       ·have gc6:n.kd=7:=bet hc6
        have oz8:=@plainShape_v (n) (a) (b) ok okb (by omega) (by omega)
        exact cR_ [r_,r_,r_,d_,r_,d_,r_,d_,r_,d_,r_,d_,r_,d_,r_,b_,b_,.r [] [cr oz8]] _ Tryz.func158 (.c8 hc0 hc1 hc2 hc3 hc4 hc5 hc6 hc6<|.d oz8)
       ·have gc6:¬n.kd=7:=bef hc6
        rcases bft (n.kd==8) with hc7|hc7
        ·have gc7:n.kd=8:=bet hc7
         have oz9:=@plainShape_v (n) (a) (b) ok okb (by omega) (by omega)
         exact cR_ [r_,r_,r_,d_,r_,d_,r_,d_,r_,d_,r_,d_,r_,d_,r_,d_,r_,b_,b_,.r [] [cr oz9]] _ Tryz.func158 (.c8 hc0 hc1 hc2 hc3 hc4 hc5 hc6 hc7<|.d2 hc7 oz9)
        ·have gc7:¬n.kd=8:=bef hc7
         rcases bft (n.kd==9) with hc8|hc8
         ·have gc8:n.kd=9:=bet hc8
          have oz9:=@plainShape_v (n) (a) (b) ok okb (by omega) (by omega)
          exact cR_ [r_,r_,r_,d_,r_,d_,r_,d_,r_,d_,r_,d_,r_,d_,r_,d_,r_,d_,r_,b_,.r [] [cr oz9]] _ Tryz.func158 (.c8 hc0 hc1 hc2 hc3 hc4 hc5 hc6 hc7<|.d2 hc8 oz9)
         ·have gc8:¬n.kd=9:=bef hc8
          exact (cR_ [r_,r_,r_,d_,r_,d_,r_,d_,r_,d_,r_,d_,r_,d_,r_,d_,r_,d_,r_,d_,r_] (AV.tup [AV.agg [i64 0,i64 0,i64 0],i64 6]) Tryz.func158 (.c8 hc0 hc1 hc2 hc3 hc4 hc5 hc6 hc7<|.d hc8)).weak (Y_ _) (AS_ (.cons (AV_ (.cons (M_ (by (unfold shapeE;(repeat first|rw[i_ (by omega)]|rw[j_ (by omega)])))) (.cons (M_ (by (unfold shapeE;(repeat first|rw[i_ (by omega)]|rw[j_ (by omega)])))) (.cons (M_ (by (unfold shapeE;(repeat first|rw[i_ (by omega)]|rw[j_ (by omega)])))) .nil)))) (.cons (M_ (by (unfold shapeE;(repeat first|rw[i_ (by omega)]|rw[j_ (by omega)])))) .nil)))
theorem refKshape_v (n:Nod) (a b:Shp) (ok:a.Ok) (okb:b.Ok) (okn:n.Ok):VC N_ 79 ([nod n,shp a,shp b]) (.tup [shp (shapeE n a b).1,i64 (shapeE n a b).2]):=by
 obtain ⟨p1,p2,p3⟩:=id ok
 have q2:=elems_in a.h a.x a.c
 have q4:=fun (h:0<elems a.h a.x a.c)=>elems_ok h
 rcases bft (n.kd==1) with hc0|hc0
 ·have gc0:n.kd=1:=bet hc0
  have oz1:=@refConvShape_v (a) (n) ok okn
  exact (cR_ [r_,r_,b_,.r [] [cr oz1]] (AV.tup [AV.agg [i64 (convE a n).fst.h,i64 (convE a n).fst.x,i64 (convE a n).fst.c],i64 (convE a n).snd]) Tryz.func79 (.d2 hc0 oz1)).weak (Y_ _) (AS_ (.cons (AV_ (.cons (M_ (by (unfold shapeE;try unfold aroundE;(repeat first|rw[i_ (by omega)]|rw[j_ (by omega)])))) (.cons (M_ (by (unfold shapeE;try unfold aroundE;(repeat first|rw[i_ (by omega)]|rw[j_ (by omega)])))) (.cons (M_ (by (unfold shapeE;try unfold aroundE;(repeat first|rw[i_ (by omega)]|rw[j_ (by omega)])))) .nil)))) (.cons (M_ (by (unfold shapeE;try unfold aroundE;(repeat first|rw[i_ (by omega)]|rw[j_ (by omega)])))) .nil)))
 ·have gc0:¬n.kd=1:=bef hc0
  rcases bft (n.kd==2) with hc1|hc1
  ·have gc1:n.kd=2:=bet hc1
   have oz2:=@refDepthShape_v (a) (n) ok okn
   exact (cR_ [r_,r_,d_,r_,b_,.r [] [cr oz2]] (AV.tup [AV.agg [i64 (depthE a n).fst.h,i64 (depthE a n).fst.x,i64 (depthE a n).fst.c],i64 (depthE a n).snd]) Tryz.func79 (.d3 hc0 hc1 oz2)).weak (Y_ _) (AS_ (.cons (AV_ (.cons (M_ (by (unfold shapeE;try unfold aroundE;(repeat first|rw[i_ (by omega)]|rw[j_ (by omega)])))) (.cons (M_ (by (unfold shapeE;try unfold aroundE;(repeat first|rw[i_ (by omega)]|rw[j_ (by omega)])))) (.cons (M_ (by (unfold shapeE;try unfold aroundE;(repeat first|rw[i_ (by omega)]|rw[j_ (by omega)])))) .nil)))) (.cons (M_ (by (unfold shapeE;try unfold aroundE;(repeat first|rw[i_ (by omega)]|rw[j_ (by omega)])))) .nil)))
  ·have gc1:¬n.kd=2:=bef hc1
   rcases bft (n.kd==3) with hc2|hc2
   ·have gc2:n.kd=3:=bet hc2
    have oz3:=@refDenseShape_v (a) (n) ok okn
    exact (cR_ [r_,r_,d_,r_,d_,r_,b_,.r [] [cr oz3]] (AV.tup [AV.agg [i64 (denseE a n).fst.h,i64 (denseE a n).fst.x,i64 (denseE a n).fst.c],i64 (denseE a n).snd]) Tryz.func79 (.d4 hc0 hc1 hc2 oz3)).weak (Y_ _) (AS_ (.cons (AV_ (.cons (M_ (by (unfold shapeE;try unfold aroundE;(repeat first|rw[i_ (by omega)]|rw[j_ (by omega)])))) (.cons (M_ (by (unfold shapeE;try unfold aroundE;(repeat first|rw[i_ (by omega)]|rw[j_ (by omega)])))) (.cons (M_ (by (unfold shapeE;try unfold aroundE;(repeat first|rw[i_ (by omega)]|rw[j_ (by omega)])))) .nil)))) (.cons (M_ (by (unfold shapeE;try unfold aroundE;(repeat first|rw[i_ (by omega)]|rw[j_ (by omega)])))) .nil)))
   ·have gc2:¬n.kd=3:=bef hc2
    rcases bft (n.kd==4 || n.kd==5) with hc3|hc3
    ·have gc3:n.kd=4∨n.kd=5:=gc0_ hc3
     have oz4:=@refSlide_v (a) (n.nk) (n.ns) (n.np) (a.c) ok p3
     exact (cR_ [r_,r_,d_,r_,d_,r_,d_,.r [] [o_,o_,o_,.sel 1],b_,.r [] [cr oz4]] (AV.tup [AV.agg [i64 (slideE a n.nk n.ns n.np a.c).fst.h,i64 (slideE a n.nk n.ns n.np a.c).fst.x,i64 (slideE a n.nk n.ns n.np a.c).fst.c],i64 (slideE a n.nk n.ns n.np a.c).snd]) Tryz.func79 (.d5 hc0 hc1 hc2 hc3 oz4)).weak (Y_ _) (AS_ (.cons (AV_ (.cons (M_ (by (unfold shapeE;try unfold aroundE;(repeat first|rw[i_ (by omega)]|rw[j_ (by omega)])))) (.cons (M_ (by (unfold shapeE;try unfold aroundE;(repeat first|rw[i_ (by omega)]|rw[j_ (by omega)])))) (.cons (M_ (by (unfold shapeE;try unfold aroundE;(repeat first|rw[i_ (by omega)]|rw[j_ (by omega)])))) .nil)))) (.cons (M_ (by (unfold shapeE;try unfold aroundE;(repeat first|rw[i_ (by omega)]|rw[j_ (by omega)])))) .nil)))
    ·have gc3:¬n.kd=4∧¬n.kd=5:=gc0_ hc3
     rcases bft (decide (n.kd<1) || decide (n.kd>9)) with hc4|hc4
     ·have gc4:n.kd<1∨n.kd>9:=gc0_ hc4
      exact (cR_ [r_,r_,d_,r_,d_,r_,d_,.r [] [o_,o_,o_,.sel 1],d_,.r [] [o_,o_,o_,.sel 1],b_,r_] (AV.tup [AV.agg [i64 0,i64 0,i64 0],i64 6]) Tryz.func79 (.d5 hc0 hc1 hc2 hc3 hc4)).weak (Y_ _) (AS_ (.cons (AV_ (.cons (M_ (by (unfold shapeE;try unfold aroundE;(repeat first|rw[i_ (by omega)]|rw[j_ (by omega)])))) (.cons (M_ (by (unfold shapeE;try unfold aroundE;(repeat first|rw[i_ (by omega)]|rw[j_ (by omega)])))) (.cons (M_ (by (unfold shapeE;try unfold aroundE;(repeat first|rw[i_ (by omega)]|rw[j_ (by omega)])))) .nil)))) (.cons (M_ (by (unfold shapeE;try unfold aroundE;(repeat first|rw[i_ (by omega)]|rw[j_ (by omega)])))) .nil)))
     ·have gc4:¬n.kd<1∧¬n.kd>9:=gc0_ hc4
      have oz5:=@refElems_v (a.h) (a.x) (a.c) p1 p2 p3
      have oz6:=(show BinTo N_ BinOp.neq 23 (Operand.tmp 70) (Operand.tmp 71) (BG_ #[AO_ L_ a.h,AO_ L_ a.x,AO_ L_ a.c]) (BG_ #[AO_ L_ b.h,AO_ L_ b.x,AO_ L_ b.c]) (AI_ !eqNums [(L_,a.h,b.h),(L_,a.x,b.x),(L_,a.c,b.c)]) from ((bin_nums (l:=[(L_,a.h,b.h),(L_,a.x,b.x),(L_,a.c,b.c)]) (by kernel_rfl) (by kernel_rfl) (by kernel_rfl) (by kernel_rfl) _ _).2))
      rcases bft (elems a.h a.x a.c==0 || n.kd==6 && !eqNums [(L_,a.h,b.h),(L_,a.x,b.x),(L_,a.c,b.c)]) with hc5|hc5
      ·have gc5:elems a.h a.x a.c=0∨n.kd=6∧¬(a.h=b.h∧a.x=b.x∧a.c=b.c):=gc0_ hc5
       exact (cR_ [r_,r_,d_,r_,d_,r_,d_,.r [] [o_,o_,o_,.sel 1],d_,.r [] [o_,o_,o_,.sel 1],d_,.r [] [cr oz5,o_,o_,o_,o_,o_,o_,o_,.v (AI_ !eqNums [(L_,a.h,b.h),(L_,a.x,b.x),(L_,a.c,b.c)]),o_,.sel 2,.sel 1],b_,r_] (AV.tup [AV.agg [i64 0,i64 0,i64 0],i64 5]) Tryz.func79 (.d8 hc0 hc1 hc2 hc3 hc4 oz5 oz6 hc5)).weak (Y_ _) (AS_ (.cons (AV_ (.cons (M_ (by (unfold shapeE;try unfold aroundE;(repeat first|rw[i_ (by omega)]|rw[j_ (by omega)])))) (.cons (M_ (by (unfold shapeE;try unfold aroundE;(repeat first|rw[i_ (by omega)]|rw[j_ (by omega)])))) (.cons (M_ (by (unfold shapeE;try unfold aroundE;(repeat first|rw[i_ (by omega)]|rw[j_ (by omega)])))) .nil)))) (.cons (M_ (by (unfold shapeE;try unfold aroundE;(repeat first|rw[i_ (by omega)]|rw[j_ (by omega)])))) .nil)))
      ·have gc5:¬elems a.h a.x a.c=0∧(¬n.kd=6∨a.h=b.h∧a.x=b.x∧a.c=b.c):=gc0_ hc5
       rcases bft (n.kd==9) with hc6|hc6
       ·have gc6:n.kd=9:=bet hc6
        exact (cR_ [r_,r_,d_,r_,d_,r_,d_,.r [] [o_,o_,o_,.sel 1],d_,.r [] [o_,o_,o_,.sel 1],d_,.r [] [cr oz5,o_,o_,o_,o_,o_,o_,o_,.v (AI_ !eqNums [(L_,a.h,b.h),(L_,a.x,b.x),(L_,a.c,b.c)]),o_,.sel 2,.sel 1],d_,r_,b_,.r [] [cr oz5]] (AV.tup [AV.agg [i64 1,i64 1,i64 (elems a.h a.x a.c)],i64 0]) Tryz.func79 (.c8 hc0 hc1 hc2 hc3 hc4 oz5 oz6 hc5<|.d2 hc6 oz5)).weak (Y_ _) (AS_ (.cons (AV_ (.cons (M_ (by (unfold shapeE;try unfold aroundE;(repeat first|rw[i_ (by omega)]|rw[j_ (by omega)])))) (.cons (M_ (by (unfold shapeE;try unfold aroundE;(repeat first|rw[i_ (by omega)]|rw[j_ (by omega)])))) (.cons (M_ (by (unfold shapeE;try unfold aroundE;(repeat first|rw[i_ (by omega)]|rw[j_ (by omega)])))) .nil)))) (.cons (M_ (by (unfold shapeE;try unfold aroundE;(repeat first|rw[i_ (by omega)]|rw[j_ (by omega)])))) .nil)))
       ·have gc6:¬n.kd=9:=bef hc6
        rcases bft (n.kd==8) with hc7|hc7
        ·have gc7:n.kd=8:=bet hc7
         rcases bft (decide (n.np<0) || decide (n.np>4)) with hc8|hc8
         ·have gc8:n.np<0∨n.np>4:=gc0_ hc8
          exact (cR_ [r_,r_,d_,r_,d_,r_,d_,.r [] [o_,o_,o_,.sel 1],d_,.r [] [o_,o_,o_,.sel 1],d_,.r [] [cr oz5,o_,o_,o_,o_,o_,o_,o_,.v (AI_ !eqNums [(L_,a.h,b.h),(L_,a.x,b.x),(L_,a.c,b.c)]),o_,.sel 2,.sel 1],d_,r_,d_,r_,b_,.r [] [o_,o_,o_,.sel 1],b_,r_] (AV.tup [AV.agg [i64 0,i64 0,i64 0],i64 2]) Tryz.func79 (.c8 hc0 hc1 hc2 hc3 hc4 oz5 oz6 hc5<|.d3 hc6 hc7 hc8)).weak (Y_ _) (AS_ (.cons (AV_ (.cons (M_ (by (unfold shapeE;try unfold aroundE;(repeat first|rw[i_ (by omega)]|rw[j_ (by omega)])))) (.cons (M_ (by (unfold shapeE;try unfold aroundE;(repeat first|rw[i_ (by omega)]|rw[j_ (by omega)])))) (.cons (M_ (by (unfold shapeE;try unfold aroundE;(repeat first|rw[i_ (by omega)]|rw[j_ (by omega)])))) .nil)))) (.cons (M_ (by (unfold shapeE;try unfold aroundE;(repeat first|rw[i_ (by omega)]|rw[j_ (by omega)])))) .nil)))
         ·have gc8:¬n.np<0∧¬n.np>4:=gc0_ hc8
          have oz11:=(i6n (2*n.np) (by omega))
          have oz12:=(i6n (a.h+2*n.np) (by omega))
          have oz14:=(i6n (a.x+2*n.np) (by omega))
          have oz15:=@refElems_v (a.h+2*n.np) (a.x+2*n.np) (a.c) (by omega) (by omega) p3
          rcases bft (elems (a.h+2*n.np) (a.x+2*n.np) a.c==0) with hc9|hc9
          ·have gc9:elems (a.h+2*n.np) (a.x+2*n.np) a.c=0:=bet hc9
           exact (cR_ [r_,r_,d_,r_,d_,r_,d_,.r [] [o_,o_,o_,.sel 1],d_,.r [] [o_,o_,o_,.sel 1],d_,.r [] [cr oz5,o_,o_,o_,o_,o_,o_,o_,.v (AI_ !eqNums [(L_,a.h,b.h),(L_,a.x,b.x),(L_,a.c,b.c)]),o_,.sel 2,.sel 1],d_,r_,d_,r_,b_,.r [] [o_,o_,o_,.sel 1],d_,.r [] [.n (nO oz11),.n (nO oz12),.n (nO oz11),.n (nO oz14)],.r [] [cr oz15],b_,r_] (AV.tup [AV.agg [i64 0,i64 0,i64 0],i64 5]) Tryz.func79 (.c8 hc0 hc1 hc2 hc3 hc4 oz5 oz6 hc5<|.c8 hc6 hc7 hc8 oz11 oz12 oz11 oz14 oz15<|.d hc9)).weak (Y_ _) (AS_ (.cons (AV_ (.cons (M_ (by (unfold shapeE;try unfold aroundE;(repeat first|rw[i_ (by omega)]|rw[j_ (by omega)])))) (.cons (M_ (by (unfold shapeE;try unfold aroundE;(repeat first|rw[i_ (by omega)]|rw[j_ (by omega)])))) (.cons (M_ (by (unfold shapeE;try unfold aroundE;(repeat first|rw[i_ (by omega)]|rw[j_ (by omega)])))) .nil)))) (.cons (M_ (by (unfold shapeE;try unfold aroundE;(repeat first|rw[i_ (by omega)]|rw[j_ (by omega)])))) .nil)))
          ·have gc9:¬elems (a.h+2*n.np) (a.x+2*n.np) a.c=0:=bef hc9
           exact (cR_ [r_,r_,d_,r_,d_,r_,d_,.r [] [o_,o_,o_,.sel 1],d_,.r [] [o_,o_,o_,.sel 1],d_,.r [] [cr oz5,o_,o_,o_,o_,o_,o_,o_,.v (AI_ !eqNums [(L_,a.h,b.h),(L_,a.x,b.x),(L_,a.c,b.c)]),o_,.sel 2,.sel 1],d_,r_,d_,r_,b_,.r [] [o_,o_,o_,.sel 1],d_,.r [] [.n (nO oz11),.n (nO oz12),.n (nO oz11),.n (nO oz14)],.r [] [cr oz15],d_,r_] (AV.tup [AV.agg [i64 (a.h+2*n.np),i64 (a.x+2*n.np),i64 a.c],i64 0]) Tryz.func79 (.c8 hc0 hc1 hc2 hc3 hc4 oz5 oz6 hc5<|.c8 hc6 hc7 hc8 oz11 oz12 oz11 oz14 oz15<|.d hc9)).weak (Y_ _) (AS_ (.cons (AV_ (.cons (M_ (by (unfold shapeE;try unfold aroundE;(repeat first|rw[i_ (by omega)]|rw[j_ (by omega)])))) (.cons (M_ (by (unfold shapeE;try unfold aroundE;(repeat first|rw[i_ (by omega)]|rw[j_ (by omega)])))) (.cons (M_ (by (unfold shapeE;try unfold aroundE;(repeat first|rw[i_ (by omega)]|rw[j_ (by omega)])))) .nil)))) (.cons (M_ (by (unfold shapeE;try unfold aroundE;(repeat first|rw[i_ (by omega)]|rw[j_ (by omega)])))) .nil)))
        ·have gc7:¬n.kd=8:=bef hc7
         exact (cR_ [r_,r_,d_,r_,d_,r_,d_,.r [] [o_,o_,o_,.sel 1],d_,.r [] [o_,o_,o_,.sel 1],d_,.r [] [cr oz5,o_,o_,o_,o_,o_,o_,o_,.v (AI_ !eqNums [(L_,a.h,b.h),(L_,a.x,b.x),(L_,a.c,b.c)]),o_,.sel 2,.sel 1],d_,r_,d_,r_,d_,r_] (AV.tup [AV.agg [i64 a.h,i64 a.x,i64 a.c],i64 0]) Tryz.func79 (.c8 hc0 hc1 hc2 hc3 hc4 oz5 oz6 hc5<|.d2 hc6 hc7)).weak (Y_ _) (AS_ (.cons (AV_ (.cons (M_ (by (unfold shapeE;try unfold aroundE;(repeat first|rw[i_ (by omega)]|rw[j_ (by omega)])))) (.cons (M_ (by (unfold shapeE;try unfold aroundE;(repeat first|rw[i_ (by omega)]|rw[j_ (by omega)])))) (.cons (M_ (by (unfold shapeE;try unfold aroundE;(repeat first|rw[i_ (by omega)]|rw[j_ (by omega)])))) .nil)))) (.cons (M_ (by (unfold shapeE;try unfold aroundE;(repeat first|rw[i_ (by omega)]|rw[j_ (by omega)])))) .nil)))
instance:Inhabited Nod:=⟨⟨0,0,0,0,0,0,0,0,0,[],[],0,0,0,0,0,0,0,0⟩⟩
instance:Inhabited Shp:=⟨⟨0,0,0⟩⟩
abbrev shpC (s:Shp):List AV:=[i64 s.h,i64 s.x,i64 s.c]
def firstBad (p:Nat→Bool):Nat→Nat
 | 0=>0
 | n+1=>if firstBad p n<n then firstBad p n else if p n=true then n+1 else n
theorem firstBad_all {p:Nat→Bool}:∀ {n},(∀ k,k<n→p k=true)→firstBad p n=n
 | 0,_=>rfl
 | n+1,h=>by rw[firstBad,firstBad_all fun k hk=>h k (by omega),j_ (by omega),i_ (h n (by omega))]
theorem firstBad_at {p:Nat→Bool} {m:Nat} (hp:p m=false) (h:∀ k,k<m→p k=true):∀ {n},m<n→firstBad p n=m
 | n+1,hm=>by
  by_cases e:m=n
  ·subst e;rw[firstBad,firstBad_all h,j_ (by omega),j_ (by simp[hp])]
  ·rw[firstBad,firstBad_at hp h (s_ (m<n)),i_ (by omega)]
theorem firstBad_le {p:Nat→Bool}:∀ n,firstBad p n≤n
 | 0=>AT_ _
 | n+1=>by have:=firstBad_le (p:=p) n;rw[firstBad];split<;>(try split)<;>omega
def growL {α:Type} (f:Nod→List α→α×Int) (l:List Nod) (x:α):Nat→List α
 | 0=>[x]
 | k+1=>growL f l x k++[(f (l.getD k default) (growL f l x k)).1]
def errL {α:Type} (f:Nod→List α→α×Int) (l:List Nod) (x:α) (k:Nat):Int:=(f (l.getD k default) (growL f l x k)).2
theorem growL_len {α:Type} (f:Nod→List α→α×Int) (l:List Nod) (x:α):∀ k,(growL f l x k).length=k+1
 | 0=>rfl
 | k+1=>by rw[growL,AX_,growL_len f l x k];rfl
theorem growL_all {α:Type} {f:Nod→List α→α×Int} {l:List Nod} {x:α} {p:α→Prop} (h0:p x) {n:Nat} (h:∀ k,k<n→(∀ y∈growL f l x k,p y)→p (f (l.getD k default) (growL f l x k)).1):∀ k,k≤n→∀ y∈growL f l x k,p y
 | 0,_=>by intro y hy;simp only[growL,List.mem_singleton] at hy;subst hy;exact h0
 | k+1,hk=>by
  have ih:=growL_all h0 h k (by omega)
  intro y hy
  rw[growL,CW_,List.mem_singleton] at hy
  rcases hy with hy|rfl
  ·exact ih y hy
  ·exact h k (by omega) ih
theorem getD_in {α:Type} [Inhabited α] {l:List α} {p:α→Prop} (h:∀ y∈l,p y) {i:Nat} (hi:i<l.length):p (l.getD i default):=by
 rw[Z_,W_ hi];exact h _ (CD_ hi)
def takesL (n:Nod):List Int:=if n.kd=6 then [n.na,n.nb] else [n.na]
def secN (n:Nod):Int:=if n.kd=6 then n.nb else n.na
def thereB (n:Nod) (m:Int):Bool:=decide (0≤n.na)&&decide (n.na<m)&&decide (0≤secN n)&&decide (secN n<m)
theorem takes_v (n:Nod)  : VC N_ 186 ([nod n]) (ints .i64 (takesL n)):=by
 rcases bft (n.kd==6) with hc0|hc0
 ·have gc0:n.kd=6:=bet hc0
  exact (cR_ [r_,r_,b_,r_] (AV.sl 1 [[i64 n.na],[i64 n.nb]]) Tryz.func186 (.d hc0)).weak (Y_ _) (CM_ (rows_to (row1 .i64) (r:=[[i64 n.na],[i64 n.nb]]) (l:=[n.na,n.nb]) (m:=takesL n) (by first|(simp only[C_,D_,AM_,AN_,A_,AK_,AL_];done)|rfl|(simp only[C_,D_,AM_,AN_,A_,AK_,AL_];rfl)) (show ([n.na,n.nb])=(takesL n) from (by (unfold takesL;rw[i_ (by simp_all)])))))
 ·have gc0:¬n.kd=6:=bef hc0
  exact (cR_ [r_,r_,d_,r_] (AV.sl 1 [[i64 n.na]]) Tryz.func186 (.d hc0)).weak (Y_ _) (CM_ (rows_to (row1 .i64) (r:=[[i64 n.na]]) (l:=[n.na]) (m:=takesL n) (by first|(simp only[C_,D_,AM_,AN_,A_,AK_,AL_];done)|rfl|(simp only[C_,D_,AM_,AN_,A_,AK_,AL_];rfl)) (show ([n.na])=(takesL n) from (by (unfold takesL;rw[j_ (by simp_all)])))))
theorem takes_len (n:Nod):1≤(takesL n).length∧(takesL n).length≤2:=by unfold takesL;split<;>simp
theorem takes_last (n:Nod) {i:Nat} (hi:i=(takesL n).length-1):(takesL n).getD i 0=secN n:=by subst hi;unfold takesL secN;split<;>rfl
theorem takes_there (n:Nod) (m:Int):(∀ k,k<(takesL n).length→decide (0≤(takesL n).getD k 0∧(takesL n).getD k 0<m)=true)↔thereB n m=true:=by
 unfold takesL thereB secN
 split
 ·simp only[AJ_,BB_,O_,E_]
  constructor
  ·intro h
   have h0:=h 0 (by omega);have h1:=h 1 (by omega)
   simp only[List.getD_cons_zero,List.getD_cons_succ] at h0 h1
   omega
  ·intro h k hk
   match k,hk with
   | 0,_=>simp only[List.getD_cons_zero];omega
   | 1,_=>simp only[List.getD_cons_zero,List.getD_cons_succ];omega
   | k+2,hk=>omega
 ·simp only[AJ_,BB_,O_,E_]
  constructor
  ·intro h
   have h0:=h 0 (by omega)
   simp only[List.getD_cons_zero] at h0
   omega
  ·intro h k hk
   have:k=0:=by omega
   subst this
   simp only[List.getD_cons_zero];omega
noncomputable def there_ly_I (l:List Int) (m:Int) (k:Nat):VS:=stt 22 [(1,i64 m),(8,ints .i64 l),(9,i64 l.length),(10,i64 k)] []
noncomputable def there_ly_Z (l:List Int) (m:Int):VS:=there_ly_I l m (l.length)
theorem there_ly_s (l:List Int) (m:Int) (hl:l.length≤1000) (h:∀ k,k<l.length→0≤l.getD k 0∧l.getD k 0<m) (k:Nat) (hk:k<l.length):VT N_ (fnC Tryz.f157 [1,0,1,0,0]) (there_ly_I l m k) .normal (there_ly_I l m (k+1)):=by
 have q:=h k hk
 have oz3:=(decide_eq_false (p:=(l.getD k 0<0)) (by omega))
 exact tR_ [r_,b_,.r [] [.row [i64 (l.getD k 0)]],.r [] [e_,e_,e_,f_],d_,.r [] [.n ((↑k:Int)+1)]] [.any (rg [(6,1),(11,11)]),.weak 10 (i64 (↑(k+1):Int)),.sort] (.c8 (decide_eq_true (p:=((↑k:Int)<(l.length:Int))) (by omega)) (s_ (0≤(↑k:Int))) (map_at (row1 .i64) (0) (l:=l) (i:=k) hk) oz3 oz3 oz3 oz3 (decide_eq_false (p:=(l.getD k 0≥m)) (by omega))<|.d2 (i6n ((↑k:Int)+1) (by omega)) (wS_ k))
theorem there_ly_e (l:List Int) (m:Int) (hl:l.length≤1000) (h:∀ k,k<l.length→0≤l.getD k 0∧l.getD k 0<m):VT N_ (fnC Tryz.f157 [1,0,1,0,0]) (there_ly_I l m (l.length)) (.exit 0) (there_ly_Z l m):=by
 exact tR_ [r_,d_] [.any [11],.sort] (.d (decide_eq_false (p:=((l.length:Int)<(l.length:Int))) (by omega)))
theorem there_ly (l:List Int) (m:Int) (hl:l.length≤1000) (h:∀ k,k<l.length→0≤l.getD k 0∧l.getD k 0<m):VT N_ (fnC Tryz.f157 [1,0,1,0]) (there_ly_I l m 0) (.exit 0) (there_ly_Z l m) :=
 VT.loop (fun k=>there_ly_I l m k) (l.length) (fun k hk=>there_ly_s l m hl h k hk) (there_ly_e l m hl h) (by intro h;cases h)
noncomputable def there_ln_I (l:List Int) (m:Int) (j:Nat) (k:Nat):VS:=stt 22 [(1,i64 m),(8,ints .i64 l),(9,i64 l.length),(10,i64 k)] []
noncomputable def there_ln_Z (l:List Int) (m:Int) (j:Nat):VS:=stt 22 [(4,bv false)] []
theorem there_ln_s (l:List Int) (m:Int) (j:Nat) (hl:l.length≤1000) (hj:j<l.length) (hf:¬ (0≤l.getD j 0∧l.getD j 0<m)) (h:∀ k,k<j→0≤l.getD k 0∧l.getD k 0<m) (k:Nat) (hk:k<j):VT N_ (fnC Tryz.f157 [1,0,1,0,0]) (there_ln_I l m j k) .normal (there_ln_I l m j (k+1)):=by
 have q:=h k hk
 have oz3:=(decide_eq_false (p:=(l.getD k 0<0)) (by omega))
 exact tR_ [r_,b_,.r [] [.row [i64 (l.getD k 0)]],.r [] [e_,e_,e_,f_],d_,.r [] [.n ((↑k:Int)+1)]] [.any (rg [(6,1),(11,11)]),.weak 10 (i64 (↑(k+1):Int)),.sort] (.c8 (decide_eq_true (p:=((↑k:Int)<(l.length:Int))) (by omega)) (s_ (0≤(↑k:Int))) (map_at (row1 .i64) (0) (l:=l) (i:=k) (by omega)) oz3 oz3 oz3 oz3 (decide_eq_false (p:=(l.getD k 0≥m)) (by omega))<|.d2 (i6n ((↑k:Int)+1) (by omega)) (wS_ k))
theorem there_ln_e (l:List Int) (m:Int) (j:Nat) (hl:l.length≤1000) (hj:j<l.length) (hf:¬ (0≤l.getD j 0∧l.getD j 0<m)) (h:∀ k,k<j→0≤l.getD k 0∧l.getD k 0<m):VT N_ (fnC Tryz.f157 [1,0,1,0,0]) (there_ln_I l m j (j)) (.ret) (there_ln_Z l m j):=by
 exact tR_ [r_,b_,.r [] [.row [i64 (l.getD j 0)]],.r [] [o_,o_,o_,.sel 1],b_,r_] [.any (rg [(1,1),(6,1),(8,9),(20,1)]),.sort] (.d4 (decide_eq_true (p:=((↑j:Int)<(l.length:Int))) (by omega)) (s_ (0≤(↑j:Int))) (map_at (row1 .i64) (0) (l:=l) (i:=j) hj) (show (decide (l.getD j 0<0) || decide (l.getD j 0≥m))=true by (simp at *;omega)))
theorem there_ln (l:List Int) (m:Int) (j:Nat) (hl:l.length≤1000) (hj:j<l.length) (hf:¬ (0≤l.getD j 0∧l.getD j 0<m)) (h:∀ k,k<j→0≤l.getD k 0∧l.getD k 0<m):VT N_ (fnC Tryz.f157 [1,0,1,0]) (there_ln_I l m j 0) (.ret) (there_ln_Z l m j) :=
 VT.loop (fun k=>there_ln_I l m j k) (j) (fun k hk=>there_ln_s l m j hl hj hf h k hk) (there_ln_e l m j hl hj hf h) (by intro h;cases h)
theorem there_y (n:Nod) (m:Int) (h:∀ k,k<(takesL n).length→0≤(takesL n).getD k 0∧(takesL n).getD k 0<m):VC N_ 157 ([nod n,i64 m]) (bv true):=by
 have q:=takes_len n
 have oz0:=@takes_v (n)
 have oz1:=(M_ (k:=.i64) (show ((((K_ (row1 .i64) (takesL n)).length:Int)):Int)=(((takesL n).length:Int)) from (by (simp;done))))
 have oz3:=@there_ly (takesL n) (m) (by omega) h
 exact cR_ [r_,.r [] [cr oz0],.code [.any [0,2,4,7],.drop [2],.weak 9 (wO oz1),.weak 10 (i64 (↑0:Int)),.sort] (AA_ 0) (zO oz3),r_] _ Tryz.func157 (.d4 oz0 oz1 w0_ oz3)
theorem there_n (n:Nod) (m:Int) (j:Nat) (hj:j<(takesL n).length) (hf:¬ (0≤(takesL n).getD j 0∧(takesL n).getD j 0<m)) (h:∀ k,k<j→0≤(takesL n).getD k 0∧(takesL n).getD k 0<m):VC N_ 157 ([nod n,i64 m]) (bv false):=by
 have q:=takes_len n
 have oz0:=@takes_v (n)
 have oz1:=(M_ (k:=.i64) (show ((((K_ (row1 .i64) (takesL n)).length:Int)):Int)=(((takesL n).length:Int)) from (by (simp;done))))
 have oz3:=@there_ln (takesL n) (m) (j) (by omega) hj hf h
 exact cR_ [r_,.r [] [cr oz0],.code [.any [0,2,4,7],.drop [2],.weak 9 (wO oz1),.weak 10 (i64 (↑0:Int)),.sort] (DN_) (zO oz3)] _ Tryz.func157 (.d4 oz0 oz1 w0_ oz3)
theorem there_v (n:Nod) (m:Int):VC N_ 157 [nod n,i64 m] (bv (thereB n m)):=by
 rcases all_or (fun k=>decide (0≤(takesL n).getD k 0∧(takesL n).getD k 0<m)) (takesL n).length with h|⟨j,h1,h2,h3⟩
 ·rw[(takes_there n m).1 h];exact there_y n m fun k hk=>of_decide_eq_true (h k hk)
 ·have:thereB n m=false:=by
   cases e:thereB n m with
   | false=>rfl
   | true=>have:=(takes_there n m).2 e j h1;rw[h2] at this;cases this
  rw[this];exact there_n n m j h1 (of_decide_eq_false h2) fun k hk=>of_decide_eq_true (h3 k hk)
theorem gof_v (n:Nod)  : VC N_ 159 ([nod n]) (i64 (secN n)):=by
 have q:=takes_len n
 have q2:(K_ (row1 .i64) (takesL n)).length=(takesL n).length:=S_ _
 have oz0:=@takes_v (n)
 have oz1:=(i6n (((K_ (row1 .i64) (takesL n)).length:Int)-1) (by omega))
 have oz3:=(map_at (row1 .i64) (0) (l:=takesL n) (i:=(((K_ (row1 .i64) (takesL n)).length:Int)-1).toNat) (by omega))
 exact (cR_ [r_,.r [] [cr oz0],.r [] [.n (nO oz1),.row (sO oz3)]] (i64 ((takesL n).getD (((K_ (row1 .i64) (takesL n)).length:Int)-1).toNat 0)) Tryz.func159 (.d4 oz0 oz1 (s_ (0≤((K_ (row1 .i64) (takesL n)).length:Int)-1)) oz3)).weak (Y_ _) (M_ (by (exact takes_last n (by omega))))
theorem refThere_v (n:Nod) (m:Int)  : VC N_ 78 ([nod n,i64 m]) (bv (thereB n m)):=by
 exact (cR_ [r_,.r [] [o_,o_,o_,o_,.sel 2,o_,o_,o_,o_,o_,o_,o_,o_,o_,o_,o_,o_,o_,.sel 2,o_,.sel 1,.sel 2]] (bv (decide (n.na≥0)&&decide (n.na<m)&&(n.kd != 6 || decide (n.nb≥0)&&decide (n.nb<m)))) Tryz.func78 (.n)).weak (Y_ _) (DK_ (by (unfold thereB secN;rw[Bool.eq_iff_iff];by_cases e6:n.kd=6<;>simp[e6]<;>omega)))
theorem refSecond_v (n:Nod)  : VC N_ 80 ([nod n]) (i64 (secN n)):=by
 rcases bft (n.kd==6) with hc0|hc0
 ·have gc0:n.kd=6:=bet hc0
  exact (cR_ [r_,r_,b_,r_] (i64 n.nb) Tryz.func80 (.d hc0)).weak (Y_ _) (M_ (by (unfold secN;rw[i_ (by simp_all)])))
 ·have gc0:¬n.kd=6:=bef hc0
  exact (cR_ [r_,r_,d_,r_] (i64 n.na) Tryz.func80 (.d hc0)).weak (Y_ _) (M_ (by (unfold secN;rw[j_ (by simp_all)])))
def nextE (n:Nod) (L:List Shp):Shp×Int:=if checkE n≠0 then (⟨0,0,0⟩,checkE n) else if thereB n L.length=true then shapeE n (L.getD n.na.toNat default) (L.getD (secN n).toNat default) else (⟨0,0,0⟩,8)
theorem there_iff {n:Nod} {m:Int}:thereB n m=true↔0≤n.na∧n.na<m∧0≤secN n∧secN n<m:=by
 unfold thereB;simp only[O_,E_];omega
theorem next_v (n:Nod) (L:List Shp) (ok:n.Ok) (okL:∀ s∈L,s.Ok) (hL:L.length≤100) (wl:n.w.length≤100000) (bl:n.b.length≤100000):VC N_ 129 ([nod n,.sl 3 (L.map shpC)]) (.tup [shp (nextE n L).1,i64 (nextE n L).2]):=by
 have q1:=@there_iff n L.length
 have q2:=ok.kd
 have q3:=fun (h:n.na.toNat<L.length)=>getD_in okL h
 have q4:=fun (h:(secN n).toNat<L.length)=>getD_in okL h
 have oz0:=@check_v (n) wl bl q2
 rcases bft (checkE n != 0) with hc0|hc0
 ·have gc0:¬checkE n=0:=bdt hc0
  exact (cR_ [r_,.r [] [cr oz0],r_,b_,r_] (AV.tup [AV.agg [i64 0,i64 0,i64 0],i64 (checkE n)]) Tryz.func129 (.d2 oz0 hc0)).weak (Y_ _) (AS_ (.cons (AV_ (.cons (M_ (by (unfold nextE;rw[i_ (by simp_all)]))) (.cons (M_ (by (unfold nextE;rw[i_ (by simp_all)]))) (.cons (M_ (by (unfold nextE;rw[i_ (by simp_all)]))) .nil)))) (.cons (M_ (by (unfold nextE;rw[i_ (by simp_all)]))) .nil)))
 ·have gc0:checkE n=0:=bdf hc0
  have oz2:=@there_v (n) (((K_ shpC L).length:Int))
  rcases bft (!thereB n ((K_ shpC L).length:Int)) with hc1|hc1
  ·have gc1:thereB n ((K_ shpC L).length:Int)=false:=by first|exact hc1|exact of_decide_eq_true hc1|exact of_decide_eq_false hc1|simpa [eqNums] using hc1|(simp[eqNums] at hc1 ⊢;first|done|assumption|omega)
   exact (cR_ [r_,.r [] [cr oz0],r_,d_,.r [] [cr oz2],b_,r_] (AV.tup [AV.agg [i64 0,i64 0,i64 0],i64 8]) Tryz.func129 (.d4 oz0 hc0 oz2 hc1)).weak (Y_ _) (AS_ (.cons (AV_ (.cons (M_ (by (unfold nextE;rw[j_ (by simp_all),j_ (by simp_all)]))) (.cons (M_ (by (unfold nextE;rw[j_ (by simp_all),j_ (by simp_all)]))) (.cons (M_ (by (unfold nextE;rw[j_ (by simp_all),j_ (by simp_all)]))) .nil)))) (.cons (M_ (by (unfold nextE;rw[j_ (by simp_all),j_ (by simp_all)]))) .nil)))
  ·have gc1:thereB n ((K_ shpC L).length:Int)=true:=by first|exact hc1|exact of_decide_eq_true hc1|exact of_decide_eq_false hc1|simpa [eqNums] using hc1|(simp[eqNums] at hc1 ⊢;first|done|assumption|omega)
   have oz5:=(map_at (shpC) (default) (l:=L) (i:=n.na.toNat) (by (have:=q1.1 (by simp_all);omega)))
   have oz6:=@gof_v (n)
   have oz8:=(map_at (shpC) (default) (l:=L) (i:=(secN n).toNat) (by (have:=q1.1 (by simp_all);omega)))
   have oz9:=@kshape_v (n) (L.getD n.na.toNat default) (L.getD (secN n).toNat default) (by (exact q3 (by have:=q1.1 (by simp_all);omega))) (by (exact q4 (by have:=q1.1 (by simp_all);omega))) ok
   exact (cR_ [r_,.r [] [cr oz0],r_,d_,.r [] [cr oz2],d_,.r [] [.row (sO oz5),cr oz6,.row (sO oz8),cr oz9]] (AV.tup [AV.agg [i64 (shapeE n (L.getD n.na.toNat default) (L.getD (secN n).toNat default)).fst.h,i64 (shapeE n (L.getD n.na.toNat default) (L.getD (secN n).toNat default)).fst.x,i64 (shapeE n (L.getD n.na.toNat default) (L.getD (secN n).toNat default)).fst.c],i64 (shapeE n (L.getD n.na.toNat default) (L.getD (secN n).toNat default)).snd]) Tryz.func129 (.c8 oz0 hc0 oz2 hc1 (show 0≤n.na by (have:=q1.1 (by simp_all);omega)) oz5 oz6 (show 0≤secN n by (have:=q1.1 (by simp_all);omega))<|.d2 oz8 oz9)).weak (Y_ _) (AS_ (.cons (AV_ (.cons (M_ (by (unfold nextE;rw[j_ (by simp_all),i_ (by simp_all)]))) (.cons (M_ (by (unfold nextE;rw[j_ (by simp_all),i_ (by simp_all)]))) (.cons (M_ (by (unfold nextE;rw[j_ (by simp_all),i_ (by simp_all)]))) .nil)))) (.cons (M_ (by (unfold nextE;rw[j_ (by simp_all),i_ (by simp_all)]))) .nil)))
def plC (l:List Int) (i k:Nat):Bool:=decide (l.getD k 0>l.getD i 0) || (l.getD k 0==l.getD i 0&&decide ((k:Int)<(i:Int)))
def plN (l:List Int) (i:Nat):Nat→Int
 | 0=>0
 | k+1=>if plC l i k=true then plN l i k+1 else plN l i k
theorem plN_bd (l:List Int) (i:Nat):∀ k:Nat,0≤plN l i k∧plN l i k≤k
 | 0=>by simp[plN]
 | k+1=>by have:=plN_bd l i k;rw[plN];split<;>omega
noncomputable def place_l_I (l:List Int) (i:Nat) (k:Nat):VS:=stt 49 [(0,ints .i32 l),(1,i64 i),(5,i64 (plN l i k)),(6,i64 k)] []
noncomputable def place_l_Z (l:List Int) (i:Nat):VS:=place_l_I l i (l.length)
theorem place_l_s (l:List Int) (i:Nat) (hl:l.length≤1000) (hi:i<l.length) (k:Nat) (hk:k<l.length):VT N_ (fnC Tryz.f150 [1,1,1,0,1,0,0]) (place_l_I l i k) .normal (place_l_I l i (k+1)):=by
 have q:=plN_bd l i k
 have oz0:=(show decide ((↑k:Int)<((K_ (row1 .i32) l).length:Int))=true by (simp;omega))
 have oz1:=(s_ (0≤(↑k:Int)))
 have oz2:=(map_at (row1 .i32) (0) (l:=l) (i:=k) hk)
 have oz3:=(s_ (0≤(↑i:Int)))
 have oz4:=(map_at (row1 .i32) (0) (l:=l) (i:=i) hi)
 rcases bft (decide (l.getD k 0>l.getD i 0) || l.getD k 0==l.getD i 0&&decide ((↑k:Int)<(↑i:Int))) with hc0|hc0
 ·have gc0:l.getD k 0>l.getD i 0∨l.getD k 0=l.getD i 0∧(↑k:Int)<(↑i:Int):=gc0_ hc0
  exact tR_ [r_,b_,.r [] [.row (sO oz2),.row (sO oz4),o_,o_,o_,.row (sO oz2),o_,o_,o_,o_,.row (sO oz4),o_,o_,o_,o_,o_,o_,o_,.sel 2,.sel 1],b_,.r [] [.n (plN l i k+1)],.r [] [.n ((↑k:Int)+1)]] [.any (rg [(15,16),(45,3)]),.weak 5 (i64 (plN l i (k+1))),.weak 6 (i64 (↑(k+1):Int)),.sort] (.c8 oz0 oz1 oz2 oz3 oz4 oz1 oz2 oz3<|.d6 oz4 hc0 (i6n (plN l i k+1) (by omega)) (i6n ((↑k:Int)+1) (by omega)) (M_ (k:=.i64) (show ((plN l i k+1):Int)=(plN l i (k+1)) from (by (rw[plN,i_ (by unfold plC;assumption)])))) (wS_ k))
 ·have gc0:¬l.getD k 0>l.getD i 0∧(¬l.getD k 0=l.getD i 0∨¬(↑k:Int)<(↑i:Int)):=gc0_ hc0
  exact tR_ [r_,b_,.r [] [.row (sO oz2),.row (sO oz4),o_,o_,o_,.row (sO oz2),o_,o_,o_,o_,.row (sO oz4),o_,o_,o_,o_,o_,o_,o_,.sel 2,.sel 1],d_,.r [] [.n ((↑k:Int)+1)]] [.any (rg [(15,16),(45,1)]),.weak 5 (i64 (plN l i (k+1))),.weak 6 (i64 (↑(k+1):Int)),.sort] (.c8 oz0 oz1 oz2 oz3 oz4 oz1 oz2 oz3<|.d5 oz4 hc0 (i6n ((↑k:Int)+1) (by omega)) (M_ (k:=.i64) (show ((plN l i k):Int)=(plN l i (k+1)) from (by (rw[plN,j_ (by unfold plC;simp_all)])))) (wS_ k))
theorem place_l_e (l:List Int) (i:Nat) (hl:l.length≤1000) (hi:i<l.length):VT N_ (fnC Tryz.f150 [1,1,1,0,1,0,0]) (place_l_I l i (l.length)) (.exit 0) (place_l_Z l i):=by
 exact tR_ [r_,d_] [.any (rg [(15,4)]),.sort] (.d (show decide ((l.length:Int)<((K_ (row1 .i32) l).length:Int))=false by (simp;done)))
theorem place_l (l:List Int) (i:Nat) (hl:l.length≤1000) (hi:i<l.length):VT N_ (fnC Tryz.f150 [1,1,1,0,1,0]) (place_l_I l i 0) (.exit 0) (place_l_Z l i) :=
 VT.loop (fun k=>place_l_I l i k) (l.length) (fun k hk=>place_l_s l i hl hi k hk) (place_l_e l i hl hi) (by intro h;cases h)
theorem place_v (l:List Int) (i:Nat) (hl:l.length≤1000) (hi:i<l.length):VC N_ 150 ([ints .i32 l,i64 i]) (i64 (plN l i l.length)):=by
 have q:=plN_bd l i l.length
 have oz0:=(decide_eq_false (p:=((↑i:Int)<0)) (by omega))
 have oz8:=@place_l (l) (i) hl hi
 exact cR_ [r_,.r [] [e_,e_,e_,e_,f_],d_,r_,r_,.code [.any (rg [(4,1),(7,8)]),.weak 5 (i64 (plN l i 0)),.weak 6 (i64 (↑0:Int)),.sort] (AA_ 0) (zO oz8),r_] _ Tryz.func150 (.c8 oz0 oz0 oz0 oz0 oz0 (show decide ((↑i:Int)≥((K_ (row1 .i32) l).length:Int))=false by (simp;omega)) (M_ (k:=.i64) (show ((0):Int)=(plN l i 0) from (by rfl))) w0_<|.d oz8)
theorem plN_0 {l:List Int} {i:Nat}:∀ {n:Nat},(∀ k,k<n→plC l i k=false)→plN l i n=0
 | 0,_=>rfl
 | n+1,h=>by rw[plN,j_ (by rw[h n (by omega)];simp)];exact plN_0 fun k hk=>h k (by omega)
theorem top_at (l:List Int):∀ n:Nat,0<n→∃ i,i<n∧∀ k,k<n→plC l i k=false
 | 0,h=>by omega
 | 1,_=>⟨0,by omega,fun k hk=>by
   obtain rfl:k=0:=by omega
   unfold plC;simp⟩
 | n+2,_=>by
  obtain ⟨i,hi,h⟩:=top_at l (n+1) (by omega)
  have st:∀ k,k<n+1→l.getD k 0<l.getD i 0∨(l.getD k 0=l.getD i 0∧i≤k):=fun k hk=>by
   have:=h k hk
   unfold plC at this
   simp only[Q_,F_,P_,H_] at this
   omega
  by_cases g:l.getD i 0<l.getD (n+1) 0
  ·refine ⟨n+1,by omega,fun k hk=>?_⟩
   unfold plC
   simp only[Q_,F_,P_,H_]
   by_cases e:k=n+1
   ·subst e;omega
   ·have:=st k (by omega);omega
  ·refine ⟨i,by omega,fun k hk=>?_⟩
   by_cases e:k=n+1
   ·subst e
    unfold plC
    simp only[Q_,F_,P_,H_]
    omega
   ·exact h k (by omega)
def bestE (l:List Int):Nat:=firstBad (fun i=>plN l i l.length != 0) l.length
structure TopAt (l:List Int) (m:Nat):Prop where
 a:m<l.length
 z:plN l m l.length=0
 h:∀ i,i<m→plN l i l.length≠0
theorem bestE_at {l:List Int} (h:0<l.length):TopAt l (bestE l):=by
 obtain ⟨i,hi,h1⟩:=top_at l l.length h
 have h2:=plN_0 h1
 rcases all_or (fun i=>plN l i l.length != 0) l.length with a|⟨m,a1,a2,a3⟩
 ·have:=a i hi;rw[h2] at this;simp at this
 ·have e:bestE l=m:=firstBad_at (p:=fun i=>plN l i l.length != 0) a2 a3 a1
  rw[e]
  exact ⟨a1,by simpa using a2,fun i hi=>by simpa using a3 i hi⟩
noncomputable def best_l_I (l:List Int) (m:Nat) (k:Nat):VS:=stt 15 [(0,ints .i32 l),(3,i64 k)] []
noncomputable def best_l_Z (l:List Int) (m:Nat):VS:=stt 15 [(2,i64 m)] []
theorem best_l_s (l:List Int) (m:Nat) (hl:l.length≤1000) (h:TopAt l m) (k:Nat) (hk:k<m):VT N_ (fnC Tryz.f124 [1,0,1,0,0]) (best_l_I l m k) .normal (best_l_I l m (k+1)):=by
 have q:=h.h k hk
 have q1:=h.a
 have oz1:=@place_v (l) (k) hl (by omega)
 exact tR_ [r_,b_,.r [] [cr oz1],d_,.r [] [.n ((↑k:Int)+1)]] [.any (rg [(4,10)]),.weak 3 (i64 (↑(k+1):Int)),.sort] (.d5 (show decide ((↑k:Int)<((K_ (row1 .i32) l).length:Int))=true by (simp;omega)) oz1 (show (plN l k l.length==0)=false by (refine decide_eq_false ?_;omega)) (i6n ((↑k:Int)+1) (by omega)) (wS_ k))
theorem best_l_e (l:List Int) (m:Nat) (hl:l.length≤1000) (h:TopAt l m):VT N_ (fnC Tryz.f124 [1,0,1,0,0]) (best_l_I l m (m)) (.ret) (best_l_Z l m):=by
 have q1:=h.a
 have q2:=h.z
 have oz1:=@place_v (l) (m) hl q1
 exact tR_ [r_,b_,.r [] [cr oz1],b_,r_] [.any (rg [(0,1),(3,5),(10,5)]),.sort] (.d3 (show decide ((↑m:Int)<((K_ (row1 .i32) l).length:Int))=true by (simp;omega)) oz1 (show (plN l m l.length==0)=true by (refine decide_eq_true ?_;omega)))
theorem best_l (l:List Int) (m:Nat) (hl:l.length≤1000) (h:TopAt l m):VT N_ (fnC Tryz.f124 [1,0,1,0]) (best_l_I l m 0) (.ret) (best_l_Z l m) :=
 VT.loop (fun k=>best_l_I l m k) (m) (fun k hk=>best_l_s l m hl h k hk) (best_l_e l m hl h) (by intro h;cases h)
theorem best_v (l:List Int) (hl:l.length≤1000) (h0:0<l.length):VC N_ 124 ([ints .i32 l]) (i64 (bestE l)):=by
 have q1:=bestE_at h0
 have oz1:=@best_l (l) (bestE l) hl q1
 exact cR_ [r_,r_,.code [.any [2],.weak 3 (i64 (↑0:Int)),.sort] (DN_) (zO oz1)] _ Tryz.func124 (.d2 w0_ oz1)
def secE (l:List Int) (b:Nat):Nat→Int
 | 0 => -1
 | k+1=>if k≠b∧(secE l b k<0∨l.getD k 0>l.getD (secE l b k).toNat 0) then k else secE l b k
theorem secE_bd (l:List Int) (b:Nat):∀ k:Nat,-1≤secE l b k∧secE l b k<k∧(2≤k→0≤secE l b k)
 | 0=>by simp[secE]
 | k+1=>by
  have:=secE_bd l b k
  rw[secE]
  split
  ·omega
  ·rename_i h
   refine ⟨by omega,by omega,fun h2=>?_⟩
   by_cases e:k=b
   ·subst e
    by_cases k2:2≤k
    ·omega
    ·have k1:k=1:=by omega
     subst k1
     rw[secE,i_ ⟨by omega,.inl (by simp[secE])⟩];omega
   ·by_cases g:secE l b k<0
    ·exact absurd ⟨e,.inl g⟩ h
    ·omega
noncomputable def margin_l_I (l:List Int) (b:Nat) (k:Nat):VS:=stt 47 [(0,ints .i32 l),(3,i64 b),(4,i64 (secE l b k)),(5,i64 k)] []
noncomputable def margin_l_Z (l:List Int) (b:Nat):VS:=margin_l_I l b (l.length)
theorem margin_l_s (l:List Int) (b:Nat) (hl:l.length≤1000) (k:Nat) (hk:k<l.length):VT N_ (fnC Tryz.f123 [1,1,1,0,1,0,0]) (margin_l_I l b k) .normal (margin_l_I l b (k+1)):=by
 have q:=secE_bd l b k
 have oz0:=(show decide ((↑k:Int)<((K_ (row1 .i32) l).length:Int))=true by (simp;omega))
 have oz1:=(s_ (0≤(↑k:Int)))
 have oz2:=(map_at (row1 .i32) (0) (l:=l) (i:=k) hk)
 have oz3:=(show ((↑k:Int) != (↑b:Int) && !decide (secE l b k<0))=true→0≤secE l b k from (fun hc0=>have gc0:¬(↑k:Int)=(↑b:Int)∧¬secE l b k<0:=(by first|exact hc0|exact of_decide_eq_true hc0|exact of_decide_eq_false hc0|simpa [eqNums] using hc0|(simp[eqNums] at hc0 ⊢;first|done|assumption|omega));(by omega)))
 have oz4:=(show ((↑k:Int) != (↑b:Int) && !decide (secE l b k<0))=true→(K_ (row1 .i32) l)[(secE l b k).toNat]? = some [i32 (l.getD (secE l b k).toNat 0)] from (fun hc0=>have gc0:¬(↑k:Int)=(↑b:Int)∧¬secE l b k<0:=(by first|exact hc0|exact of_decide_eq_true hc0|exact of_decide_eq_false hc0|simpa [eqNums] using hc0|(simp[eqNums] at hc0 ⊢;first|done|assumption|omega));(map_at (row1 .i32) (0) (l:=l) (i:=(secE l b k).toNat) (by omega))))
 rcases bft ((↑k:Int) != (↑b:Int)&&(decide (secE l b k<0) || decide (l.getD k 0>l.getD (secE l b k).toNat 0))) with hc0|hc0
 ·have gc0:¬(↑k:Int)=(↑b:Int)∧(secE l b k<0∨l.getD k 0>l.getD (secE l b k).toNat 0):=gc0_ hc0
  exact tR_ [r_,b_,.r [] [o_,o_,o_,o_,o_,o_,.row (sO oz2),o_,o_,o_,p_,.row [i32 (l.getD (secE l b k).toNat 0)],o_,o_,o_,.sel 1,.sel 2],b_,r_,.r [] [.n ((↑k:Int)+1)]] [.any (rg [(11,10),(34,2)]),.weak 4 (i64 (secE l b (k+1))),.weak 5 (i64 (↑(k+1):Int)),.sort] (.c8 oz0 oz1 oz2 oz3 oz4 hc0 (i6n ((↑k:Int)+1) (by omega)) (M_ (k:=.i64) (show (((↑k:Int)):Int)=(secE l b (k+1)) from (by (rw[secE,i_ (by omega)]))))<|.d (wS_ k))
 ·have gc0:(↑k:Int)=(↑b:Int)∨¬secE l b k<0∧¬l.getD k 0>l.getD (secE l b k).toNat 0:=gc0_ hc0
  exact tR_ [r_,b_,.r [] [o_,o_,o_,o_,o_,o_,.row (sO oz2),o_,o_,o_,p_,.row [i32 (l.getD (secE l b k).toNat 0)],o_,o_,o_,.sel 1,.sel 2],d_,.r [] [.n ((↑k:Int)+1)]] [.any (rg [(11,10),(34,1)]),.weak 4 (i64 (secE l b (k+1))),.weak 5 (i64 (↑(k+1):Int)),.sort] (.c8 oz0 oz1 oz2 oz3 oz4 hc0 (i6n ((↑k:Int)+1) (by omega)) (M_ (k:=.i64) (show ((secE l b k):Int)=(secE l b (k+1)) from (by (rw[secE,j_ (by omega)]))))<|.d (wS_ k))
theorem margin_l_e (l:List Int) (b:Nat) (hl:l.length≤1000):VT N_ (fnC Tryz.f123 [1,1,1,0,1,0,0]) (margin_l_I l b (l.length)) (.exit 0) (margin_l_Z l b):=by
 exact tR_ [r_,d_] [.any (rg [(11,4)]),.sort] (.d (show decide ((l.length:Int)<((K_ (row1 .i32) l).length:Int))=false by (simp;done)))
theorem margin_l (l:List Int) (b:Nat) (hl:l.length≤1000):VT N_ (fnC Tryz.f123 [1,1,1,0,1,0]) (margin_l_I l b 0) (.exit 0) (margin_l_Z l b) :=
 VT.loop (fun k=>margin_l_I l b k) (l.length) (fun k hk=>margin_l_s l b hl k hk) (margin_l_e l b hl) (by intro h;cases h)
theorem margin_v (l:List Int) (hl:l.length≤1000) (h2:2≤l.length) (hx:∀ v∈l,In32 v):VC N_ 123 ([ints .i32 l]) (i64 (l.getD (bestE l) 0-l.getD (secE l (bestE l) l.length).toNat 0)):=by
 have q1:=bestE_at (l:=l) (by omega)
 have q2:=q1.a
 obtain ⟨q3,q4,q5⟩:=secE_bd l (bestE l) l.length
 have q6:In32 (l.getD (bestE l) 0):=gt32 hx _
 have q7:In32 (l.getD (secE l (bestE l) l.length).toNat 0):=gt32 hx _
 have oz1:=@best_v (l) hl (by omega)
 have oz4:=@margin_l (l) (bestE l) hl
 have oz6:=(map_at (row1 .i32) (0) (l:=l) (i:=bestE l) q2)
 have oz9:=(map_at (row1 .i32) (0) (l:=l) (i:=(secE l (bestE l) l.length).toNat) (by omega))
 have oz10:=(i6n (l.getD (secE l (bestE l) l.length).toNat 0) (by omega))
 have oz11:=(i6n (l.getD (bestE l) 0-l.getD (secE l (bestE l) l.length).toNat 0) (by omega))
 exact cR_ [r_,r_,d_,.r [] [cr oz1],r_,.code [.any [2,6,7,8,9,10],.weak 4 (i64 (secE l (bestE l) 0)),.weak 5 (i64 (↑0:Int)),.sort] (AA_ 0) (zO oz4),.r [] [.row (sO oz6),.n (l.getD (bestE l) 0),.row (sO oz9),.n (nO oz10),.n (nO oz11)]] _ Tryz.func123 (.c8 (show decide (((K_ (row1 .i32) l).length:Int)<2)=false by (simp;omega)) oz1 (M_ (k:=.i64) (show ((-1):Int)=(secE l (bestE l) 0) from (by rfl))) w0_ oz4 (s_ (0≤(↑(bestE l):Int))) oz6 (i6n (l.getD (bestE l) 0) (by omega))<|.d4 (s_ (0≤secE l (bestE l) l.length)) oz9 oz10 oz11)
def oneN (v:Int) (n:Nod):Int:=heldQ (v-n.za) n.qm n.qs n.qz n.lo n.hi
theorem actOne_w (v:Int) (n:Nod) (ok:n.Ok) (hv:In8 v):VC N_ 205 ([i8 v,nod n]) (i8 (oneN v n)):=by
 obtain ⟨q1,q2⟩:=id hv
 obtain ⟨q3,q4⟩:=ok.za
 have oz3:=@held_v (v-n.za) (n.qm) (n.qs) (n.qz) (n.lo) (n.hi) (by omega) (by (exact ok.qm)) (by (exact ok.qz)) (by (exact ok.lo)) (by (exact ok.hi))
 exact (cR_ [r_,.r [] [.n v,.n n.za,.n (v-n.za),cr oz3]] (i8 (heldQ (v-n.za) n.qm n.qs n.qz n.lo n.hi)) Tryz.func205 (.d4 (CV_ v (by omega)) (CV_ n.za (by omega)) (CV_ (v-n.za) (by omega)) oz3)).weak (Y_ _) (M_ (by rfl))
theorem upside_v (a b:Int)  : VC N_ 152 ([.agg [i8 a,i8 b]]) (bv (decide (a>b))):=by
 exact cR_ [r_,r_] _ Tryz.func152 (.n)
def headE (w b:List Int) (lo hi:Int):Int:=if sharedB w b=true then (if (allR w b lo hi 0 false b.length).all holdB=true then 0 else 10) else 9
abbrev hedC (w b:List Int) (nd:Int):List AV:=[ints .i8 w,ints .i32 b,i32 nd]
theorem hd_ok {w b:List Int} (hw:∀ v∈w,In8 v) (hb:∀ v∈b,In32 v):Nod.Ok ⟨0,0,0,0,0,0,0,0,0,w,b,0,0,0,0,0,0,0,0⟩:=by
 constructor<;>first|assumption|(constructor<;>(dsimp only;decide))
theorem hd_len (w b:List Int) (lo hi:Int):(allR w b lo hi 0 (decide ((0:Int)>0)) (if sharedB w b=true then b.length else 0)).length=if sharedB w b=true then b.length else 0:=by simp[allR]
theorem hd_pos {w b:List Int} (h:sharedB w b=true):0<b.length:=by
 simp only[sharedB,O_,E_] at h;exact h.1
theorem hd_le (w b:List Int) (lo hi:Int) (bl:b.length≤100000):(allR w b lo hi 0 (decide ((0:Int)>0)) (if sharedB w b=true then b.length else 0)).length≤1000000:=by rw[hd_len];split<;>omega
theorem hd_sh {w b:List Int} {lo hi:Int} {x:Bool} (h:(((K_ rngC (allR w b lo hi 0 (decide ((0:Int)>0)) (if sharedB w b=true then b.length else 0))).length:Int)==0)=x):sharedB w b = !x:=by
 rw[S_,hd_len] at h
 cases e:sharedB w b with
 | true =>
  have:=hd_pos e
  rw[e,i_ rfl] at h
  cases x with
  | true=>simp at h;subst h;simp at this
  | false=>rfl
 | false=>rw[e] at h;subst h;rfl
theorem hd9 {w b:List Int} {lo hi:Int} (h:(((K_ rngC (allR w b lo hi 0 (decide ((0:Int)>0)) (if sharedB w b=true then b.length else 0))).length:Int)==0)=true):9=headE w b lo hi:=by
 unfold headE;rw[hd_sh h];rfl
theorem hd10 {w b:List Int} {lo hi:Int} {y:Bool} (h:(((K_ rngC (allR w b lo hi 0 (decide ((0:Int)>0)) (if sharedB w b=true then b.length else 0))).length:Int)==0)=false) (h2:(!(allR w b lo hi 0 (decide ((0:Int)>0)) (if sharedB w b=true then b.length else 0)).all holdB)=y):(if y=true then 10 else 0)=headE w b lo hi:=by
 have e:=hd_sh h
 unfold headE
 rw[e] at h2 ⊢
 simp only[BP_,if_true] at h2 ⊢
 rw[show (false:Bool)=decide ((0:Int)>0) from rfl]
 cases y with
 | true=>rw[i_ rfl,j_ (by simpa using h2)]
 | false=>rw[j_ (by simp),i_ (by simpa using h2)]
theorem ghead_v (w b:List Int) (nd lo hi:Int) (hw:∀ v∈w,In8 v) (hb:∀ v∈b,In32 v) (wl:w.length≤100000) (bl:b.length≤100000) (h1:In8 lo) (h2:In8 hi):VC N_ 156 ([.agg (hedC w b nd),.agg [i8 lo,i8 hi]]) (i64 (headE w b lo hi)):=by
 have oz0:=@all_v (Nod.mk 0 0 0 0 0 0 0 0 0 w b 0 0 0 0 0 0 0 0) (lo) (hi) (by (exact hd_ok hw hb)) h1 h2 wl bl
 rcases bft ((↑(K_ rngC (allR w b lo hi 0 (decide (0>0)) (if sharedB w b=true then b.length else 0))).length:Int)==0) with hc0|hc0
 ·have gc0:(↑(K_ rngC (allR w b lo hi 0 (decide (0>0)) (if sharedB w b=true then b.length else 0))).length:Int)=0:=by first|exact hc0|exact of_decide_eq_true hc0|exact of_decide_eq_false hc0|simpa [eqNums] using hc0|(simp[eqNums] at hc0 ⊢;first|done|assumption|omega)
  exact (cR_ [r_,.r [] [cr oz0],r_,b_,r_] (i64 9) Tryz.func156 (.d2 oz0 hc0)).weak (Y_ _) (M_ (by (exact hd9 (by assumption))))
 ·have gc0:¬(↑(K_ rngC (allR w b lo hi 0 (decide (0>0)) (if sharedB w b=true then b.length else 0))).length:Int)=0:=by first|exact hc0|exact of_decide_eq_true hc0|exact of_decide_eq_false hc0|simpa [eqNums] using hc0|(simp[eqNums] at hc0 ⊢;first|done|assumption|omega)
  have oz2:=@holds_v (allR w b lo hi 0 (decide (0>0)) (if sharedB w b=true then b.length else 0)) (by (exact hd_le w b lo hi bl))
  rcases bft (!(allR w b lo hi 0 (decide (0>0)) (if sharedB w b=true then b.length else 0)).all holdB) with hc1|hc1
  ·have gc1:(allR w b lo hi 0 (decide (0>0)) (if sharedB w b=true then b.length else 0)).all holdB=false:=by first|exact hc1|exact of_decide_eq_true hc1|exact of_decide_eq_false hc1|simpa [eqNums] using hc1|(simp[eqNums] at hc1 ⊢;first|done|assumption|omega)
   exact (cR_ [r_,.r [] [cr oz0],r_,d_,.r [] [cr oz2],b_,r_] (i64 10) Tryz.func156 (.d4 oz0 hc0 oz2 hc1)).weak (Y_ _) (M_ (by (exact hd10 (y:=true) (by assumption) (by assumption))))
  ·have gc1:(allR w b lo hi 0 (decide (0>0)) (if sharedB w b=true then b.length else 0)).all holdB=true:=by first|exact hc1|exact of_decide_eq_true hc1|exact of_decide_eq_false hc1|simpa [eqNums] using hc1|(simp[eqNums] at hc1 ⊢;first|done|assumption|omega)
   exact (cR_ [r_,.r [] [cr oz0],r_,d_,.r [] [cr oz2],d_,r_] (i64 0) Tryz.func156 (.d4 oz0 hc0 oz2 hc1)).weak (Y_ _) (M_ (by (exact hd10 (y:=false) (by assumption) (by assumption))))
def rowsR (f:Nat→Rng):Nat→Rng
 | 0=>⟨0,0⟩
 | k+1=>if k=0 then ⟨min (f 0).lo (f 0).lo,max (f 0).hi (f 0).hi⟩ else ⟨min (rowsR f k).lo (f k).lo,max (rowsR f k).hi (f k).hi⟩
theorem shared_v (w b:List Int) (wl:w.length≤100000) (bl:b.length≤100000):VC N_ 108 ([ints .i8 w,ints .i32 b]) (bv (sharedB w b)):=by
 have q4:(b.length:Int)≠0→0≤(w.length:Int) % (b.length:Int)∧(w.length:Int) % (b.length:Int)<(b.length:Int):=fun h=>⟨Int.emod_nonneg _ h,Int.emod_lt_of_pos _ (by omega)⟩
 exact (cR_ [r_,.r [] [o_,o_,o_,o_,p_,.n (((K_ (row1 .i8) w).length:Int) % ((K_ (row1 .i32) b).length:Int)),o_,.sel 2]] (bv (decide (((K_ (row1 .i32) b).length:Int)>0)&&((K_ (row1 .i8) w).length:Int) % ((K_ (row1 .i32) b).length:Int)==0)) Tryz.func108 (.d2 (show decide (((K_ (row1 .i32) b).length:Int)>0)=true→((K_ (row1 .i32) b).length:Int)≠0 from (fun hc0=>have gc0:((K_ (row1 .i32) b).length:Int)>0:=(by first|exact hc0|exact of_decide_eq_true hc0|exact of_decide_eq_false hc0|simpa [eqNums] using hc0|(simp[eqNums] at hc0 ⊢;first|done|assumption|omega));(by omega))) (show decide (((K_ (row1 .i32) b).length:Int)>0)=true→((K_ (row1 .i8) w).length:Int).tmod ((K_ (row1 .i32) b).length:Int)=((K_ (row1 .i8) w).length:Int) % ((K_ (row1 .i32) b).length:Int) from (fun hc0=>have gc0:((K_ (row1 .i32) b).length:Int)>0:=(by first|exact hc0|exact of_decide_eq_true hc0|exact of_decide_eq_false hc0|simpa [eqNums] using hc0|(simp[eqNums] at hc0 ⊢;first|done|assumption|omega));(CK_ (by omega)))))).weak (Y_ _) (DK_ (by (simp only[S_,sharedB];rw[Bool.eq_iff_iff];simp only[O_,E_,I_];omega)))
theorem spA_f {v lo hi z:Int} {g:Bool} (h:g=false):spA v lo hi z g=⟨min (v*(lo-z)) (v*(hi-z)),max (v*(lo-z)) (v*(hi-z))⟩:=by subst h;rfl
noncomputable def row24_l_I (w:List Int) (bias lo hi z:Int) (g:Bool) (k:Nat):VS:=stt 72 [(0,ints .i8 w),(2,i8 lo),(3,i8 hi),(4,i8 z),(5,bv g),(14,i64 (rowR w bias lo hi z g k).lo),(15,i64 (rowR w bias lo hi z g k).hi),(16,i64 k)] []
noncomputable def row24_l_Z (w:List Int) (bias lo hi z:Int) (g:Bool):VS:=row24_l_I w bias lo hi z g (w.length)
theorem row24_l_s (w:List Int) (bias lo hi z:Int) (g:Bool) (hw:∀ v∈w,In8 v) (wl:w.length≤1000000) (hb:In32 bias) (h1:In8 lo) (h2:In8 hi) (h3:In8 z) (k:Nat) (hk:k<w.length):VT N_ (fnC Tryz.f140 [1,1,0,1,0,0]) (row24_l_I w bias lo hi z g k) .normal (row24_l_I w bias lo hi z g (k+1)):=by
 have q1:=gt8 hw k
 have q2:=rowR_bd g hw hb h1 h2 h3 k
 have q3:=spA_bd g (v:=w.getD k 0) (gt_of hw (by unfold In8;omega) k) h1 h2 h3
 unfold In8 at h1 h2 h3
 have q4:=prod_bd (a:=w.getD k 0) (b:=lo-z) q1 (by omega)
 have q5:=prod_bd (a:=w.getD k 0) (b:=hi-z) q1 (by omega)
 have oz0:=(show decide ((↑k:Int)<((K_ (row1 .i8) w).length:Int))=true by (simp;omega))
 have oz1:=(s_ (0≤(↑k:Int)))
 have oz2:=(map_at (row1 .i8) (0) (l:=w) (i:=k) hk)
 have oz3:=(i6n (w.getD k 0) (by omega))
 have oz4:=(i6n lo (by omega))
 have oz5:=(i6n z (by omega))
 have oz6:=(i6n (lo-z) (by omega))
 have oz7:=(i6n (w.getD k 0*(lo-z)) (by omega))
 have oz11:=(i6n hi (by omega))
 have oz13:=(i6n (hi-z) (by omega))
 have oz14:=(i6n (w.getD k 0*(hi-z)) (by omega))
 rcases bft (g) with hc0|hc0
 ·have gc0:g=true:=by first|exact hc0|exact of_decide_eq_true hc0|exact of_decide_eq_false hc0|simpa [eqNums] using hc0|(simp[eqNums] at hc0 ⊢;first|done|assumption|omega)
  have oz16:=(i6n ((rowR w bias lo hi z g k).lo+if 0<if w.getD k 0*(hi-z)<w.getD k 0*(lo-z) then w.getD k 0*(hi-z) else w.getD k 0*(lo-z) then 0 else if w.getD k 0*(hi-z)<w.getD k 0*(lo-z) then w.getD k 0*(hi-z) else w.getD k 0*(lo-z)) (by omega))
  have oz17:=(i6n ((rowR w bias lo hi z g k).hi+if 0>if w.getD k 0*(hi-z)>w.getD k 0*(lo-z) then w.getD k 0*(hi-z) else w.getD k 0*(lo-z) then 0 else if w.getD k 0*(hi-z)>w.getD k 0*(lo-z) then w.getD k 0*(hi-z) else w.getD k 0*(lo-z)) (by omega))
  have oz19:=(M_ (k:=.i64) (show (((rowR w bias lo hi z g k).lo+if 0<if w.getD k 0*(hi-z)<w.getD k 0*(lo-z) then w.getD k 0*(hi-z) else w.getD k 0*(lo-z) then 0 else if w.getD k 0*(hi-z)<w.getD k 0*(lo-z) then w.getD k 0*(hi-z) else w.getD k 0*(lo-z)):Int)=((rowR w bias lo hi z g (k+1)).lo) from (by (simp only[rowR,spA,i_ (by assumption:g=true)];(repeat split)<;>omega))))
  have oz20:=(M_ (k:=.i64) (show (((rowR w bias lo hi z g k).hi+if 0>if w.getD k 0*(hi-z)>w.getD k 0*(lo-z) then w.getD k 0*(hi-z) else w.getD k 0*(lo-z) then 0 else if w.getD k 0*(hi-z)>w.getD k 0*(lo-z) then w.getD k 0*(hi-z) else w.getD k 0*(lo-z)):Int)=((rowR w bias lo hi z g (k+1)).hi) from (by (simp only[rowR,spA,i_ (by assumption:g=true)];(repeat split)<;>omega))))
  exact tR_ [r_,b_,.r [] [.row (sO oz2),.n (nO oz3),.n (nO oz4),.n (nO oz5),.n (nO oz6),.n (nO oz7),.row (sO oz2),.n (nO oz3),.n (nO oz11),.n (nO oz5),.n (nO oz13),.n (nO oz14)],r_,r_,b_,r_,r_,.r [] [.n (nO oz16),.n (nO oz17)],.r [] [.n ((↑k:Int)+1)]] [.any (rg [(17,4),(25,45)]),.weak 14 (wO oz19),.weak 15 (wO oz20),.weak 16 (i64 (↑(k+1):Int)),.sort] (.c8 oz0 oz1 oz2 oz3 oz4 oz5 oz6 oz7<|.c8 oz1 oz2 oz3 oz11 oz5 oz13 oz14 hc0<|.d6 oz16 oz17 (i6n ((↑k:Int)+1) (by omega)) oz19 oz20 (wS_ k))
 ·have gc0:g=false:=by first|exact hc0|exact of_decide_eq_true hc0|exact of_decide_eq_false hc0|simpa [eqNums] using hc0|(simp[eqNums] at hc0 ⊢;first|done|assumption|omega)
  have oz16:=(i6n ((rowR w bias lo hi z g k).lo+if w.getD k 0*(hi-z)<w.getD k 0*(lo-z) then w.getD k 0*(hi-z) else w.getD k 0*(lo-z)) (by omega))
  have oz17:=(i6n ((rowR w bias lo hi z g k).hi+if w.getD k 0*(hi-z)>w.getD k 0*(lo-z) then w.getD k 0*(hi-z) else w.getD k 0*(lo-z)) (by omega))
  have oz19:=(M_ (k:=.i64) (show (((rowR w bias lo hi z g k).lo+if w.getD k 0*(hi-z)<w.getD k 0*(lo-z) then w.getD k 0*(hi-z) else w.getD k 0*(lo-z)):Int)=((rowR w bias lo hi z g (k+1)).lo) from (by (rw[rowR,spA_f (by assumption)];dsimp only;split<;>omega))))
  have oz20:=(M_ (k:=.i64) (show (((rowR w bias lo hi z g k).hi+if w.getD k 0*(hi-z)>w.getD k 0*(lo-z) then w.getD k 0*(hi-z) else w.getD k 0*(lo-z)):Int)=((rowR w bias lo hi z g (k+1)).hi) from (by (rw[rowR,spA_f (by assumption)];dsimp only;split<;>omega))))
  exact tR_ [r_,b_,.r [] [.row (sO oz2),.n (nO oz3),.n (nO oz4),.n (nO oz5),.n (nO oz6),.n (nO oz7),.row (sO oz2),.n (nO oz3),.n (nO oz11),.n (nO oz5),.n (nO oz13),.n (nO oz14)],r_,r_,d_,.r [] [.n (nO oz16),.n (nO oz17)],.r [] [.n ((↑k:Int)+1)]] [.any (rg [(17,4),(25,35),(64,6)]),.weak 14 (wO oz19),.weak 15 (wO oz20),.weak 16 (i64 (↑(k+1):Int)),.sort] (.c8 oz0 oz1 oz2 oz3 oz4 oz5 oz6 oz7<|.c8 oz1 oz2 oz3 oz11 oz5 oz13 oz14 hc0<|.d6 oz16 oz17 (i6n ((↑k:Int)+1) (by omega)) oz19 oz20 (wS_ k))
theorem row24_l_e (w:List Int) (bias lo hi z:Int) (g:Bool) (hw:∀ v∈w,In8 v) (wl:w.length≤1000000) (hb:In32 bias) (h1:In8 lo) (h2:In8 hi) (h3:In8 z):VT N_ (fnC Tryz.f140 [1,1,0,1,0,0]) (row24_l_I w bias lo hi z g (w.length)) (.exit 0) (row24_l_Z w bias lo hi z g):=by
 exact tR_ [r_,d_] [.any (rg [(25,4)]),.sort] (.d (show decide ((w.length:Int)<((K_ (row1 .i8) w).length:Int))=false by (simp;done)))
theorem row24_l (w:List Int) (bias lo hi z:Int) (g:Bool) (hw:∀ v∈w,In8 v) (wl:w.length≤1000000) (hb:In32 bias) (h1:In8 lo) (h2:In8 hi) (h3:In8 z):VT N_ (fnC Tryz.f140 [1,1,0,1,0]) (row24_l_I w bias lo hi z g 0) (.exit 0) (row24_l_Z w bias lo hi z g) :=
 VT.loop (fun k=>row24_l_I w bias lo hi z g k) (w.length) (fun k hk=>row24_l_s w bias lo hi z g hw wl hb h1 h2 h3 k hk) (row24_l_e w bias lo hi z g hw wl hb h1 h2 h3) (by intro h;cases h)
theorem row24_v (w:List Int) (bias lo hi z:Int) (g:Bool) (hw:∀ v∈w,In8 v) (wl:w.length≤1000000) (hb:In32 bias) (h1:In8 lo) (h2:In8 hi) (h3:In8 z):VC N_ 140 ([ints .i8 w,i32 bias,i8 lo,i8 hi,i8 z,bv g]) (.tup [i64 (rowR w bias lo hi z g w.length).lo,i64 (rowR w bias lo hi z g w.length).hi]):=by
 obtain ⟨b1,b2⟩:=id hb
 have oz0:=(i6n bias (by omega))
 have oz4:=@row24_l (w) (bias) (lo) (hi) (z) (g) hw wl hb h1 h2 h3
 exact cR_ [r_,.r [] [.n (nO oz0),.n (nO oz0)],r_,.code [.any [1,12,13,21,22,23,24],.weak 15 (i64 (rowR w bias lo hi z g 0).hi),.weak 16 (i64 (↑0:Int)),.sort] (AA_ 0) (zO oz4),r_] _ Tryz.func140 (.d5 oz0 oz0 (M_ (k:=.i64) (show ((bias):Int)=((rowR w bias lo hi z g 0).hi) from (by rfl))) w0_ oz4)
theorem rows_a {f:Nat→Rng} {k:Nat} (h:((k:Int)==0)=true):(if (f k).lo<(f k).lo then (f k).lo else (f k).lo)=(rowsR f (k+1)).lo:=by
 have:k=0:=by simpa using h
 subst this;rw[rowsR,i_ rfl];dsimp only;split<;>omega
theorem rows_b {f:Nat→Rng} {k:Nat} (h:((k:Int)==0)=true):(if (f k).hi>(f k).hi then (f k).hi else (f k).hi)=(rowsR f (k+1)).hi:=by
 have:k=0:=by simpa using h
 subst this;rw[rowsR,i_ rfl];dsimp only;split<;>omega
theorem rows_c {f:Nat→Rng} {k:Nat} (h:((k:Int)==0)=false):(if (f k).lo<(rowsR f k).lo then (f k).lo else (rowsR f k).lo)=(rowsR f (k+1)).lo:=by
 have:¬ k=0:=by simpa using h
 rw[rowsR,j_ this];dsimp only;split<;>omega
theorem rows_d {f:Nat→Rng} {k:Nat} (h:((k:Int)==0)=false):(if (f k).hi>(rowsR f k).hi then (f k).hi else (rowsR f k).hi)=(rowsR f (k+1)).hi:=by
 have:¬ k=0:=by simpa using h
 rw[rowsR,j_ this];dsimp only;split<;>omega
noncomputable def rows_l_I (w b:List Int) (lo hi z:Int) (g:Bool) (k:Nat):VS:=stt 71 [(0,ints .i8 w),(1,ints .i32 b),(2,i8 lo),(3,i8 hi),(4,i8 z),(5,bv g),(15,i64 (rowsR (spRow w b lo hi z g) k).lo),(16,i64 (rowsR (spRow w b lo hi z g) k).hi),(17,i64 ((w.length:Int)/(b.length:Int))),(18,i64 k)] []
noncomputable def rows_l_Z (w b:List Int) (lo hi z:Int) (g:Bool):VS:=rows_l_I w b lo hi z g (b.length)
theorem rows_l_s (w b:List Int) (lo hi z:Int) (g:Bool) (hw:∀ v∈w,In8 v) (hb:∀ v∈b,In32 v) (wl:w.length≤100000) (bl:b.length≤100000) (b0:0<b.length) (h1:In8 lo) (h2:In8 hi) (h3:In8 z) (k:Nat) (hk:k<b.length):VT N_ (fnC Tryz.f109 [1,1,1,0,1,0,0]) (rows_l_I w b lo hi z g k) .normal (rows_l_I w b lo hi z g (k+1)):=by
 have q1:=share_bd (m:=w.length) hk
 have q2:=gt32 hb k
 have oz0:=(show decide ((↑k:Int)<((K_ (row1 .i32) b).length:Int))=true by (simp;omega))
 have oz1:=(i6n ((↑k:Int)*((w.length:Int)/(b.length:Int))) (by omega))
 have oz2:=(i6n ((↑k:Int)+1) (by omega))
 have oz3:=(i6n (((↑k:Int)+1)*((w.length:Int)/(b.length:Int))) (by omega))
 have oz4:=(s_ ((↑k:Int)*((w.length:Int)/(b.length:Int))=(↑((↑k:Int)*((w.length:Int)/(b.length:Int))).toNat:Int)))
 have oz5:=(s_ (((↑k:Int)+1)*((w.length:Int)/(b.length:Int))=(↑(((↑k:Int)+1)*((w.length:Int)/(b.length:Int))).toNat:Int)))
 have oz6:=(s_ (((↑k:Int)*((w.length:Int)/(b.length:Int))).toNat≤(((↑k:Int)+1)*((w.length:Int)/(b.length:Int))).toNat))
 have oz7:=(show (((↑k:Int)+1)*((w.length:Int)/(b.length:Int))).toNat≤(K_ (row1 .i8) w).length by (simp;omega))
 have oz8:=(s_ (0≤(↑k:Int)))
 have oz9:=(map_at (row1 .i32) (0) (l:=b) (i:=k) hk)
 have oz10:=(show WeakL [AV.sl 1 (AW_ ((((↑k:Int)+1)*((w.length:Int)/(b.length:Int))).toNat-((↑k:Int)*((w.length:Int)/(b.length:Int))).toNat) (BY_ ((↑k:Int)*((w.length:Int)/(b.length:Int))).toNat (K_ (row1 .i8) w))),i32 (b.getD k 0),i8 lo,i8 hi,i8 z,bv g] [AV.sl 1 (K_ (row1 .i8) (AW_ ((((↑k:Int)+1)*((w.length:Int)/(b.length:Int))).toNat-((↑k:Int)*((w.length:Int)/(b.length:Int))).toNat) (BY_ ((↑k:Int)*((w.length:Int)/(b.length:Int))).toNat w))),i32 (b.getD k 0),i8 lo,i8 hi,i8 z,bv g] from (.cons (CM_ (rows_to (row1 .i8) (r:=AW_ ((((↑k:Int)+1)*((w.length:Int)/(b.length:Int))).toNat-((↑k:Int)*((w.length:Int)/(b.length:Int))).toNat) (BY_ ((↑k:Int)*((w.length:Int)/(b.length:Int))).toNat (K_ (row1 .i8) w))) (l:=AW_ ((((↑k:Int)+1)*((w.length:Int)/(b.length:Int))).toNat-((↑k:Int)*((w.length:Int)/(b.length:Int))).toNat) (BY_ ((↑k:Int)*((w.length:Int)/(b.length:Int))).toNat w)) (m:=AW_ ((((↑k:Int)+1)*((w.length:Int)/(b.length:Int))).toNat-((↑k:Int)*((w.length:Int)/(b.length:Int))).toNat) (BY_ ((↑k:Int)*((w.length:Int)/(b.length:Int))).toNat w)) (by first|(simp only[C_,D_,AM_,AN_,A_,AK_,AL_];done)|rfl|(simp only[C_,D_,AM_,AN_,A_,AK_,AL_];rfl)) rfl)) (.cons (.refl _) (.cons (.refl _) (.cons (.refl _) (.cons (.refl _) (.cons (.refl _) .nil)))))))
 have oz11:=@row24_v (AW_ ((((↑k:Int)+1)*((w.length:Int)/(b.length:Int))).toNat-((↑k:Int)*((w.length:Int)/(b.length:Int))).toNat) (BY_ ((↑k:Int)*((w.length:Int)/(b.length:Int))).toNat w)) (b.getD k 0) (lo) (hi) (z) (g) (by (exact fun v hv=>hw v (mem_td hv))) (by (rw[AE_,BZ_];omega)) q2 h1 h2 h3
 rcases bft ((↑k:Int)==0) with hc0|hc0
 ·have gc0:(↑k:Int)=0:=bet hc0
  have oz14:=(M_ (k:=.i64) (show ((if (rowR (AW_ ((((↑k:Int)+1)*((w.length:Int)/(b.length:Int))).toNat-((↑k:Int)*((w.length:Int)/(b.length:Int))).toNat) (BY_ ((↑k:Int)*((w.length:Int)/(b.length:Int))).toNat w)) (b.getD k 0) lo hi z g (AW_ ((((↑k:Int)+1)*((w.length:Int)/(b.length:Int))).toNat-((↑k:Int)*((w.length:Int)/(b.length:Int))).toNat) (BY_ ((↑k:Int)*((w.length:Int)/(b.length:Int))).toNat w)).length).lo<(rowR (AW_ ((((↑k:Int)+1)*((w.length:Int)/(b.length:Int))).toNat-((↑k:Int)*((w.length:Int)/(b.length:Int))).toNat) (BY_ ((↑k:Int)*((w.length:Int)/(b.length:Int))).toNat w)) (b.getD k 0) lo hi z g (AW_ ((((↑k:Int)+1)*((w.length:Int)/(b.length:Int))).toNat-((↑k:Int)*((w.length:Int)/(b.length:Int))).toNat) (BY_ ((↑k:Int)*((w.length:Int)/(b.length:Int))).toNat w)).length).lo then (rowR (AW_ ((((↑k:Int)+1)*((w.length:Int)/(b.length:Int))).toNat-((↑k:Int)*((w.length:Int)/(b.length:Int))).toNat) (BY_ ((↑k:Int)*((w.length:Int)/(b.length:Int))).toNat w)) (b.getD k 0) lo hi z g (AW_ ((((↑k:Int)+1)*((w.length:Int)/(b.length:Int))).toNat-((↑k:Int)*((w.length:Int)/(b.length:Int))).toNat) (BY_ ((↑k:Int)*((w.length:Int)/(b.length:Int))).toNat w)).length).lo else (rowR (AW_ ((((↑k:Int)+1)*((w.length:Int)/(b.length:Int))).toNat-((↑k:Int)*((w.length:Int)/(b.length:Int))).toNat) (BY_ ((↑k:Int)*((w.length:Int)/(b.length:Int))).toNat w)) (b.getD k 0) lo hi z g (AW_ ((((↑k:Int)+1)*((w.length:Int)/(b.length:Int))).toNat-((↑k:Int)*((w.length:Int)/(b.length:Int))).toNat) (BY_ ((↑k:Int)*((w.length:Int)/(b.length:Int))).toNat w)).length).lo):Int)=((rowsR (spRow w b lo hi z g) (k+1)).lo) from (by (refine rows_a (f:=spRow w b lo hi z g) ?_;assumption))))
  have oz15:=(M_ (k:=.i64) (show ((if (rowR (AW_ ((((↑k:Int)+1)*((w.length:Int)/(b.length:Int))).toNat-((↑k:Int)*((w.length:Int)/(b.length:Int))).toNat) (BY_ ((↑k:Int)*((w.length:Int)/(b.length:Int))).toNat w)) (b.getD k 0) lo hi z g (AW_ ((((↑k:Int)+1)*((w.length:Int)/(b.length:Int))).toNat-((↑k:Int)*((w.length:Int)/(b.length:Int))).toNat) (BY_ ((↑k:Int)*((w.length:Int)/(b.length:Int))).toNat w)).length).hi>(rowR (AW_ ((((↑k:Int)+1)*((w.length:Int)/(b.length:Int))).toNat-((↑k:Int)*((w.length:Int)/(b.length:Int))).toNat) (BY_ ((↑k:Int)*((w.length:Int)/(b.length:Int))).toNat w)) (b.getD k 0) lo hi z g (AW_ ((((↑k:Int)+1)*((w.length:Int)/(b.length:Int))).toNat-((↑k:Int)*((w.length:Int)/(b.length:Int))).toNat) (BY_ ((↑k:Int)*((w.length:Int)/(b.length:Int))).toNat w)).length).hi then (rowR (AW_ ((((↑k:Int)+1)*((w.length:Int)/(b.length:Int))).toNat-((↑k:Int)*((w.length:Int)/(b.length:Int))).toNat) (BY_ ((↑k:Int)*((w.length:Int)/(b.length:Int))).toNat w)) (b.getD k 0) lo hi z g (AW_ ((((↑k:Int)+1)*((w.length:Int)/(b.length:Int))).toNat-((↑k:Int)*((w.length:Int)/(b.length:Int))).toNat) (BY_ ((↑k:Int)*((w.length:Int)/(b.length:Int))).toNat w)).length).hi else (rowR (AW_ ((((↑k:Int)+1)*((w.length:Int)/(b.length:Int))).toNat-((↑k:Int)*((w.length:Int)/(b.length:Int))).toNat) (BY_ ((↑k:Int)*((w.length:Int)/(b.length:Int))).toNat w)) (b.getD k 0) lo hi z g (AW_ ((((↑k:Int)+1)*((w.length:Int)/(b.length:Int))).toNat-((↑k:Int)*((w.length:Int)/(b.length:Int))).toNat) (BY_ ((↑k:Int)*((w.length:Int)/(b.length:Int))).toNat w)).length).hi):Int)=((rowsR (spRow w b lo hi z g) (k+1)).hi) from (by (refine rows_b (f:=spRow w b lo hi z g) ?_;assumption))))
  exact tR_ [r_,b_,.r [] [.n (nO oz1),.n (nO oz2),.n (nO oz3),.nats ((↑k:Int)*((w.length:Int)/(b.length:Int))).toNat (((↑k:Int)+1)*((w.length:Int)/(b.length:Int))).toNat,.row (sO oz9),ca oz11],r_,b_,r_,r_,.r [] [.n (nO oz2)]] [.any (rg [(19,2),(26,37)]),.weak 15 (wO oz14),.weak 16 (wO oz15),.weak 18 (i64 (↑(k+1):Int)),.sort] (.c8 oz0 oz1 oz2 oz3 oz4 oz5 oz6 oz7<|.c8 oz8 oz9 oz10 oz11 hc0 oz2 oz14 oz15<|.d (wS_ k))
 ·have gc0:¬(↑k:Int)=0:=bef hc0
  have oz14:=(M_ (k:=.i64) (show ((if (rowR (AW_ ((((↑k:Int)+1)*((w.length:Int)/(b.length:Int))).toNat-((↑k:Int)*((w.length:Int)/(b.length:Int))).toNat) (BY_ ((↑k:Int)*((w.length:Int)/(b.length:Int))).toNat w)) (b.getD k 0) lo hi z g (AW_ ((((↑k:Int)+1)*((w.length:Int)/(b.length:Int))).toNat-((↑k:Int)*((w.length:Int)/(b.length:Int))).toNat) (BY_ ((↑k:Int)*((w.length:Int)/(b.length:Int))).toNat w)).length).lo<(rowsR (spRow w b lo hi z g) k).lo then (rowR (AW_ ((((↑k:Int)+1)*((w.length:Int)/(b.length:Int))).toNat-((↑k:Int)*((w.length:Int)/(b.length:Int))).toNat) (BY_ ((↑k:Int)*((w.length:Int)/(b.length:Int))).toNat w)) (b.getD k 0) lo hi z g (AW_ ((((↑k:Int)+1)*((w.length:Int)/(b.length:Int))).toNat-((↑k:Int)*((w.length:Int)/(b.length:Int))).toNat) (BY_ ((↑k:Int)*((w.length:Int)/(b.length:Int))).toNat w)).length).lo else (rowsR (spRow w b lo hi z g) k).lo):Int)=((rowsR (spRow w b lo hi z g) (k+1)).lo) from (by (refine rows_c (f:=spRow w b lo hi z g) ?_;assumption))))
  have oz15:=(M_ (k:=.i64) (show ((if (rowR (AW_ ((((↑k:Int)+1)*((w.length:Int)/(b.length:Int))).toNat-((↑k:Int)*((w.length:Int)/(b.length:Int))).toNat) (BY_ ((↑k:Int)*((w.length:Int)/(b.length:Int))).toNat w)) (b.getD k 0) lo hi z g (AW_ ((((↑k:Int)+1)*((w.length:Int)/(b.length:Int))).toNat-((↑k:Int)*((w.length:Int)/(b.length:Int))).toNat) (BY_ ((↑k:Int)*((w.length:Int)/(b.length:Int))).toNat w)).length).hi>(rowsR (spRow w b lo hi z g) k).hi then (rowR (AW_ ((((↑k:Int)+1)*((w.length:Int)/(b.length:Int))).toNat-((↑k:Int)*((w.length:Int)/(b.length:Int))).toNat) (BY_ ((↑k:Int)*((w.length:Int)/(b.length:Int))).toNat w)) (b.getD k 0) lo hi z g (AW_ ((((↑k:Int)+1)*((w.length:Int)/(b.length:Int))).toNat-((↑k:Int)*((w.length:Int)/(b.length:Int))).toNat) (BY_ ((↑k:Int)*((w.length:Int)/(b.length:Int))).toNat w)).length).hi else (rowsR (spRow w b lo hi z g) k).hi):Int)=((rowsR (spRow w b lo hi z g) (k+1)).hi) from (by (refine rows_d (f:=spRow w b lo hi z g) ?_;assumption))))
  exact tR_ [r_,b_,.r [] [.n (nO oz1),.n (nO oz2),.n (nO oz3),.nats ((↑k:Int)*((w.length:Int)/(b.length:Int))).toNat (((↑k:Int)+1)*((w.length:Int)/(b.length:Int))).toNat,.row (sO oz9),ca oz11],r_,d_,r_,.r [] [.n (nO oz2)]] [.any (rg [(19,2),(26,29),(57,6)]),.weak 15 (wO oz14),.weak 16 (wO oz15),.weak 18 (i64 (↑(k+1):Int)),.sort] (.c8 oz0 oz1 oz2 oz3 oz4 oz5 oz6 oz7<|.c8 oz8 oz9 oz10 oz11 hc0 oz2 oz14 oz15<|.d (wS_ k))
theorem rows_l_e (w b:List Int) (lo hi z:Int) (g:Bool) (hw:∀ v∈w,In8 v) (hb:∀ v∈b,In32 v) (wl:w.length≤100000) (bl:b.length≤100000) (b0:0<b.length) (h1:In8 lo) (h2:In8 hi) (h3:In8 z):VT N_ (fnC Tryz.f109 [1,1,1,0,1,0,0]) (rows_l_I w b lo hi z g (b.length)) (.exit 0) (rows_l_Z w b lo hi z g):=by
 exact tR_ [r_,d_] [.any (rg [(26,4)]),.sort] (.d (show decide ((b.length:Int)<((K_ (row1 .i32) b).length:Int))=false by (simp;done)))
theorem rows_l (w b:List Int) (lo hi z:Int) (g:Bool) (hw:∀ v∈w,In8 v) (hb:∀ v∈b,In32 v) (wl:w.length≤100000) (bl:b.length≤100000) (b0:0<b.length) (h1:In8 lo) (h2:In8 hi) (h3:In8 z):VT N_ (fnC Tryz.f109 [1,1,1,0,1,0]) (rows_l_I w b lo hi z g 0) (.exit 0) (rows_l_Z w b lo hi z g) :=
 VT.loop (fun k=>rows_l_I w b lo hi z g k) (b.length) (fun k hk=>rows_l_s w b lo hi z g hw hb wl bl b0 h1 h2 h3 k hk) (rows_l_e w b lo hi z g hw hb wl bl b0 h1 h2 h3) (by intro h;cases h)
theorem rows_v (w b:List Int) (lo hi z:Int) (g:Bool) (hw:∀ v∈w,In8 v) (hb:∀ v∈b,In32 v) (wl:w.length≤100000) (bl:b.length≤100000) (b0:0<b.length) (h1:In8 lo) (h2:In8 hi) (h3:In8 z):VC N_ 109 ([ints .i8 w,ints .i32 b,i8 lo,i8 hi,i8 z,bv g]) (.tup [i64 (rowsR (spRow w b lo hi z g) b.length).lo,i64 (rowsR (spRow w b lo hi z g) b.length).hi,bv (decide ((rowsR (spRow w b lo hi z g) b.length).lo ≥ -2147483648)&&decide ((rowsR (spRow w b lo hi z g) b.length).hi≤2147483647))]):=by
 have q1:(0≤(w.length:Int)/(b.length:Int)∧(w.length:Int)/(b.length:Int)≤w.length):=⟨Int.ediv_nonneg (by omega) (by omega),Int.ediv_le_self _ (by omega)⟩
 have oz1:=(show IntKind.i64.wrap (((K_ (row1 .i8) w).length:Int).tdiv ((K_ (row1 .i32) b).length:Int))=((K_ (row1 .i8) w).length:Int)/((K_ (row1 .i32) b).length:Int) from (Eq.trans (congrArg _ (BE_ (by omega))) (by with_reducible exact i6n _ (by simp only[S_] at *;omega))))
 have oz4:=(M_ (k:=.i64) (show ((((K_ (row1 .i8) w).length:Int)/((K_ (row1 .i32) b).length:Int)):Int)=((w.length:Int)/(b.length:Int)) from (by (simp;done))))
 have oz6:=@rows_l (w) (b) (lo) (hi) (z) (g) hw hb wl bl b0 h1 h2 h3
 exact cR_ [r_,r_,.r [] [.n (((K_ (row1 .i8) w).length:Int)/((K_ (row1 .i32) b).length:Int))],r_,.code [.any (rg [(12,3),(21,5)]),.weak 15 (i64 (rowsR (spRow w b lo hi z g) 0).lo),.weak 16 (i64 (rowsR (spRow w b lo hi z g) 0).hi),.weak 17 (wO oz4),.weak 18 (i64 (↑0:Int)),.sort] (AA_ 0) (zO oz6),.r [] [o_,o_,.sel 2]] _ Tryz.func109 (.d7 (show ((K_ (row1 .i32) b).length:Int)≠0 by (simp only[S_] at *;omega)) oz1 (M_ (k:=.i64) (show ((0):Int)=((rowsR (spRow w b lo hi z g) 0).lo) from (by rfl))) (M_ (k:=.i64) (show ((0):Int)=((rowsR (spRow w b lo hi z g) 0).hi) from (by rfl))) oz4 w0_ oz6)
theorem rowsR_iff (f:Nat→Rng):∀ k,((rowsR f (k+1)).lo ≥ -2147483648∧(rowsR f (k+1)).hi≤2147483647)↔∀ i,i<k+1→holdB (f i)=true
 | 0=>by
  rw[show rowsR f (0+1)=⟨min (f 0).lo (f 0).lo,max (f 0).hi (f 0).hi⟩ by rw[rowsR,i_ rfl]]
  simp only[holdB,O_,E_]
  constructor
  ·intro h i hi
   rw[show i=0 by omega];omega
  ·intro h;have:=h 0 (by omega);omega
 | k+1=>by
  have ih:=rowsR_iff f k
  rw[rowsR,j_ (by omega)]
  dsimp only
  constructor
  ·intro h i hi
   by_cases e:i=k+1
   ·subst e;simp only[holdB,O_,E_];omega
   ·exact ih.1 (by omega) i (by omega)
  ·intro h
   have h1:=ih.2 fun i hi=>h i (by omega)
   have h2:=h (k+1) (by omega)
   simp only[holdB,O_,E_] at h2
   omega
theorem rows_all {w b:List Int} {lo hi z:Int} {g:Bool} (b0:0<b.length):(decide ((rowsR (spRow w b lo hi z g) b.length).lo ≥ -2147483648)&&decide ((rowsR (spRow w b lo hi z g) b.length).hi≤2147483647))=(allR w b lo hi z g b.length).all holdB:=by
 obtain ⟨n,hn⟩:∃ n,b.length=n+1:=⟨b.length-1,by omega⟩
 rw[hn,Bool.eq_iff_iff,O_,E_,E_,rowsR_iff,allR,List.all_map,CZ_]
 constructor
 ·intro h i hi;exact h i (List.mem_range.1 hi)
 ·intro h i hi;exact h i (List.mem_range.2 hi)
theorem refHead_v (w b:List Int) (nd lo hi:Int) (hw:∀ v∈w,In8 v) (hb:∀ v∈b,In32 v) (wl:w.length≤100000) (bl:b.length≤100000) (h1:In8 lo) (h2:In8 hi):VC N_ 76 ([.agg (hedC w b nd),.agg [i8 lo,i8 hi]]) (i64 (headE w b lo hi)):=by
 have q1:=@hd_pos w b
 have q2:=@rows_all w b lo hi 0 false
 have oz0:=@shared_v (w) (b) wl bl
 rcases bft (!sharedB w b) with hc0|hc0
 ·have gc0:sharedB w b=false:=by first|exact hc0|exact of_decide_eq_true hc0|exact of_decide_eq_false hc0|simpa [eqNums] using hc0|(simp[eqNums] at hc0 ⊢;first|done|assumption|omega)
  exact (cR_ [r_,.r [] [cr oz0],b_,r_] (i64 9) Tryz.func76 (.d2 oz0 hc0)).weak (Y_ _) (M_ (by (unfold headE;simp_all;done)))
 ·have gc0:sharedB w b=true:=by first|exact hc0|exact of_decide_eq_true hc0|exact of_decide_eq_false hc0|simpa [eqNums] using hc0|(simp[eqNums] at hc0 ⊢;first|done|assumption|omega)
  have oz2:=@rows_v (w) (b) (lo) (hi) (0) (false) hw hb wl bl (by (exact q1 (by simp_all))) h1 h2 (by omega)
  rcases bft (!(decide ((rowsR (spRow w b lo hi 0 false) b.length).lo ≥ -2147483648)&&decide ((rowsR (spRow w b lo hi 0 false) b.length).hi≤2147483647))) with hc1|hc1
  ·have gc1:¬(rowsR (spRow w b lo hi 0 false) b.length).lo ≥ -2147483648∨¬(rowsR (spRow w b lo hi 0 false) b.length).hi≤2147483647:=gc0_ hc1
   exact (cR_ [r_,.r [] [cr oz0],d_,.r [] [cr oz2],r_,b_,r_] (i64 10) Tryz.func76 (.d4 oz0 hc0 oz2 hc1)).weak (Y_ _) (M_ (by (unfold headE;simp_all;done)))
  ·have gc1:(rowsR (spRow w b lo hi 0 false) b.length).lo ≥ -2147483648∧(rowsR (spRow w b lo hi 0 false) b.length).hi≤2147483647:=gc0_ hc1
   exact (cR_ [r_,.r [] [cr oz0],d_,.r [] [cr oz2],r_,d_,r_] (i64 0) Tryz.func76 (.d4 oz0 hc0 oz2 hc1)).weak (Y_ _) (M_ (by (unfold headE;simp_all;done)))
abbrev rchC (r:Rng):List AV:=[i8 r.lo,i8 r.hi]
abbrev rch (r:Rng):AV:=.agg (rchC r)
def bothR (l:List Rng):Nat→Rng
 | 0=>l.getD 0 default
 | k+1=>⟨min (bothR l k).lo (l.getD k default).lo,max (bothR l k).hi (l.getD k default).hi⟩
noncomputable def both_l_I (l:List Rng) (k:Nat):VS:=stt 32 [(2,.ptr 2 0 0),(3,.ptr 3 0 0),(13,.sl 2 (l.map rngC)),(14,i64 l.length),(15,i64 k)] [(2,.var [i64 0,i64 0]),(3,.var (rngC (bothR l k)))]
noncomputable def both_l_Z (l:List Rng):VS:=both_l_I l (l.length)
theorem both_l_s (l:List Rng) (hl:l.length≤1000000) (k:Nat) (hk:k<l.length):VT N_ (fnC Tryz.f211 [1,1,1,0,1,0,0]) (both_l_I l k) .normal (both_l_I l (k+1)):=by
 have oz2:=(map_at (rngC) (default) (l:=l) (i:=k) hk)
 exact tR_ [r_,b_,.r [] [.row (sO oz2)],r_,.r [] [.n ((↑k:Int)+1)]] [.any (rg [(5,1),(16,15)]),.drop [5],.weak 15 (i64 (↑(k+1):Int)),.blk 3 (Blk.var [i64 (bothR l (k+1)).lo,i64 (bothR l (k+1)).hi]),.sort] (.d6 (decide_eq_true (p:=((↑k:Int)<(l.length:Int))) (by omega)) (s_ (0≤(↑k:Int))) oz2 (i6n ((↑k:Int)+1) (by omega)) (wS_ k) (show BlkW (Blk.var [i64 (if (l.getD k default).lo<(bothR l k).lo then (l.getD k default).lo else (bothR l k).lo),i64 (if (l.getD k default).hi>(bothR l k).hi then (l.getD k default).hi else (bothR l k).hi)]) (Blk.var [i64 (bothR l (k+1)).lo,i64 (bothR l (k+1)).hi]) from (BlkW.var (m:=[i64 (bothR l (k+1)).lo,i64 (bothR l (k+1)).hi]) (.cons (M_ (by (simp only[bothR];split<;>omega))) (.cons (M_ (by (simp only[bothR];split<;>omega))) .nil)))))
theorem both_l_e (l:List Rng) (hl:l.length≤1000000):VT N_ (fnC Tryz.f211 [1,1,1,0,1,0,0]) (both_l_I l (l.length)) (.exit 0) (both_l_Z l):=by
 exact tR_ [r_,d_] [.any [16],.sort] (.d (decide_eq_false (p:=((l.length:Int)<(l.length:Int))) (by omega)))
theorem both_l (l:List Rng) (hl:l.length≤1000000):VT N_ (fnC Tryz.f211 [1,1,1,0,1,0]) (both_l_I l 0) (.exit 0) (both_l_Z l) :=
 VT.loop (fun k=>both_l_I l k) (l.length) (fun k hk=>both_l_s l hl k hk) (both_l_e l hl) (by intro h;cases h)
theorem both_v (l:List Rng) (hl:l.length≤1000000):VC N_ 211 ([.sl 2 (l.map rngC)]) (rng (bothR l l.length)):=by
 rcases bft (((K_ rngC l).length:Int)==0) with hc0|hc0
 ·have gc0:((K_ rngC l).length:Int)=0:=bet hc0
  exact (cR_ [r_,r_,b_,r_] (AV.agg [i64 0,i64 0]) Tryz.func211 (.d hc0)).weak (Y_ _) (AV_ (.cons (M_ (by (have:l=[]:=AC_ (by simp only[S_] at *;omega);subst this;rfl))) (.cons (M_ (by (have:l=[]:=AC_ (by simp only[S_] at *;omega);subst this;rfl))) .nil)))
 ·have gc0:¬((K_ rngC l).length:Int)=0:=bef hc0
  have oz2:=(map_at (rngC) (default) (l:=l) (i:=0) (by (simp only[S_] at *;omega)))
  have oz6:=@both_l (l) hl
  exact cR_ [r_,r_,d_,.r [] [.row (sO oz2)],r_,.code [.any [0,6,7,8,10,11,12],.weak 14 (i64 (l.length:Int)),.weak 15 (i64 (↑0:Int)),.blk 3 (Blk.var [i64 (bothR l 0).lo,i64 (bothR l 0).hi]),.sort] (AA_ 0) (zO oz6),r_] _ Tryz.func211 (.d7 hc0 z0_ oz2 (M_ (k:=.i64) (show ((((K_ rngC l).length:Int)):Int)=((l.length:Int)) from (by (simp;done)))) w0_ (show BlkW (Blk.var [i64 (l.getD 0 default).lo,i64 (l.getD 0 default).hi]) (Blk.var [i64 (bothR l 0).lo,i64 (bothR l 0).hi]) from (BlkW.var (m:=[i64 (bothR l 0).lo,i64 (bothR l 0).hi]) (.cons (M_ (by rfl)) (.cons (M_ (by rfl)) .nil)))) oz6)
def held32 (v:Int):Int:=if 2147483647<if -2147483648>v then -2147483648 else v then 2147483647 else if -2147483648>v then -2147483648 else v
theorem held32_in (v:Int):In32 (held32 v):=by unfold held32 In32;omega
theorem min_if (a b:Int):(if b<a then b else a)=min a b:=by omega
theorem max_if (a b:Int):(if b>a then b else a)=max a b:=by omega
def afterE (r:Rng) (n:Nod):Rng:=⟨min (heldQ (held32 r.lo) n.qm n.qs n.qz n.lo n.hi) (heldQ (held32 r.hi) n.qm n.qs n.qz n.lo n.hi),max (heldQ (held32 r.lo) n.qm n.qs n.qz n.lo n.hi) (heldQ (held32 r.hi) n.qm n.qs n.qz n.lo n.hi)⟩
theorem after_v (r:Rng) (n:Nod) (ok:n.Ok):VC N_ 210 ([rng r,.agg [i32 n.qm,i64 n.qs,i8 n.qz],i8 n.lo,i8 n.hi]) (.tup [i8 (afterE r n).lo,i8 (afterE r n).hi]):=by
 have ok_qm:=ok.qm
 have ok_qz:=ok.qz
 have ok_lo:=ok.lo
 have ok_hi:=ok.hi
 have q1:=held32_in r.lo
 have q2:=held32_in r.hi
 have oz0:=(CV_ (if 2147483647<if -2147483648>r.lo then -2147483648 else r.lo then 2147483647 else if -2147483648>r.lo then -2147483648 else r.lo) (by omega))
 have oz1:=@held_v (if 2147483647<if -2147483648>r.lo then -2147483648 else r.lo then 2147483647 else if -2147483648>r.lo then -2147483648 else r.lo) (n.qm) (n.qs) (n.qz) (n.lo) (n.hi) (by omega) ok_qm ok_qz ok_lo ok_hi
 have oz2:=(CV_ (if 2147483647<if -2147483648>r.hi then -2147483648 else r.hi then 2147483647 else if -2147483648>r.hi then -2147483648 else r.hi) (by omega))
 have oz3:=@held_v (if 2147483647<if -2147483648>r.hi then -2147483648 else r.hi then 2147483647 else if -2147483648>r.hi then -2147483648 else r.hi) (n.qm) (n.qs) (n.qz) (n.lo) (n.hi) (by omega) ok_qm ok_qz ok_lo ok_hi
 exact (cR_ [r_,.r [] [.n (nO oz0),cr oz1],.r [] [.n (nO oz2),cr oz3],r_] (AV.tup [i8 (if heldQ (if 2147483647<if -2147483648>r.hi then -2147483648 else r.hi then 2147483647 else if -2147483648>r.hi then -2147483648 else r.hi) n.qm n.qs n.qz n.lo n.hi<heldQ (if 2147483647<if -2147483648>r.lo then -2147483648 else r.lo then 2147483647 else if -2147483648>r.lo then -2147483648 else r.lo) n.qm n.qs n.qz n.lo n.hi then heldQ (if 2147483647<if -2147483648>r.hi then -2147483648 else r.hi then 2147483647 else if -2147483648>r.hi then -2147483648 else r.hi) n.qm n.qs n.qz n.lo n.hi else heldQ (if 2147483647<if -2147483648>r.lo then -2147483648 else r.lo then 2147483647 else if -2147483648>r.lo then -2147483648 else r.lo) n.qm n.qs n.qz n.lo n.hi),i8 (if heldQ (if 2147483647<if -2147483648>r.hi then -2147483648 else r.hi then 2147483647 else if -2147483648>r.hi then -2147483648 else r.hi) n.qm n.qs n.qz n.lo n.hi>heldQ (if 2147483647<if -2147483648>r.lo then -2147483648 else r.lo then 2147483647 else if -2147483648>r.lo then -2147483648 else r.lo) n.qm n.qs n.qz n.lo n.hi then heldQ (if 2147483647<if -2147483648>r.hi then -2147483648 else r.hi then 2147483647 else if -2147483648>r.hi then -2147483648 else r.hi) n.qm n.qs n.qz n.lo n.hi else heldQ (if 2147483647<if -2147483648>r.lo then -2147483648 else r.lo then 2147483647 else if -2147483648>r.lo then -2147483648 else r.lo) n.qm n.qs n.qz n.lo n.hi)]) Tryz.func210 (.d4 oz0 oz1 oz2 oz3)).weak (Y_ _) (AS_ (.cons (M_ (by (exact min_if _ _))) (.cons (M_ (by (exact max_if _ _))) .nil)))
theorem clamp_in (v:Int) {lo hi:Int} (h1:In8 lo) (h2:In8 hi):In8 (clampI v lo hi):=by
 unfold clampI;split
 ·exact h1
 ·split
  ·exact h2
  ·omega
theorem refHeld_v (a m s z lo hi:Int) (ha:In32 a) (hm:In32 m) (hz:In8 z) (hl:In8 lo) (hh:In8 hi):VC N_ 170 ([i32 a,.agg [i32 m,i64 s,i8 z],i8 lo,i8 hi]) (i8 (heldQ a m s z lo hi)):=by
 have q1:=mul_bd32 a m ha.1 ha.2 hm.1 hm.2
 have q2:=rnd_bd (a*m) s 4611686018427387904 q1.1 q1.2
 have q3:=clamp_in (rnd (a*m) s+z) hl hh
 have oz0:=@refRight_v (m) (s) (z)
 rcases bft (!rightQ m s) with hc0|hc0
 ·have gc0:rightQ m s=false:=by first|exact hc0|exact of_decide_eq_true hc0|exact of_decide_eq_false hc0|simpa [eqNums] using hc0|(simp[eqNums] at hc0 ⊢;first|done|assumption|omega)
  exact (cR_ [r_,.r [] [cr oz0],b_,r_] (i8 0) Tryz.func170 (.d2 oz0 hc0)).weak (Y_ _) (M_ (by (unfold heldQ;rw[j_ (by simp_all)])))
 ·have gc0:rightQ m s=true:=by first|exact hc0|exact of_decide_eq_true hc0|exact of_decide_eq_false hc0|simpa [eqNums] using hc0|(simp[eqNums] at hc0 ⊢;first|done|assumption|omega)
  have oz5:=@refRound_v (a*m) (s) (by omega)
  have oz10:=@refSatHeld_v (rnd (a*m) s+z) (lo) (hi)
  have oz11:=(IntWalk.i8_in (clampI (rnd (a*m) s+z) lo hi) (by omega))
  exact (cR_ [r_,.r [] [cr oz0],d_,.r [] [.n a,.n m,.n (a*m),cr oz5,.n z,.n (rnd (a*m) s+z)],.r [] [.n lo,.n hi,cr oz10,.n (nO oz11)]] (i8 (clampI (rnd (a*m) s+z) lo hi)) Tryz.func170 (.c8 oz0 hc0 (i6n a (by omega)) (i6n m (by omega)) (i6n (a*m) (by omega)) oz5 (i6n z (by omega)) (i6n (rnd (a*m) s+z) (by omega))<|.d4 (i6n lo (by omega)) (i6n hi (by omega)) oz10 oz11)).weak (Y_ _) (M_ (by (unfold heldQ;rw[i_ (by simp_all)])))
theorem refAfter_v (r:Rng) (n:Nod) (ok:n.Ok):VC N_ 137 ([i64 r.lo,i64 r.hi,.agg [i32 n.qm,i64 n.qs,i8 n.qz],i8 n.lo,i8 n.hi]) (.tup [i8 (afterE r n).lo,i8 (afterE r n).hi]):=by
 have ok_qm:=ok.qm
 have ok_qz:=ok.qz
 have ok_lo:=ok.lo
 have ok_hi:=ok.hi
 have q1:=held32_in r.lo
 have q2:=held32_in r.hi
 have oz0:=(CV_ (if 2147483647<if -2147483648>r.lo then -2147483648 else r.lo then 2147483647 else if -2147483648>r.lo then -2147483648 else r.lo) (by omega))
 have oz1:=@refHeld_v (if 2147483647<if -2147483648>r.lo then -2147483648 else r.lo then 2147483647 else if -2147483648>r.lo then -2147483648 else r.lo) (n.qm) (n.qs) (n.qz) (n.lo) (n.hi) (by omega) ok_qm ok_qz ok_lo ok_hi
 have oz2:=(CV_ (if 2147483647<if -2147483648>r.hi then -2147483648 else r.hi then 2147483647 else if -2147483648>r.hi then -2147483648 else r.hi) (by omega))
 have oz3:=@refHeld_v (if 2147483647<if -2147483648>r.hi then -2147483648 else r.hi then 2147483647 else if -2147483648>r.hi then -2147483648 else r.hi) (n.qm) (n.qs) (n.qz) (n.lo) (n.hi) (by omega) ok_qm ok_qz ok_lo ok_hi
 exact (cR_ [r_,.r [] [.n (nO oz0),cr oz1],.r [] [.n (nO oz2),cr oz3],r_] (AV.tup [i8 (if heldQ (if 2147483647<if -2147483648>r.hi then -2147483648 else r.hi then 2147483647 else if -2147483648>r.hi then -2147483648 else r.hi) n.qm n.qs n.qz n.lo n.hi<heldQ (if 2147483647<if -2147483648>r.lo then -2147483648 else r.lo then 2147483647 else if -2147483648>r.lo then -2147483648 else r.lo) n.qm n.qs n.qz n.lo n.hi then heldQ (if 2147483647<if -2147483648>r.hi then -2147483648 else r.hi then 2147483647 else if -2147483648>r.hi then -2147483648 else r.hi) n.qm n.qs n.qz n.lo n.hi else heldQ (if 2147483647<if -2147483648>r.lo then -2147483648 else r.lo then 2147483647 else if -2147483648>r.lo then -2147483648 else r.lo) n.qm n.qs n.qz n.lo n.hi),i8 (if heldQ (if 2147483647<if -2147483648>r.hi then -2147483648 else r.hi then 2147483647 else if -2147483648>r.hi then -2147483648 else r.hi) n.qm n.qs n.qz n.lo n.hi>heldQ (if 2147483647<if -2147483648>r.lo then -2147483648 else r.lo then 2147483647 else if -2147483648>r.lo then -2147483648 else r.lo) n.qm n.qs n.qz n.lo n.hi then heldQ (if 2147483647<if -2147483648>r.hi then -2147483648 else r.hi then 2147483647 else if -2147483648>r.hi then -2147483648 else r.hi) n.qm n.qs n.qz n.lo n.hi else heldQ (if 2147483647<if -2147483648>r.lo then -2147483648 else r.lo then 2147483647 else if -2147483648>r.lo then -2147483648 else r.lo) n.qm n.qs n.qz n.lo n.hi)]) Tryz.func137 (.d4 oz0 oz1 oz2 oz3)).weak (Y_ _) (AS_ (.cons (M_ (by (exact min_if _ _))) (.cons (M_ (by (exact max_if _ _))) .nil)))
def joinE (x y:Int) (n:Nod):Int:=if (rightQ n.qm n.qs&&rightQ n.rm n.rs)=true then clampI (rnd ((x-n.za)*n.qm) n.qs+rnd ((y-n.zb)*n.rm) n.rs+n.qz) n.lo n.hi else 0
theorem mul_bd9 (a m:Int) (a0 : -255≤a) (a1:a≤255) (hm:In32 m) : -547608330240≤a*m∧a*m≤547608330240:=by
 obtain ⟨m0,m1⟩:=hm
 have h1:(a.natAbs*m.natAbs:Nat)≤255*2147483648:=Nat.mul_le_mul (by omega) (by omega)
 have:=Int.natAbs_mul a m
 omega
theorem joinP (v z m s:Int) (h1:In8 v) (h2:In8 z) (h3:In32 m):(-547608330240≤(v-z)*m∧(v-z)*m≤547608330240) ∧ -547608330240≤rnd ((v-z)*m) s∧rnd ((v-z)*m) s≤547608330240:=by
 have q:=mul_bd9 (v-z) m (by omega) (by omega) h3
 exact ⟨q,rnd_bd _ s _ q.1 q.2⟩
theorem joinMay_v (n:Nod)  : VC N_ 212 ([nod n]) (bv (rightQ n.qm n.qs&&rightQ n.rm n.rs)):=by
 have oz0:=@right_v (n.qm) (n.qs) (n.qz)
 have oz1:=@right_v (n.rm) (n.rs) (n.rz)
 exact cR_ [r_,.r [] [cr oz0,o_,o_,o_,cr oz1,.sel 2]] _ Tryz.func212 (.d2 oz0 oz1)
theorem joinScaled_v (v z m s z2:Int) (h1:In8 v) (h2:In8 z) (h3:In32 m):VC N_ 214 ([i8 v,i8 z,.agg [i32 m,i64 s,i8 z2]]) (i64 (rnd ((v-z)*m) s)):=by
 have oz3:=@scale_v (v-z) (m) (s) (by omega) h3
 exact cR_ [r_,.r [] [.n v,.n z,.n (v-z),cr oz3]] _ Tryz.func214 (.d4 (CV_ v (by omega)) (CV_ z (by omega)) (CV_ (v-z) (by omega)) oz3)
theorem joinOne_v (x y:Int) (n:Nod) (ok:n.Ok) (hx:In8 x) (hy:In8 y):VC N_ 204 ([i8 x,i8 y,nod n]) (i8 (joinE x y n)):=by
 have ok_za:=ok.za
 have ok_zb:=ok.zb
 have ok_qm:=ok.qm
 have ok_rm:=ok.rm
 have ok_lo:=ok.lo
 have ok_hi:=ok.hi
 have ok_qz:=ok.qz
 have q1:=joinP x n.za n.qm n.qs hx ok.za ok.qm
 have q2:=joinP y n.zb n.rm n.rs hy ok.zb ok.rm
 have oz0:=@joinMay_v (n)
 rcases bft (!(rightQ n.qm n.qs&&rightQ n.rm n.rs)) with hc0|hc0
 ·have gc0:rightQ n.qm n.qs=false∨rightQ n.rm n.rs=false:=gc0_ hc0
  exact (cR_ [r_,.r [] [cr oz0],b_,r_] (i8 0) Tryz.func204 (.d2 oz0 hc0)).weak (Y_ _) (M_ (by (unfold joinE;rw[j_ (by intro hh;simp only[O_] at hh;simp_all)])))
 ·have gc0:rightQ n.qm n.qs=true∧rightQ n.rm n.rs=true:=gc0_ hc0
  have oz2:=@joinScaled_v (x) (n.za) (n.qm) (n.qs) (n.qz) hx ok_za ok_qm
  have oz3:=@joinScaled_v (y) (n.zb) (n.rm) (n.rs) (n.rz) hy ok_zb ok_rm
  have oz4:=(i6n (rnd ((x-n.za)*n.qm) n.qs+rnd ((y-n.zb)*n.rm) n.rs) (by omega))
  have oz6:=(i6n (rnd ((x-n.za)*n.qm) n.qs+rnd ((y-n.zb)*n.rm) n.rs+n.qz) (by omega))
  have oz7:=@clamp_v (rnd ((x-n.za)*n.qm) n.qs+rnd ((y-n.zb)*n.rm) n.rs+n.qz) (n.lo) (n.hi) ok_lo ok_hi
  exact (cR_ [r_,.r [] [cr oz0],d_,.r [] [cr oz2,cr oz3,.n (nO oz4),.n n.qz,.n (nO oz6),cr oz7]] (i8 (clampI (rnd ((x-n.za)*n.qm) n.qs+rnd ((y-n.zb)*n.rm) n.rs+n.qz) n.lo n.hi)) Tryz.func204 (.d8 oz0 hc0 oz2 oz3 oz4 (i6n n.qz (by omega)) oz6 oz7)).weak (Y_ _) (M_ (by (unfold joinE;rw[i_ (by simp_all)])))
theorem refJoinOne_v (x y:Int) (n:Nod) (ok:n.Ok) (hx:In8 x) (hy:In8 y):VC N_ 138 ([i8 x,i8 y,nod n]) (i8 (joinE x y n)):=by
 have ok_za:=ok.za
 have ok_zb:=ok.zb
 have ok_qm:=ok.qm
 have ok_rm:=ok.rm
 have ok_lo:=ok.lo
 have ok_hi:=ok.hi
 have ok_qz:=ok.qz
 have q1:=joinP x n.za n.qm n.qs hx ok.za ok.qm
 have q2:=joinP y n.zb n.rm n.rs hy ok.zb ok.rm
 have q3:=clamp_in (rnd ((x-n.za)*n.qm) n.qs+rnd ((y-n.zb)*n.rm) n.rs+n.qz) ok.lo ok.hi
 have oz0:=@refRight_v (n.qm) (n.qs) (n.qz)
 have oz1:=@refRight_v (n.rm) (n.rs) (n.rz)
 rcases bft (!rightQ n.qm n.qs || !rightQ n.rm n.rs) with hc0|hc0
 ·have gc0:rightQ n.qm n.qs=false∨rightQ n.rm n.rs=false:=gc0_ hc0
  exact (cR_ [r_,.r [] [cr oz0,o_,o_,o_,cr oz1,o_,.sel 1],b_,r_] (i8 0) Tryz.func138 (.d3 oz0 oz1 hc0)).weak (Y_ _) (M_ (by (unfold joinE;rw[j_ (by intro hh;simp only[O_] at hh;simp_all)])))
 ·have gc0:rightQ n.qm n.qs=true∧rightQ n.rm n.rs=true:=gc0_ hc0
  have oz8:=@refRound_v ((x-n.za)*n.qm) (n.qs) (by omega)
  have oz14:=@refRound_v ((y-n.zb)*n.rm) (n.rs) (by omega)
  have oz15:=(i6n (rnd ((x-n.za)*n.qm) n.qs+rnd ((y-n.zb)*n.rm) n.rs) (by omega))
  have oz17:=(i6n (rnd ((x-n.za)*n.qm) n.qs+rnd ((y-n.zb)*n.rm) n.rs+n.qz) (by omega))
  have oz20:=@refSatHeld_v (rnd ((x-n.za)*n.qm) n.qs+rnd ((y-n.zb)*n.rm) n.rs+n.qz) (n.lo) (n.hi)
  have oz21:=(IntWalk.i8_in (clampI (rnd ((x-n.za)*n.qm) n.qs+rnd ((y-n.zb)*n.rm) n.rs+n.qz) n.lo n.hi) (by omega))
  exact (cR_ [r_,.r [] [cr oz0,o_,o_,o_,cr oz1,o_,.sel 1],d_,.r [] [.n x,.n n.za,.n (x-n.za),.n n.qm,.n ((x-n.za)*n.qm),cr oz8],.r [] [.n y,.n n.zb,.n (y-n.zb),.n n.rm,.n ((y-n.zb)*n.rm),cr oz14],.r [] [.n (nO oz15),.n n.qz,.n (nO oz17),.n n.lo,.n n.hi,cr oz20,.n (nO oz21)]] (i8 (clampI (rnd ((x-n.za)*n.qm) n.qs+rnd ((y-n.zb)*n.rm) n.rs+n.qz) n.lo n.hi)) Tryz.func138 (.c8 oz0 oz1 hc0 (i6n x (by omega)) (i6n n.za (by omega)) (i6n (x-n.za) (by omega)) (i6n n.qm (by omega)) (i6n ((x-n.za)*n.qm) (by omega))<|.c8 oz8 (i6n y (by omega)) (i6n n.zb (by omega)) (i6n (y-n.zb) (by omega)) (i6n n.rm (by omega)) (i6n ((y-n.zb)*n.rm) (by omega)) oz14 oz15<|.d6 (i6n n.qz (by omega)) oz17 (i6n n.lo (by omega)) (i6n n.hi (by omega)) oz20 oz21)).weak (Y_ _) (M_ (by (unfold joinE;rw[i_ (by simp_all)])))
theorem refActOne_v (v:Int) (n:Nod) (ok:n.Ok) (hv:In8 v):VC N_ 139 ([i8 v,nod n]) (i8 (oneN v n)):=by
 have ok_za:=ok.za
 have ok_qm:=ok.qm
 have ok_qz:=ok.qz
 have ok_lo:=ok.lo
 have ok_hi:=ok.hi
 have oz3:=@refHeld_v (v-n.za) (n.qm) (n.qs) (n.qz) (n.lo) (n.hi) (by omega) ok_qm ok_qz ok_lo ok_hi
 exact (cR_ [r_,.r [] [.n v,.n n.za,.n (v-n.za),cr oz3]] (i8 (heldQ (v-n.za) n.qm n.qs n.qz n.lo n.hi)) Tryz.func139 (.d4 (CV_ v (by omega)) (CV_ n.za (by omega)) (CV_ (v-n.za) (by omega)) oz3)).weak (Y_ _) (M_ (by rfl))
theorem all_le (w b:List Int) (lo hi z:Int) (g:Bool) (bl:b.length≤100000):(allR w b lo hi z g (if sharedB w b=true then b.length else 0)).length≤1000000:=by
 have:(allR w b lo hi z g (if sharedB w b=true then b.length else 0)).length=if sharedB w b=true then b.length else 0:=by simp[allR]
 rw[this];split<;>omega
def spansN (n:Nod) (a:Rng):List Rng:=allR n.w n.b a.lo a.hi n.za (decide (n.np>0)) (if sharedB n.w n.b=true then n.b.length else 0)
def sumG (n:Nod) (a:Rng):Rng×Int:=if (spansN n a).all holdB=true then (afterE (bothR (spansN n a) (spansN n a).length) n,0) else (⟨0,0⟩,10)
theorem sumG_y {n:Nod} {a:Rng} (h:(allR n.w n.b a.lo a.hi n.za (decide (n.np>0)) (if sharedB n.w n.b=true then n.b.length else 0)).all holdB=true):sumG n a=(afterE (bothR (spansN n a) (spansN n a).length) n,0):=i_ h
theorem summed_v (n:Nod) (a:Rng) (ok:n.Ok) (h1:In8 a.lo) (h2:In8 a.hi) (wl:n.w.length≤100000) (bl:n.b.length≤100000):VC N_ 203 ([nod n,rch a]) (.tup [rch (sumG n a).1,i64 (sumG n a).2]):=by
 have q:=all_le n.w n.b a.lo a.hi n.za (decide (n.np>0)) bl
 have oz0:=@all_v (n) (a.lo) (a.hi) ok h1 h2 wl bl
 have oz1:=@holds_v (allR n.w n.b a.lo a.hi n.za (decide (n.np>0)) (if sharedB n.w n.b=true then n.b.length else 0)) q
 rcases bft (!(allR n.w n.b a.lo a.hi n.za (decide (n.np>0)) (if sharedB n.w n.b=true then n.b.length else 0)).all holdB) with hc0|hc0
 ·have gc0:(allR n.w n.b a.lo a.hi n.za (decide (n.np>0)) (if sharedB n.w n.b=true then n.b.length else 0)).all holdB=false:=by first|exact hc0|exact of_decide_eq_true hc0|exact of_decide_eq_false hc0|simpa [eqNums] using hc0|(simp[eqNums] at hc0 ⊢;first|done|assumption|omega)
  exact (cR_ [r_,.r [] [cr oz0],.r [] [cr oz1],b_,r_] (AV.tup [AV.agg [i8 0,i8 0],i64 10]) Tryz.func203 (.d3 oz0 oz1 hc0)).weak (Y_ _) (AS_ (.cons (AV_ (.cons (M_ (by (unfold sumG spansN;rw[j_ (by simp_all)]))) (.cons (M_ (by (unfold sumG spansN;rw[j_ (by simp_all)]))) .nil))) (.cons (M_ (by (unfold sumG spansN;rw[j_ (by simp_all)]))) .nil)))
 ·have gc0:(allR n.w n.b a.lo a.hi n.za (decide (n.np>0)) (if sharedB n.w n.b=true then n.b.length else 0)).all holdB=true:=by first|exact hc0|exact of_decide_eq_true hc0|exact of_decide_eq_false hc0|simpa [eqNums] using hc0|(simp[eqNums] at hc0 ⊢;first|done|assumption|omega)
  have oz3:=@both_v (allR n.w n.b a.lo a.hi n.za (decide (n.np>0)) (if sharedB n.w n.b=true then n.b.length else 0)) q
  have oz4:=@after_v (bothR (allR n.w n.b a.lo a.hi n.za (decide (n.np>0)) (if sharedB n.w n.b=true then n.b.length else 0)) (allR n.w n.b a.lo a.hi n.za (decide (n.np>0)) (if sharedB n.w n.b=true then n.b.length else 0)).length) (n) ok
  exact (cR_ [r_,.r [] [cr oz0],.r [] [cr oz1],d_,.r [] [cr oz3,cr oz4],r_] (AV.tup [AV.agg [i8 (afterE (bothR (allR n.w n.b a.lo a.hi n.za (decide (n.np>0)) (if sharedB n.w n.b=true then n.b.length else 0)) (allR n.w n.b a.lo a.hi n.za (decide (n.np>0)) (if sharedB n.w n.b=true then n.b.length else 0)).length) n).lo,i8 (afterE (bothR (allR n.w n.b a.lo a.hi n.za (decide (n.np>0)) (if sharedB n.w n.b=true then n.b.length else 0)) (allR n.w n.b a.lo a.hi n.za (decide (n.np>0)) (if sharedB n.w n.b=true then n.b.length else 0)).length) n).hi],i64 0]) Tryz.func203 (.d5 oz0 oz1 hc0 oz3 oz4)).weak (Y_ _) (AS_ (.cons (AV_ (.cons (M_ (by (rw[sumG_y (by assumption)]<;>rfl))) (.cons (M_ (by (rw[sumG_y (by assumption)]<;>rfl))) .nil))) (.cons (M_ (by (rw[sumG_y (by assumption)]<;>rfl))) .nil)))
end Go.Proofs.YtdfihaminnmgpaaGreat
