/- A part of this claim. No condition. -/
import Derived.Test.YtdmkhinckljddaaGreatDoorReportLinesG3
set_option maxRecDepth 100000
set_option maxHeartbeats 2000000
set_option linter.unusedVariables false
set_option linter.unusedSimpArgs false
set_option linter.unnecessarySimpa false
namespace Go.Proofs.YtdmkhinckljddaaGreatDoor
open Go.RowKit
open BlkW renaming rows→BZ_
open Bool renaming and_eq_true→O_,and_eq_false_iff→P_,or_eq_false_iff→R_,not_eq_false'→T_,not_eq_true'→U_,or_eq_true→W_,and_true→B_,false_and→AG_,not_false→AJ_,not_true→BM_,false_or→BN_,and_false→BO_,false_eq_true→BS_,true_and→BU_,or_false→BY_,true_eq_false→CW_,or_true→CE_
open Exit renaming exit→AI_
open Int renaming toNat_natCast→AF_,reduceEq→BE_,tmod_eq_emod_of_nonneg→BG_,tdiv_eq_ediv_of_nonneg→BH_,not_lt→BI_,natCast_nonpos_iff→CN_,mul_nonneg→CS_,mul_le_mul_of_nonneg_right→CB_
open IntKind renaming i64→S_
open List renaming map→K_,length_map→Q_,map_replicate→V_,map_append→X_,getElem?_eq_getElem→Y_,map_cons→Z_,map_take→D_,map_drop→AK_,map_nil→AL_,map_set→AM_,length_cons→AO_,getD_eq_getElem?_getD→AR_,length_nil→AS_,length_append→AW_,mem_of_getElem?→BB_,length_eq_zero_iff→CL_,append_assoc→CP_
open Nat renaming le_refl→AV_
open Tryz renaming prog→N_
open Value renaming string→L_,int→AY_,slice→AC_,bool→CO_
open Weak renaming int→M_,tup→AZ_,agg→AD_
open WeakL renaming refl→A_
theorem more1 (n:Nod) (h:n.kd=1):n=(⟨n.kd,n.na,0,n.nk,n.ns,n.np,n.no,n.za,0,n.w,n.b,n.qm,n.qs,n.qz,0,0,0,n.lo,n.hi⟩:Nod)↔moreE n=false:=by
 unfold moreE scaledB
 cases n
 simp only at h
 subst h
 simp only[Nod.mk.injEq,true_and,and_true,R_,P_,G_,beq_self_eq_true,Bool.true_or,CE_,BM_,AG_,BY_,BO_,true_or,or_true,and_self,Bool.or_self,BN_,T_,F_,Int.reduceBEq,Int.reduceBNe,BE_,AJ_,BU_,B_,false_or,or_false,BI_,gt_iff_lt,BS_,CW_,CN_,CL_]
 first|done|(constructor<;>intro h<;>simp_all)|omega
theorem more2 (n:Nod) (h:n.kd=2):n=(⟨n.kd,n.na,0,n.nk,n.ns,n.np,0,n.za,0,n.w,n.b,n.qm,n.qs,n.qz,0,0,0,n.lo,n.hi⟩:Nod)↔moreE n=false:=by
 unfold moreE scaledB
 cases n
 simp only at h
 subst h
 simp only[Nod.mk.injEq,true_and,and_true,R_,P_,G_,beq_self_eq_true,Bool.true_or,CE_,BM_,AG_,BY_,BO_,true_or,or_true,and_self,Bool.or_self,BN_,T_,F_,Int.reduceBEq,Int.reduceBNe,BE_,AJ_,BU_,B_,false_or,or_false,BI_,gt_iff_lt,BS_,CW_,CN_,CL_]
 first|done|(constructor<;>intro h<;>simp_all)|omega
theorem more3 (n:Nod) (h:n.kd=3):n=(⟨n.kd,n.na,0,0,0,0,n.no,n.za,0,n.w,n.b,n.qm,n.qs,n.qz,0,0,0,n.lo,n.hi⟩:Nod)↔moreE n=false:=by
 unfold moreE scaledB
 cases n
 simp only at h
 subst h
 simp only[Nod.mk.injEq,true_and,and_true,R_,P_,G_,beq_self_eq_true,Bool.true_or,CE_,BM_,AG_,BY_,BO_,true_or,or_true,and_self,Bool.or_self,BN_,T_,F_,Int.reduceBEq,Int.reduceBNe,BE_,AJ_,BU_,B_,false_or,or_false,BI_,gt_iff_lt,BS_,CW_,CN_,CL_]
 first|done|(constructor<;>intro h<;>simp_all)|omega
theorem more4 (n:Nod) (h:n.kd=4):n=(⟨n.kd,n.na,0,n.nk,n.ns,n.np,0,0,0,[],[],0,0,0,0,0,0,0,0⟩:Nod)↔moreE n=false:=by
 unfold moreE scaledB
 cases n
 simp only at h
 subst h
 simp only[Nod.mk.injEq,true_and,and_true,R_,P_,G_,beq_self_eq_true,Bool.true_or,CE_,BM_,AG_,BY_,BO_,true_or,or_true,and_self,Bool.or_self,BN_,T_,F_,Int.reduceBEq,Int.reduceBNe,BE_,AJ_,BU_,B_,false_or,or_false,BI_,gt_iff_lt,BS_,CW_,CN_,CL_]
 first|done|(constructor<;>intro h<;>simp_all)|omega
theorem more5 (n:Nod) (h:n.kd=5):n=(⟨n.kd,n.na,0,n.nk,n.ns,n.np,0,0,0,[],[],0,0,0,0,0,0,0,0⟩:Nod)↔moreE n=false:=by
 unfold moreE scaledB
 cases n
 simp only at h
 subst h
 simp only[Nod.mk.injEq,true_and,and_true,R_,P_,G_,beq_self_eq_true,Bool.true_or,CE_,BM_,AG_,BY_,BO_,true_or,or_true,and_self,Bool.or_self,BN_,T_,F_,Int.reduceBEq,Int.reduceBNe,BE_,AJ_,BU_,B_,false_or,or_false,BI_,gt_iff_lt,BS_,CW_,CN_,CL_]
 first|done|(constructor<;>intro h<;>simp_all)|omega
theorem more6 (n:Nod) (h:n.kd=6):n=(⟨n.kd,n.na,n.nb,0,0,0,0,n.za,n.zb,[],[],n.qm,n.qs,n.qz,n.rm,n.rs,0,n.lo,n.hi⟩:Nod)↔moreE n=false:=by
 unfold moreE scaledB
 cases n
 simp only at h
 subst h
 simp only[Nod.mk.injEq,true_and,and_true,R_,P_,G_,beq_self_eq_true,Bool.true_or,CE_,BM_,AG_,BY_,BO_,true_or,or_true,and_self,Bool.or_self,BN_,T_,F_,Int.reduceBEq,Int.reduceBNe,BE_,AJ_,BU_,B_,false_or,or_false,BI_,gt_iff_lt,BS_,CW_,CN_,CL_]
 first|done|(constructor<;>intro h<;>simp_all)|omega
theorem more7 (n:Nod) (h:n.kd=7):n=(⟨n.kd,n.na,0,0,0,0,0,n.za,0,[],[],n.qm,n.qs,n.qz,0,0,0,n.lo,n.hi⟩:Nod)↔moreE n=false:=by
 unfold moreE scaledB
 cases n
 simp only at h
 subst h
 simp only[Nod.mk.injEq,true_and,and_true,R_,P_,G_,beq_self_eq_true,Bool.true_or,CE_,BM_,AG_,BY_,BO_,true_or,or_true,and_self,Bool.or_self,BN_,T_,F_,Int.reduceBEq,Int.reduceBNe,BE_,AJ_,BU_,B_,false_or,or_false,BI_,gt_iff_lt,BS_,CW_,CN_,CL_]
 first|done|(constructor<;>intro h<;>simp_all)|omega
theorem more8 (n:Nod) (h:n.kd=8):n=(⟨n.kd,n.na,0,0,0,n.np,0,n.za,0,[],[],0,0,0,0,0,0,0,0⟩:Nod)↔moreE n=false:=by
 unfold moreE scaledB
 cases n
 simp only at h
 subst h
 simp only[Nod.mk.injEq,true_and,and_true,R_,P_,G_,beq_self_eq_true,Bool.true_or,CE_,BM_,AG_,BY_,BO_,true_or,or_true,and_self,Bool.or_self,BN_,T_,F_,Int.reduceBEq,Int.reduceBNe,BE_,AJ_,BU_,B_,false_or,or_false,BI_,gt_iff_lt,BS_,CW_,CN_,CL_]
 first|done|(constructor<;>intro h<;>simp_all)|omega
theorem more9 (n:Nod) (h:n.kd=9):n=(⟨n.kd,n.na,0,0,0,0,0,0,0,[],[],0,0,0,0,0,0,0,0⟩:Nod)↔moreE n=false:=by
 unfold moreE scaledB
 cases n
 simp only at h
 subst h
 simp only[Nod.mk.injEq,true_and,and_true,R_,P_,G_,beq_self_eq_true,Bool.true_or,CE_,BM_,AG_,BY_,BO_,true_or,or_true,and_self,Bool.or_self,BN_,T_,F_,Int.reduceBEq,Int.reduceBNe,BE_,AJ_,BU_,B_,false_or,or_false,BI_,gt_iff_lt,BS_,CW_,CN_,CL_]
 first|done|(constructor<;>intro h<;>simp_all)|omega
theorem more_iff (n:Nod) (h0:1≤n.kd) (h9:n.kd≤9):nodEq n (plainN n) = !moreE n:=by
 have:n.kd=1∨n.kd=2∨n.kd=3∨n.kd=4∨n.kd=5∨n.kd=6∨n.kd=7∨n.kd=8∨n.kd=9:=by omega
 have key:n=plainN n↔moreE n=false:=by
  unfold plainN
  rcases this with h|h|h|h|h|h|h|h|h
  ·have e:=more1 n h;simp only[h,BE_,if_true,if_false] at e ⊢;exact e
  ·have e:=more2 n h;simp only[h,BE_,if_true,if_false] at e ⊢;exact e
  ·have e:=more3 n h;simp only[h,BE_,if_true,if_false] at e ⊢;exact e
  ·have e:=more4 n h;simp only[h,BE_,if_true,if_false] at e ⊢;exact e
  ·have e:=more5 n h;simp only[h,BE_,if_true,if_false] at e ⊢;exact e
  ·have e:=more6 n h;simp only[h,BE_,if_true,if_false] at e ⊢;exact e
  ·have e:=more7 n h;simp only[h,BE_,if_true,if_false] at e ⊢;exact e
  ·have e:=more8 n h;simp only[h,BE_,if_true,if_false] at e ⊢;exact e
  ·have e:=more9 n h;simp only[h,BE_,if_true,if_false] at e ⊢;exact e
 rw[Bool.eq_iff_iff,nodEq_iff,key,U_]
theorem ck_eq {n:Nod} (h0:1≤n.kd) (h9:n.kd≤9):checkE n=if moreE n=true then 2 else if (((n.kd==1 || n.kd==2 || n.kd==3 || n.kd==6 || n.kd==7) && !rightQ n.qm n.qs) || (n.kd==6 && !rightQ n.rm n.rs))=true then 7 else if ((n.kd==1 || n.kd==2 || n.kd==3 || n.kd==6 || n.kd==7)&&decide (n.lo>n.hi))=true then 2 else 0:=by
 unfold checkE;rw[j_ (by omega)];rfl
theorem ck2 {n:Nod} (h0:1≤n.kd) (h9:n.kd≤9) (h:moreE n=true):2=checkE n:=by rw[ck_eq h0 h9,i_ h]
theorem ck7 {n:Nod} (h0:1≤n.kd) (h9:n.kd≤9) (h:moreE n=false) (q:(((n.kd==1 || n.kd==2 || n.kd==3 || n.kd==6 || n.kd==7) && !rightQ n.qm n.qs) || (n.kd==6 && !rightQ n.rm n.rs))=true):7=checkE n:=by rw[ck_eq h0 h9,j_ (by simp[h]),i_ q]
theorem ck2b {n:Nod} (h0:1≤n.kd) (h9:n.kd≤9) (h:moreE n=false) (q:(((n.kd==1 || n.kd==2 || n.kd==3 || n.kd==6 || n.kd==7) && !rightQ n.qm n.qs) || (n.kd==6 && !rightQ n.rm n.rs))=false) (l:((n.kd==1 || n.kd==2 || n.kd==3 || n.kd==6 || n.kd==7)&&decide (n.lo>n.hi))=true):2=checkE n:=by rw[ck_eq h0 h9,j_ (by simp[h]),j_ (by rw[q];simp),i_ l]
theorem ck0 {n:Nod} (h0:1≤n.kd) (h9:n.kd≤9) (h:moreE n=false) (q:(((n.kd==1 || n.kd==2 || n.kd==3 || n.kd==6 || n.kd==7) && !rightQ n.qm n.qs) || (n.kd==6 && !rightQ n.rm n.rs))=false) (l:((n.kd==1 || n.kd==2 || n.kd==3 || n.kd==6 || n.kd==7)&&decide (n.lo>n.hi))=false):0=checkE n:=by rw[ck_eq h0 h9,j_ (by simp[h]),j_ (by rw[q];simp),j_ (by rw[l];simp)]
theorem nq {n:Nod} {b:Bool} (h2:nodEq n (plainN n) = !moreE n) (h:(!nodEq n (plainN n))=b):moreE n=b:=by rw[←h,h2,Bool.not_not]
theorem orf {a b:Bool} (h:a=false) (h':b=false):(a || b)=false:=by rw[h,h'];rfl
theorem orl {a b:Bool} (h:a=true):(a || b)=true:=by rw[h];rfl
theorem orr {a b:Bool} (h:b=true):(a || b)=true:=by rw[h,CE_]
theorem refCheck_n (n:Nod) (hk:In64 n.kd) (hn:n.kd<1∨9<n.kd):VC N_ 42 ([nod n]) (i64 (checkE n)):=by
 have h2:=nameEq_out hn
 have oz0:=@refName_v (n.kd) hk
 exact (cR_ [r_,.r [] [cr oz0],b_,r_] (i64 6) Tryz.func42 (.d2 oz0 h2)).to (by (simp only[checkE];rw[i_ hn]))
theorem refCheck_y (n:Nod) (hw:n.w.length≤100000) (hb:n.b.length≤100000) (hk:1≤n.kd) (hk9:n.kd≤9):VC N_ 42 ([nod n]) (i64 (checkE n)):=by
 have h1:=nameEq_in hk hk9
 have oz0:=@refName_v (n.kd) (by omega)
 have oz2:=@refMore_v (n) hw hb
 rcases bft (moreE n) with hc0|hc0
 ·have gc0:moreE n=true:=by first|exact hc0|exact of_decide_eq_true hc0|exact of_decide_eq_false hc0|simpa [eqNums] using hc0|(simp[eqNums] at hc0 ⊢;first|done|assumption|omega)
  exact (cR_ [r_,.r [] [cr oz0],d_,.r [] [cr oz2],b_,r_] (i64 2) Tryz.func42 (.d4 oz0 h1 oz2 hc0)).weak (A_ _) (M_ (by (exact ck2 hk hk9 (by assumption))))
 ·have gc0:moreE n=false:=by first|exact hc0|exact of_decide_eq_true hc0|exact of_decide_eq_false hc0|simpa [eqNums] using hc0|(simp[eqNums] at hc0 ⊢;first|done|assumption|omega)
  have oz4:=@refScaled_v (n.kd)
  have oz5:=@refRight_v (n.qm) (n.qs) (n.qz)
  have oz6:=@refRight_v (n.rm) (n.rs) (n.rz)
  rcases bft ((n.kd==1 || n.kd==2 || n.kd==3 || n.kd==6 || n.kd==7) && !rightQ n.qm n.qs || n.kd==6 && !rightQ n.rm n.rs) with hc1|hc1
  ·have gc1:((((n.kd=1∨n.kd=2)∨n.kd=3)∨n.kd=6)∨n.kd=7)∧rightQ n.qm n.qs=false∨n.kd=6∧rightQ n.rm n.rs=false:=gc0_ hc1
   exact (cR_ [r_,.r [] [cr oz0],d_,.r [] [cr oz2],d_,.r [] [cr oz4,o_,o_,o_,cr oz5,o_,.sel 2,o_,o_,o_,o_,o_,o_,o_,cr oz6,o_,o_,.sel 2,.sel 1],b_,r_] (i64 7) Tryz.func42 (.d8 oz0 h1 oz2 hc0 oz4 oz5 oz6 hc1)).weak (A_ _) (M_ (by (exact ck7 hk hk9 (by assumption) (by assumption))))
  ·have gc1:((((¬n.kd=1∧¬n.kd=2)∧¬n.kd=3)∧¬n.kd=6)∧¬n.kd=7∨rightQ n.qm n.qs=true)∧(¬n.kd=6∨rightQ n.rm n.rs=true):=gc0_ hc1
   rcases bft ((n.kd==1 || n.kd==2 || n.kd==3 || n.kd==6 || n.kd==7)&&decide (n.lo>n.hi)) with hc2|hc2
   ·have gc2:((((n.kd=1∨n.kd=2)∨n.kd=3)∨n.kd=6)∨n.kd=7)∧n.lo>n.hi:=gc0_ hc2
    exact (cR_ [r_,.r [] [cr oz0],d_,.r [] [cr oz2],d_,.r [] [cr oz4,o_,o_,o_,cr oz5,o_,.sel 2,o_,o_,o_,o_,o_,o_,o_,cr oz6,o_,o_,.sel 2,.sel 1],d_,.r [] [cr oz4,o_,o_,o_,o_,o_,.sel 2],b_,r_] (i64 2) Tryz.func42 (.c8 oz0 h1 oz2 hc0 oz4 oz5 oz6 hc1<|.d2 oz4 hc2)).weak (A_ _) (M_ (by (exact ck2b hk hk9 (by assumption) (by assumption) (by assumption))))
   ·have gc2:(((¬n.kd=1∧¬n.kd=2)∧¬n.kd=3)∧¬n.kd=6)∧¬n.kd=7∨¬n.lo>n.hi:=gc0_ hc2
    exact (cR_ [r_,.r [] [cr oz0],d_,.r [] [cr oz2],d_,.r [] [cr oz4,o_,o_,o_,cr oz5,o_,.sel 2,o_,o_,o_,o_,o_,o_,o_,cr oz6,o_,o_,.sel 2,.sel 1],d_,.r [] [cr oz4,o_,o_,o_,o_,o_,.sel 2],d_,r_] (i64 0) Tryz.func42 (.c8 oz0 h1 oz2 hc0 oz4 oz5 oz6 hc1<|.d2 oz4 hc2)).weak (A_ _) (M_ (by (exact ck0 hk hk9 (by assumption) (by assumption) (by assumption))))
theorem refCheck_v (n:Nod) (hw:n.w.length≤100000) (hb:n.b.length≤100000) (hk:In64 n.kd):VC N_ 42 [nod n] (i64 (checkE n)):=by
 by_cases h:n.kd<1∨9<n.kd
 ·exact refCheck_n n hk h
 ·exact refCheck_y n hw hb (by omega) (by omega)
theorem plain_v (n:Nod) (hw:n.w.length≤100000) (hb:n.b.length≤100000) (h0:1≤n.kd) (h9:n.kd≤9):VC N_ 109 [nod n] (nod (plainN n)):=by
 have:n.kd=1∨n.kd=2∨n.kd=3∨n.kd=4∨n.kd=5∨n.kd=6∨n.kd=7∨n.kd=8∨n.kd=9:=by omega
 unfold plainN
 rcases this with h|h|h|h|h|h|h|h|h
 ·have e:=plain1 n h hw hb;simp only[h,BE_,if_true,if_false] at e ⊢;exact e
 ·have e:=plain2 n h hw hb;simp only[h,BE_,if_true,if_false] at e ⊢;exact e
 ·have e:=plain3 n h hw hb;simp only[h,BE_,if_true,if_false] at e ⊢;exact e
 ·have e:=plain4 n h hw hb;simp only[h,BE_,if_true,if_false] at e ⊢;exact e
 ·have e:=plain5 n h hw hb;simp only[h,BE_,if_true,if_false] at e ⊢;exact e
 ·have e:=plain6 n h hw hb;simp only[h,BE_,if_true,if_false] at e ⊢;exact e
 ·have e:=plain7 n h hw hb;simp only[h,BE_,if_true,if_false] at e ⊢;exact e
 ·have e:=plain8 n h hw hb;simp only[h,BE_,if_true,if_false] at e ⊢;exact e
 ·have e:=plain9 n h hw hb;simp only[h,BE_,if_true,if_false] at e ⊢;exact e
theorem check_n (n:Nod) (hk:In64 n.kd) (hn:n.kd<1∨9<n.kd):VC N_ 89 ([nod n]) (i64 (checkE n)):=by
 have h2:=nameEq_out hn
 have oz0:=@name_v (n.kd) hk
 exact (cR_ [r_,.r [] [cr oz0],b_,r_] (i64 6) Tryz.func89 (.d2 oz0 h2)).to (by (simp only[checkE];rw[i_ hn]))
theorem check_y (n:Nod) (hw:n.w.length≤100000) (hb:n.b.length≤100000) (hk:1≤n.kd) (hk9:n.kd≤9):VC N_ 89 ([nod n]) (i64 (checkE n)):=by
 have h1:=nameEq_in hk hk9
 have h2:=more_iff n hk hk9
 have oz0:=@name_v (n.kd) (by omega)
 have oz2:=@plain_v (n) hw hb hk hk9
 have oz3:=@same_v (n) (plainN n) hw hb
 rcases bft (!nodEq n (plainN n)) with hc0|hc0
 ·have gc0:nodEq n (plainN n)=false:=by first|exact hc0|exact of_decide_eq_true hc0|exact of_decide_eq_false hc0|simpa [eqNums] using hc0|(simp[eqNums] at hc0 ⊢;first|done|assumption|omega)
  exact (cR_ [r_,.r [] [cr oz0],d_,.r [] [cr oz2,cr oz3],b_,r_] (i64 2) Tryz.func89 (.d5 oz0 h1 oz2 oz3 hc0)).weak (A_ _) (M_ (by (exact ck2 hk hk9 (nq h2 (by assumption)))))
 ·have gc0:nodEq n (plainN n)=true:=by first|exact hc0|exact of_decide_eq_true hc0|exact of_decide_eq_false hc0|simpa [eqNums] using hc0|(simp[eqNums] at hc0 ⊢;first|done|assumption|omega)
  have oz5:=@scaledK_v (n.kd)
  have oz6:=@right_v (n.qm) (n.qs) (n.qz)
  rcases bft ((n.kd==1 || n.kd==2 || n.kd==3 || n.kd==6 || n.kd==7) && !rightQ n.qm n.qs) with hc1|hc1
  ·have gc1:((((n.kd=1∨n.kd=2)∨n.kd=3)∨n.kd=6)∨n.kd=7)∧rightQ n.qm n.qs=false:=gc0_ hc1
   exact (cR_ [r_,.r [] [cr oz0],d_,.r [] [cr oz2,cr oz3],d_,.r [] [cr oz5,o_,o_,o_,cr oz6,o_,.sel 2],b_,b_,r_] (i64 7) Tryz.func89 (.c8 oz0 h1 oz2 oz3 hc0 oz5 oz6 hc1<|.d hc1)).weak (A_ _) (M_ (by (exact ck7 hk hk9 (nq h2 (by assumption)) (orl (by assumption)))))
  ·have gc1:(((¬n.kd=1∧¬n.kd=2)∧¬n.kd=3)∧¬n.kd=6)∧¬n.kd=7∨rightQ n.qm n.qs=true:=gc0_ hc1
   have oz8:=@right_v (n.rm) (n.rs) (n.rz)
   rcases bft (n.kd==6 && !rightQ n.rm n.rs) with hc2|hc2
   ·have gc2:n.kd=6∧rightQ n.rm n.rs=false:=gc0_ hc2
    exact (cR_ [r_,.r [] [cr oz0],d_,.r [] [cr oz2,cr oz3],d_,.r [] [cr oz5,o_,o_,o_,cr oz6,o_,.sel 2],d_,.r [] [o_,o_,o_,cr oz8,o_,.sel 2],b_,r_] (i64 7) Tryz.func89 (.c8 oz0 h1 oz2 oz3 hc0 oz5 oz6 hc1<|.d2 oz8 hc2)).weak (A_ _) (M_ (by (exact ck7 hk hk9 (nq h2 (by assumption)) (orr (by assumption)))))
   ·have gc2:¬n.kd=6∨rightQ n.rm n.rs=true:=gc0_ hc2
    rcases bft ((n.kd==1 || n.kd==2 || n.kd==3 || n.kd==6 || n.kd==7)&&decide (n.lo>n.hi)) with hc3|hc3
    ·have gc3:((((n.kd=1∨n.kd=2)∨n.kd=3)∨n.kd=6)∨n.kd=7)∧n.lo>n.hi:=gc0_ hc3
     exact (cR_ [r_,.r [] [cr oz0],d_,.r [] [cr oz2,cr oz3],d_,.r [] [cr oz5,o_,o_,o_,cr oz6,o_,.sel 2],d_,.r [] [o_,o_,o_,cr oz8,o_,.sel 2],d_,.r [] [cr oz5,o_,o_,o_,o_,o_,.sel 2],b_,r_] (i64 2) Tryz.func89 (.c8 oz0 h1 oz2 oz3 hc0 oz5 oz6 hc1<|.d4 oz8 hc2 oz5 hc3)).weak (A_ _) (M_ (by (exact ck2b hk hk9 (nq h2 (by assumption)) (orf (by assumption) (by assumption)) (by assumption))))
    ·have gc3:(((¬n.kd=1∧¬n.kd=2)∧¬n.kd=3)∧¬n.kd=6)∧¬n.kd=7∨¬n.lo>n.hi:=gc0_ hc3
     exact (cR_ [r_,.r [] [cr oz0],d_,.r [] [cr oz2,cr oz3],d_,.r [] [cr oz5,o_,o_,o_,cr oz6,o_,.sel 2],d_,.r [] [o_,o_,o_,cr oz8,o_,.sel 2],d_,.r [] [cr oz5,o_,o_,o_,o_,o_,.sel 2],d_,r_] (i64 0) Tryz.func89 (.c8 oz0 h1 oz2 oz3 hc0 oz5 oz6 hc1<|.d4 oz8 hc2 oz5 hc3)).weak (A_ _) (M_ (by (exact ck0 hk hk9 (nq h2 (by assumption)) (orf (by assumption) (by assumption)) (by assumption))))
theorem check_v (n:Nod) (hw:n.w.length≤100000) (hb:n.b.length≤100000) (hk:In64 n.kd):VC N_ 89 [nod n] (i64 (checkE n)):=by
 by_cases h:n.kd<1∨9<n.kd
 ·exact check_n n hk h
 ·exact check_y n hw hb (by omega) (by omega)
def depthE (t:Shp) (n:Nod):Shp×Int :=
 if (slideE t n.nk n.ns n.np t.c).2≠0 then (⟨0,0,0⟩,(slideE t n.nk n.ns n.np t.c).2)
 else if (n.w.length:Int)≠t.c*n.nk*n.nk∨16384<(n.w.length:Int)∨(n.b.length:Int)≠t.c then (⟨0,0,0⟩,9) else ((slideE t n.nk n.ns n.np t.c).1,0)
theorem depthShape_v (t:Shp) (n:Nod) (ok:t.Ok) (okn:n.Ok):VC N_ 114 ([shp t,nod n]) (.tup [shp (depthE t n).1,i64 (depthE t n).2]):=by
 have q2:=ok.c
 have q3:=fun h=>wts_bd (t:=t) (k:=n.nk) (s:=n.ns) (p:=n.np) (o:=t.c) h
 have oz0:=@slide_v (t) (n.nk) (n.ns) (n.np) (t.c) ok q2
 rcases bft ((slideE t n.nk n.ns n.np t.c).snd != 0) with hc0|hc0
 ·have gc0:¬(slideE t n.nk n.ns n.np t.c).snd=0:=bdt hc0
  exact (cR_ [r_,.r [] [cr oz0],r_,b_,r_] (AV.tup [AV.agg [i64 0,i64 0,i64 0],i64 (slideE t n.nk n.ns n.np t.c).snd]) Tryz.func114 (.d2 oz0 hc0)).to (by (simp only[depthE];rw[i_ (by omega)]))
 ·have gc0:(slideE t n.nk n.ns n.np t.c).snd=0:=bdf hc0
  have oz2:=(i6n (t.c*n.nk) (by omega))
  have oz3:=(i6n (t.c*n.nk*n.nk) (by omega))
  rcases bft (((K_ (row1 .i8) n.w).length:Int) != t.c*n.nk*n.nk || decide (((K_ (row1 .i8) n.w).length:Int)>16384) || ((K_ (row1 .i32) n.b).length:Int) != t.c) with hc1|hc1
  ·have gc1:(¬((K_ (row1 .i8) n.w).length:Int)=t.c*n.nk*n.nk∨((K_ (row1 .i8) n.w).length:Int)>16384)∨¬((K_ (row1 .i32) n.b).length:Int)=t.c:=gc0_ hc1
   exact (cR_ [r_,.r [] [cr oz0],r_,d_,.r [] [.n (nO oz2),.n (nO oz3),o_,o_,o_,o_,.sel 1,o_,o_,o_,o_,o_,o_,.sel 1],b_,r_] (AV.tup [AV.agg [i64 0,i64 0,i64 0],i64 9]) Tryz.func114 (.d5 oz0 hc0 oz2 oz3 hc1)).to (by (simp only[depthE,Q_] at *;rw[j_ (by omega),i_ (by omega)]))
  ·have gc1:(((K_ (row1 .i8) n.w).length:Int)=t.c*n.nk*n.nk∧¬((K_ (row1 .i8) n.w).length:Int)>16384)∧((K_ (row1 .i32) n.b).length:Int)=t.c:=gc0_ hc1
   exact (cR_ [r_,.r [] [cr oz0],r_,d_,.r [] [.n (nO oz2),.n (nO oz3),o_,o_,o_,o_,.sel 1,o_,o_,o_,o_,o_,o_,.sel 1],d_,r_] (AV.tup [AV.agg [i64 (slideE t n.nk n.ns n.np t.c).fst.h,i64 (slideE t n.nk n.ns n.np t.c).fst.x,i64 (slideE t n.nk n.ns n.np t.c).fst.c],i64 0]) Tryz.func114 (.d5 oz0 hc0 oz2 oz3 hc1)).to (by (simp only[depthE,Q_] at *;rw[j_ (by omega),j_ (by omega)]))
theorem refDepthShape_v (t:Shp) (n:Nod) (ok:t.Ok) (okn:n.Ok):VC N_ 65 ([shp t,nod n]) (.tup [shp (depthE t n).1,i64 (depthE t n).2]):=by
 have q2:=ok.c
 have q3:=fun h=>wts_bd (t:=t) (k:=n.nk) (s:=n.ns) (p:=n.np) (o:=t.c) h
 have oz0:=@refSlide_v (t) (n.nk) (n.ns) (n.np) (t.c) ok q2
 rcases bft ((slideE t n.nk n.ns n.np t.c).snd != 0) with hc0|hc0
 ·have gc0:¬(slideE t n.nk n.ns n.np t.c).snd=0:=bdt hc0
  exact (cR_ [r_,.r [] [cr oz0],r_,b_,r_] (AV.tup [AV.agg [i64 0,i64 0,i64 0],i64 (slideE t n.nk n.ns n.np t.c).snd]) Tryz.func65 (.d2 oz0 hc0)).to (by (simp only[depthE];rw[i_ (by omega)]))
 ·have gc0:(slideE t n.nk n.ns n.np t.c).snd=0:=bdf hc0
  have oz2:=(i6n (t.c*n.nk) (by omega))
  have oz3:=(i6n (t.c*n.nk*n.nk) (by omega))
  rcases bft (((K_ (row1 .i8) n.w).length:Int) != t.c*n.nk*n.nk || decide (((K_ (row1 .i8) n.w).length:Int)>16384) || ((K_ (row1 .i32) n.b).length:Int) != t.c) with hc1|hc1
  ·have gc1:(¬((K_ (row1 .i8) n.w).length:Int)=t.c*n.nk*n.nk∨((K_ (row1 .i8) n.w).length:Int)>16384)∨¬((K_ (row1 .i32) n.b).length:Int)=t.c:=gc0_ hc1
   exact (cR_ [r_,.r [] [cr oz0],r_,d_,.r [] [.n (nO oz2),.n (nO oz3),o_,o_,o_,o_,.sel 1,o_,o_,o_,o_,o_,o_,.sel 1],b_,r_] (AV.tup [AV.agg [i64 0,i64 0,i64 0],i64 9]) Tryz.func65 (.d5 oz0 hc0 oz2 oz3 hc1)).to (by (simp only[depthE,Q_] at *;rw[j_ (by omega),i_ (by omega)]))
  ·have gc1:(((K_ (row1 .i8) n.w).length:Int)=t.c*n.nk*n.nk∧¬((K_ (row1 .i8) n.w).length:Int)>16384)∧((K_ (row1 .i32) n.b).length:Int)=t.c:=gc0_ hc1
   exact (cR_ [r_,.r [] [cr oz0],r_,d_,.r [] [.n (nO oz2),.n (nO oz3),o_,o_,o_,o_,.sel 1,o_,o_,o_,o_,o_,o_,.sel 1],d_,r_] (AV.tup [AV.agg [i64 (slideE t n.nk n.ns n.np t.c).fst.h,i64 (slideE t n.nk n.ns n.np t.c).fst.x,i64 (slideE t n.nk n.ns n.np t.c).fst.c],i64 0]) Tryz.func65 (.d5 oz0 hc0 oz2 oz3 hc1)).to (by (simp only[depthE,Q_] at *;rw[j_ (by omega),j_ (by omega)]))
theorem elems_in (h x c:Int):0≤elems h x c∧elems h x c≤1024:=by
 unfold elems;split
 ·rename_i g
  have:=CS_ (CS_ (s_ (0≤h)) (s_ (0≤x))) (s_ (0≤c))
  omega
 ·omega
def denseE (t:Shp) (n:Nod):Shp×Int :=
 if elems t.h t.x t.c=0∨elems 1 1 n.no=0 then (⟨0,0,0⟩,5)
 else if (n.w.length:Int)≠n.no*elems t.h t.x t.c∨16384<(n.w.length:Int)∨(n.b.length:Int)≠n.no then (⟨0,0,0⟩,9) else (⟨1,1,n.no⟩,0)
theorem denseShape_v (t:Shp) (n:Nod) (ok:t.Ok) (okn:n.Ok):VC N_ 115 ([shp t,nod n]) (.tup [shp (denseE t n).1,i64 (denseE t n).2]):=by
 obtain ⟨p1,p2,p3⟩:=id ok
 have q2:=elems_in t.h t.x t.c
 have q3:=elems_in 1 1 n.no
 have q4:0<elems 1 1 n.no→1≤n.no∧n.no≤1024:=fun h=>by have:=elems_ok h;omega
 have q5:0<elems 1 1 n.no→0≤n.no*elems t.h t.x t.c∧n.no*elems t.h t.x t.c≤1024*1024:=fun h=>mul_bd (by have:=q4 h;omega) (q4 h).2 q2.1 q2.2
 have oz0:=@sRight_v (t) ok
 have oz1:=@sRight_v (Shp.mk 1 1 n.no) (by (exact Shp.mk_ok ⟨by decide,by decide⟩ ⟨by decide,by decide⟩ okn.no))
 rcases bft (!decide (0<elems t.h t.x t.c) || !decide (0<elems 1 1 n.no)) with hc0|hc0
 ·have gc0:¬0<elems t.h t.x t.c∨¬0<elems 1 1 n.no:=gc0_ hc0
  exact (cR_ [r_,r_,.r [] [cr oz0,o_,o_,cr oz1,o_,.sel 1],b_,r_] (AV.tup [AV.agg [i64 0,i64 0,i64 0],i64 5]) Tryz.func115 (.d3 oz0 oz1 hc0)).to (by (simp only[denseE];rw[i_ (by omega)]))
 ·have gc0:0<elems t.h t.x t.c∧0<elems 1 1 n.no:=gc0_ hc0
  have oz3:=@elems_v (t.h) (t.x) (t.c) p1 p2 p3
  have oz4:=(i6n (n.no*elems t.h t.x t.c) (by omega))
  rcases bft (((K_ (row1 .i8) n.w).length:Int) != n.no*elems t.h t.x t.c || decide (((K_ (row1 .i8) n.w).length:Int)>16384) || ((K_ (row1 .i32) n.b).length:Int) != n.no) with hc1|hc1
  ·have gc1:(¬((K_ (row1 .i8) n.w).length:Int)=n.no*elems t.h t.x t.c∨((K_ (row1 .i8) n.w).length:Int)>16384)∨¬((K_ (row1 .i32) n.b).length:Int)=n.no:=gc0_ hc1
   exact (cR_ [r_,r_,.r [] [cr oz0,o_,o_,cr oz1,o_,.sel 1],d_,.r [] [cr oz3,.n (nO oz4),o_,o_,o_,o_,.sel 1,o_,o_,o_,o_,o_,o_,.sel 1],b_,r_] (AV.tup [AV.agg [i64 0,i64 0,i64 0],i64 9]) Tryz.func115 (.d6 oz0 oz1 hc0 oz3 oz4 hc1)).to (by (simp only[denseE,Q_] at *;rw[j_ (by omega),i_ (by omega)]))
  ·have gc1:(((K_ (row1 .i8) n.w).length:Int)=n.no*elems t.h t.x t.c∧¬((K_ (row1 .i8) n.w).length:Int)>16384)∧((K_ (row1 .i32) n.b).length:Int)=n.no:=gc0_ hc1
   exact (cR_ [r_,r_,.r [] [cr oz0,o_,o_,cr oz1,o_,.sel 1],d_,.r [] [cr oz3,.n (nO oz4),o_,o_,o_,o_,.sel 1,o_,o_,o_,o_,o_,o_,.sel 1],d_,r_] (AV.tup [AV.agg [i64 1,i64 1,i64 n.no],i64 0]) Tryz.func115 (.d6 oz0 oz1 hc0 oz3 oz4 hc1)).to (by (simp only[denseE,Q_] at *;rw[j_ (by omega),j_ (by omega)]))
theorem refDenseShape_v (t:Shp) (n:Nod) (ok:t.Ok) (okn:n.Ok):VC N_ 66 ([shp t,nod n]) (.tup [shp (denseE t n).1,i64 (denseE t n).2]):=by
 obtain ⟨p1,p2,p3⟩:=id ok
 have p4:=okn.no
 have p5:In64 1:=⟨by decide,by decide⟩
 have q2:=elems_in t.h t.x t.c
 have q3:=elems_in 1 1 n.no
 have q4:0<elems 1 1 n.no→1≤n.no∧n.no≤1024:=fun h=>by have:=elems_ok h;omega
 have q5:0<elems 1 1 n.no→0≤n.no*elems t.h t.x t.c∧n.no*elems t.h t.x t.c≤1024*1024:=fun h=>mul_bd (by have:=q4 h;omega) (q4 h).2 q2.1 q2.2
 have oz0:=@refElems_v (t.h) (t.x) (t.c) p1 p2 p3
 have oz1:=@refElems_v (1) (1) (n.no) p5 p5 p4
 rcases bft (elems t.h t.x t.c==0 || elems 1 1 n.no==0) with hc0|hc0
 ·have gc0:elems t.h t.x t.c=0∨elems 1 1 n.no=0:=gc0_ hc0
  exact (cR_ [r_,r_,.r [] [cr oz0,o_,o_,cr oz1,o_,.sel 1],b_,r_] (AV.tup [AV.agg [i64 0,i64 0,i64 0],i64 5]) Tryz.func66 (.d3 oz0 oz1 hc0)).to (by (simp only[denseE];rw[i_ (by omega)]))
 ·have gc0:¬elems t.h t.x t.c=0∧¬elems 1 1 n.no=0:=gc0_ hc0
  have oz4:=(i6n (n.no*elems t.h t.x t.c) (by omega))
  rcases bft (((K_ (row1 .i8) n.w).length:Int) != n.no*elems t.h t.x t.c || decide (((K_ (row1 .i8) n.w).length:Int)>16384) || ((K_ (row1 .i32) n.b).length:Int) != n.no) with hc1|hc1
  ·have gc1:(¬((K_ (row1 .i8) n.w).length:Int)=n.no*elems t.h t.x t.c∨((K_ (row1 .i8) n.w).length:Int)>16384)∨¬((K_ (row1 .i32) n.b).length:Int)=n.no:=gc0_ hc1
   exact (cR_ [r_,r_,.r [] [cr oz0,o_,o_,cr oz1,o_,.sel 1],d_,.r [] [cr oz0,.n (nO oz4),o_,o_,o_,o_,.sel 1,o_,o_,o_,o_,o_,o_,.sel 1],b_,r_] (AV.tup [AV.agg [i64 0,i64 0,i64 0],i64 9]) Tryz.func66 (.d6 oz0 oz1 hc0 oz0 oz4 hc1)).to (by (simp only[denseE,Q_] at *;rw[j_ (by omega),i_ (by omega)]))
  ·have gc1:(((K_ (row1 .i8) n.w).length:Int)=n.no*elems t.h t.x t.c∧¬((K_ (row1 .i8) n.w).length:Int)>16384)∧((K_ (row1 .i32) n.b).length:Int)=n.no:=gc0_ hc1
   exact (cR_ [r_,r_,.r [] [cr oz0,o_,o_,cr oz1,o_,.sel 1],d_,.r [] [cr oz0,.n (nO oz4),o_,o_,o_,o_,.sel 1,o_,o_,o_,o_,o_,o_,.sel 1],d_,r_] (AV.tup [AV.agg [i64 1,i64 1,i64 n.no],i64 0]) Tryz.func66 (.d6 oz0 oz1 hc0 oz0 oz4 hc1)).to (by (simp only[denseE,Q_] at *;rw[j_ (by omega),j_ (by omega)]))
def aroundE (a:Shp) (p:Int):Shp×Int:=if p<0∨4<p then (⟨0,0,0⟩,2) else if elems (a.h+2*p) (a.x+2*p) a.c=0 then (⟨0,0,0⟩,5) else (⟨a.h+2*p,a.x+2*p,a.c⟩,0)
def shapeE (n:Nod) (a b:Shp):Shp×Int :=
 if n.kd=1 then convE a n else if n.kd=2 then depthE a n else if n.kd=3 then denseE a n else if n.kd=4∨n.kd=5 then slideE a n.nk n.ns n.np a.c
 else if n.kd<1∨9<n.kd then (⟨0,0,0⟩,6) else if elems a.h a.x a.c=0∨(n.kd=6∧¬(a.h=b.h∧a.x=b.x∧a.c=b.c)) then (⟨0,0,0⟩,5)
 else if n.kd=9 then (⟨1,1,elems a.h a.x a.c⟩,0) else if n.kd=8 then
  aroundE a n.np else (a,0)
theorem around_v (a:Shp) (p:Int) (ok:a.Ok) (h0:0<elems a.h a.x a.c):VC N_ 135 ([shp a,i64 p]) (.tup [shp (aroundE a p).1,i64 (aroundE a p).2]):=by
 have q:=elems_ok h0
 have q2:=elems_in (a.h+2*p) (a.x+2*p) a.c
 have q3:=ok.c
 rcases bft (decide (p<0) || decide (p>4)) with hc0|hc0
 ·have gc0:p<0∨p>4:=gc0_ hc0
  exact (cR_ [r_,.r [] [o_,o_,.sel 1],b_,r_] (AV.tup [AV.agg [i64 0,i64 0,i64 0],i64 2]) Tryz.func135 (.d hc0)).weak (A_ _) (AZ_ (.cons (AD_ (.cons (M_ (by (unfold aroundE;(repeat first|rw[i_ (by omega)]|rw[j_ (by omega)])))) (.cons (M_ (by (unfold aroundE;(repeat first|rw[i_ (by omega)]|rw[j_ (by omega)])))) (.cons (M_ (by (unfold aroundE;(repeat first|rw[i_ (by omega)]|rw[j_ (by omega)])))) .nil)))) (.cons (M_ (by (unfold aroundE;(repeat first|rw[i_ (by omega)]|rw[j_ (by omega)])))) .nil)))
 ·have gc0:¬p<0∧¬p>4:=gc0_ hc0
  have oz1:=(i6n (2*p) (by omega))
  have oz2:=(i6n (a.h+2*p) (by omega))
  have oz4:=(i6n (a.x+2*p) (by omega))
  have oz5:=@sRight_v (Shp.mk (a.h+2*p) (a.x+2*p) a.c) (by (exact Shp.mk_ok ⟨by omega,by omega⟩ ⟨by omega,by omega⟩ q3))
  rcases bft (!decide (0<elems (a.h+2*p) (a.x+2*p) a.c)) with hc1|hc1
  ·have gc1:=bnt hc1
   exact (cR_ [r_,.r [] [o_,o_,.sel 1],d_,.r [] [.n (nO oz1),.n (nO oz2),.n (nO oz1),.n (nO oz4)],.r [] [cr oz5],b_,r_] (AV.tup [AV.agg [i64 0,i64 0,i64 0],i64 5]) Tryz.func135 (.d7 hc0 oz1 oz2 oz1 oz4 oz5 hc1)).weak (A_ _) (AZ_ (.cons (AD_ (.cons (M_ (by (unfold aroundE;(repeat first|rw[i_ (by omega)]|rw[j_ (by omega)])))) (.cons (M_ (by (unfold aroundE;(repeat first|rw[i_ (by omega)]|rw[j_ (by omega)])))) (.cons (M_ (by (unfold aroundE;(repeat first|rw[i_ (by omega)]|rw[j_ (by omega)])))) .nil)))) (.cons (M_ (by (unfold aroundE;(repeat first|rw[i_ (by omega)]|rw[j_ (by omega)])))) .nil)))
  ·have gc1:=bnf hc1
   exact (cR_ [r_,.r [] [o_,o_,.sel 1],d_,.r [] [.n (nO oz1),.n (nO oz2),.n (nO oz1),.n (nO oz4)],.r [] [cr oz5],d_,r_] (AV.tup [AV.agg [i64 (a.h+2*p),i64 (a.x+2*p),i64 a.c],i64 0]) Tryz.func135 (.d7 hc0 oz1 oz2 oz1 oz4 oz5 hc1)).weak (A_ _) (AZ_ (.cons (AD_ (.cons (M_ (by (unfold aroundE;(repeat first|rw[i_ (by omega)]|rw[j_ (by omega)])))) (.cons (M_ (by (unfold aroundE;(repeat first|rw[i_ (by omega)]|rw[j_ (by omega)])))) (.cons (M_ (by (unfold aroundE;(repeat first|rw[i_ (by omega)]|rw[j_ (by omega)])))) .nil)))) (.cons (M_ (by (unfold aroundE;(repeat first|rw[i_ (by omega)]|rw[j_ (by omega)])))) .nil)))
theorem plainShape_v (n:Nod) (a b:Shp) (ok:a.Ok) (okb:b.Ok) (hk:6≤n.kd) (hk9:n.kd≤9):VC N_ 117 ([nod n,shp a,shp b]) (.tup [shp (shapeE n a b).1,i64 (shapeE n a b).2]):=by
 obtain ⟨p1,p2,p3⟩:=id ok
 have q2:=elems_in a.h a.x a.c
 have oz0:=@sRight_v (a) ok
 rcases bft (!decide (0<elems a.h a.x a.c)) with hc0|hc0
 ·have gc0:=bnt hc0
  exact (cR_ [r_,.r [] [cr oz0],b_,r_] (AV.tup [AV.agg [i64 0,i64 0,i64 0],i64 5]) Tryz.func117 (.d2 oz0 hc0)).weak (A_ _) (AZ_ (.cons (AD_ (.cons (M_ (by (unfold shapeE;(repeat first|rw[i_ (by omega)]|rw[j_ (by omega)])))) (.cons (M_ (by (unfold shapeE;(repeat first|rw[i_ (by omega)]|rw[j_ (by omega)])))) (.cons (M_ (by (unfold shapeE;(repeat first|rw[i_ (by omega)]|rw[j_ (by omega)])))) .nil)))) (.cons (M_ (by (unfold shapeE;(repeat first|rw[i_ (by omega)]|rw[j_ (by omega)])))) .nil)))
 ·have gc0:=bnf hc0
  rcases bft (n.kd==6) with hc1|hc1
  ·have gc1:n.kd=6:=bet hc1
   have oz3:=(show BinTo N_ BinOp.neq 23 (Operand.tmp 16) (Operand.tmp 17) (Value.agg #[AY_ S_ a.h,AY_ S_ a.x,AY_ S_ a.c]) (Value.agg #[AY_ S_ b.h,AY_ S_ b.x,AY_ S_ b.c]) (CO_ !eqNums [(S_,a.h,b.h),(S_,a.x,b.x),(S_,a.c,b.c)]) from ((bin_nums (l:=[(S_,a.h,b.h),(S_,a.x,b.x),(S_,a.c,b.c)]) (by kernel_rfl) (by kernel_rfl) (by kernel_rfl) (by kernel_rfl) _ _).2))
   rcases bft (!eqNums [(S_,a.h,b.h),(S_,a.x,b.x),(S_,a.c,b.c)]) with hc2|hc2
   ·have gc2:¬(a.h=b.h∧a.x=b.x∧a.c=b.c):=gc0_ hc2
    exact (cR_ [r_,.r [] [cr oz0],d_,r_,r_,b_,.r [] [.v (CO_ !eqNums [(S_,a.h,b.h),(S_,a.x,b.x),(S_,a.c,b.c)])],b_,r_] (AV.tup [AV.agg [i64 0,i64 0,i64 0],i64 5]) Tryz.func117 (.d5 oz0 hc0 hc1 oz3 hc2)).weak (A_ _) (AZ_ (.cons (AD_ (.cons (M_ (by (unfold shapeE;(repeat first|rw[i_ (by omega)]|rw[j_ (by omega)])))) (.cons (M_ (by (unfold shapeE;(repeat first|rw[i_ (by omega)]|rw[j_ (by omega)])))) (.cons (M_ (by (unfold shapeE;(repeat first|rw[i_ (by omega)]|rw[j_ (by omega)])))) .nil)))) (.cons (M_ (by (unfold shapeE;(repeat first|rw[i_ (by omega)]|rw[j_ (by omega)])))) .nil)))
   ·have gc2:a.h=b.h∧a.x=b.x∧a.c=b.c:=gc0_ hc2
    exact (cR_ [r_,.r [] [cr oz0],d_,r_,r_,b_,.r [] [.v (CO_ !eqNums [(S_,a.h,b.h),(S_,a.x,b.x),(S_,a.c,b.c)])],d_,r_] (AV.tup [AV.agg [i64 a.h,i64 a.x,i64 a.c],i64 0]) Tryz.func117 (.d5 oz0 hc0 hc1 oz3 hc2)).weak (A_ _) (AZ_ (.cons (AD_ (.cons (M_ (by (unfold shapeE;(repeat first|rw[i_ (by omega)]|rw[j_ (by omega)])))) (.cons (M_ (by (unfold shapeE;(repeat first|rw[i_ (by omega)]|rw[j_ (by omega)])))) (.cons (M_ (by (unfold shapeE;(repeat first|rw[i_ (by omega)]|rw[j_ (by omega)])))) .nil)))) (.cons (M_ (by (unfold shapeE;(repeat first|rw[i_ (by omega)]|rw[j_ (by omega)])))) .nil)))
  ·have gc1:¬n.kd=6:=bef hc1
   rcases bft (n.kd==8) with hc2|hc2
   ·have gc2:n.kd=8:=bet hc2
    have oz4:=@around_v (a) (n.np) ok gc0
    exact (cR_ [r_,.r [] [cr oz0],d_,r_,r_,d_,r_,b_,.r [] [cr oz4]] (AV.tup [AV.agg [i64 (aroundE a n.np).fst.h,i64 (aroundE a n.np).fst.x,i64 (aroundE a n.np).fst.c],i64 (aroundE a n.np).snd]) Tryz.func117 (.d5 oz0 hc0 hc1 hc2 oz4)).weak (A_ _) (AZ_ (.cons (AD_ (.cons (M_ (by (unfold shapeE;(repeat first|rw[i_ (by omega)]|rw[j_ (by omega)])))) (.cons (M_ (by (unfold shapeE;(repeat first|rw[i_ (by omega)]|rw[j_ (by omega)])))) (.cons (M_ (by (unfold shapeE;(repeat first|rw[i_ (by omega)]|rw[j_ (by omega)])))) .nil)))) (.cons (M_ (by (unfold shapeE;(repeat first|rw[i_ (by omega)]|rw[j_ (by omega)])))) .nil)))
   ·have gc2:¬n.kd=8:=bef hc2
    rcases bft (n.kd==9) with hc3|hc3
    ·have gc3:n.kd=9:=bet hc3
     have oz5:=@elems_v (a.h) (a.x) (a.c) p1 p2 p3
     exact (cR_ [r_,.r [] [cr oz0],d_,r_,r_,d_,r_,d_,r_,b_,.r [] [cr oz5]] (AV.tup [AV.agg [i64 1,i64 1,i64 (elems a.h a.x a.c)],i64 0]) Tryz.func117 (.d6 oz0 hc0 hc1 hc2 hc3 oz5)).weak (A_ _) (AZ_ (.cons (AD_ (.cons (M_ (by (unfold shapeE;(repeat first|rw[i_ (by omega)]|rw[j_ (by omega)])))) (.cons (M_ (by (unfold shapeE;(repeat first|rw[i_ (by omega)]|rw[j_ (by omega)])))) (.cons (M_ (by (unfold shapeE;(repeat first|rw[i_ (by omega)]|rw[j_ (by omega)])))) .nil)))) (.cons (M_ (by (unfold shapeE;(repeat first|rw[i_ (by omega)]|rw[j_ (by omega)])))) .nil)))
    ·have gc3:¬n.kd=9:=bef hc3
     exact (cR_ [r_,.r [] [cr oz0],d_,r_,r_,d_,r_,d_,r_,d_,r_] (AV.tup [AV.agg [i64 a.h,i64 a.x,i64 a.c],i64 0]) Tryz.func117 (.d5 oz0 hc0 hc1 hc2 hc3)).weak (A_ _) (AZ_ (.cons (AD_ (.cons (M_ (by (unfold shapeE;(repeat first|rw[i_ (by omega)]|rw[j_ (by omega)])))) (.cons (M_ (by (unfold shapeE;(repeat first|rw[i_ (by omega)]|rw[j_ (by omega)])))) (.cons (M_ (by (unfold shapeE;(repeat first|rw[i_ (by omega)]|rw[j_ (by omega)])))) .nil)))) (.cons (M_ (by (unfold shapeE;(repeat first|rw[i_ (by omega)]|rw[j_ (by omega)])))) .nil)))
theorem kshape_v (n:Nod) (a b:Shp) (ok:a.Ok) (okb:b.Ok) (okn:n.Ok):VC N_ 91 ([nod n,shp a,shp b]) (.tup [shp (shapeE n a b).1,i64 (shapeE n a b).2]):=by
 obtain ⟨p1,p2,p3⟩:=id ok
 rcases bft (n.kd==1) with hc0|hc0
 ·have gc0:n.kd=1:=bet hc0
  have oz1:=@convShape_v (a) (n) ok okn
  exact (cR_ [r_,r_,r_,b_,.r [] [cr oz1]] (AV.tup [AV.agg [i64 (convE a n).fst.h,i64 (convE a n).fst.x,i64 (convE a n).fst.c],i64 (convE a n).snd]) Tryz.func91 (.d2 hc0 oz1)).weak (A_ _) (AZ_ (.cons (AD_ (.cons (M_ (by (unfold shapeE;(repeat first|rw[i_ (by omega)]|rw[j_ (by omega)])))) (.cons (M_ (by (unfold shapeE;(repeat first|rw[i_ (by omega)]|rw[j_ (by omega)])))) (.cons (M_ (by (unfold shapeE;(repeat first|rw[i_ (by omega)]|rw[j_ (by omega)])))) .nil)))) (.cons (M_ (by (unfold shapeE;(repeat first|rw[i_ (by omega)]|rw[j_ (by omega)])))) .nil)))
 ·have gc0:¬n.kd=1:=bef hc0
  rcases bft (n.kd==2) with hc1|hc1
  ·have gc1:n.kd=2:=bet hc1
   have oz2:=@depthShape_v (a) (n) ok okn
   exact (cR_ [r_,r_,r_,d_,r_,b_,.r [] [cr oz2]] (AV.tup [AV.agg [i64 (depthE a n).fst.h,i64 (depthE a n).fst.x,i64 (depthE a n).fst.c],i64 (depthE a n).snd]) Tryz.func91 (.d3 hc0 hc1 oz2)).weak (A_ _) (AZ_ (.cons (AD_ (.cons (M_ (by (unfold shapeE;(repeat first|rw[i_ (by omega)]|rw[j_ (by omega)])))) (.cons (M_ (by (unfold shapeE;(repeat first|rw[i_ (by omega)]|rw[j_ (by omega)])))) (.cons (M_ (by (unfold shapeE;(repeat first|rw[i_ (by omega)]|rw[j_ (by omega)])))) .nil)))) (.cons (M_ (by (unfold shapeE;(repeat first|rw[i_ (by omega)]|rw[j_ (by omega)])))) .nil)))
  ·have gc1:¬n.kd=2:=bef hc1
   rcases bft (n.kd==3) with hc2|hc2
   ·have gc2:n.kd=3:=bet hc2
    have oz3:=@denseShape_v (a) (n) ok okn
    exact (cR_ [r_,r_,r_,d_,r_,d_,r_,b_,.r [] [cr oz3]] (AV.tup [AV.agg [i64 (denseE a n).fst.h,i64 (denseE a n).fst.x,i64 (denseE a n).fst.c],i64 (denseE a n).snd]) Tryz.func91 (.d4 hc0 hc1 hc2 oz3)).weak (A_ _) (AZ_ (.cons (AD_ (.cons (M_ (by (unfold shapeE;(repeat first|rw[i_ (by omega)]|rw[j_ (by omega)])))) (.cons (M_ (by (unfold shapeE;(repeat first|rw[i_ (by omega)]|rw[j_ (by omega)])))) (.cons (M_ (by (unfold shapeE;(repeat first|rw[i_ (by omega)]|rw[j_ (by omega)])))) .nil)))) (.cons (M_ (by (unfold shapeE;(repeat first|rw[i_ (by omega)]|rw[j_ (by omega)])))) .nil)))
   ·have gc2:¬n.kd=3:=bef hc2
    rcases bft (n.kd==4) with hc3|hc3
    ·have gc3:n.kd=4:=bet hc3
     have oz5:=@slide_v (a) (n.nk) (n.ns) (n.np) (a.c) ok p3
     exact (cR_ [r_,r_,r_,d_,r_,d_,r_,d_,r_,b_,b_,.r [] [cr oz5]] (AV.tup [AV.agg [i64 (slideE a n.nk n.ns n.np a.c).fst.h,i64 (slideE a n.nk n.ns n.np a.c).fst.x,i64 (slideE a n.nk n.ns n.np a.c).fst.c],i64 (slideE a n.nk n.ns n.np a.c).snd]) Tryz.func91 (.d6 hc0 hc1 hc2 hc3 hc3 oz5)).weak (A_ _) (AZ_ (.cons (AD_ (.cons (M_ (by (unfold shapeE;(repeat first|rw[i_ (by omega)]|rw[j_ (by omega)])))) (.cons (M_ (by (unfold shapeE;(repeat first|rw[i_ (by omega)]|rw[j_ (by omega)])))) (.cons (M_ (by (unfold shapeE;(repeat first|rw[i_ (by omega)]|rw[j_ (by omega)])))) .nil)))) (.cons (M_ (by (unfold shapeE;(repeat first|rw[i_ (by omega)]|rw[j_ (by omega)])))) .nil)))
    ·have gc3:¬n.kd=4:=bef hc3
     rcases bft (n.kd==5) with hc4|hc4
     ·have gc4:n.kd=5:=bet hc4
      have oz5:=@slide_v (a) (n.nk) (n.ns) (n.np) (a.c) ok p3
      exact (cR_ [r_,r_,r_,d_,r_,d_,r_,d_,r_,d_,r_,b_,.r [] [cr oz5]] (AV.tup [AV.agg [i64 (slideE a n.nk n.ns n.np a.c).fst.h,i64 (slideE a n.nk n.ns n.np a.c).fst.x,i64 (slideE a n.nk n.ns n.np a.c).fst.c],i64 (slideE a n.nk n.ns n.np a.c).snd]) Tryz.func91 (.d6 hc0 hc1 hc2 hc3 hc4 oz5)).weak (A_ _) (AZ_ (.cons (AD_ (.cons (M_ (by (unfold shapeE;(repeat first|rw[i_ (by omega)]|rw[j_ (by omega)])))) (.cons (M_ (by (unfold shapeE;(repeat first|rw[i_ (by omega)]|rw[j_ (by omega)])))) (.cons (M_ (by (unfold shapeE;(repeat first|rw[i_ (by omega)]|rw[j_ (by omega)])))) .nil)))) (.cons (M_ (by (unfold shapeE;(repeat first|rw[i_ (by omega)]|rw[j_ (by omega)])))) .nil)))
     ·have gc4:¬n.kd=5:=bef hc4
      rcases bft (n.kd==6) with hc5|hc5
      ·have gc5:n.kd=6:=bet hc5
       have oz7:=@plainShape_v (n) (a) (b) ok okb (by omega) (by omega)
       exact cR_ [r_,r_,r_,d_,r_,d_,r_,d_,r_,d_,r_,d_,r_,b_,b_,.r [] [cr oz7]] _ Tryz.func91 (.d8 hc0 hc1 hc2 hc3 hc4 hc5 hc5 oz7)
      ·have gc5:¬n.kd=6:=bef hc5
       rcases bft (n.kd==7) with hc6|hc6
       ·have gc6:n.kd=7:=bet hc6
        have oz8:=@plainShape_v (n) (a) (b) ok okb (by omega) (by omega)
        exact cR_ [r_,r_,r_,d_,r_,d_,r_,d_,r_,d_,r_,d_,r_,d_,r_,b_,b_,.r [] [cr oz8]] _ Tryz.func91 (.c8 hc0 hc1 hc2 hc3 hc4 hc5 hc6 hc6<|.d oz8)
       ·have gc6:¬n.kd=7:=bef hc6
        rcases bft (n.kd==8) with hc7|hc7
        ·have gc7:n.kd=8:=bet hc7
         have oz9:=@plainShape_v (n) (a) (b) ok okb (by omega) (by omega)
         exact cR_ [r_,r_,r_,d_,r_,d_,r_,d_,r_,d_,r_,d_,r_,d_,r_,d_,r_,b_,b_,.r [] [cr oz9]] _ Tryz.func91 (.c8 hc0 hc1 hc2 hc3 hc4 hc5 hc6 hc7<|.d2 hc7 oz9)
        ·have gc7:¬n.kd=8:=bef hc7
         rcases bft (n.kd==9) with hc8|hc8
         ·have gc8:n.kd=9:=bet hc8
          have oz9:=@plainShape_v (n) (a) (b) ok okb (by omega) (by omega)
          exact cR_ [r_,r_,r_,d_,r_,d_,r_,d_,r_,d_,r_,d_,r_,d_,r_,d_,r_,d_,r_,b_,.r [] [cr oz9]] _ Tryz.func91 (.c8 hc0 hc1 hc2 hc3 hc4 hc5 hc6 hc7<|.d2 hc8 oz9)
         ·have gc8:¬n.kd=9:=bef hc8
          exact (cR_ [r_,r_,r_,d_,r_,d_,r_,d_,r_,d_,r_,d_,r_,d_,r_,d_,r_,d_,r_,d_,r_] (AV.tup [AV.agg [i64 0,i64 0,i64 0],i64 6]) Tryz.func91 (.c8 hc0 hc1 hc2 hc3 hc4 hc5 hc6 hc7<|.d hc8)).weak (A_ _) (AZ_ (.cons (AD_ (.cons (M_ (by (unfold shapeE;(repeat first|rw[i_ (by omega)]|rw[j_ (by omega)])))) (.cons (M_ (by (unfold shapeE;(repeat first|rw[i_ (by omega)]|rw[j_ (by omega)])))) (.cons (M_ (by (unfold shapeE;(repeat first|rw[i_ (by omega)]|rw[j_ (by omega)])))) .nil)))) (.cons (M_ (by (unfold shapeE;(repeat first|rw[i_ (by omega)]|rw[j_ (by omega)])))) .nil)))
theorem refKshape_v (n:Nod) (a b:Shp) (ok:a.Ok) (okb:b.Ok) (okn:n.Ok):VC N_ 44 ([nod n,shp a,shp b]) (.tup [shp (shapeE n a b).1,i64 (shapeE n a b).2]):=by
 obtain ⟨p1,p2,p3⟩:=id ok
 have q2:=elems_in a.h a.x a.c
 have q4:=fun (h:0<elems a.h a.x a.c)=>elems_ok h
 rcases bft (n.kd==1) with hc0|hc0
 ·have gc0:n.kd=1:=bet hc0
  have oz1:=@refConvShape_v (a) (n) ok okn
  exact (cR_ [r_,r_,b_,.r [] [cr oz1]] (AV.tup [AV.agg [i64 (convE a n).fst.h,i64 (convE a n).fst.x,i64 (convE a n).fst.c],i64 (convE a n).snd]) Tryz.func44 (.d2 hc0 oz1)).weak (A_ _) (AZ_ (.cons (AD_ (.cons (M_ (by (unfold shapeE;try unfold aroundE;(repeat first|rw[i_ (by omega)]|rw[j_ (by omega)])))) (.cons (M_ (by (unfold shapeE;try unfold aroundE;(repeat first|rw[i_ (by omega)]|rw[j_ (by omega)])))) (.cons (M_ (by (unfold shapeE;try unfold aroundE;(repeat first|rw[i_ (by omega)]|rw[j_ (by omega)])))) .nil)))) (.cons (M_ (by (unfold shapeE;try unfold aroundE;(repeat first|rw[i_ (by omega)]|rw[j_ (by omega)])))) .nil)))
 ·have gc0:¬n.kd=1:=bef hc0
  rcases bft (n.kd==2) with hc1|hc1
  ·have gc1:n.kd=2:=bet hc1
   have oz2:=@refDepthShape_v (a) (n) ok okn
   exact (cR_ [r_,r_,d_,r_,b_,.r [] [cr oz2]] (AV.tup [AV.agg [i64 (depthE a n).fst.h,i64 (depthE a n).fst.x,i64 (depthE a n).fst.c],i64 (depthE a n).snd]) Tryz.func44 (.d3 hc0 hc1 oz2)).weak (A_ _) (AZ_ (.cons (AD_ (.cons (M_ (by (unfold shapeE;try unfold aroundE;(repeat first|rw[i_ (by omega)]|rw[j_ (by omega)])))) (.cons (M_ (by (unfold shapeE;try unfold aroundE;(repeat first|rw[i_ (by omega)]|rw[j_ (by omega)])))) (.cons (M_ (by (unfold shapeE;try unfold aroundE;(repeat first|rw[i_ (by omega)]|rw[j_ (by omega)])))) .nil)))) (.cons (M_ (by (unfold shapeE;try unfold aroundE;(repeat first|rw[i_ (by omega)]|rw[j_ (by omega)])))) .nil)))
  ·have gc1:¬n.kd=2:=bef hc1
   rcases bft (n.kd==3) with hc2|hc2
   ·have gc2:n.kd=3:=bet hc2
    have oz3:=@refDenseShape_v (a) (n) ok okn
    exact (cR_ [r_,r_,d_,r_,d_,r_,b_,.r [] [cr oz3]] (AV.tup [AV.agg [i64 (denseE a n).fst.h,i64 (denseE a n).fst.x,i64 (denseE a n).fst.c],i64 (denseE a n).snd]) Tryz.func44 (.d4 hc0 hc1 hc2 oz3)).weak (A_ _) (AZ_ (.cons (AD_ (.cons (M_ (by (unfold shapeE;try unfold aroundE;(repeat first|rw[i_ (by omega)]|rw[j_ (by omega)])))) (.cons (M_ (by (unfold shapeE;try unfold aroundE;(repeat first|rw[i_ (by omega)]|rw[j_ (by omega)])))) (.cons (M_ (by (unfold shapeE;try unfold aroundE;(repeat first|rw[i_ (by omega)]|rw[j_ (by omega)])))) .nil)))) (.cons (M_ (by (unfold shapeE;try unfold aroundE;(repeat first|rw[i_ (by omega)]|rw[j_ (by omega)])))) .nil)))
   ·have gc2:¬n.kd=3:=bef hc2
    rcases bft (n.kd==4 || n.kd==5) with hc3|hc3
    ·have gc3:n.kd=4∨n.kd=5:=gc0_ hc3
     have oz4:=@refSlide_v (a) (n.nk) (n.ns) (n.np) (a.c) ok p3
     exact (cR_ [r_,r_,d_,r_,d_,r_,d_,.r [] [o_,o_,o_,.sel 1],b_,.r [] [cr oz4]] (AV.tup [AV.agg [i64 (slideE a n.nk n.ns n.np a.c).fst.h,i64 (slideE a n.nk n.ns n.np a.c).fst.x,i64 (slideE a n.nk n.ns n.np a.c).fst.c],i64 (slideE a n.nk n.ns n.np a.c).snd]) Tryz.func44 (.d5 hc0 hc1 hc2 hc3 oz4)).weak (A_ _) (AZ_ (.cons (AD_ (.cons (M_ (by (unfold shapeE;try unfold aroundE;(repeat first|rw[i_ (by omega)]|rw[j_ (by omega)])))) (.cons (M_ (by (unfold shapeE;try unfold aroundE;(repeat first|rw[i_ (by omega)]|rw[j_ (by omega)])))) (.cons (M_ (by (unfold shapeE;try unfold aroundE;(repeat first|rw[i_ (by omega)]|rw[j_ (by omega)])))) .nil)))) (.cons (M_ (by (unfold shapeE;try unfold aroundE;(repeat first|rw[i_ (by omega)]|rw[j_ (by omega)])))) .nil)))
    ·have gc3:¬n.kd=4∧¬n.kd=5:=gc0_ hc3
     rcases bft (decide (n.kd<1) || decide (n.kd>9)) with hc4|hc4
     ·have gc4:n.kd<1∨n.kd>9:=gc0_ hc4
      exact (cR_ [r_,r_,d_,r_,d_,r_,d_,.r [] [o_,o_,o_,.sel 1],d_,.r [] [o_,o_,o_,.sel 1],b_,r_] (AV.tup [AV.agg [i64 0,i64 0,i64 0],i64 6]) Tryz.func44 (.d5 hc0 hc1 hc2 hc3 hc4)).weak (A_ _) (AZ_ (.cons (AD_ (.cons (M_ (by (unfold shapeE;try unfold aroundE;(repeat first|rw[i_ (by omega)]|rw[j_ (by omega)])))) (.cons (M_ (by (unfold shapeE;try unfold aroundE;(repeat first|rw[i_ (by omega)]|rw[j_ (by omega)])))) (.cons (M_ (by (unfold shapeE;try unfold aroundE;(repeat first|rw[i_ (by omega)]|rw[j_ (by omega)])))) .nil)))) (.cons (M_ (by (unfold shapeE;try unfold aroundE;(repeat first|rw[i_ (by omega)]|rw[j_ (by omega)])))) .nil)))
     ·have gc4:¬n.kd<1∧¬n.kd>9:=gc0_ hc4
      have oz5:=@refElems_v (a.h) (a.x) (a.c) p1 p2 p3
      have oz6:=(show BinTo N_ BinOp.neq 23 (Operand.tmp 70) (Operand.tmp 71) (Value.agg #[AY_ S_ a.h,AY_ S_ a.x,AY_ S_ a.c]) (Value.agg #[AY_ S_ b.h,AY_ S_ b.x,AY_ S_ b.c]) (CO_ !eqNums [(S_,a.h,b.h),(S_,a.x,b.x),(S_,a.c,b.c)]) from ((bin_nums (l:=[(S_,a.h,b.h),(S_,a.x,b.x),(S_,a.c,b.c)]) (by kernel_rfl) (by kernel_rfl) (by kernel_rfl) (by kernel_rfl) _ _).2))
      rcases bft (elems a.h a.x a.c==0 || n.kd==6 && !eqNums [(S_,a.h,b.h),(S_,a.x,b.x),(S_,a.c,b.c)]) with hc5|hc5
      ·have gc5:elems a.h a.x a.c=0∨n.kd=6∧¬(a.h=b.h∧a.x=b.x∧a.c=b.c):=gc0_ hc5
       exact (cR_ [r_,r_,d_,r_,d_,r_,d_,.r [] [o_,o_,o_,.sel 1],d_,.r [] [o_,o_,o_,.sel 1],d_,.r [] [cr oz5,o_,o_,o_,o_,o_,o_,o_,.v (CO_ !eqNums [(S_,a.h,b.h),(S_,a.x,b.x),(S_,a.c,b.c)]),o_,.sel 2,.sel 1],b_,r_] (AV.tup [AV.agg [i64 0,i64 0,i64 0],i64 5]) Tryz.func44 (.d8 hc0 hc1 hc2 hc3 hc4 oz5 oz6 hc5)).weak (A_ _) (AZ_ (.cons (AD_ (.cons (M_ (by (unfold shapeE;try unfold aroundE;(repeat first|rw[i_ (by omega)]|rw[j_ (by omega)])))) (.cons (M_ (by (unfold shapeE;try unfold aroundE;(repeat first|rw[i_ (by omega)]|rw[j_ (by omega)])))) (.cons (M_ (by (unfold shapeE;try unfold aroundE;(repeat first|rw[i_ (by omega)]|rw[j_ (by omega)])))) .nil)))) (.cons (M_ (by (unfold shapeE;try unfold aroundE;(repeat first|rw[i_ (by omega)]|rw[j_ (by omega)])))) .nil)))
      ·have gc5:¬elems a.h a.x a.c=0∧(¬n.kd=6∨a.h=b.h∧a.x=b.x∧a.c=b.c):=gc0_ hc5
       rcases bft (n.kd==9) with hc6|hc6
       ·have gc6:n.kd=9:=bet hc6
        exact (cR_ [r_,r_,d_,r_,d_,r_,d_,.r [] [o_,o_,o_,.sel 1],d_,.r [] [o_,o_,o_,.sel 1],d_,.r [] [cr oz5,o_,o_,o_,o_,o_,o_,o_,.v (CO_ !eqNums [(S_,a.h,b.h),(S_,a.x,b.x),(S_,a.c,b.c)]),o_,.sel 2,.sel 1],d_,r_,b_,.r [] [cr oz5]] (AV.tup [AV.agg [i64 1,i64 1,i64 (elems a.h a.x a.c)],i64 0]) Tryz.func44 (.c8 hc0 hc1 hc2 hc3 hc4 oz5 oz6 hc5<|.d2 hc6 oz5)).weak (A_ _) (AZ_ (.cons (AD_ (.cons (M_ (by (unfold shapeE;try unfold aroundE;(repeat first|rw[i_ (by omega)]|rw[j_ (by omega)])))) (.cons (M_ (by (unfold shapeE;try unfold aroundE;(repeat first|rw[i_ (by omega)]|rw[j_ (by omega)])))) (.cons (M_ (by (unfold shapeE;try unfold aroundE;(repeat first|rw[i_ (by omega)]|rw[j_ (by omega)])))) .nil)))) (.cons (M_ (by (unfold shapeE;try unfold aroundE;(repeat first|rw[i_ (by omega)]|rw[j_ (by omega)])))) .nil)))
       ·have gc6:¬n.kd=9:=bef hc6
        rcases bft (n.kd==8) with hc7|hc7
        ·have gc7:n.kd=8:=bet hc7
         rcases bft (decide (n.np<0) || decide (n.np>4)) with hc8|hc8
         ·have gc8:n.np<0∨n.np>4:=gc0_ hc8
          exact (cR_ [r_,r_,d_,r_,d_,r_,d_,.r [] [o_,o_,o_,.sel 1],d_,.r [] [o_,o_,o_,.sel 1],d_,.r [] [cr oz5,o_,o_,o_,o_,o_,o_,o_,.v (CO_ !eqNums [(S_,a.h,b.h),(S_,a.x,b.x),(S_,a.c,b.c)]),o_,.sel 2,.sel 1],d_,r_,d_,r_,b_,.r [] [o_,o_,o_,.sel 1],b_,r_] (AV.tup [AV.agg [i64 0,i64 0,i64 0],i64 2]) Tryz.func44 (.c8 hc0 hc1 hc2 hc3 hc4 oz5 oz6 hc5<|.d3 hc6 hc7 hc8)).weak (A_ _) (AZ_ (.cons (AD_ (.cons (M_ (by (unfold shapeE;try unfold aroundE;(repeat first|rw[i_ (by omega)]|rw[j_ (by omega)])))) (.cons (M_ (by (unfold shapeE;try unfold aroundE;(repeat first|rw[i_ (by omega)]|rw[j_ (by omega)])))) (.cons (M_ (by (unfold shapeE;try unfold aroundE;(repeat first|rw[i_ (by omega)]|rw[j_ (by omega)])))) .nil)))) (.cons (M_ (by (unfold shapeE;try unfold aroundE;(repeat first|rw[i_ (by omega)]|rw[j_ (by omega)])))) .nil)))
         ·have gc8:¬n.np<0∧¬n.np>4:=gc0_ hc8
          have oz11:=(i6n (2*n.np) (by omega))
          have oz12:=(i6n (a.h+2*n.np) (by omega))
          have oz14:=(i6n (a.x+2*n.np) (by omega))
          have oz15:=@refElems_v (a.h+2*n.np) (a.x+2*n.np) (a.c) (by omega) (by omega) p3
          rcases bft (elems (a.h+2*n.np) (a.x+2*n.np) a.c==0) with hc9|hc9
          ·have gc9:elems (a.h+2*n.np) (a.x+2*n.np) a.c=0:=bet hc9
           exact (cR_ [r_,r_,d_,r_,d_,r_,d_,.r [] [o_,o_,o_,.sel 1],d_,.r [] [o_,o_,o_,.sel 1],d_,.r [] [cr oz5,o_,o_,o_,o_,o_,o_,o_,.v (CO_ !eqNums [(S_,a.h,b.h),(S_,a.x,b.x),(S_,a.c,b.c)]),o_,.sel 2,.sel 1],d_,r_,d_,r_,b_,.r [] [o_,o_,o_,.sel 1],d_,.r [] [.n (nO oz11),.n (nO oz12),.n (nO oz11),.n (nO oz14)],.r [] [cr oz15],b_,r_] (AV.tup [AV.agg [i64 0,i64 0,i64 0],i64 5]) Tryz.func44 (.c8 hc0 hc1 hc2 hc3 hc4 oz5 oz6 hc5<|.c8 hc6 hc7 hc8 oz11 oz12 oz11 oz14 oz15<|.d hc9)).weak (A_ _) (AZ_ (.cons (AD_ (.cons (M_ (by (unfold shapeE;try unfold aroundE;(repeat first|rw[i_ (by omega)]|rw[j_ (by omega)])))) (.cons (M_ (by (unfold shapeE;try unfold aroundE;(repeat first|rw[i_ (by omega)]|rw[j_ (by omega)])))) (.cons (M_ (by (unfold shapeE;try unfold aroundE;(repeat first|rw[i_ (by omega)]|rw[j_ (by omega)])))) .nil)))) (.cons (M_ (by (unfold shapeE;try unfold aroundE;(repeat first|rw[i_ (by omega)]|rw[j_ (by omega)])))) .nil)))
          ·have gc9:¬elems (a.h+2*n.np) (a.x+2*n.np) a.c=0:=bef hc9
           exact (cR_ [r_,r_,d_,r_,d_,r_,d_,.r [] [o_,o_,o_,.sel 1],d_,.r [] [o_,o_,o_,.sel 1],d_,.r [] [cr oz5,o_,o_,o_,o_,o_,o_,o_,.v (CO_ !eqNums [(S_,a.h,b.h),(S_,a.x,b.x),(S_,a.c,b.c)]),o_,.sel 2,.sel 1],d_,r_,d_,r_,b_,.r [] [o_,o_,o_,.sel 1],d_,.r [] [.n (nO oz11),.n (nO oz12),.n (nO oz11),.n (nO oz14)],.r [] [cr oz15],d_,r_] (AV.tup [AV.agg [i64 (a.h+2*n.np),i64 (a.x+2*n.np),i64 a.c],i64 0]) Tryz.func44 (.c8 hc0 hc1 hc2 hc3 hc4 oz5 oz6 hc5<|.c8 hc6 hc7 hc8 oz11 oz12 oz11 oz14 oz15<|.d hc9)).weak (A_ _) (AZ_ (.cons (AD_ (.cons (M_ (by (unfold shapeE;try unfold aroundE;(repeat first|rw[i_ (by omega)]|rw[j_ (by omega)])))) (.cons (M_ (by (unfold shapeE;try unfold aroundE;(repeat first|rw[i_ (by omega)]|rw[j_ (by omega)])))) (.cons (M_ (by (unfold shapeE;try unfold aroundE;(repeat first|rw[i_ (by omega)]|rw[j_ (by omega)])))) .nil)))) (.cons (M_ (by (unfold shapeE;try unfold aroundE;(repeat first|rw[i_ (by omega)]|rw[j_ (by omega)])))) .nil)))
        ·have gc7:¬n.kd=8:=bef hc7
         exact (cR_ [r_,r_,d_,r_,d_,r_,d_,.r [] [o_,o_,o_,.sel 1],d_,.r [] [o_,o_,o_,.sel 1],d_,.r [] [cr oz5,o_,o_,o_,o_,o_,o_,o_,.v (CO_ !eqNums [(S_,a.h,b.h),(S_,a.x,b.x),(S_,a.c,b.c)]),o_,.sel 2,.sel 1],d_,r_,d_,r_,d_,r_] (AV.tup [AV.agg [i64 a.h,i64 a.x,i64 a.c],i64 0]) Tryz.func44 (.c8 hc0 hc1 hc2 hc3 hc4 oz5 oz6 hc5<|.d2 hc6 hc7)).weak (A_ _) (AZ_ (.cons (AD_ (.cons (M_ (by (unfold shapeE;try unfold aroundE;(repeat first|rw[i_ (by omega)]|rw[j_ (by omega)])))) (.cons (M_ (by (unfold shapeE;try unfold aroundE;(repeat first|rw[i_ (by omega)]|rw[j_ (by omega)])))) (.cons (M_ (by (unfold shapeE;try unfold aroundE;(repeat first|rw[i_ (by omega)]|rw[j_ (by omega)])))) .nil)))) (.cons (M_ (by (unfold shapeE;try unfold aroundE;(repeat first|rw[i_ (by omega)]|rw[j_ (by omega)])))) .nil)))
instance:Inhabited Nod:=⟨⟨0,0,0,0,0,0,0,0,0,[],[],0,0,0,0,0,0,0,0⟩⟩
instance:Inhabited Shp:=⟨⟨0,0,0⟩⟩
abbrev shpC (s:Shp):List AV:=[i64 s.h,i64 s.x,i64 s.c]
def firstBad (p:Nat→Bool):Nat→Nat
 | 0=>0
 | n+1=>if firstBad p n<n then firstBad p n else if p n=true then n+1 else n
theorem firstBad_all {p:Nat→Bool}:∀ {n},(∀ k,k<n→p k=true)→firstBad p n=n
 | 0,_=>rfl
 | n+1,h=>by rw[firstBad,firstBad_all fun k hk=>h k (by omega),j_ (by omega),i_ (h n (by omega))]
theorem firstBad_at {p:Nat→Bool} {m:Nat} (hp:p m=false) (h:∀ k,k<m→p k=true):∀ {n},m<n→firstBad p n=m
 | n+1,hm=>by
  by_cases e:m=n
  ·subst e;rw[firstBad,firstBad_all h,j_ (by omega),j_ (by simp[hp])]
  ·rw[firstBad,firstBad_at hp h (s_ (m<n)),i_ (by omega)]
theorem firstBad_le {p:Nat→Bool}:∀ n,firstBad p n≤n
 | 0=>AV_ _
 | n+1=>by have:=firstBad_le (p:=p) n;rw[firstBad];split<;>(try split)<;>omega
def growL {α:Type} (f:Nod→List α→α×Int) (l:List Nod) (x:α):Nat→List α
 | 0=>[x]
 | k+1=>growL f l x k++[(f (l.getD k default) (growL f l x k)).1]
def errL {α:Type} (f:Nod→List α→α×Int) (l:List Nod) (x:α) (k:Nat):Int:=(f (l.getD k default) (growL f l x k)).2
theorem growL_len {α:Type} (f:Nod→List α→α×Int) (l:List Nod) (x:α):∀ k,(growL f l x k).length=k+1
 | 0=>rfl
 | k+1=>by rw[growL,AW_,growL_len f l x k];rfl
theorem growL_all {α:Type} {f:Nod→List α→α×Int} {l:List Nod} {x:α} {p:α→Prop} (h0:p x) {n:Nat} (h:∀ k,k<n→(∀ y∈growL f l x k,p y)→p (f (l.getD k default) (growL f l x k)).1):∀ k,k≤n→∀ y∈growL f l x k,p y
 | 0,_=>by intro y hy;simp only[growL,List.mem_singleton] at hy;subst hy;exact h0
 | k+1,hk=>by
  have ih:=growL_all h0 h k (by omega)
  intro y hy
  rw[growL,List.mem_append,List.mem_singleton] at hy
  rcases hy with hy|rfl
  ·exact ih y hy
  ·exact h k (by omega) ih
theorem getD_in {α:Type} [Inhabited α] {l:List α} {p:α→Prop} (h:∀ y∈l,p y) {i:Nat} (hi:i<l.length):p (l.getD i default):=by
 rw[AR_,Y_ hi];exact h _ (List.getElem_mem hi)
def takesL (n:Nod):List Int:=if n.kd=6 then [n.na,n.nb] else [n.na]
def secN (n:Nod):Int:=if n.kd=6 then n.nb else n.na
def thereB (n:Nod) (m:Int):Bool:=decide (0≤n.na)&&decide (n.na<m)&&decide (0≤secN n)&&decide (secN n<m)
theorem takes_v (n:Nod)  : VC N_ 112 ([nod n]) (ints .i64 (takesL n)):=by
 rcases bft (n.kd==6) with hc0|hc0
 ·have gc0:n.kd=6:=bet hc0
  exact (cR_ [r_,r_,b_,r_] (AV.sl 1 [[i64 n.na],[i64 n.nb]]) Tryz.func112 (.d hc0)).weak (A_ _) (Weak.rows (rows_to (row1 .i64) (r:=[[i64 n.na],[i64 n.nb]]) (l:=[n.na,n.nb]) (m:=takesL n) (by first|(simp only[X_,Z_,AL_,AM_,V_,D_,AK_];done)|rfl|(simp only[X_,Z_,AL_,AM_,V_,D_,AK_];rfl)) (show ([n.na,n.nb])=(takesL n) from (by (unfold takesL;rw[i_ (by simp_all)])))))
 ·have gc0:¬n.kd=6:=bef hc0
  exact (cR_ [r_,r_,d_,r_] (AV.sl 1 [[i64 n.na]]) Tryz.func112 (.d hc0)).weak (A_ _) (Weak.rows (rows_to (row1 .i64) (r:=[[i64 n.na]]) (l:=[n.na]) (m:=takesL n) (by first|(simp only[X_,Z_,AL_,AM_,V_,D_,AK_];done)|rfl|(simp only[X_,Z_,AL_,AM_,V_,D_,AK_];rfl)) (show ([n.na])=(takesL n) from (by (unfold takesL;rw[j_ (by simp_all)])))))
theorem takes_len (n:Nod):1≤(takesL n).length∧(takesL n).length≤2:=by unfold takesL;split<;>simp
theorem takes_last (n:Nod) {i:Nat} (hi:i=(takesL n).length-1):(takesL n).getD i 0=secN n:=by subst hi;unfold takesL secN;split<;>rfl
theorem takes_there (n:Nod) (m:Int):(∀ k,k<(takesL n).length→decide (0≤(takesL n).getD k 0∧(takesL n).getD k 0<m)=true)↔thereB n m=true:=by
 unfold takesL thereB secN
 split
 ·simp only[AO_,AS_,O_,E_]
  constructor
  ·intro h
   have h0:=h 0 (by omega);have h1:=h 1 (by omega)
   simp only[List.getD_cons_zero,List.getD_cons_succ] at h0 h1
   omega
  ·intro h k hk
   match k,hk with
   | 0,_=>simp only[List.getD_cons_zero];omega
   | 1,_=>simp only[List.getD_cons_zero,List.getD_cons_succ];omega
   | k+2,hk=>omega
 ·simp only[AO_,AS_,O_,E_]
  constructor
  ·intro h
   have h0:=h 0 (by omega)
   simp only[List.getD_cons_zero] at h0
   omega
  ·intro h k hk
   have:k=0:=by omega
   subst this
   simp only[List.getD_cons_zero];omega
noncomputable def there_ly_I (l:List Int) (m:Int) (k:Nat):VS:=stt 22 [(1,i64 m),(8,ints .i64 l),(9,i64 l.length),(10,i64 k)] []
noncomputable def there_ly_Z (l:List Int) (m:Int):VS:=there_ly_I l m (l.length)
theorem there_ly_s (l:List Int) (m:Int) (hl:l.length≤1000) (h:∀ k,k<l.length→0≤l.getD k 0∧l.getD k 0<m) (k:Nat) (hk:k<l.length):VT N_ (fnC Tryz.f90 [1,0,1,0,0]) (there_ly_I l m k) .normal (there_ly_I l m (k+1)):=by
 have q:=h k hk
 have oz3:=(decide_eq_false (p:=(l.getD k 0<0)) (by omega))
 exact tR_ [r_,b_,.r [] [.row [i64 (l.getD k 0)]],.r [] [e_,e_,e_,f_],d_,.r [] [.n ((↑k:Int)+1)]] [.any (rg [(6,1),(11,11)]),.weak 10 (i64 (↑(k+1):Int)),.sort] (.c8 (decide_eq_true (p:=((↑k:Int)<(l.length:Int))) (by omega)) (s_ (0≤(↑k:Int))) (map_at (row1 .i64) (0) (l:=l) (i:=k) hk) oz3 oz3 oz3 oz3 (decide_eq_false (p:=(l.getD k 0≥m)) (by omega))<|.d2 (i6n ((↑k:Int)+1) (by omega)) (wS_ k))
theorem there_ly_e (l:List Int) (m:Int) (hl:l.length≤1000) (h:∀ k,k<l.length→0≤l.getD k 0∧l.getD k 0<m):VT N_ (fnC Tryz.f90 [1,0,1,0,0]) (there_ly_I l m (l.length)) (.exit 0) (there_ly_Z l m):=by
 exact tR_ [r_,d_] [.any [11],.sort] (.d (decide_eq_false (p:=((l.length:Int)<(l.length:Int))) (by omega)))
theorem there_ly (l:List Int) (m:Int) (hl:l.length≤1000) (h:∀ k,k<l.length→0≤l.getD k 0∧l.getD k 0<m):VT N_ (fnC Tryz.f90 [1,0,1,0]) (there_ly_I l m 0) (.exit 0) (there_ly_Z l m) :=
 VT.loop (fun k=>there_ly_I l m k) (l.length) (fun k hk=>there_ly_s l m hl h k hk) (there_ly_e l m hl h) (by intro h;cases h)
noncomputable def there_ln_I (l:List Int) (m:Int) (j:Nat) (k:Nat):VS:=stt 22 [(1,i64 m),(8,ints .i64 l),(9,i64 l.length),(10,i64 k)] []
noncomputable def there_ln_Z (l:List Int) (m:Int) (j:Nat):VS:=stt 22 [(4,bv false)] []
theorem there_ln_s (l:List Int) (m:Int) (j:Nat) (hl:l.length≤1000) (hj:j<l.length) (hf:¬ (0≤l.getD j 0∧l.getD j 0<m)) (h:∀ k,k<j→0≤l.getD k 0∧l.getD k 0<m) (k:Nat) (hk:k<j):VT N_ (fnC Tryz.f90 [1,0,1,0,0]) (there_ln_I l m j k) .normal (there_ln_I l m j (k+1)):=by
 have q:=h k hk
 have oz3:=(decide_eq_false (p:=(l.getD k 0<0)) (by omega))
 exact tR_ [r_,b_,.r [] [.row [i64 (l.getD k 0)]],.r [] [e_,e_,e_,f_],d_,.r [] [.n ((↑k:Int)+1)]] [.any (rg [(6,1),(11,11)]),.weak 10 (i64 (↑(k+1):Int)),.sort] (.c8 (decide_eq_true (p:=((↑k:Int)<(l.length:Int))) (by omega)) (s_ (0≤(↑k:Int))) (map_at (row1 .i64) (0) (l:=l) (i:=k) (by omega)) oz3 oz3 oz3 oz3 (decide_eq_false (p:=(l.getD k 0≥m)) (by omega))<|.d2 (i6n ((↑k:Int)+1) (by omega)) (wS_ k))
theorem there_ln_e (l:List Int) (m:Int) (j:Nat) (hl:l.length≤1000) (hj:j<l.length) (hf:¬ (0≤l.getD j 0∧l.getD j 0<m)) (h:∀ k,k<j→0≤l.getD k 0∧l.getD k 0<m):VT N_ (fnC Tryz.f90 [1,0,1,0,0]) (there_ln_I l m j (j)) (.ret) (there_ln_Z l m j):=by
 exact tR_ [r_,b_,.r [] [.row [i64 (l.getD j 0)]],.r [] [o_,o_,o_,.sel 1],b_,r_] [.any (rg [(1,1),(6,1),(8,9),(20,1)]),.sort] (.d4 (decide_eq_true (p:=((↑j:Int)<(l.length:Int))) (by omega)) (s_ (0≤(↑j:Int))) (map_at (row1 .i64) (0) (l:=l) (i:=j) hj) (show (decide (l.getD j 0<0) || decide (l.getD j 0≥m))=true by (simp at *;omega)))
theorem there_ln (l:List Int) (m:Int) (j:Nat) (hl:l.length≤1000) (hj:j<l.length) (hf:¬ (0≤l.getD j 0∧l.getD j 0<m)) (h:∀ k,k<j→0≤l.getD k 0∧l.getD k 0<m):VT N_ (fnC Tryz.f90 [1,0,1,0]) (there_ln_I l m j 0) (.ret) (there_ln_Z l m j) :=
 VT.loop (fun k=>there_ln_I l m j k) (j) (fun k hk=>there_ln_s l m j hl hj hf h k hk) (there_ln_e l m j hl hj hf h) (by intro h;cases h)
theorem there_y (n:Nod) (m:Int) (h:∀ k,k<(takesL n).length→0≤(takesL n).getD k 0∧(takesL n).getD k 0<m):VC N_ 90 ([nod n,i64 m]) (bv true):=by
 have q:=takes_len n
 have oz0:=@takes_v (n)
 have oz1:=(M_ (k:=.i64) (show ((((K_ (row1 .i64) (takesL n)).length:Int)):Int)=(((takesL n).length:Int)) from (by (simp;done))))
 have oz3:=@there_ly (takesL n) (m) (by omega) h
 exact cR_ [r_,.r [] [cr oz0],.code [.any [0,2,4,7],.drop [2],.weak 9 (wO oz1),.weak 10 (i64 (↑0:Int)),.sort] (AI_ 0) (zO oz3),r_] _ Tryz.func90 (.d4 oz0 oz1 w0_ oz3)
theorem there_n (n:Nod) (m:Int) (j:Nat) (hj:j<(takesL n).length) (hf:¬ (0≤(takesL n).getD j 0∧(takesL n).getD j 0<m)) (h:∀ k,k<j→0≤(takesL n).getD k 0∧(takesL n).getD k 0<m):VC N_ 90 ([nod n,i64 m]) (bv false):=by
 have q:=takes_len n
 have oz0:=@takes_v (n)
 have oz1:=(M_ (k:=.i64) (show ((((K_ (row1 .i64) (takesL n)).length:Int)):Int)=(((takesL n).length:Int)) from (by (simp;done))))
 have oz3:=@there_ln (takesL n) (m) (j) (by omega) hj hf h
 exact cR_ [r_,.r [] [cr oz0],.code [.any [0,2,4,7],.drop [2],.weak 9 (wO oz1),.weak 10 (i64 (↑0:Int)),.sort] (Exit.ret) (zO oz3)] _ Tryz.func90 (.d4 oz0 oz1 w0_ oz3)
theorem there_v (n:Nod) (m:Int):VC N_ 90 [nod n,i64 m] (bv (thereB n m)):=by
 rcases all_or (fun k=>decide (0≤(takesL n).getD k 0∧(takesL n).getD k 0<m)) (takesL n).length with h|⟨j,h1,h2,h3⟩
 ·rw[(takes_there n m).1 h];exact there_y n m fun k hk=>of_decide_eq_true (h k hk)
 ·have:thereB n m=false:=by
   cases e:thereB n m with
   | false=>rfl
   | true=>have:=(takes_there n m).2 e j h1;rw[h2] at this;cases this
  rw[this];exact there_n n m j h1 (of_decide_eq_false h2) fun k hk=>of_decide_eq_true (h3 k hk)
theorem gof_v (n:Nod)  : VC N_ 92 ([nod n]) (i64 (secN n)):=by
 have q:=takes_len n
 have q2:(K_ (row1 .i64) (takesL n)).length=(takesL n).length:=Q_ _
 have oz0:=@takes_v (n)
 have oz1:=(i6n (((K_ (row1 .i64) (takesL n)).length:Int)-1) (by omega))
 have oz3:=(map_at (row1 .i64) (0) (l:=takesL n) (i:=(((K_ (row1 .i64) (takesL n)).length:Int)-1).toNat) (by omega))
 exact (cR_ [r_,.r [] [cr oz0],.r [] [.n (nO oz1),.row (sO oz3)]] (i64 ((takesL n).getD (((K_ (row1 .i64) (takesL n)).length:Int)-1).toNat 0)) Tryz.func92 (.d4 oz0 oz1 (s_ (0≤((K_ (row1 .i64) (takesL n)).length:Int)-1)) oz3)).weak (A_ _) (M_ (by (exact takes_last n (by omega))))
theorem refThere_v (n:Nod) (m:Int)  : VC N_ 43 ([nod n,i64 m]) (bv (thereB n m)):=by
 exact (cR_ [r_,.r [] [o_,o_,o_,o_,.sel 2,o_,o_,o_,o_,o_,o_,o_,o_,o_,o_,o_,o_,o_,.sel 2,o_,.sel 1,.sel 2]] (bv (decide (n.na≥0)&&decide (n.na<m)&&(n.kd != 6 || decide (n.nb≥0)&&decide (n.nb<m)))) Tryz.func43 (.n)).weak (A_ _) (Weak.bool (by (unfold thereB secN;rw[Bool.eq_iff_iff];by_cases e6:n.kd=6<;>simp[e6]<;>omega)))
theorem refSecond_v (n:Nod)  : VC N_ 45 ([nod n]) (i64 (secN n)):=by
 rcases bft (n.kd==6) with hc0|hc0
 ·have gc0:n.kd=6:=bet hc0
  exact (cR_ [r_,r_,b_,r_] (i64 n.nb) Tryz.func45 (.d hc0)).weak (A_ _) (M_ (by (unfold secN;rw[i_ (by simp_all)])))
 ·have gc0:¬n.kd=6:=bef hc0
  exact (cR_ [r_,r_,d_,r_] (i64 n.na) Tryz.func45 (.d hc0)).weak (A_ _) (M_ (by (unfold secN;rw[j_ (by simp_all)])))
def nextE (n:Nod) (L:List Shp):Shp×Int:=if checkE n≠0 then (⟨0,0,0⟩,checkE n) else if thereB n L.length=true then shapeE n (L.getD n.na.toNat default) (L.getD (secN n).toNat default) else (⟨0,0,0⟩,8)
theorem there_iff {n:Nod} {m:Int}:thereB n m=true↔0≤n.na∧n.na<m∧0≤secN n∧secN n<m:=by
 unfold thereB;simp only[O_,E_];omega
theorem next_v (n:Nod) (L:List Shp) (ok:n.Ok) (okL:∀ s∈L,s.Ok) (hL:L.length≤100) (wl:n.w.length≤100000) (bl:n.b.length≤100000):VC N_ 77 ([nod n,.sl 3 (L.map shpC)]) (.tup [shp (nextE n L).1,i64 (nextE n L).2]):=by
 have q1:=@there_iff n L.length
 have q2:=ok.kd
 have q3:=fun (h:n.na.toNat<L.length)=>getD_in okL h
 have q4:=fun (h:(secN n).toNat<L.length)=>getD_in okL h
 have oz0:=@check_v (n) wl bl q2
 rcases bft (checkE n != 0) with hc0|hc0
 ·have gc0:¬checkE n=0:=bdt hc0
  exact (cR_ [r_,.r [] [cr oz0],r_,b_,r_] (AV.tup [AV.agg [i64 0,i64 0,i64 0],i64 (checkE n)]) Tryz.func77 (.d2 oz0 hc0)).weak (A_ _) (AZ_ (.cons (AD_ (.cons (M_ (by (unfold nextE;rw[i_ (by simp_all)]))) (.cons (M_ (by (unfold nextE;rw[i_ (by simp_all)]))) (.cons (M_ (by (unfold nextE;rw[i_ (by simp_all)]))) .nil)))) (.cons (M_ (by (unfold nextE;rw[i_ (by simp_all)]))) .nil)))
 ·have gc0:checkE n=0:=bdf hc0
  have oz2:=@there_v (n) (((K_ shpC L).length:Int))
  rcases bft (!thereB n ((K_ shpC L).length:Int)) with hc1|hc1
  ·have gc1:thereB n ((K_ shpC L).length:Int)=false:=by first|exact hc1|exact of_decide_eq_true hc1|exact of_decide_eq_false hc1|simpa [eqNums] using hc1|(simp[eqNums] at hc1 ⊢;first|done|assumption|omega)
   exact (cR_ [r_,.r [] [cr oz0],r_,d_,.r [] [cr oz2],b_,r_] (AV.tup [AV.agg [i64 0,i64 0,i64 0],i64 8]) Tryz.func77 (.d4 oz0 hc0 oz2 hc1)).weak (A_ _) (AZ_ (.cons (AD_ (.cons (M_ (by (unfold nextE;rw[j_ (by simp_all),j_ (by simp_all)]))) (.cons (M_ (by (unfold nextE;rw[j_ (by simp_all),j_ (by simp_all)]))) (.cons (M_ (by (unfold nextE;rw[j_ (by simp_all),j_ (by simp_all)]))) .nil)))) (.cons (M_ (by (unfold nextE;rw[j_ (by simp_all),j_ (by simp_all)]))) .nil)))
  ·have gc1:thereB n ((K_ shpC L).length:Int)=true:=by first|exact hc1|exact of_decide_eq_true hc1|exact of_decide_eq_false hc1|simpa [eqNums] using hc1|(simp[eqNums] at hc1 ⊢;first|done|assumption|omega)
   have oz5:=(map_at (shpC) (default) (l:=L) (i:=n.na.toNat) (by (have:=q1.1 (by simp_all);omega)))
   have oz6:=@gof_v (n)
   have oz8:=(map_at (shpC) (default) (l:=L) (i:=(secN n).toNat) (by (have:=q1.1 (by simp_all);omega)))
   have oz9:=@kshape_v (n) (L.getD n.na.toNat default) (L.getD (secN n).toNat default) (by (exact q3 (by have:=q1.1 (by simp_all);omega))) (by (exact q4 (by have:=q1.1 (by simp_all);omega))) ok
   exact (cR_ [r_,.r [] [cr oz0],r_,d_,.r [] [cr oz2],d_,.r [] [.row (sO oz5),cr oz6,.row (sO oz8),cr oz9]] (AV.tup [AV.agg [i64 (shapeE n (L.getD n.na.toNat default) (L.getD (secN n).toNat default)).fst.h,i64 (shapeE n (L.getD n.na.toNat default) (L.getD (secN n).toNat default)).fst.x,i64 (shapeE n (L.getD n.na.toNat default) (L.getD (secN n).toNat default)).fst.c],i64 (shapeE n (L.getD n.na.toNat default) (L.getD (secN n).toNat default)).snd]) Tryz.func77 (.c8 oz0 hc0 oz2 hc1 (show 0≤n.na by (have:=q1.1 (by simp_all);omega)) oz5 oz6 (show 0≤secN n by (have:=q1.1 (by simp_all);omega))<|.d2 oz8 oz9)).weak (A_ _) (AZ_ (.cons (AD_ (.cons (M_ (by (unfold nextE;rw[j_ (by simp_all),i_ (by simp_all)]))) (.cons (M_ (by (unfold nextE;rw[j_ (by simp_all),i_ (by simp_all)]))) (.cons (M_ (by (unfold nextE;rw[j_ (by simp_all),i_ (by simp_all)]))) .nil)))) (.cons (M_ (by (unfold nextE;rw[j_ (by simp_all),i_ (by simp_all)]))) .nil)))
theorem bext {a b:ByteArray} (h:a.data.toList=b.data.toList):a=b:=by
 obtain ⟨⟨a⟩⟩:=a;obtain ⟨⟨b⟩⟩:=b
 have:a=b:=h
 rw[this]
theorem bapp (a b:ByteArray):(a++b).data.toList=a.data.toList++b.data.toList:=by rw[ByteArray.data_append,Array.toList_append]
theorem bapp_size (a b:ByteArray):(a++b).size=a.size+b.size:=by show (a++b).data.size=_;rw[ByteArray.data_append,Array.size_append];rfl
theorem bassoc (a b c:ByteArray):a++b++c=a++(b++c):=bext (by simp only[bapp,CP_])
theorem joinB_one (a s:ByteArray):joinB [a] s=a:=bext (by show Lib.join [a.data.toList] s.data.toList=_;rw[Lib.join_one])
theorem joinB_two (a b:ByteArray) (l:List ByteArray) (s:ByteArray):joinB (a::b::l) s=a++(s++joinB (b::l) s):=bext (by
 rw[bapp,bapp]
 show Lib.join (a.data.toList::b.data.toList::l.map (·.data.toList)) s.data.toList=a.data.toList++(s.data.toList++Lib.join (b.data.toList::l.map (·.data.toList)) s.data.toList)
 rw[Lib.join_cons,Lib.join_cons]
 unfold Lib.joinTail
 rw[Z_,List.flatten_cons,CP_])
theorem dd_len {u:Nat} (h:u<18446744073709551616):(Lib.decDigits u).length≤20:=by
 rw[Lib.decDigits_length]
 have key:∀ (k u:Nat),u<10 ^ (k+1)→Lib.nDigits u≤k+1:=by
  intro k
  induction k with
  | zero=>intro u hu;rw[Lib.nDigits_small (by simpa using hu)];exact AV_ _
  | succ k ih =>
   intro u hu
   by_cases h10:u<10
   ·rw[Lib.nDigits_small h10];omega
   ·rw[Lib.nDigits_big h10]
    have:=ih (u/10) (by rw[Nat.div_lt_iff_lt_mul (by decide)];rw[Nat.pow_succ] at hu;exact hu)
    omega
 exact key 19 u (Nat.lt_of_lt_of_le h (by decide))
theorem dg_size {n:Int} (h:In64 n):(dg n).size≤21:=by
 have e:(dg n).size=(Lib.itoa n).length:=by simp[dg,ByteArray.size]
 rw[e]
 unfold Lib.itoa
 split
 ·have:=dd_len (u:=n.natAbs) (by omega)
  simp only[AO_];omega
 ·have:=dd_len (u:=n.toNat) (by omega)
  omega
theorem digits_v (n:Int) (h:In64 n):VC N_ 24 ([i64 n]) (st (dg n)):=by
 have oz0:=@itoa_v (n) h
 exact cR_ [r_,.r [] [cr oz0]] _ Tryz.func24 (.d oz0)
def dvK (n:Int):Nat→Int
 | 0=>n
 | k+1=>dvK n k/10
def whK (n:Int):Nat→ByteArray
 | 0=>strOfNums [48+n % 10]
 | k+1=>strOfNums [48+dvK n (k+1) % 10]++whK n k
theorem dvK_in {n:Int} (h:0≤n):∀ k,0≤dvK n k∧dvK n k≤n
 | 0=>⟨h,Int.le_refl _⟩
 | k+1=>by have:=dvK_in h k;unfold dvK;omega
theorem dvK_shift (n:Int):∀ k,dvK (n/10) k=dvK n (k+1)
 | 0=>rfl
 | k+1=>by rw[dvK,dvK_shift n k];rfl
theorem whK_shift (n:Int):∀ k,whK n (k+1)=whK (n/10) k++strOfNums [48+n % 10]
 | 0=>rfl
 | k+1=>by
  rw[whK,whK_shift n k,whK,dvK_shift,bassoc]
theorem whK_dd:∀ (m:Nat) (n:Int),0≤n→(∀ k,k<m→9<dvK n k)→¬ 9<dvK n m→whK n m=⟨(Lib.decDigits n.toNat).toArray⟩
 | 0,n,h0,_,h=>by
  rw[Lib.decDigits,dif_pos (by unfold dvK at h;omega)]
  refine bext ?_
  unfold whK strOfNums
  unfold dvK at h
  simp only[Z_,AL_]
  congr 2;omega
 | m+1,n,h0,hk,h=>by
  have h9:=hk 0 (by omega)
  unfold dvK at h9
  rw[whK_shift,whK_dd m (n/10) (by omega) (fun k hk'=>by rw[dvK_shift];exact hk (k+1) (by omega)) (by rw[dvK_shift];exact h),Lib.decDigits.eq_def n.toNat,dif_neg (by omega)]
  refine bext ?_
  rw[bapp]
  unfold strOfNums
  simp only[Z_,AL_]
  have e1:(n/10).toNat=n.toNat/10:=by omega
  have e2:(48+n % 10).toNat=48+n.toNat % 10:=by omega
  rw[e1,e2]
theorem dv_ends {n:Int} (h:0≤n):∃ m,(∀ k,k<m→9<dvK n k)∧¬ 9<dvK n m:=by
 have key:∀ (d:Nat) (n:Int),0≤n→n≤d→∃ m,(∀ k,k<m→9<dvK n k)∧¬ 9<dvK n m:=by
  intro d
  induction d with
  | zero=>intro n h0 h1;exact ⟨0,fun k hk=>by omega,by unfold dvK;omega⟩
  | succ d ih =>
   intro n h0 h1
   by_cases h9:9<n
   ·obtain ⟨m,a,b⟩:=ih (n/10) (by omega) (by omega)
    refine ⟨m+1,fun k hk=>?_,by rw[←dvK_shift];exact b⟩
    cases k with
    | zero=>exact h9
    | succ k=>rw[←dvK_shift];exact a k (by omega)
   ·exact ⟨0,fun k hk=>by omega,h9⟩
 exact key n.toNat n h (by omega)
theorem whK_size (n:Int):∀ k,(whK n k).size=k+1
 | 0=>by rw[whK,strOfNums_size];rfl
 | k+1=>by rw[whK,bapp_size,strOfNums_size,whK_size n k];simp only[AO_,AS_];omega
theorem dv_pow {n:Int} (h:0≤n):∀ k,dvK n k*10 ^ k≤n
 | 0=>by unfold dvK;omega
 | k+1=>by
  have q:=dv_pow h k
  have q2:dvK n k/10*10≤dvK n k:=by omega
  have q3:(0:Int)≤10 ^ k:=Int.pow_nonneg (by decide)
  have:=CB_ q2 q3
  unfold dvK
  rw[Int.pow_succ,Int.mul_comm (10 ^ k) 10,←Int.mul_assoc];omega
theorem dv_rounds {n:Int} {m:Nat} (h:0≤n) (h1:n≤18446744073709551615) (hk:∀ k,k<m→9<dvK n k):m≤20:=by
 apply cbc;intro hc
 have q:=hk 20 (by omega)
 have q2:=dv_pow h 20
 have:(10:Int) ^ 20=100000000000000000000:=by decide
 rw[this] at q2;omega
noncomputable def whole_l_I (n:Int) (m:Nat) (k:Nat):VS:=stt 23 [(0,u64 (dvK n k)),(3,st (whK n k))] []
noncomputable def whole_l_Z (n:Int) (m:Nat):VS:=whole_l_I n m (m)
theorem whole_l_s (n:Int) (m:Nat) (h0:0≤n) (h1:n≤18446744073709551615) (hk':∀ k,k<m→9<dvK n k) (hm:¬ 9<dvK n m) (k:Nat) (hk:k<m):VT N_ (fnC Tryz.f41 [1,1,0,0,0]) (whole_l_I n m k) .normal (whole_l_I n m (k+1)):=by
 have q:=dvK_in h0 k
 have q1:=hk' k hk
 have q2:=dv_rounds h0 h1 hk'
 have q3:(strOfNums [48+dvK n k/10 % 10]).size=1:=strOfNums_size _
 have q4:=whK_size n k
 have oz1:=(s_ ((10:Int)≠(0:Int)))
 have oz2:=(show IntKind.u64.wrap ((dvK n k).tdiv 10)=dvK n k/10 from (Eq.trans (congrArg _ (BH_ (by omega))) (by exact IntWalk.u64_in _ (by omega))))
 exact tR_ [r_,b_,.r [] [.n (dvK n k/10)],.r [] [.n (dvK n k/10 % 10),.n (48+dvK n k/10 % 10),.n (48+dvK n k/10 % 10),.il [48+dvK n k/10 % 10],.v (L_ (strOfNums [48+dvK n k/10 % 10]++whK n k))]] [.any (rg [(10,12)]),.drop [18],.weak 0 (u64 (dvK n (k+1))),.weak 3 (AV.lit (L_ (whK n (k+1)))),.sort] (.c8 (decide_eq_true (p:=(dvK n k>9)) (by omega)) oz1 oz2 oz1 (show (dvK n k/10).tmod 10=dvK n k/10 % 10 from (BG_ (by omega))) (IntWalk.u64_in (48+dvK n k/10 % 10) (by omega)) (IntWalk.u8_in (48+dvK n k/10 % 10) (by omega)) (show [[u8 (48+dvK n k/10 % 10)]]=K_ (fun (n:Int)=>[u8 n]) [48+dvK n k/10 % 10] by (simp;done))<|.d3 (show BinTo N_ BinOp.add 9 (Operand.tmp 19) (Operand.tmp 20) (L_ (strOfNums [48+dvK n k/10 % 10])) (L_ (whK n k)) (L_ (strOfNums [48+dvK n k/10 % 10]++whK n k)) from (bin_add (by omega))) (M_ (k:=.u64) (show ((dvK n k/10):Int)=(dvK n (k+1)) from (by rfl))) (show Weak (AV.lit (L_ (strOfNums [48+dvK n k/10 % 10]++whK n k))) (AV.lit (L_ (whK n (k+1)))) from (Weak.str (show ((strOfNums [48+dvK n k/10 % 10]++whK n k):ByteArray)=(whK n (k+1)) from (by rfl)))))
theorem whole_l_e (n:Int) (m:Nat) (h0:0≤n) (h1:n≤18446744073709551615) (hk':∀ k,k<m→9<dvK n k) (hm:¬ 9<dvK n m):VT N_ (fnC Tryz.f41 [1,1,0,0,0]) (whole_l_I n m (m)) (.exit 0) (whole_l_Z n m):=by
 exact tR_ [r_,d_] [.any [10,11],.sort] (.d (decide_eq_false (p:=(dvK n m>9)) (by omega)))
theorem whole_l (n:Int) (m:Nat) (h0:0≤n) (h1:n≤18446744073709551615) (hk':∀ k,k<m→9<dvK n k) (hm:¬ 9<dvK n m):VT N_ (fnC Tryz.f41 [1,1,0,0]) (whole_l_I n m 0) (.exit 0) (whole_l_Z n m) :=
 VT.loop (fun k=>whole_l_I n m k) (m) (fun k hk=>whole_l_s n m h0 h1 hk' hm k hk) (whole_l_e n m h0 h1 hk' hm) (by intro h;cases h)
theorem whole_f (n:Int) (m:Nat) (h0:0≤n) (h1:n≤18446744073709551615) (hk':∀ k,k<m→9<dvK n k) (hm:¬ 9<dvK n m):VC N_ 41 ([u64 n]) (st (whK n m)):=by
 have oz6:=@whole_l (n) (m) h0 h1 hk' hm
 exact cR_ [r_,.r [] [.n (n % 10),.n (48+n % 10),.n (48+n % 10),.il [48+n % 10]],.code [.any [2,4,5,6,7,8,9],.drop [8],.weak 3 (AV.lit (L_ (whK n 0))),.sort] (AI_ 0) (zO oz6),r_] _ Tryz.func41 (.d7 (s_ ((10:Int)≠(0:Int))) (show n.tmod 10=n % 10 from (BG_ h0)) (IntWalk.u64_in (48+n % 10) (by omega)) (IntWalk.u8_in (48+n % 10) (by omega)) (show [[u8 (48+n % 10)]]=K_ (fun (n:Int)=>[u8 n]) [48+n % 10] by (simp;done)) (show Weak (AV.lit (L_ (strOfNums [48+n % 10]))) (AV.lit (L_ (whK n 0))) from (Weak.str (show ((strOfNums [48+n % 10]):ByteArray)=(whK n 0) from (by rfl)))) oz6)
def wh (n:Int):ByteArray:=⟨(Lib.decDigits n.toNat).toArray⟩
theorem whole_v (n:Int) (h0:0≤n) (h1:n≤18446744073709551615):VC N_ 41 [u64 n] (st (wh n)):=by
 obtain ⟨m,h,g⟩:=dv_ends h0
 have:=whole_f n m h0 h1 h g
 rw[whK_dd m n h0 h g] at this
 exact this
theorem wh_size {n:Int} (h0:0≤n) (h1:n≤18446744073709551615):(wh n).size≤20:=by
 have e:(wh n).size=(Lib.decDigits n.toNat).length:=by simp[wh,ByteArray.size]
 rw[e];exact dd_len (by omega)
theorem dg_pos {n:Int} (h:0≤n):dg n=wh n:=by unfold dg wh Lib.itoa;rw[j_ (by omega)]
theorem dg_neg {n:Int} (h:n<0):dg n=⟨#[45]⟩++wh (-(n+1)+1):=bext (by
 rw[bapp]
 unfold dg wh Lib.itoa
 rw[i_ h]
 have:(-(n+1)+1).toNat=n.natAbs:=by omega
 rw[this];rfl)
theorem lit_size (l:List UInt8):(ByteArray.mk (List.toArray l)).size=l.length:=rfl
theorem rdigits_v (n:Int) (h:In64 n):VC N_ 22 ([i64 n]) (st (dg n)):=by
 have q:=h.1
 have q1:=h.2
 have q2:(ByteArray.mk #[45]).size=1:=rfl
 have q3:n<0→(wh (0-(n+1)+1)).size≤20:=fun hn=>wh_size (by omega) (by omega)
 rcases bft (decide (n≥0)) with hc0|hc0
 ·have gc0:=of_decide_eq_true hc0
  have oz2:=@whole_v (n) (by with_reducible assumption) (by omega)
  exact (cR_ [r_,r_,b_,.r [] [.n n,cr oz2]] (AV.lit (L_ (wh n))) Tryz.func22 (.d3 hc0 (IntWalk.u64_in n (by omega)) oz2)).weak (A_ _) (Weak.str (show ((wh n):ByteArray)=(dg n) from (by (rw[dg_pos (by omega)]))))
 ·have gc0:=of_decide_eq_false hc0
  have oz5:=@whole_v (0-(n+1)+1) (by omega) (by omega)
  exact (cR_ [r_,r_,d_,.r [] [.n (n+1),.n (0-(n+1)),.n (0-(n+1)),.n (0-(n+1)+1),cr oz5,.v (L_ (ByteArray.mk #[45]++wh (0-(n+1)+1)))]] (AV.lit (L_ (ByteArray.mk #[45]++wh (0-(n+1)+1)))) Tryz.func22 (.d7 hc0 (i6n (n+1) (by omega)) (i6n (0-(n+1)) (by omega)) (IntWalk.u64_in (0-(n+1)) (by omega)) (IntWalk.u64_in (0-(n+1)+1) (by omega)) oz5 (show BinTo N_ BinOp.add 9 (Operand.const (L_ (ByteArray.mk #[45]))) (Operand.tmp 13) (L_ (ByteArray.mk #[45])) (L_ (wh (0-(n+1)+1))) (L_ (ByteArray.mk #[45]++wh (0-(n+1)+1))) from (bin_add (by omega))))).weak (A_ _) (Weak.str (show ((ByteArray.mk #[45]++wh (0-(n+1)+1)):ByteArray)=(dg n) from (by (rw[dg_neg (by omega),show -(n+1)+1=0-(n+1)+1 by omega]))))
def shS (a:Shp):ByteArray:=dg a.h++⟨#[120]⟩++dg a.x++⟨#[120]⟩++dg a.c
structure ShB (a:Shp):Prop where
 h:(dg a.h).size≤21
 x:(dg a.x).size≤21
 c:(dg a.c).size≤21
 l:(ByteArray.mk #[120]).size=1
theorem shB {a:Shp} (h:a.Ok):ShB a:=⟨dg_size h.h,dg_size h.x,dg_size h.c,rfl⟩
theorem shS_size {a:Shp} (h:a.Ok):(shS a).size≤65:=by
 have q:=shB h
 have:=q.h;have:=q.x;have:=q.c;have:=q.l
 simp only[shS,bapp_size];omega
theorem shape50_v (a:Shp) (h:a.Ok):VC N_ 11 ([shp a]) (st (shS a)):=by
 have q:=shB h
 have q1:=q.h
 have q2:=q.x
 have q3:=q.c
 have q4:=q.l
 have q5:=h.h
 have q6:=h.x
 have q7:=h.c
 have oz0:=@digits_v (a.h) q5
 have oz2:=@digits_v (a.x) q6
 have oz5:=@digits_v (a.c) q7
 exact (cR_ [r_,.r [] [cr oz0,.v (L_ (dg a.h++ByteArray.mk #[120])),cr oz2,.v (L_ (dg a.h++ByteArray.mk #[120]++dg a.x)),.v (L_ (dg a.h++ByteArray.mk #[120]++dg a.x++ByteArray.mk #[120])),cr oz5,.v (L_ (dg a.h++ByteArray.mk #[120]++dg a.x++ByteArray.mk #[120]++dg a.c))]] (AV.lit (L_ (dg a.h++ByteArray.mk #[120]++dg a.x++ByteArray.mk #[120]++dg a.c))) Tryz.func11 (.d7 oz0 (show BinTo N_ BinOp.add 9 (Operand.tmp 5) (Operand.const (L_ (ByteArray.mk #[120]))) (L_ (dg a.h)) (L_ (ByteArray.mk #[120])) (L_ (dg a.h++ByteArray.mk #[120])) from (bin_add (by omega))) oz2 (show BinTo N_ BinOp.add 9 (Operand.tmp 6) (Operand.tmp 9) (L_ (dg a.h++ByteArray.mk #[120])) (L_ (dg a.x)) (L_ (dg a.h++ByteArray.mk #[120]++dg a.x)) from (bin_add (by (simp only[bapp_size];omega)))) (show BinTo N_ BinOp.add 9 (Operand.tmp 10) (Operand.const (L_ (ByteArray.mk #[120]))) (L_ (dg a.h++ByteArray.mk #[120]++dg a.x)) (L_ (ByteArray.mk #[120])) (L_ (dg a.h++ByteArray.mk #[120]++dg a.x++ByteArray.mk #[120])) from (bin_add (by (simp only[bapp_size];omega)))) oz5 (show BinTo N_ BinOp.add 9 (Operand.tmp 11) (Operand.tmp 14) (L_ (dg a.h++ByteArray.mk #[120]++dg a.x++ByteArray.mk #[120])) (L_ (dg a.c)) (L_ (dg a.h++ByteArray.mk #[120]++dg a.x++ByteArray.mk #[120]++dg a.c)) from (bin_add (by (simp only[bapp_size];omega)))))).weak (A_ _) (Weak.str (show ((dg a.h++ByteArray.mk #[120]++dg a.x++ByteArray.mk #[120]++dg a.c):ByteArray)=(shS a) from (by rfl)))
theorem rshape50_v (a:Shp) (h:a.Ok):VC N_ 12 ([shp a]) (st (shS a)):=by
 have q:=shB h
 have q1:=q.h
 have q2:=q.x
 have q3:=q.c
 have q4:=q.l
 have q5:=h.h
 have q6:=h.x
 have q7:=h.c
 have oz0:=@rdigits_v (a.h) q5
 have oz2:=@rdigits_v (a.x) q6
 have oz5:=@rdigits_v (a.c) q7
 exact (cR_ [r_,.r [] [cr oz0,.v (L_ (dg a.h++ByteArray.mk #[120])),cr oz2,.v (L_ (dg a.h++ByteArray.mk #[120]++dg a.x)),.v (L_ (dg a.h++ByteArray.mk #[120]++dg a.x++ByteArray.mk #[120])),cr oz5,.v (L_ (dg a.h++ByteArray.mk #[120]++dg a.x++ByteArray.mk #[120]++dg a.c))]] (AV.lit (L_ (dg a.h++ByteArray.mk #[120]++dg a.x++ByteArray.mk #[120]++dg a.c))) Tryz.func12 (.d7 oz0 (show BinTo N_ BinOp.add 9 (Operand.tmp 5) (Operand.const (L_ (ByteArray.mk #[120]))) (L_ (dg a.h)) (L_ (ByteArray.mk #[120])) (L_ (dg a.h++ByteArray.mk #[120])) from (bin_add (by omega))) oz2 (show BinTo N_ BinOp.add 9 (Operand.tmp 6) (Operand.tmp 9) (L_ (dg a.h++ByteArray.mk #[120])) (L_ (dg a.x)) (L_ (dg a.h++ByteArray.mk #[120]++dg a.x)) from (bin_add (by (simp only[bapp_size];omega)))) (show BinTo N_ BinOp.add 9 (Operand.tmp 10) (Operand.const (L_ (ByteArray.mk #[120]))) (L_ (dg a.h++ByteArray.mk #[120]++dg a.x)) (L_ (ByteArray.mk #[120])) (L_ (dg a.h++ByteArray.mk #[120]++dg a.x++ByteArray.mk #[120])) from (bin_add (by (simp only[bapp_size];omega)))) oz5 (show BinTo N_ BinOp.add 9 (Operand.tmp 11) (Operand.tmp 14) (L_ (dg a.h++ByteArray.mk #[120]++dg a.x++ByteArray.mk #[120])) (L_ (dg a.c)) (L_ (dg a.h++ByteArray.mk #[120]++dg a.x++ByteArray.mk #[120]++dg a.c)) from (bin_add (by (simp only[bapp_size];omega)))))).weak (A_ _) (Weak.str (show ((dg a.h++ByteArray.mk #[120]++dg a.x++ByteArray.mk #[120]++dg a.c):ByteArray)=(shS a) from (by rfl)))
def smallB (n:Nod):Bool:=decide (n.w.length≤1000)&&decide (n.b.length≤100)
def fewB (l:List Nod) (d:Nat):Bool:=decide (l.length≤12)&&decide (d≤300)&&l.all smallB
noncomputable def few_ly_I (l:List Nod) (k:Nat):VS:=stt 37 [(0,.sl 19 (l.map nodC)),(5,i64 k)] []
noncomputable def few_ly_Z (l:List Nod):VS:=few_ly_I l (l.length)
theorem few_ly_s (l:List Nod) (hl:l.length≤12) (h:∀ k,k<l.length→smallB (l.getD k default)=true) (k:Nat) (hk:k<l.length):VT N_ (fnC Tryz.f15 [1,1,0,1,0,0]) (few_ly_I l k) .normal (few_ly_I l (k+1)):=by
 have q:=h k hk
 simp only[smallB,O_,E_] at q
 obtain ⟨q1,q2⟩:=q
 have oz1:=(s_ (0≤(↑k:Int)))
 have oz2:=(map_at (nodC) (default) (l:=l) (i:=k) hk)
 exact tR_ [r_,b_,.r [] [.row (sO oz2),o_,o_,o_,.row (sO oz2),o_,o_,o_,o_,.sel 1],d_,.r [] [.n ((↑k:Int)+1)]] [.any (rg [(15,14),(36,1)]),.weak 5 (i64 (↑(k+1):Int)),.sort] (.d8 (show decide ((↑k:Int)<((K_ nodC l).length:Int))=true by (simp;omega)) oz1 oz2 oz1 oz2 (show (decide (((K_ (row1 .i8) (l.getD k default).w).length:Int)>1000) || decide (((K_ (row1 .i32) (l.getD k default).b).length:Int)>100))=false by (simp at *;omega)) (i6n ((↑k:Int)+1) (by omega)) (wS_ k))
theorem few_ly_e (l:List Nod) (hl:l.length≤12) (h:∀ k,k<l.length→smallB (l.getD k default)=true):VT N_ (fnC Tryz.f15 [1,1,0,1,0,0]) (few_ly_I l (l.length)) (.exit 0) (few_ly_Z l):=by
 exact tR_ [r_,d_] [.any (rg [(15,4)]),.sort] (.d (show decide ((l.length:Int)<((K_ nodC l).length:Int))=false by (simp;done)))
theorem few_ly (l:List Nod) (hl:l.length≤12) (h:∀ k,k<l.length→smallB (l.getD k default)=true):VT N_ (fnC Tryz.f15 [1,1,0,1,0]) (few_ly_I l 0) (.exit 0) (few_ly_Z l) :=
 VT.loop (fun k=>few_ly_I l k) (l.length) (fun k hk=>few_ly_s l hl h k hk) (few_ly_e l hl h) (by intro h;cases h)
noncomputable def few_ln_I (l:List Nod) (m:Nat) (k:Nat):VS:=stt 37 [(0,.sl 19 (l.map nodC)),(5,i64 k)] []
noncomputable def few_ln_Z (l:List Nod) (m:Nat):VS:=stt 37 [(4,bv false)] []
theorem few_ln_s (l:List Nod) (m:Nat) (hl:l.length≤12) (hm:m<l.length) (hf:smallB (l.getD m default)=false) (h:∀ k,k<m→smallB (l.getD k default)=true) (k:Nat) (hk:k<m):VT N_ (fnC Tryz.f15 [1,1,0,1,0,0]) (few_ln_I l m k) .normal (few_ln_I l m (k+1)):=by
 have q:=h k hk
 simp only[smallB,O_,E_] at q
 obtain ⟨q1,q2⟩:=q
 have oz1:=(s_ (0≤(↑k:Int)))
 have oz2:=(map_at (nodC) (default) (l:=l) (i:=k) (by omega))
 exact tR_ [r_,b_,.r [] [.row (sO oz2),o_,o_,o_,.row (sO oz2),o_,o_,o_,o_,.sel 1],d_,.r [] [.n ((↑k:Int)+1)]] [.any (rg [(15,14),(36,1)]),.weak 5 (i64 (↑(k+1):Int)),.sort] (.d8 (show decide ((↑k:Int)<((K_ nodC l).length:Int))=true by (simp;omega)) oz1 oz2 oz1 oz2 (show (decide (((K_ (row1 .i8) (l.getD k default).w).length:Int)>1000) || decide (((K_ (row1 .i32) (l.getD k default).b).length:Int)>100))=false by (simp at *;omega)) (i6n ((↑k:Int)+1) (by omega)) (wS_ k))
theorem few_ln_e (l:List Nod) (m:Nat) (hl:l.length≤12) (hm:m<l.length) (hf:smallB (l.getD m default)=false) (h:∀ k,k<m→smallB (l.getD k default)=true):VT N_ (fnC Tryz.f15 [1,1,0,1,0,0]) (few_ln_I l m (m)) (.ret) (few_ln_Z l m):=by
 simp only[smallB,P_,F_] at hf
 have oz1:=(s_ (0≤(↑m:Int)))
 have oz2:=(map_at (nodC) (default) (l:=l) (i:=m) hm)
 exact tR_ [r_,b_,.r [] [.row (sO oz2),o_,o_,o_,.row (sO oz2),o_,o_,o_,o_,.sel 1],b_,r_] [.any (rg [(0,1),(5,1),(15,4),(21,8),(36,1)]),.sort] (.d6 (show decide ((↑m:Int)<((K_ nodC l).length:Int))=true by (simp;omega)) oz1 oz2 oz1 oz2 (show (decide (((K_ (row1 .i8) (l.getD m default).w).length:Int)>1000) || decide (((K_ (row1 .i32) (l.getD m default).b).length:Int)>100))=true by (simp at *;omega)))
theorem few_ln (l:List Nod) (m:Nat) (hl:l.length≤12) (hm:m<l.length) (hf:smallB (l.getD m default)=false) (h:∀ k,k<m→smallB (l.getD k default)=true):VT N_ (fnC Tryz.f15 [1,1,0,1,0]) (few_ln_I l m 0) (.ret) (few_ln_Z l m) :=
 VT.loop (fun k=>few_ln_I l m k) (m) (fun k hk=>few_ln_s l m hl hm hf h k hk) (few_ln_e l m hl hm hf h) (by intro h;cases h)
theorem few_a (l:List Nod) (T:Ten) (h:12<l.length∨300<T.d.length):VC N_ 15 ([.sl 19 (l.map nodC),ten .i8 T]) (bv false):=by
 exact cR_ [r_,.r [] [o_,o_,o_,o_,.sel 1],b_,r_] _ Tryz.func15 (.d (show (decide (((K_ nodC l).length:Int)>12) || decide (((K_ (row1 .i8) T.d).length:Int)>300))=true by (simp;omega)))
theorem few_y (l:List Nod) (T:Ten) (hl:l.length≤12) (hd:T.d.length≤300) (h:∀ k,k<l.length→smallB (l.getD k default)=true):VC N_ 15 ([.sl 19 (l.map nodC),ten .i8 T]) (bv true):=by
 have oz2:=@few_ly (l) hl h
 exact cR_ [r_,.r [] [o_,o_,o_,o_,.sel 1],d_,r_,.code [.any [1,3,4,6,7,8,9,14],.drop [3],.weak 5 (i64 (↑0:Int)),.sort] (AI_ 0) (zO oz2),r_] _ Tryz.func15 (.d3 (show (decide (((K_ nodC l).length:Int)>12) || decide (((K_ (row1 .i8) T.d).length:Int)>300))=false by (simp;omega)) w0_ oz2)
theorem few_n (l:List Nod) (T:Ten) (m:Nat) (hl:l.length≤12) (hd:T.d.length≤300) (hm:m<l.length) (hf:smallB (l.getD m default)=false) (h:∀ k,k<m→smallB (l.getD k default)=true):VC N_ 15 ([.sl 19 (l.map nodC),ten .i8 T]) (bv false):=by
 have oz2:=@few_ln (l) (m) hl hm hf h
 exact cR_ [r_,.r [] [o_,o_,o_,o_,.sel 1],d_,r_,.code [.any [1,3,4,6,7,8,9,14],.drop [3],.weak 5 (i64 (↑0:Int)),.sort] (Exit.ret) (zO oz2)] _ Tryz.func15 (.d3 (show (decide (((K_ nodC l).length:Int)>12) || decide (((K_ (row1 .i8) T.d).length:Int)>300))=false by (simp;omega)) w0_ oz2)
theorem few_v (l:List Nod) (T:Ten):VC N_ 15 [.sl 19 (l.map nodC),ten .i8 T] (bv (fewB l T.d.length)):=by
 unfold fewB
 by_cases h1:l.length≤12
 ·by_cases h2:T.d.length≤300
  ·rw[decide_eq_true h1,decide_eq_true h2]
   rcases all_or (fun k=>smallB (l.getD k default)) l.length with h|⟨m,g1,g2,g3⟩
   ·rw[all_getD.2 h];exact few_y l T h1 h2 h
   ·have:l.all smallB=false:=by
     cases e:l.all smallB with
     | false=>rfl
     | true=>have:=all_getD.1 e m g1;exact absurd (this.symm.trans g2) (by simp)
    rw[this];exact few_n l T m h1 h2 g1 g2 g3
  ·rw[decide_eq_false h2,BO_,AG_];exact few_a l T (.inr (by omega))
 ·rw[decide_eq_false h1,AG_,AG_];exact few_a l T (.inl (by omega))
theorem few_0 (l:List Nod):VC N_ 15 [.sl 19 (l.map nodC),.agg [i64 0,i64 0,i64 0,.sl 1 []]] (bv (fewB l 0)):=few_v l ⟨0,0,0,[]⟩
theorem few_facts {l:List Nod} {d:Nat} (h:fewB l d=true):l.length≤12∧d≤300∧∀ n∈l,n.w.length≤1000∧n.b.length≤100:=by
 simp only[fewB,O_,E_,List.all_eq_true,smallB] at h
 exact ⟨h.1.1,h.1.2,fun n hn=>h.2 n hn⟩
theorem few_wide {l:List Nod} {d:Nat} (h:fewB l d=true):∀ n∈l,n.w.length≤100000∧n.b.length≤100000:=fun n hn=>by
 have:=(few_facts h).2.2 n hn;omega
structure Blc where
 n:List Nod
 ex:Bool
 w:List Int
 b:List Int
 nd:Int
abbrev blcC (x:Blc):List AV:=[.sl 19 (x.n.map nodC),bv x.ex,ints .i8 x.w,ints .i32 x.b,i32 x.nd]
structure Blc.Ok (x:Blc):Prop where
 n:∀ d∈x.n,Nod.Ok d
 w:∀ v∈x.w,In8 v
 b:∀ v∈x.b,In32 v
 nd:In32 x.nd
instance:Inhabited Blc:=⟨⟨[],false,[],[],0⟩⟩
structure Mdl where
 l:List Blc
abbrev mdlC (m:Mdl):List AV:=[.sl 5 (m.l.map blcC)]
structure Mdl.Ok (m:Mdl):Prop where
 l:∀ d∈m.l,Blc.Ok d
instance:Inhabited Mdl:=⟨⟨[]⟩⟩
structure Bun where
 h:Int
 x:Int
 c:Int
 cl:Int
 m:List Mdl
abbrev bunC (u:Bun):List AV:=[i64 u.h,i64 u.x,i64 u.c,i64 u.cl,.sl 1 (u.m.map mdlC)]
structure Bun.Ok (u:Bun):Prop where
 h:In64 u.h
 x:In64 u.x
 c:In64 u.c
 cl:In64 u.cl
 m:∀ d∈u.m,Mdl.Ok d
abbrev Bun.inp (u:Bun):Shp:=⟨u.h,u.x,u.c⟩
abbrev blc (x:Blc):AV:=.agg (blcC x)
abbrev bun (u:Bun):AV:=.agg (bunC u)
def blcS (x:Blc):Bool:=fewB x.n 0&&decide (x.w.length≤4000)&&decide (x.b.length≤100)
def mdlS (m:Mdl):Bool:=decide (m.l.length≤8)&&m.l.all blcS
def bunS (u:Bun):Bool:=decide (u.m.length≤4)&&u.m.all mdlS
theorem blcS_iff {x:Blc}:blcS x=true↔fewB x.n 0=true∧x.w.length≤4000∧x.b.length≤100:=by
 simp only[blcS,O_,E_,and_assoc]
theorem mdlS_iff {m:Mdl}:mdlS m=true↔m.l.length≤8∧∀ k,k<m.l.length→blcS (m.l.getD k default)=true:=by
 simp only[mdlS,O_,E_,all_getD]
noncomputable def few31_iy_I (u:Bun) (K:Int) (l:List Blc) (k:Nat):VS:=stt 60 [(1,.ptr 1 0 0),(3,i64 K),(4,.sl 5 (l.map blcC)),(5,i64 k)] [(1,.var (bunC u))]
noncomputable def few31_iy_Z (u:Bun) (K:Int) (l:List Blc):VS:=few31_iy_I u K l (l.length)
theorem few31_iy_s (u:Bun) (K:Int) (l:List Blc) (hl:l.length≤8) (h:∀ k,k<l.length→blcS (l.getD k default)=true) (k:Nat) (hk:k<l.length):VT N_ (fnC Tryz.f6 [1,1,0,1,0,0,1,0,0,1,1,1,0,0]) (few31_iy_I u K l k) .normal (few31_iy_I u K l (k+1)):=by
 have q:=blcS_iff.1 (h k hk)
 obtain ⟨q1,q2,q3⟩:=q
 have oz1:=(s_ (0≤(↑k:Int)))
 have oz2:=(map_at (blcC) (default) (l:=l) (i:=k) hk)
 have oz4:=@few_0 ((l.getD k default).n)
 exact tR_ [r_,b_,.r [] [.row (sO oz2),ca oz4,o_,o_,o_,.row (sO oz2),o_,o_,o_,o_,o_,.sel 1,o_,o_,o_,.row (sO oz2),o_,o_,o_,o_,o_,.sel 1],d_,.r [] [.n ((↑k:Int)+1)]] [.any (rg [(26,15),(49,2),(59,1)]),.weak 5 (i64 (↑(k+1):Int)),.sort] (.c8 (show decide ((↑k:Int)<((K_ blcC l).length:Int))=true by (simp;omega)) oz1 oz2 (show WeakL [AV.sl 19 (K_ nodC (l.getD k default).n),AV.agg [i64 0,i64 0,i64 0,AV.lit (AC_ none 0 0)]] [AV.sl 19 (K_ nodC (l.getD k default).n),AV.agg [i64 0,i64 0,i64 0,AV.sl 1 []]] from (.cons (.refl _) (.cons (AD_ (.cons (.refl _) (.cons (.refl _) (.cons (.refl _) (.cons (Weak.nil _) .nil))))) .nil))) oz4 oz1 oz2 oz1<|.d4 oz2 (show (!fewB (l.getD k default).n 0 || decide (((K_ (row1 .i8) (l.getD k default).w).length:Int)>4000) || decide (((K_ (row1 .i32) (l.getD k default).b).length:Int)>100))=false by (rw[q1];simp only[BM_,BN_,R_,F_,Q_];omega)) (i6n ((↑k:Int)+1) (by omega)) (wS_ k))
theorem few31_iy_e (u:Bun) (K:Int) (l:List Blc) (hl:l.length≤8) (h:∀ k,k<l.length→blcS (l.getD k default)=true):VT N_ (fnC Tryz.f6 [1,1,0,1,0,0,1,0,0,1,1,1,0,0]) (few31_iy_I u K l (l.length)) (.exit 2) (few31_iy_Z u K l):=by
 exact tR_ [r_,d_] [.any (rg [(26,4)]),.sort] (.d (show decide ((l.length:Int)<((K_ blcC l).length:Int))=false by (simp;done)))
theorem few31_iy (u:Bun) (K:Int) (l:List Blc) (hl:l.length≤8) (h:∀ k,k<l.length→blcS (l.getD k default)=true):VT N_ (fnC Tryz.f6 [1,1,0,1,0,0,1,0,0,1,1,1,0]) (few31_iy_I u K l 0) (.exit 2) (few31_iy_Z u K l) :=
 VT.loop (fun k=>few31_iy_I u K l k) (l.length) (fun k hk=>few31_iy_s u K l hl h k hk) (few31_iy_e u K l hl h) (by intro h;cases h)
noncomputable def few31_in_I (u:Bun) (K:Int) (l:List Blc) (m:Nat) (k:Nat):VS:=stt 60 [(1,.ptr 1 0 0),(3,i64 K),(4,.sl 5 (l.map blcC)),(5,i64 k)] [(1,.var (bunC u))]
noncomputable def few31_in_Z (u:Bun) (K:Int) (l:List Blc) (m:Nat):VS:=stt 60 [(2,bv false)] []
theorem few31_in_s (u:Bun) (K:Int) (l:List Blc) (m:Nat) (hl:l.length≤8) (hm:m<l.length) (hf:blcS (l.getD m default)=false) (h:∀ k,k<m→blcS (l.getD k default)=true) (k:Nat) (hk:k<m):VT N_ (fnC Tryz.f6 [1,1,0,1,0,0,1,0,0,1,1,1,0,0]) (few31_in_I u K l m k) .normal (few31_in_I u K l m (k+1)):=by
 have q:=blcS_iff.1 (h k hk)
 obtain ⟨q1,q2,q3⟩:=q
 have oz1:=(s_ (0≤(↑k:Int)))
 have oz2:=(map_at (blcC) (default) (l:=l) (i:=k) (by omega))
 have oz4:=@few_0 ((l.getD k default).n)
 exact tR_ [r_,b_,.r [] [.row (sO oz2),ca oz4,o_,o_,o_,.row (sO oz2),o_,o_,o_,o_,o_,.sel 1,o_,o_,o_,.row (sO oz2),o_,o_,o_,o_,o_,.sel 1],d_,.r [] [.n ((↑k:Int)+1)]] [.any (rg [(26,15),(49,2),(59,1)]),.weak 5 (i64 (↑(k+1):Int)),.sort] (.c8 (show decide ((↑k:Int)<((K_ blcC l).length:Int))=true by (simp;omega)) oz1 oz2 (show WeakL [AV.sl 19 (K_ nodC (l.getD k default).n),AV.agg [i64 0,i64 0,i64 0,AV.lit (AC_ none 0 0)]] [AV.sl 19 (K_ nodC (l.getD k default).n),AV.agg [i64 0,i64 0,i64 0,AV.sl 1 []]] from (.cons (.refl _) (.cons (AD_ (.cons (.refl _) (.cons (.refl _) (.cons (.refl _) (.cons (Weak.nil _) .nil))))) .nil))) oz4 oz1 oz2 oz1<|.d4 oz2 (show (!fewB (l.getD k default).n 0 || decide (((K_ (row1 .i8) (l.getD k default).w).length:Int)>4000) || decide (((K_ (row1 .i32) (l.getD k default).b).length:Int)>100))=false by (rw[q1];simp only[BM_,BN_,R_,F_,Q_];omega)) (i6n ((↑k:Int)+1) (by omega)) (wS_ k))
theorem few31_in_e (u:Bun) (K:Int) (l:List Blc) (m:Nat) (hl:l.length≤8) (hm:m<l.length) (hf:blcS (l.getD m default)=false) (h:∀ k,k<m→blcS (l.getD k default)=true):VT N_ (fnC Tryz.f6 [1,1,0,1,0,0,1,0,0,1,1,1,0,0]) (few31_in_I u K l m (m)) (.ret) (few31_in_Z u K l m):=by
 have q0:fewB (l.getD m default).n 0=true→¬ ((l.getD m default).w.length≤4000∧(l.getD m default).b.length≤100):=fun c d=>by rw[blcS_iff.2 ⟨c,d⟩] at hf;cases hf
 have oz1:=(s_ (0≤(↑m:Int)))
 have oz2:=(map_at (blcC) (default) (l:=l) (i:=m) hm)
 have oz4:=@few_0 ((l.getD m default).n)
 exact tR_ [r_,b_,.r [] [.row (sO oz2),ca oz4,o_,o_,o_,.row (sO oz2),o_,o_,o_,o_,o_,.sel 1,o_,o_,o_,.row (sO oz2),o_,o_,o_,o_,o_,.sel 1],b_,r_] [.any (rg [(1,1),(3,3),(26,4),(32,9),(49,2),(59,1)]),.drop [1],.sort] (.c8 (show decide ((↑m:Int)<((K_ blcC l).length:Int))=true by (simp;omega)) oz1 oz2 (show WeakL [AV.sl 19 (K_ nodC (l.getD m default).n),AV.agg [i64 0,i64 0,i64 0,AV.lit (AC_ none 0 0)]] [AV.sl 19 (K_ nodC (l.getD m default).n),AV.agg [i64 0,i64 0,i64 0,AV.sl 1 []]] from (.cons (.refl _) (.cons (AD_ (.cons (.refl _) (.cons (.refl _) (.cons (.refl _) (.cons (Weak.nil _) .nil))))) .nil))) oz4 oz1 oz2 oz1<|.d2 oz2 (show (!fewB (l.getD m default).n 0 || decide (((K_ (row1 .i8) (l.getD m default).w).length:Int)>4000) || decide (((K_ (row1 .i32) (l.getD m default).b).length:Int)>100))=true by (cases ef:fewB (l.getD m default).n 0 with|false=>rfl|true=>(have q9:=q0 ef;simp only[BM_,BN_,W_,E_,Q_];omega))))
theorem few31_in (u:Bun) (K:Int) (l:List Blc) (m:Nat) (hl:l.length≤8) (hm:m<l.length) (hf:blcS (l.getD m default)=false) (h:∀ k,k<m→blcS (l.getD k default)=true):VT N_ (fnC Tryz.f6 [1,1,0,1,0,0,1,0,0,1,1,1,0]) (few31_in_I u K l m 0) (.ret) (few31_in_Z u K l m) :=
 VT.loop (fun k=>few31_in_I u K l m k) (m) (fun k hk=>few31_in_s u K l m hl hm hf h k hk) (few31_in_e u K l m hl hm hf h) (by intro h;cases h)
noncomputable def few31_oy_I (u:Bun) (k:Nat):VS:=stt 60 [(1,.ptr 1 0 0),(3,i64 k)] [(1,.var (bunC u))]
noncomputable def few31_oy_Z (u:Bun):VS:=few31_oy_I u (u.m.length)
theorem few31_oy_s (u:Bun) (hl:u.m.length≤4) (h:∀ k,k<u.m.length→mdlS (u.m.getD k default)=true) (k:Nat) (hk:k<u.m.length):VT N_ (fnC Tryz.f6 [1,1,0,1,0,0]) (few31_oy_I u k) .normal (few31_oy_I u (k+1)):=by
 have q:=mdlS_iff.1 (h k hk)
 obtain ⟨q1,q2⟩:=q
 have oz2:=(map_at (mdlC) (default) (l:=u.m) (i:=k) hk)
 have oz5:=@few31_iy (u) ((↑k:Int)) ((u.m.getD k default).l) q1 q2
 exact tR_ [r_,b_,.r [] [.row (sO oz2)],r_,d_,r_,.code [.any (rg [(10,5),(17,9)]),.weak 5 (i64 (↑0:Int)),.sort] (AI_ 2) (zO oz5),.r [] [.n ((↑k:Int)+1)]] [.any [4,5,15,16],.weak 3 (i64 (↑(k+1):Int)),.sort] (.d8 (show decide ((↑k:Int)<((K_ mdlC u.m).length:Int))=true by (simp;omega)) (s_ (0≤(↑k:Int))) oz2 (show decide (((K_ blcC (u.m.getD k default).l).length:Int)>8)=false by (simp at *;omega)) w0_ oz5 (i6n ((↑k:Int)+1) (by omega)) (wS_ k))
theorem few31_oy_e (u:Bun) (hl:u.m.length≤4) (h:∀ k,k<u.m.length→mdlS (u.m.getD k default)=true):VT N_ (fnC Tryz.f6 [1,1,0,1,0,0]) (few31_oy_I u (u.m.length)) (.exit 0) (few31_oy_Z u):=by
 exact tR_ [r_,d_] [.any (rg [(10,5)]),.sort] (.d (show decide ((u.m.length:Int)<((K_ mdlC u.m).length:Int))=false by (simp;done)))
theorem few31_oy (u:Bun) (hl:u.m.length≤4) (h:∀ k,k<u.m.length→mdlS (u.m.getD k default)=true):VT N_ (fnC Tryz.f6 [1,1,0,1,0]) (few31_oy_I u 0) (.exit 0) (few31_oy_Z u) :=
 VT.loop (fun k=>few31_oy_I u k) (u.m.length) (fun k hk=>few31_oy_s u hl h k hk) (few31_oy_e u hl h) (by intro h;cases h)
noncomputable def few31_oa_I (u:Bun) (m:Nat) (k:Nat):VS:=stt 60 [(1,.ptr 1 0 0),(3,i64 k)] [(1,.var (bunC u))]
noncomputable def few31_oa_Z (u:Bun) (m:Nat):VS:=stt 60 [(2,bv false)] []
theorem few31_oa_s (u:Bun) (m:Nat) (hl:u.m.length≤4) (hm:m<u.m.length) (hf:8<(u.m.getD m default).l.length) (h:∀ k,k<m→mdlS (u.m.getD k default)=true) (k:Nat) (hk:k<m):VT N_ (fnC Tryz.f6 [1,1,0,1,0,0]) (few31_oa_I u m k) .normal (few31_oa_I u m (k+1)):=by
 have q:=mdlS_iff.1 (h k hk)
 obtain ⟨q1,q2⟩:=q
 have oz2:=(map_at (mdlC) (default) (l:=u.m) (i:=k) (by omega))
 have oz5:=@few31_iy (u) ((↑k:Int)) ((u.m.getD k default).l) q1 q2
 exact tR_ [r_,b_,.r [] [.row (sO oz2)],r_,d_,r_,.code [.any (rg [(10,5),(17,9)]),.weak 5 (i64 (↑0:Int)),.sort] (AI_ 2) (zO oz5),.r [] [.n ((↑k:Int)+1)]] [.any [4,5,15,16],.weak 3 (i64 (↑(k+1):Int)),.sort] (.d8 (show decide ((↑k:Int)<((K_ mdlC u.m).length:Int))=true by (simp;omega)) (s_ (0≤(↑k:Int))) oz2 (show decide (((K_ blcC (u.m.getD k default).l).length:Int)>8)=false by (simp at *;omega)) w0_ oz5 (i6n ((↑k:Int)+1) (by omega)) (wS_ k))
theorem few31_oa_e (u:Bun) (m:Nat) (hl:u.m.length≤4) (hm:m<u.m.length) (hf:8<(u.m.getD m default).l.length) (h:∀ k,k<m→mdlS (u.m.getD k default)=true):VT N_ (fnC Tryz.f6 [1,1,0,1,0,0]) (few31_oa_I u m (m)) (.ret) (few31_oa_Z u m):=by
 have oz2:=(map_at (mdlC) (default) (l:=u.m) (i:=m) hm)
 exact tR_ [r_,b_,.r [] [.row (sO oz2)],r_,b_,r_] [.any (rg [(1,1),(3,2),(10,5),(17,9)]),.drop [1],.sort] (.d4 (show decide ((↑m:Int)<((K_ mdlC u.m).length:Int))=true by (simp;omega)) (s_ (0≤(↑m:Int))) oz2 (show decide (((K_ blcC (u.m.getD m default).l).length:Int)>8)=true by (simp at *;omega)))
theorem few31_oa (u:Bun) (m:Nat) (hl:u.m.length≤4) (hm:m<u.m.length) (hf:8<(u.m.getD m default).l.length) (h:∀ k,k<m→mdlS (u.m.getD k default)=true):VT N_ (fnC Tryz.f6 [1,1,0,1,0]) (few31_oa_I u m 0) (.ret) (few31_oa_Z u m) :=
 VT.loop (fun k=>few31_oa_I u m k) (m) (fun k hk=>few31_oa_s u m hl hm hf h k hk) (few31_oa_e u m hl hm hf h) (by intro h;cases h)
noncomputable def few31_ob_I (u:Bun) (m j:Nat) (k:Nat):VS:=stt 60 [(1,.ptr 1 0 0),(3,i64 k)] [(1,.var (bunC u))]
noncomputable def few31_ob_Z (u:Bun) (m j:Nat):VS:=stt 60 [(2,bv false)] []
theorem few31_ob_s (u:Bun) (m j:Nat) (hl:u.m.length≤4) (hm:m<u.m.length) (hs:(u.m.getD m default).l.length≤8) (hj:j<(u.m.getD m default).l.length) (hf:blcS ((u.m.getD m default).l.getD j default)=false) (hb:∀ k,k<j→blcS ((u.m.getD m default).l.getD k default)=true) (h:∀ k,k<m→mdlS (u.m.getD k default)=true) (k:Nat) (hk:k<m):VT N_ (fnC Tryz.f6 [1,1,0,1,0,0]) (few31_ob_I u m j k) .normal (few31_ob_I u m j (k+1)):=by
 have q:=mdlS_iff.1 (h k hk)
 obtain ⟨q1,q2⟩:=q
 have oz2:=(map_at (mdlC) (default) (l:=u.m) (i:=k) (by omega))
 have oz5:=@few31_iy (u) ((↑k:Int)) ((u.m.getD k default).l) q1 q2
 exact tR_ [r_,b_,.r [] [.row (sO oz2)],r_,d_,r_,.code [.any (rg [(10,5),(17,9)]),.weak 5 (i64 (↑0:Int)),.sort] (AI_ 2) (zO oz5),.r [] [.n ((↑k:Int)+1)]] [.any [4,5,15,16],.weak 3 (i64 (↑(k+1):Int)),.sort] (.d8 (show decide ((↑k:Int)<((K_ mdlC u.m).length:Int))=true by (simp;omega)) (s_ (0≤(↑k:Int))) oz2 (show decide (((K_ blcC (u.m.getD k default).l).length:Int)>8)=false by (simp at *;omega)) w0_ oz5 (i6n ((↑k:Int)+1) (by omega)) (wS_ k))
theorem few31_ob_e (u:Bun) (m j:Nat) (hl:u.m.length≤4) (hm:m<u.m.length) (hs:(u.m.getD m default).l.length≤8) (hj:j<(u.m.getD m default).l.length) (hf:blcS ((u.m.getD m default).l.getD j default)=false) (hb:∀ k,k<j→blcS ((u.m.getD m default).l.getD k default)=true) (h:∀ k,k<m→mdlS (u.m.getD k default)=true):VT N_ (fnC Tryz.f6 [1,1,0,1,0,0]) (few31_ob_I u m j (m)) (.ret) (few31_ob_Z u m j):=by
 have oz2:=(map_at (mdlC) (default) (l:=u.m) (i:=m) hm)
 have oz5:=@few31_in (u) ((↑m:Int)) ((u.m.getD m default).l) (j) hs hj hf hb
 exact tR_ [r_,b_,.r [] [.row (sO oz2)],r_,d_,r_,.code [.any (rg [(10,5),(17,9)]),.weak 5 (i64 (↑0:Int)),.sort] (Exit.ret) (zO oz5)] [.sort] (.d6 (show decide ((↑m:Int)<((K_ mdlC u.m).length:Int))=true by (simp;omega)) (s_ (0≤(↑m:Int))) oz2 (show decide (((K_ blcC (u.m.getD m default).l).length:Int)>8)=false by (simp at *;omega)) w0_ oz5)
theorem few31_ob (u:Bun) (m j:Nat) (hl:u.m.length≤4) (hm:m<u.m.length) (hs:(u.m.getD m default).l.length≤8) (hj:j<(u.m.getD m default).l.length) (hf:blcS ((u.m.getD m default).l.getD j default)=false) (hb:∀ k,k<j→blcS ((u.m.getD m default).l.getD k default)=true) (h:∀ k,k<m→mdlS (u.m.getD k default)=true):VT N_ (fnC Tryz.f6 [1,1,0,1,0]) (few31_ob_I u m j 0) (.ret) (few31_ob_Z u m j) :=
 VT.loop (fun k=>few31_ob_I u m j k) (m) (fun k hk=>few31_ob_s u m j hl hm hs hj hf hb h k hk) (few31_ob_e u m j hl hm hs hj hf hb h) (by intro h;cases h)
theorem few31_a (u:Bun) (h:4<u.m.length):VC N_ 6 ([bun u]) (bv false):=by
 exact cR_ [r_,r_,b_,r_] _ Tryz.func6 (.d (show decide (((K_ mdlC u.m).length:Int)>4)=true by (simp;omega)))
theorem few31_y (u:Bun) (hl:u.m.length≤4) (h:∀ k,k<u.m.length→mdlS (u.m.getD k default)=true):VC N_ 6 ([bun u]) (bv true):=by
 have oz2:=@few31_oy (u) hl h
 exact cR_ [r_,r_,d_,r_,.code [.any [0,2,6,7,8,9],.weak 3 (i64 (↑0:Int)),.sort] (AI_ 0) (zO oz2),r_] _ Tryz.func6 (.d3 (show decide (((K_ mdlC u.m).length:Int)>4)=false by (simp;omega)) w0_ oz2)
theorem few31_na (u:Bun) (m:Nat) (hl:u.m.length≤4) (hm:m<u.m.length) (hf:8<(u.m.getD m default).l.length) (h:∀ k,k<m→mdlS (u.m.getD k default)=true):VC N_ 6 ([bun u]) (bv false):=by
 have oz2:=@few31_oa (u) (m) hl hm hf h
 exact cR_ [r_,r_,d_,r_,.code [.any [0,2,6,7,8,9],.weak 3 (i64 (↑0:Int)),.sort] (Exit.ret) (zO oz2)] _ Tryz.func6 (.d3 (show decide (((K_ mdlC u.m).length:Int)>4)=false by (simp;omega)) w0_ oz2)
theorem few31_nb (u:Bun) (m j:Nat) (hl:u.m.length≤4) (hm:m<u.m.length) (hs:(u.m.getD m default).l.length≤8) (hj:j<(u.m.getD m default).l.length) (hf:blcS ((u.m.getD m default).l.getD j default)=false) (hb:∀ k,k<j→blcS ((u.m.getD m default).l.getD k default)=true) (h:∀ k,k<m→mdlS (u.m.getD k default)=true):VC N_ 6 ([bun u]) (bv false):=by
 have oz2:=@few31_ob (u) (m) (j) hl hm hs hj hf hb h
 exact cR_ [r_,r_,d_,r_,.code [.any [0,2,6,7,8,9],.weak 3 (i64 (↑0:Int)),.sort] (Exit.ret) (zO oz2)] _ Tryz.func6 (.d3 (show decide (((K_ mdlC u.m).length:Int)>4)=false by (simp;omega)) w0_ oz2)
theorem few31_v (u:Bun):VC N_ 6 [bun u] (bv (bunS u)):=by
 unfold bunS
 by_cases h1:u.m.length≤4
 ·rw[decide_eq_true h1,BU_]
  rcases all_or (fun k=>mdlS (u.m.getD k default)) u.m.length with h|⟨m,g1,g2,g3⟩
  ·rw[all_getD.2 h];exact few31_y u h1 h
  ·have:u.m.all mdlS=false:=by
    cases e:u.m.all mdlS with
    | false=>rfl
    | true=>have:=all_getD.1 e m g1;exact absurd (this.symm.trans g2) (by simp)
   rw[this]
   by_cases h2:8<(u.m.getD m default).l.length
   ·exact few31_na u m h1 g1 h2 g3
   ·rcases all_or (fun k=>blcS ((u.m.getD m default).l.getD k default)) (u.m.getD m default).l.length with h|⟨j,j1,j2,j3⟩
    ·exfalso
     have:mdlS (u.m.getD m default)=true:=mdlS_iff.2 ⟨by omega,h⟩
     exact absurd (this.symm.trans g2) (by simp)
    ·exact few31_nb u m j h1 g1 (by omega) j1 j2 j3 g3
 ·rw[decide_eq_false h1,AG_];exact few31_a u (by omega)
theorem blc_facts {x:Blc} (h:blcS x=true):x.n.length≤12∧(∀ n∈x.n,n.w.length≤1000∧n.b.length≤100)∧(∀ n∈x.n,n.w.length≤100000∧n.b.length≤100000)∧x.w.length≤4000∧x.b.length≤100:=by
 have h:=blcS_iff.1 h
 exact ⟨(few_facts h.1).1,(few_facts h.1).2.2,few_wide h.1,h.2.1,h.2.2⟩
abbrev joinS (l:List ByteArray):ByteArray:=joinB l ⟨#[32]⟩
theorem joined_v (l:List ByteArray) (h:(joinS l).size≤140737488355328) (hn:l.length≤100000):VC N_ 26 ([strs l]) (st (joinS l)):=by
 have oz0:=@join_v (l) (ByteArray.mk #[32]) h hn
 exact cR_ [r_,.r [] [cr oz0]] _ Tryz.func26 (.d oz0)
theorem nameS_size (k:Int):(nameS k).size≤7:=by
 have key:∀ s∈kindNames,s.size≤7:=by decide
 unfold nameS
 rw[AR_]
 cases h:kindNames[k.toNat]? with
 | none=>decide
 | some s=>exact key s (BB_ h)
def nodeS (n:Nod) (a:Shp):ByteArray:=if n.kd=6 then ⟨#[32,32]⟩++nameS n.kd++⟨#[32]⟩++dg n.na++⟨#[32]⟩++dg n.nb++⟨#[32,116,111,32]⟩++shS a else ⟨#[32,32]⟩++nameS n.kd++⟨#[32]⟩++dg n.na++⟨#[32,116,111,32]⟩++shS a
structure NdB (n:Nod) (a:Shp):Prop where
 hk:(nameS n.kd).size≤7
 ha:(dg n.na).size≤21
 hb:(dg n.nb).size≤21
 hs:(shS a).size≤65
 l1:(ByteArray.mk #[32]).size=1
 l2:(ByteArray.mk #[32,32]).size=2
 l3:(ByteArray.mk #[116,111]).size=2
 l4:(ByteArray.mk #[32,116,111,32]).size=4
theorem ndB {n:Nod} {a:Shp} (h:n.Ok) (g:a.Ok):NdB n a:=⟨nameS_size _,dg_size h.na,dg_size h.nb,shS_size g,rfl,rfl,rfl,rfl⟩
theorem nodeS_size {n:Nod} {a:Shp} (h:n.Ok) (g:a.Ok):(nodeS n a).size≤200:=by
 obtain ⟨q1,q2,q3,q4,q5,q6,q7,q8⟩:=ndB h g
 unfold nodeS
 split<;>simp only[bapp_size]<;>omega
theorem joinS_6 (n:Nod) (a:Shp) (h:n.kd=6):joinS [⟨#[32]⟩,nameS n.kd,dg n.na,dg n.nb,⟨#[116,111]⟩,shS a]=nodeS n a:=by
 unfold joinS nodeS
 rw[i_ h]
 refine bext ?_
 simp only[joinB_two,joinB_one,bapp,CP_];rfl
theorem joinS_n (n:Nod) (a:Shp) (h:n.kd≠6):joinS [⟨#[32]⟩,nameS n.kd,dg n.na,⟨#[116,111]⟩,shS a]=nodeS n a:=by
 unfold joinS nodeS
 rw[j_ h]
 refine bext ?_
 simp only[joinB_two,joinB_one,bapp,CP_];rfl
theorem node50_6 (n:Nod) (a:Shp) (ok:n.Ok) (oka:a.Ok) (h:n.kd=6):VC N_ 13 ([nod n,shp a]) (st (joinS [⟨#[32]⟩,nameS n.kd,dg n.na,dg n.nb,⟨#[116,111]⟩,shS a])):=by
 have q0:=nodeS_size ok oka
 rw[←joinS_6 n a h] at q0
 have e1:=ok.kd
 have e2:=ok.na
 have e3:=ok.nb
 have oz0:=@name_v (n.kd) e1
 have oz1:=@digits_v (n.na) e2
 have oz3:=@digits_v (n.nb) e3
 have oz6:=@shape50_v (a) oka
 have oz10:=@joined_v ([ByteArray.mk #[32],nameS n.kd,dg n.na,dg n.nb,ByteArray.mk #[116,111],shS a]) (by omega) (by (simp;done))
 exact cR_ [r_,.r [] [cr oz0,cr oz1],r_,b_,.r [] [cr oz3],.r [] [cr oz6,ca oz10]] _ Tryz.func13 (.c8 oz0 oz1 (show (n.kd==6)=true by (refine decide_eq_true ?_;omega)) oz3 (s_ ((3+1)*16≤140737488355328)) (s_ (3+1≤9223372036854775807)) oz6 (s_ ((4+2)*16≤140737488355328))<|.d3 (s_ (4+2≤9223372036854775807)) (show WeakL [AV.sl 1 [[AV.lit (L_ (ByteArray.mk #[32]))],[AV.lit (L_ (nameS n.kd))],[AV.lit (L_ (dg n.na))],[AV.lit (L_ (dg n.nb))],[AV.lit (L_ (ByteArray.mk #[116,111]))],[AV.lit (L_ (shS a))]]] [AV.sl 1 [[AV.lit (L_ (ByteArray.mk #[32]))],[AV.lit (L_ (nameS n.kd))],[AV.lit (L_ (dg n.na))],[AV.lit (L_ (dg n.nb))],[AV.lit (L_ (ByteArray.mk #[116,111]))],[AV.lit (L_ (shS a))]]] from (.cons (Weak.rows (rows_to (rowS) (r:=[[AV.lit (L_ (ByteArray.mk #[32]))],[AV.lit (L_ (nameS n.kd))],[AV.lit (L_ (dg n.na))],[AV.lit (L_ (dg n.nb))],[AV.lit (L_ (ByteArray.mk #[116,111]))],[AV.lit (L_ (shS a))]]) (l:=[ByteArray.mk #[32],nameS n.kd,dg n.na,dg n.nb,ByteArray.mk #[116,111],shS a]) (m:=[ByteArray.mk #[32],nameS n.kd,dg n.na,dg n.nb,ByteArray.mk #[116,111],shS a]) (by first|(simp only[X_,Z_,AL_,AM_,V_,D_,AK_];done)|rfl|(simp only[X_,Z_,AL_,AM_,V_,D_,AK_];rfl)|(simp only[X_,Z_,AL_,AM_,V_,D_,AK_,rowS,ints];done)) rfl)) .nil)) oz10)
theorem node50_n (n:Nod) (a:Shp) (ok:n.Ok) (oka:a.Ok) (h:n.kd≠6):VC N_ 13 ([nod n,shp a]) (st (joinS [⟨#[32]⟩,nameS n.kd,dg n.na,⟨#[116,111]⟩,shS a])):=by
 have q0:=nodeS_size ok oka
 rw[←joinS_n n a h] at q0
 have e1:=ok.kd
 have e2:=ok.na
 have oz0:=@name_v (n.kd) e1
 have oz1:=@digits_v (n.na) e2
 have oz3:=@shape50_v (a) oka
 have oz7:=@joined_v ([ByteArray.mk #[32],nameS n.kd,dg n.na,ByteArray.mk #[116,111],shS a]) (by omega) (by (simp;done))
 exact cR_ [r_,.r [] [cr oz0,cr oz1],r_,d_,.r [] [cr oz3,ca oz7]] _ Tryz.func13 (.d8 oz0 oz1 (show (n.kd==6)=false by (refine decide_eq_false ?_;omega)) oz3 (s_ ((3+2)*16≤140737488355328)) (s_ (3+2≤9223372036854775807)) (show WeakL [AV.sl 1 [[AV.lit (L_ (ByteArray.mk #[32]))],[AV.lit (L_ (nameS n.kd))],[AV.lit (L_ (dg n.na))],[AV.lit (L_ (ByteArray.mk #[116,111]))],[AV.lit (L_ (shS a))]]] [AV.sl 1 [[AV.lit (L_ (ByteArray.mk #[32]))],[AV.lit (L_ (nameS n.kd))],[AV.lit (L_ (dg n.na))],[AV.lit (L_ (ByteArray.mk #[116,111]))],[AV.lit (L_ (shS a))]]] from (.cons (Weak.rows (rows_to (rowS) (r:=[[AV.lit (L_ (ByteArray.mk #[32]))],[AV.lit (L_ (nameS n.kd))],[AV.lit (L_ (dg n.na))],[AV.lit (L_ (ByteArray.mk #[116,111]))],[AV.lit (L_ (shS a))]]) (l:=[ByteArray.mk #[32],nameS n.kd,dg n.na,ByteArray.mk #[116,111],shS a]) (m:=[ByteArray.mk #[32],nameS n.kd,dg n.na,ByteArray.mk #[116,111],shS a]) (by first|(simp only[X_,Z_,AL_,AM_,V_,D_,AK_];done)|rfl|(simp only[X_,Z_,AL_,AM_,V_,D_,AK_];rfl)|(simp only[X_,Z_,AL_,AM_,V_,D_,AK_,rowS,ints];done)) rfl)) .nil)) oz7)
theorem node50_v (n:Nod) (a:Shp) (ok:n.Ok) (oka:a.Ok):VC N_ 13 [nod n,shp a] (st (nodeS n a)):=by
 by_cases h:n.kd=6
 ·rw[←joinS_6 n a h];exact node50_6 n a ok oka h
 ·rw[←joinS_n n a h];exact node50_n n a ok oka h
theorem rnode50_6 (n:Nod) (a:Shp) (ok:n.Ok) (oka:a.Ok) (h:n.kd=6):VC N_ 14 ([nod n,shp a]) (st (nodeS n a)):=by
 obtain ⟨q1,q2,q3,q4,q5,q6,q7,q8⟩:=ndB ok oka
 have e1:=ok.kd
 have e2:=ok.na
 have e3:=ok.nb
 have oz0:=@refName_v (n.kd) e1
 have oz3:=@rdigits_v (n.na) e2
 have oz7:=@rdigits_v (n.nb) e3
 have oz10:=@rshape50_v (a) oka
 exact (cR_ [r_,.r [] [cr oz0,.v (L_ (ByteArray.mk #[32,32]++nameS n.kd)),.v (L_ (ByteArray.mk #[32,32]++nameS n.kd++ByteArray.mk #[32])),cr oz3,.v (L_ (ByteArray.mk #[32,32]++nameS n.kd++ByteArray.mk #[32]++dg n.na))],r_,b_,.r [] [.v (L_ (ByteArray.mk #[32,32]++nameS n.kd++ByteArray.mk #[32]++dg n.na++ByteArray.mk #[32])),cr oz7,.v (L_ (ByteArray.mk #[32,32]++nameS n.kd++ByteArray.mk #[32]++dg n.na++ByteArray.mk #[32]++dg n.nb))],.r [] [.v (L_ (ByteArray.mk #[32,32]++nameS n.kd++ByteArray.mk #[32]++dg n.na++ByteArray.mk #[32]++dg n.nb++ByteArray.mk #[32,116,111,32])),cr oz10,.v (L_ (ByteArray.mk #[32,32]++nameS n.kd++ByteArray.mk #[32]++dg n.na++ByteArray.mk #[32]++dg n.nb++ByteArray.mk #[32,116,111,32]++shS a))]] (AV.lit (L_ (ByteArray.mk #[32,32]++nameS n.kd++ByteArray.mk #[32]++dg n.na++ByteArray.mk #[32]++dg n.nb++ByteArray.mk #[32,116,111,32]++shS a))) Tryz.func14 (.c8 oz0 (show BinTo N_ BinOp.add 9 (Operand.const (L_ (ByteArray.mk #[32,32]))) (Operand.tmp 8) (L_ (ByteArray.mk #[32,32])) (L_ (nameS n.kd)) (L_ (ByteArray.mk #[32,32]++nameS n.kd)) from (bin_add (by omega))) (show BinTo N_ BinOp.add 9 (Operand.tmp 9) (Operand.const (L_ (ByteArray.mk #[32]))) (L_ (ByteArray.mk #[32,32]++nameS n.kd)) (L_ (ByteArray.mk #[32])) (L_ (ByteArray.mk #[32,32]++nameS n.kd++ByteArray.mk #[32])) from (bin_add (by (simp only[bapp_size];omega)))) oz3 (show BinTo N_ BinOp.add 9 (Operand.tmp 10) (Operand.tmp 13) (L_ (ByteArray.mk #[32,32]++nameS n.kd++ByteArray.mk #[32])) (L_ (dg n.na)) (L_ (ByteArray.mk #[32,32]++nameS n.kd++ByteArray.mk #[32]++dg n.na)) from (bin_add (by (simp only[bapp_size];omega)))) (show (n.kd==6)=true by (refine decide_eq_true ?_;omega)) (show BinTo N_ BinOp.add 9 (Operand.tmp 18) (Operand.const (L_ (ByteArray.mk #[32]))) (L_ (ByteArray.mk #[32,32]++nameS n.kd++ByteArray.mk #[32]++dg n.na)) (L_ (ByteArray.mk #[32])) (L_ (ByteArray.mk #[32,32]++nameS n.kd++ByteArray.mk #[32]++dg n.na++ByteArray.mk #[32])) from (bin_add (by (simp only[bapp_size];omega)))) oz7<|.d4 (show BinTo N_ BinOp.add 9 (Operand.tmp 19) (Operand.tmp 22) (L_ (ByteArray.mk #[32,32]++nameS n.kd++ByteArray.mk #[32]++dg n.na++ByteArray.mk #[32])) (L_ (dg n.nb)) (L_ (ByteArray.mk #[32,32]++nameS n.kd++ByteArray.mk #[32]++dg n.na++ByteArray.mk #[32]++dg n.nb)) from (bin_add (by (simp only[bapp_size];omega)))) (show BinTo N_ BinOp.add 9 (Operand.tmp 24) (Operand.const (L_ (ByteArray.mk #[32,116,111,32]))) (L_ (ByteArray.mk #[32,32]++nameS n.kd++ByteArray.mk #[32]++dg n.na++ByteArray.mk #[32]++dg n.nb)) (L_ (ByteArray.mk #[32,116,111,32])) (L_ (ByteArray.mk #[32,32]++nameS n.kd++ByteArray.mk #[32]++dg n.na++ByteArray.mk #[32]++dg n.nb++ByteArray.mk #[32,116,111,32])) from (bin_add (by (simp only[bapp_size];omega)))) oz10 (show BinTo N_ BinOp.add 9 (Operand.tmp 25) (Operand.tmp 27) (L_ (ByteArray.mk #[32,32]++nameS n.kd++ByteArray.mk #[32]++dg n.na++ByteArray.mk #[32]++dg n.nb++ByteArray.mk #[32,116,111,32])) (L_ (shS a)) (L_ (ByteArray.mk #[32,32]++nameS n.kd++ByteArray.mk #[32]++dg n.na++ByteArray.mk #[32]++dg n.nb++ByteArray.mk #[32,116,111,32]++shS a)) from (bin_add (by (simp only[bapp_size];omega)))))).weak (A_ _) (Weak.str (show ((ByteArray.mk #[32,32]++nameS n.kd++ByteArray.mk #[32]++dg n.na++ByteArray.mk #[32]++dg n.nb++ByteArray.mk #[32,116,111,32]++shS a):ByteArray)=(nodeS n a) from (by (unfold nodeS;rw[i_ h]))))
theorem rnode50_n (n:Nod) (a:Shp) (ok:n.Ok) (oka:a.Ok) (h:n.kd≠6):VC N_ 14 ([nod n,shp a]) (st (nodeS n a)):=by
 obtain ⟨q1,q2,q3,q4,q5,q6,q7,q8⟩:=ndB ok oka
 have e1:=ok.kd
 have e2:=ok.na
 have oz0:=@refName_v (n.kd) e1
 have oz3:=@rdigits_v (n.na) e2
 have oz7:=@rshape50_v (a) oka
 exact (cR_ [r_,.r [] [cr oz0,.v (L_ (ByteArray.mk #[32,32]++nameS n.kd)),.v (L_ (ByteArray.mk #[32,32]++nameS n.kd++ByteArray.mk #[32])),cr oz3,.v (L_ (ByteArray.mk #[32,32]++nameS n.kd++ByteArray.mk #[32]++dg n.na))],r_,d_,.r [] [.v (L_ (ByteArray.mk #[32,32]++nameS n.kd++ByteArray.mk #[32]++dg n.na++ByteArray.mk #[32,116,111,32])),cr oz7,.v (L_ (ByteArray.mk #[32,32]++nameS n.kd++ByteArray.mk #[32]++dg n.na++ByteArray.mk #[32,116,111,32]++shS a))]] (AV.lit (L_ (ByteArray.mk #[32,32]++nameS n.kd++ByteArray.mk #[32]++dg n.na++ByteArray.mk #[32,116,111,32]++shS a))) Tryz.func14 (.c8 oz0 (show BinTo N_ BinOp.add 9 (Operand.const (L_ (ByteArray.mk #[32,32]))) (Operand.tmp 8) (L_ (ByteArray.mk #[32,32])) (L_ (nameS n.kd)) (L_ (ByteArray.mk #[32,32]++nameS n.kd)) from (bin_add (by omega))) (show BinTo N_ BinOp.add 9 (Operand.tmp 9) (Operand.const (L_ (ByteArray.mk #[32]))) (L_ (ByteArray.mk #[32,32]++nameS n.kd)) (L_ (ByteArray.mk #[32])) (L_ (ByteArray.mk #[32,32]++nameS n.kd++ByteArray.mk #[32])) from (bin_add (by (simp only[bapp_size];omega)))) oz3 (show BinTo N_ BinOp.add 9 (Operand.tmp 10) (Operand.tmp 13) (L_ (ByteArray.mk #[32,32]++nameS n.kd++ByteArray.mk #[32])) (L_ (dg n.na)) (L_ (ByteArray.mk #[32,32]++nameS n.kd++ByteArray.mk #[32]++dg n.na)) from (bin_add (by (simp only[bapp_size];omega)))) (show (n.kd==6)=false by (refine decide_eq_false ?_;omega)) (show BinTo N_ BinOp.add 9 (Operand.tmp 24) (Operand.const (L_ (ByteArray.mk #[32,116,111,32]))) (L_ (ByteArray.mk #[32,32]++nameS n.kd++ByteArray.mk #[32]++dg n.na)) (L_ (ByteArray.mk #[32,116,111,32])) (L_ (ByteArray.mk #[32,32]++nameS n.kd++ByteArray.mk #[32]++dg n.na++ByteArray.mk #[32,116,111,32])) from (bin_add (by (simp only[bapp_size];omega)))) oz7<|.d (show BinTo N_ BinOp.add 9 (Operand.tmp 25) (Operand.tmp 27) (L_ (ByteArray.mk #[32,32]++nameS n.kd++ByteArray.mk #[32]++dg n.na++ByteArray.mk #[32,116,111,32])) (L_ (shS a)) (L_ (ByteArray.mk #[32,32]++nameS n.kd++ByteArray.mk #[32]++dg n.na++ByteArray.mk #[32,116,111,32]++shS a)) from (bin_add (by (simp only[bapp_size];omega)))))).weak (A_ _) (Weak.str (show ((ByteArray.mk #[32,32]++nameS n.kd++ByteArray.mk #[32]++dg n.na++ByteArray.mk #[32,116,111,32]++shS a):ByteArray)=(nodeS n a) from (by (unfold nodeS;rw[j_ h]))))
theorem rnode50_v (n:Nod) (a:Shp) (ok:n.Ok) (oka:a.Ok):VC N_ 14 [nod n,shp a] (st (nodeS n a)):=by
 by_cases h:n.kd=6
 ·exact rnode50_6 n a ok oka h
 ·exact rnode50_n n a ok oka h
abbrev bun0:AV:=.agg [i64 0,i64 0,i64 0,i64 0,nilv]
abbrev nilp:AV:=.lit (.pointer none)
theorem whole0   : VC N_ 47 ([bun0]) (i64 5):=by
 have e5:(Shp.mk 0 0 0).Ok:=⟨⟨by decide,by decide⟩,⟨by decide,by decide⟩,⟨by decide,by decide⟩⟩
 have oz0:=@sRight_v (Shp.mk 0 0 0) e5
 exact cR_ [r_,.r [] [cr oz0],b_,r_] _ Tryz.func47 (.d2 oz0 z0_)
theorem vbun0   : VC N_ 28 ([bun0]) (.agg [i64 5,i64 (-1),i64 (-1),i64 (-1)]):=by
 have oz0:=@whole0
 exact cR_ [r_,.r [] [cr oz0],r_,b_,r_] _ Tryz.func28 (.d2 oz0 z0_)
theorem new0   : VC N_ 16 ([bun0]) (.tup [nilp,i64 5]):=by
 have oz0:=@vbun0
 exact cR_ [r_,.r [] [cr oz0],r_,b_,r_] _ Tryz.func16 (.d2 oz0 z0_)
theorem lines0   : VC N_ 8 ([bun0]) (.tup [nilv,i64 5]):=by
 have oz0:=@new0
 exact cR_ [r_,.r [] [cr oz0],r_,b_,r_] _ Tryz.func8 (.d2 oz0 z0_)
theorem text0   : VC N_ 9 ([bun0]) (.tup [st ⟨#[]⟩,i64 5]):=by
 have oz0:=@lines0
 exact cR_ [r_,.r [] [cr oz0],r_,b_,r_] _ Tryz.func9 (.d2 oz0 z0_)
theorem dg_one (i:Nat) (h:i<10):dg i=⟨#[UInt8.ofNat (48+i)]⟩:=by
 rw[dg_pos (by omega)]
 unfold wh
 rw[AF_,Lib.decDigits_one h]
theorem sh123:shS ⟨1,2,3⟩=⟨#[49,120,50,120,51]⟩:=by
 unfold shS
 rw[show dg (Shp.mk 1 2 3).h=_ from dg_one 1 (by decide),show dg (Shp.mk 1 2 3).x=_ from dg_one 2 (by decide),show dg (Shp.mk 1 2 3).c=_ from dg_one 3 (by decide)];rfl
abbrev ndJ:Nod:=⟨6,1,2,0,0,0,0,0,0,[],[],0,0,0,0,0,0,0,0⟩
theorem nd12:nodeS ndJ ⟨0,0,0⟩=⟨#[32,32,106,111,105,110,32,49,32,50,32,116,111,32,48,120,48,120,48]⟩:=by
 unfold nodeS
 rw[i_ rfl]
 unfold shS
 rw[show dg ndJ.na=_ from dg_one 1 (by decide),show dg ndJ.nb=_ from dg_one 2 (by decide),show dg (Shp.mk 0 0 0).h=_ from dg_one 0 (by decide)];rfl
theorem eq123:((shS ⟨1,2,3⟩).toList==(ByteArray.mk #[49,120,50,120,51]).toList)=true:=by rw[sh123];exact beq_self_eq_true _
theorem eq12:((nodeS ndJ ⟨0,0,0⟩).toList==(ByteArray.mk #[32,32,106,111,105,110,32,49,32,50,32,116,111,32,48,120,48,120,48]).toList)=true:=by rw[nd12];exact beq_self_eq_true _
theorem ndJ_ok:ndJ.Ok:=by constructor<;>first|(intro v hv;cases hv;done)|(refine ⟨?_,?_⟩<;>decide)
theorem shp_ok3 (a b c:Int) (h:0≤a∧a≤9∧0≤b∧b≤9∧0≤c∧c≤9):(Shp.mk a b c).Ok:=⟨⟨by dsimp only;omega,by dsimp only;omega⟩,⟨by dsimp only;omega,by dsimp only;omega⟩,⟨by dsimp only;omega,by dsimp only;omega⟩⟩
theorem known50_v   : VC N_ 7 ([]) (bv true):=by
 have e1:=eq123
 have e2:=eq12
 have e3:=ndJ_ok
 have e4:=shp_ok3 1 2 3 (by omega)
 have e5:=shp_ok3 0 0 0 (by omega)
 have oz0:=@text0
 have oz1:=@shape50_v (Shp.mk 1 2 3) e4
 have oz2:=z0_
 have oz9:=@node50_6 (Nod.mk 6 1 2 0 0 0 0 0 0 [] [] 0 0 0 0 0 0 0 0) (Shp.mk 0 0 0) e3 e5 (by with_reducible rfl)
 exact cR_ [r_,.r [] [cr oz0],.r [] [cr oz1,e_,e_,e_,e_,e_,e_,ca oz9,e_,e_]] _ Tryz.func7 (.c8 oz0 oz1 oz2 oz2 oz2 oz2 oz2 oz2<|.d4 (show WeakL [AV.agg [i64 6,i64 1,i64 2,i64 0,i64 0,i64 0,i64 0,i8 0,i8 0,AV.lit (AC_ none 0 0),AV.lit (AC_ none 0 0),i32 0,i64 0,i8 0,i32 0,i64 0,i8 0,i8 0,i8 0],AV.agg [i64 0,i64 0,i64 0]] [AV.agg [i64 (Nod.mk 6 1 2 0 0 0 0 0 0 [] [] 0 0 0 0 0 0 0 0).kd,i64 (Nod.mk 6 1 2 0 0 0 0 0 0 [] [] 0 0 0 0 0 0 0 0).na,i64 (Nod.mk 6 1 2 0 0 0 0 0 0 [] [] 0 0 0 0 0 0 0 0).nb,i64 (Nod.mk 6 1 2 0 0 0 0 0 0 [] [] 0 0 0 0 0 0 0 0).nk,i64 (Nod.mk 6 1 2 0 0 0 0 0 0 [] [] 0 0 0 0 0 0 0 0).ns,i64 (Nod.mk 6 1 2 0 0 0 0 0 0 [] [] 0 0 0 0 0 0 0 0).np,i64 (Nod.mk 6 1 2 0 0 0 0 0 0 [] [] 0 0 0 0 0 0 0 0).no,i8 (Nod.mk 6 1 2 0 0 0 0 0 0 [] [] 0 0 0 0 0 0 0 0).za,i8 (Nod.mk 6 1 2 0 0 0 0 0 0 [] [] 0 0 0 0 0 0 0 0).zb,AV.sl 1 [],AV.sl 1 [],i32 (Nod.mk 6 1 2 0 0 0 0 0 0 [] [] 0 0 0 0 0 0 0 0).qm,i64 (Nod.mk 6 1 2 0 0 0 0 0 0 [] [] 0 0 0 0 0 0 0 0).qs,i8 (Nod.mk 6 1 2 0 0 0 0 0 0 [] [] 0 0 0 0 0 0 0 0).qz,i32 (Nod.mk 6 1 2 0 0 0 0 0 0 [] [] 0 0 0 0 0 0 0 0).rm,i64 (Nod.mk 6 1 2 0 0 0 0 0 0 [] [] 0 0 0 0 0 0 0 0).rs,i8 (Nod.mk 6 1 2 0 0 0 0 0 0 [] [] 0 0 0 0 0 0 0 0).rz,i8 (Nod.mk 6 1 2 0 0 0 0 0 0 [] [] 0 0 0 0 0 0 0 0).lo,i8 (Nod.mk 6 1 2 0 0 0 0 0 0 [] [] 0 0 0 0 0 0 0 0).hi],AV.agg [i64 (Shp.mk 0 0 0).h,i64 (Shp.mk 0 0 0).x,i64 (Shp.mk 0 0 0).c]] from (.cons (AD_ (.cons (.refl _) (.cons (.refl _) (.cons (.refl _) (.cons (.refl _) (.cons (.refl _) (.cons (.refl _) (.cons (.refl _) (.cons (.refl _) (.cons (.refl _) (.cons (Weak.nil _) (.cons (Weak.nil _) (.cons (.refl _) (.cons (.refl _) (.cons (.refl _) (.cons (.refl _) (.cons (.refl _) (.cons (.refl _) (.cons (.refl _) (.cons (.refl _) .nil)))))))))))))))))))) (.cons (.refl _) .nil))) oz9 oz2 oz2)
structure Blc.Sz (x:Blc):Prop where
 l:x.n.length≤1000
 n:∀ n∈x.n,n.w.length≤100000∧n.b.length≤100000
 w:x.w.length≤100000
 b:x.b.length≤100000
structure Mdl.Sz (m:Mdl):Prop where
 l:m.l.length≤1000
 b:∀ x∈m.l,x.Sz
structure Bun.Sz (u:Bun):Prop where
 l:u.m.length≤1000
 b:∀ x∈u.m,x.Sz
theorem set_same {α:Type} [Inhabited α] {l:List α} {k:Nat} (h:k<l.length):l.set k (l.getD k default)=l:=by
 apply List.ext_getElem (by simp)
 intro i h1 h2
 rw[List.getElem_set]
 split
 ·rename_i e;subst e;rw[AR_,Y_ h];rfl
 ·rfl
theorem set_same2 {α:Type} [Inhabited α] {l:List α} {k:Nat} (h:k<l.length):(l.set (k:Int).toNat (l.getD k default)).set (k:Int).toNat (l.getD k default)=l:=by
 rw[AF_,set_same h,set_same h]
theorem chead_v (w b:List Int) (nd:Int) (wl:w.length≤100000) (bl:b.length≤100000):VC N_ 74 ([.agg [ints .i8 w,ints .i32 b,i32 nd]]) (.agg [ints .i8 w,ints .i32 b,i32 nd]):=by
 have oz0:=@clone8_v (w) (by omega)
 have oz1:=@clone32_v (b) (by omega)
 exact cR_ [r_,.r [] [cr oz0,cr oz1],r_] _ Tryz.func74 (.d2 oz0 oz1)
theorem cloneN_a   : VC N_ 71 ([nilv]) (.sl 19 []):=by
 exact (cR_ [r_,r_,b_,r_] (AV.lit (AC_ none 0 0)) Tryz.func71 (.d z0_)).weak (A_ _) (Weak.nil _)
theorem cloneN_b (a:Addr) (cap:Nat) (h:cap≤maxLen):VC N_ 71 ([.lit (.slice (some a) 0 cap)]) (.sl 19 []):=by
 exact cR_ [r_,r_,d_,.r [] [.code Exit.normal (VS.mk [AV.sl 19 []] [])]] _ Tryz.func71 (.d4 z1_ (show Weak (AV.lit (AC_ (some a) 0 cap)) (AV.sl 19 []) from (Weak.empty _ _ (by assumption))) (s_ (((0:Nat)+(0:Nat))*(168:Nat)≤(140737488355328:Nat))) z2_)
theorem cloneN_0:VC N_ 71 [.sl 19 []] (.sl 19 []):=VC.empty1 cloneN_a fun a cap h=>cloneN_b a cap h
noncomputable def cblk_l_I (x:Blc) (k:Nat):VS:=stt 38 [(1,.ptr 1 0 0),(2,.ptr 2 0 0),(3,.own 900),(9,.own 900),(10,i64 (x.n.map nodC).length),(11,i64 k)] [(1,.var (blcC x)),(2,.var [.any,.any,.any,.any,.any]),(900,.slc 43 19 (x.n.map nodC))]
noncomputable def cblk_l_Z (x:Blc):VS:=cblk_l_I x (x.n.length)
theorem cblk_l_s (x:Blc) (sm:x.Sz) (k:Nat) (hk:k<x.n.length):VT N_ (fnC Tryz.f51 [1,1,0,1,0,0]) (cblk_l_I x k) .normal (cblk_l_I x (k+1)):=by
 have q:=getD_in sm.n hk
 have q1:=sm.l
 have oz1:=(s_ (0≤(↑k:Int)))
 have oz2:=(show (↑k:Int)<((K_ nodC x.n).length:Int) by (simp;omega))
 have oz3:=(map_at (nodC) (default) (l:=x.n) (i:=k) hk)
 have oz4:=@clone8_v ((x.n.getD k default).w) (by omega)
 have oz5:=@clone32_v ((x.n.getD k default).b) (by omega)
 have oz11:=(show ((K_ nodC x.n).set (↑k:Int).toNat [i64 (x.n.getD k default).kd,i64 (x.n.getD k default).na,i64 (x.n.getD k default).nb,i64 (x.n.getD k default).nk,i64 (x.n.getD k default).ns,i64 (x.n.getD k default).np,i64 (x.n.getD k default).no,i8 (x.n.getD k default).za,i8 (x.n.getD k default).zb,AV.sl 1 (K_ (row1 .i8) (x.n.getD k default).w),AV.sl 1 (K_ (row1 .i32) (x.n.getD k default).b),i32 (x.n.getD k default).qm,i64 (x.n.getD k default).qs,i8 (x.n.getD k default).qz,i32 (x.n.getD k default).rm,i64 (x.n.getD k default).rs,i8 (x.n.getD k default).rz,i8 (x.n.getD k default).lo,i8 (x.n.getD k default).hi])[(↑k:Int).toNat]? = some [i64 (x.n.getD k default).kd,i64 (x.n.getD k default).na,i64 (x.n.getD k default).nb,i64 (x.n.getD k default).nk,i64 (x.n.getD k default).ns,i64 (x.n.getD k default).np,i64 (x.n.getD k default).no,i8 (x.n.getD k default).za,i8 (x.n.getD k default).zb,AV.sl 1 (K_ (row1 .i8) (x.n.getD k default).w),AV.sl 1 (K_ (row1 .i32) (x.n.getD k default).b),i32 (x.n.getD k default).qm,i64 (x.n.getD k default).qs,i8 (x.n.getD k default).qz,i32 (x.n.getD k default).rm,i64 (x.n.getD k default).rs,i8 (x.n.getD k default).rz,i8 (x.n.getD k default).lo,i8 (x.n.getD k default).hi] from (get_set (by omega) (by (simp;omega))))
 exact tR_ [r_,b_,.r [] [.row (sO oz3)],.r [] [cr oz4,cr oz5,.row (sO oz3),.row (sO oz3)],.r [] [.n ((↑k:Int)+1)]] [.any (rg [(4,2),(12,19)]),.drop [5],.weak 11 (i64 (↑(k+1):Int)),.blk 900 (Blk.slc 43 19 (K_ nodC x.n)),.sort] (.c8 (show decide ((↑k:Int)<((K_ nodC x.n).length:Int))=true by (simp;omega)) oz1 oz2 oz3 oz4 oz5 oz1 oz2<|.d7 oz3 oz1 (show (↑k:Int)<(↑((K_ nodC x.n).set (↑k:Int).toNat [i64 (x.n.getD k default).kd,i64 (x.n.getD k default).na,i64 (x.n.getD k default).nb,i64 (x.n.getD k default).nk,i64 (x.n.getD k default).ns,i64 (x.n.getD k default).np,i64 (x.n.getD k default).no,i8 (x.n.getD k default).za,i8 (x.n.getD k default).zb,AV.sl 1 (K_ (row1 .i8) (x.n.getD k default).w),AV.sl 1 (K_ (row1 .i32) (x.n.getD k default).b),i32 (x.n.getD k default).qm,i64 (x.n.getD k default).qs,i8 (x.n.getD k default).qz,i32 (x.n.getD k default).rm,i64 (x.n.getD k default).rs,i8 (x.n.getD k default).rz,i8 (x.n.getD k default).lo,i8 (x.n.getD k default).hi]).length:Int) by (simp;omega)) oz11 (i6n ((↑k:Int)+1) (by (try dsimp only)<;>omega)) (M_ (k:=.i64) (show (((↑k:Int)+1):Int)=((↑(k+1):Int)) from (by (try dsimp only)<;>omega))) (show BlkW (Blk.slc 43 19 (((K_ nodC x.n).set (↑k:Int).toNat [i64 (x.n.getD k default).kd,i64 (x.n.getD k default).na,i64 (x.n.getD k default).nb,i64 (x.n.getD k default).nk,i64 (x.n.getD k default).ns,i64 (x.n.getD k default).np,i64 (x.n.getD k default).no,i8 (x.n.getD k default).za,i8 (x.n.getD k default).zb,AV.sl 1 (K_ (row1 .i8) (x.n.getD k default).w),AV.sl 1 (K_ (row1 .i32) (x.n.getD k default).b),i32 (x.n.getD k default).qm,i64 (x.n.getD k default).qs,i8 (x.n.getD k default).qz,i32 (x.n.getD k default).rm,i64 (x.n.getD k default).rs,i8 (x.n.getD k default).rz,i8 (x.n.getD k default).lo,i8 (x.n.getD k default).hi]).set (↑k:Int).toNat [i64 (x.n.getD k default).kd,i64 (x.n.getD k default).na,i64 (x.n.getD k default).nb,i64 (x.n.getD k default).nk,i64 (x.n.getD k default).ns,i64 (x.n.getD k default).np,i64 (x.n.getD k default).no,i8 (x.n.getD k default).za,i8 (x.n.getD k default).zb,AV.sl 1 (K_ (row1 .i8) (x.n.getD k default).w),AV.sl 1 (K_ (row1 .i32) (x.n.getD k default).b),i32 (x.n.getD k default).qm,i64 (x.n.getD k default).qs,i8 (x.n.getD k default).qz,i32 (x.n.getD k default).rm,i64 (x.n.getD k default).rs,i8 (x.n.getD k default).rz,i8 (x.n.getD k default).lo,i8 (x.n.getD k default).hi])) (Blk.slc 43 19 (K_ nodC x.n)) from (BZ_ (e:=43) (z:=19) (rows_to (nodC) (r:=((K_ nodC x.n).set (↑k:Int).toNat [i64 (x.n.getD k default).kd,i64 (x.n.getD k default).na,i64 (x.n.getD k default).nb,i64 (x.n.getD k default).nk,i64 (x.n.getD k default).ns,i64 (x.n.getD k default).np,i64 (x.n.getD k default).no,i8 (x.n.getD k default).za,i8 (x.n.getD k default).zb,AV.sl 1 (K_ (row1 .i8) (x.n.getD k default).w),AV.sl 1 (K_ (row1 .i32) (x.n.getD k default).b),i32 (x.n.getD k default).qm,i64 (x.n.getD k default).qs,i8 (x.n.getD k default).qz,i32 (x.n.getD k default).rm,i64 (x.n.getD k default).rs,i8 (x.n.getD k default).rz,i8 (x.n.getD k default).lo,i8 (x.n.getD k default).hi]).set (↑k:Int).toNat [i64 (x.n.getD k default).kd,i64 (x.n.getD k default).na,i64 (x.n.getD k default).nb,i64 (x.n.getD k default).nk,i64 (x.n.getD k default).ns,i64 (x.n.getD k default).np,i64 (x.n.getD k default).no,i8 (x.n.getD k default).za,i8 (x.n.getD k default).zb,AV.sl 1 (K_ (row1 .i8) (x.n.getD k default).w),AV.sl 1 (K_ (row1 .i32) (x.n.getD k default).b),i32 (x.n.getD k default).qm,i64 (x.n.getD k default).qs,i8 (x.n.getD k default).qz,i32 (x.n.getD k default).rm,i64 (x.n.getD k default).rs,i8 (x.n.getD k default).rz,i8 (x.n.getD k default).lo,i8 (x.n.getD k default).hi]) (l:=(x.n.set (↑k:Int).toNat (Nod.mk (x.n.getD k default).kd (x.n.getD k default).na (x.n.getD k default).nb (x.n.getD k default).nk (x.n.getD k default).ns (x.n.getD k default).np (x.n.getD k default).no (x.n.getD k default).za (x.n.getD k default).zb (x.n.getD k default).w (x.n.getD k default).b (x.n.getD k default).qm (x.n.getD k default).qs (x.n.getD k default).qz (x.n.getD k default).rm (x.n.getD k default).rs (x.n.getD k default).rz (x.n.getD k default).lo (x.n.getD k default).hi)).set (↑k:Int).toNat (Nod.mk (x.n.getD k default).kd (x.n.getD k default).na (x.n.getD k default).nb (x.n.getD k default).nk (x.n.getD k default).ns (x.n.getD k default).np (x.n.getD k default).no (x.n.getD k default).za (x.n.getD k default).zb (x.n.getD k default).w (x.n.getD k default).b (x.n.getD k default).qm (x.n.getD k default).qs (x.n.getD k default).qz (x.n.getD k default).rm (x.n.getD k default).rs (x.n.getD k default).rz (x.n.getD k default).lo (x.n.getD k default).hi)) (m:=x.n) (by first|(simp only[X_,Z_,AL_,AM_,V_,D_,AK_];done)|rfl|(simp only[X_,Z_,AL_,AM_,V_,D_,AK_];rfl)|(simp only[X_,Z_,AL_,AM_,V_,D_,AK_,nodC,ints];done)) (show ((x.n.set (↑k:Int).toNat (Nod.mk (x.n.getD k default).kd (x.n.getD k default).na (x.n.getD k default).nb (x.n.getD k default).nk (x.n.getD k default).ns (x.n.getD k default).np (x.n.getD k default).no (x.n.getD k default).za (x.n.getD k default).zb (x.n.getD k default).w (x.n.getD k default).b (x.n.getD k default).qm (x.n.getD k default).qs (x.n.getD k default).qz (x.n.getD k default).rm (x.n.getD k default).rs (x.n.getD k default).rz (x.n.getD k default).lo (x.n.getD k default).hi)).set (↑k:Int).toNat (Nod.mk (x.n.getD k default).kd (x.n.getD k default).na (x.n.getD k default).nb (x.n.getD k default).nk (x.n.getD k default).ns (x.n.getD k default).np (x.n.getD k default).no (x.n.getD k default).za (x.n.getD k default).zb (x.n.getD k default).w (x.n.getD k default).b (x.n.getD k default).qm (x.n.getD k default).qs (x.n.getD k default).qz (x.n.getD k default).rm (x.n.getD k default).rs (x.n.getD k default).rz (x.n.getD k default).lo (x.n.getD k default).hi))=(x.n) from (by (exact set_same2 hk)))))))
theorem cblk_l_e (x:Blc) (sm:x.Sz):VT N_ (fnC Tryz.f51 [1,1,0,1,0,0]) (cblk_l_I x (x.n.length)) (.exit 0) (cblk_l_Z x):=by
 have q1:=sm.l
 exact tR_ [r_,d_] [.any [12],.sort] (.d (show decide ((x.n.length:Int)<((K_ nodC x.n).length:Int))=false by (simp;done)))
theorem cblk_l (x:Blc) (sm:x.Sz):VT N_ (fnC Tryz.f51 [1,1,0,1,0]) (cblk_l_I x 0) (.exit 0) (cblk_l_Z x) :=
 VT.loop (fun k=>cblk_l_I x k) (x.n.length) (fun k hk=>cblk_l_s x sm k hk) (cblk_l_e x sm) (by intro h;cases h)
theorem cblk_y (x:Blc) (sm:x.Sz) (h:x.n≠[]):VC N_ 51 ([blc x]) (blc x):=by
 obtain ⟨q1,q2,q3,q4⟩:=id sm
 have q5:K_ nodC x.n≠[]:=by simpa using h
 have oz0:=(show VM N_ 71 [AV.sl 19 (K_ nodC x.n)] [] (AV.own 7) [(7,Blk.slc 43 19 ([]++K_ nodC x.n))] from (show VM N_ 71 ([AV.sl 19 (K_ nodC x.n)]) ([]) (AV.own 7) ([(7,Blk.slc 43 19 ([]++K_ nodC x.n))]) from mR_ [r_,r_,d_,r_] [GI.sort] _ Tryz.func71 (.d4 (show K_ nodC x.n≠[] from q5) (show false=false from (by with_reducible rfl)) (show (0+(K_ nodC x.n).length)*168≤140737488355328 from (by (simp;omega))) (show 0+(K_ nodC x.n).length≤9223372036854775807 from (by (simp;omega))))))
 have oz1:=(M_ (k:=.i64) (show (((([]++K_ nodC x.n).length:Int)):Int)=(((K_ nodC x.n).length:Int)) from (by (simp;done))))
 have oz5:=@cblk_l (x) sm
 have oz6:=@chead_v (x.w) (x.b) (x.nd) q3 q4
 exact cR_ [r_,.r [] [.callm [] [(7,20000)] (rM oz0) (oM oz0)],r_,.code [.any [0,6,7,8],.ren 20000 900,.weak 10 (wO oz1),.weak 11 (i64 (↑0:Int)),.blk 2 (Blk.var [AV.any,AV.any,AV.any,AV.any,AV.any]),.blk 900 (Blk.slc 43 19 (K_ nodC x.n)),.sort] (AI_ 0) (zO oz5),.r [] [cr oz6]] _ Tryz.func51 (.d7 oz0 oz1 w0_ (show BlkW (Blk.var [AV.lit (AC_ none (0:Nat) (0:Nat)),bv false,AV.lit (AC_ none (0:Nat) (0:Nat)),AV.lit (AC_ none (0:Nat) (0:Nat)),i32 (0:Int)]) (Blk.var [AV.any,AV.any,AV.any,AV.any,AV.any]) from (BlkW.var (m:=[AV.any,AV.any,AV.any,AV.any,AV.any]) (.cons (Weak.any _) (.cons (Weak.any _) (.cons (Weak.any _) (.cons (Weak.any _) (.cons (Weak.any _) .nil))))))) (show BlkW (Blk.slc 43 19 ([]++K_ nodC x.n)) (Blk.slc 43 19 (K_ nodC x.n)) from (BZ_ (e:=43) (z:=19) (rows_to (nodC) (r:=[]++K_ nodC x.n) (l:=[]++x.n) (m:=x.n) (by first|(simp only[X_,Z_,AL_,AM_,V_,D_,AK_];done)|rfl|(simp only[X_,Z_,AL_,AM_,V_,D_,AK_];rfl)|(simp only[X_,Z_,AL_,AM_,V_,D_,AK_,nodC,ints];done)) (show ([]++x.n)=(x.n) from (by (simp;done)))))) oz5 oz6)
noncomputable def cblk_z_I (ex:Bool) (w b:List Int) (nd:Int) (k:Nat):VS:=stt 38 [(1,.ptr 1 0 0),(2,.ptr 2 0 0),(3,.sl 19 []),(9,.sl 19 []),(10,i64 (0:Nat)),(11,i64 k)] [(1,.var [.sl 19 [],bv ex,ints .i8 w,ints .i32 b,i32 nd]),(2,.var [.any,.any,.any,.any,.any])]
noncomputable def cblk_z_Z (ex:Bool) (w b:List Int) (nd:Int):VS:=cblk_z_I ex w b nd (0)
theorem cblk_z_e (ex:Bool) (w b:List Int) (nd:Int)  : VT N_ (fnC Tryz.f51 [1,1,0,1,0,0]) (cblk_z_I ex w b nd (0)) (.exit 0) (cblk_z_Z ex w b nd):=by
 exact tR_ [r_,d_] [.any [12],.sort] (.d z1_)
theorem cblk_z (ex:Bool) (w b:List Int) (nd:Int)  : VT N_ (fnC Tryz.f51 [1,1,0,1,0]) (cblk_z_I ex w b nd 0) (.exit 0) (cblk_z_Z ex w b nd) :=
 VT.loop (fun k=>cblk_z_I ex w b nd k) (0) (fun k hk=>absurd hk (Nat.not_lt_zero k)) (cblk_z_e ex w b nd ) (by intro h;cases h)
theorem cblk_0 (ex:Bool) (w b:List Int) (nd:Int) (wl:w.length≤100000) (bl:b.length≤100000):VC N_ 51 ([.agg [.sl 19 [],bv ex,ints .i8 w,ints .i32 b,i32 nd]]) (.agg [.sl 19 [],bv ex,ints .i8 w,ints .i32 b,i32 nd]):=by
 have oz0:=@cloneN_0
 have oz4:=@cblk_z (ex) (w) (b) (nd)
 have oz5:=@chead_v (w) (b) (nd) wl bl
 exact cR_ [r_,.r [] [cr oz0],r_,.code [.any [0,6,7,8],.weak 10 (i64 (↑0:Int)),.weak 11 (i64 (↑0:Int)),.blk 2 (Blk.var [AV.any,AV.any,AV.any,AV.any,AV.any]),.sort] (AI_ 0) (zO oz4),.r [] [cr oz5]] _ Tryz.func51 (.d6 oz0 (M_ (k:=.i64) (show (((↑0:Int)):Int)=((↑0:Int)) from (by (simp;done)))) w0_ (show BlkW (Blk.var [AV.lit (AC_ none (0:Nat) (0:Nat)),bv false,AV.lit (AC_ none (0:Nat) (0:Nat)),AV.lit (AC_ none (0:Nat) (0:Nat)),i32 (0:Int)]) (Blk.var [AV.any,AV.any,AV.any,AV.any,AV.any]) from (BlkW.var (m:=[AV.any,AV.any,AV.any,AV.any,AV.any]) (.cons (Weak.any _) (.cons (Weak.any _) (.cons (Weak.any _) (.cons (Weak.any _) (.cons (Weak.any _) .nil))))))) oz4 oz5)
theorem cblk_v (x:Blc) (sm:x.Sz):VC N_ 51 [blc x] (blc x):=by
 by_cases h:x.n=[]
 ·obtain ⟨n,ex,w,b,nd⟩:=x
  dsimp only at h;subst h
  exact cblk_0 ex w b nd sm.w sm.b
 ·exact cblk_y x sm h
noncomputable def copy_i_I (u:Bun) (I:Int) (l:List Blc) (k:Nat):VS:=stt 47 [(1,.ptr 1 0 0),(2,.ptr 2 0 0),(3,.own 900),(4,i64 I),(5,.ptr 5 0 0),(11,.own 900),(12,i64 (u.m.map mdlC).length),(13,i64 I),(26,.sl 5 (l.map blcC)),(27,i64 (l.map blcC).length),(28,i64 k)] [(1,.var (bunC u)),(2,.var [.any,.any,.any,.any,.any]),(5,.var [.any]),(900,.foc 49 1 (u.m.map mdlC) I.toNat [.own 901]),(901,.slc 54 5 (l.map blcC))]
noncomputable def copy_i_Z (u:Bun) (I:Int) (l:List Blc):VS:=copy_i_I u I l (l.length)
theorem copy_i_s (u:Bun) (I:Int) (l:List Blc) (sz:∀ x∈l,x.Sz) (hl:l.length≤1000) (h0:0≤I) (h1:I<u.m.length) (k:Nat) (hk:k<l.length):VT N_ (fnC Tryz.f29 [1,1,0,1,0,0,1,1,0,0,1,1,1,0,0]) (copy_i_I u I l k) .normal (copy_i_I u I l (k+1)):=by
 have q1:=getD_in sz hk
 have oz1:=(s_ (0≤(↑k:Int)))
 have oz2:=(map_at (blcC) (default) (l:=l) (i:=k) hk)
 have oz6:=@cblk_v (l.getD k default) q1
 exact tR_ [r_,b_,.r [] [.row (sO oz2)],.r [] [cr oz6,.nat 0],.r [] [.n ((↑k:Int)+1)]] [.any (rg [(6,2),(29,14)]),.drop [7],.weak 28 (i64 (↑(k+1):Int)),.blk 901 (Blk.slc 54 5 (K_ blcC l)),.sort] (.c8 (show decide ((↑k:Int)<((K_ blcC l).length:Int))=true by (simp;omega)) oz1 oz2 h0 (show I<((K_ mdlC u.m).length:Int) by (simp;omega)) (show I.toNat=I.toNat by with_reducible rfl) oz6 oz1<|.d5 (show (↑k:Int)<((K_ blcC l).length:Int) by (simp;omega)) (show (↑k:Int).toNat<(K_ blcC l).length by (simp;omega)) (i6n ((↑k:Int)+1) (by (try dsimp only)<;>omega)) (M_ (k:=.i64) (show (((↑k:Int)+1):Int)=((↑(k+1):Int)) from (by (try dsimp only)<;>omega))) (show BlkW (Blk.slc 54 5 ((K_ blcC l).set (↑k:Int).toNat [AV.sl 19 (K_ nodC (l.getD k default).n),bv (l.getD k default).ex,AV.sl 1 (K_ (row1 .i8) (l.getD k default).w),AV.sl 1 (K_ (row1 .i32) (l.getD k default).b),i32 (l.getD k default).nd])) (Blk.slc 54 5 (K_ blcC l)) from (BZ_ (e:=54) (z:=5) (rows_to (blcC) (r:=(K_ blcC l).set (↑k:Int).toNat [AV.sl 19 (K_ nodC (l.getD k default).n),bv (l.getD k default).ex,AV.sl 1 (K_ (row1 .i8) (l.getD k default).w),AV.sl 1 (K_ (row1 .i32) (l.getD k default).b),i32 (l.getD k default).nd]) (l:=l.set (↑k:Int).toNat (Blc.mk (l.getD k default).n (l.getD k default).ex (l.getD k default).w (l.getD k default).b (l.getD k default).nd)) (m:=l) (by first|(simp only[X_,Z_,AL_,AM_,V_,D_,AK_];done)|rfl|(simp only[X_,Z_,AL_,AM_,V_,D_,AK_];rfl)|(simp only[X_,Z_,AL_,AM_,V_,D_,AK_,blcC,ints];done)) (show (l.set (↑k:Int).toNat (Blc.mk (l.getD k default).n (l.getD k default).ex (l.getD k default).w (l.getD k default).b (l.getD k default).nd))=(l) from (by (exact set_same hk)))))))
theorem copy_i_e (u:Bun) (I:Int) (l:List Blc) (sz:∀ x∈l,x.Sz) (hl:l.length≤1000) (h0:0≤I) (h1:I<u.m.length):VT N_ (fnC Tryz.f29 [1,1,0,1,0,0,1,1,0,0,1,1,1,0,0]) (copy_i_I u I l (l.length)) (.exit 2) (copy_i_Z u I l):=by
 exact tR_ [r_,d_] [.any [29],.sort] (.d (show decide ((l.length:Int)<((K_ blcC l).length:Int))=false by (simp;done)))
theorem copy_i (u:Bun) (I:Int) (l:List Blc) (sz:∀ x∈l,x.Sz) (hl:l.length≤1000) (h0:0≤I) (h1:I<u.m.length):VT N_ (fnC Tryz.f29 [1,1,0,1,0,0,1,1,0,0,1,1,1,0]) (copy_i_I u I l 0) (.exit 2) (copy_i_Z u I l) :=
 VT.loop (fun k=>copy_i_I u I l k) (l.length) (fun k hk=>copy_i_s u I l sz hl h0 h1 k hk) (copy_i_e u I l sz hl h0 h1) (by intro h;cases h)
theorem set_mdl {l:List Mdl} {k:Nat} (h:k<l.length):l.set (k:Int).toNat ⟨(l.getD k default).l⟩=l:=by rw[AF_];exact set_same h
noncomputable def copy_o_I (u:Bun) (k:Nat):VS:=stt 47 [(1,.ptr 1 0 0),(2,.ptr 2 0 0),(3,.own 900),(11,.own 900),(12,i64 (u.m.map mdlC).length),(13,i64 k)] [(1,.var (bunC u)),(2,.var [.any,.any,.any,.any,.any]),(900,.slc 49 1 (u.m.map mdlC))]
noncomputable def copy_o_Z (u:Bun):VS:=copy_o_I u (u.m.length)
theorem copy_o_s (u:Bun) (sz:u.Sz) (hne:∀ m∈u.m,m.l≠[]) (k:Nat) (hk:k<u.m.length):VT N_ (fnC Tryz.f29 [1,1,0,1,0,0]) (copy_o_I u k) .normal (copy_o_I u (k+1)):=by
 have q1:=sz.l
 have q2:=(getD_in sz.b hk).l
 have q3:=(getD_in sz.b hk).b
 have q4:K_ blcC (u.m.getD k default).l≠[]:=by simpa using getD_in hne hk
 have oz1:=(s_ (0≤(↑k:Int)))
 have oz2:=(show (↑k:Int)<((K_ mdlC u.m).length:Int) by (simp;omega))
 have oz3:=(map_at (mdlC) (default) (l:=u.m) (i:=k) hk)
 have oz4:=(show VM N_ 50 [AV.sl 5 (K_ blcC (u.m.getD k default).l)] [] (AV.own 7) [(7,Blk.slc 54 5 ([]++K_ blcC (u.m.getD k default).l))] from (show VM N_ 50 ([AV.sl 5 (K_ blcC (u.m.getD k default).l)]) ([]) (AV.own 7) ([(7,Blk.slc 54 5 ([]++K_ blcC (u.m.getD k default).l))]) from mR_ [r_,r_,d_,r_] [GI.sort] _ Tryz.func50 (.d4 (show K_ blcC (u.m.getD k default).l≠[] from q4) (show false=false from (by with_reducible rfl)) (show (0+(K_ blcC (u.m.getD k default).l).length)*88≤140737488355328 from (by (simp only[Q_] at *;omega))) (show 0+(K_ blcC (u.m.getD k default).l).length≤9223372036854775807 from (by (simp only[Q_] at *;omega))))))
 have oz11:=@copy_i (u) ((↑k:Int)) ((u.m.getD k default).l) q3 q2 (by omega) (by omega)
 exact tR_ [r_,b_,.r [] [.row (sO oz3)],.r [] [.callm [] [(7,20000)] (rM oz4) (oM oz4),.nat 0],r_,.code [.any (rg [(14,12)]),.ren 20000 901,.weak 28 (i64 (↑0:Int)),.blk 5 (Blk.var [AV.any]),.blk 901 (Blk.slc 54 5 (K_ blcC (u.m.getD k default).l)),.sort] (AI_ 2) (zO oz11),.r [] [.n ((↑k:Int)+1)]] [.frz 901,.unf 900,.any [4,5,26,27,28,43],.drop [5],.weak 13 (i64 (↑(k+1):Int)),.blk 900 (Blk.slc 49 1 (K_ mdlC u.m)),.sort] (.c8 (show decide ((↑k:Int)<((K_ mdlC u.m).length:Int))=true by (simp;omega)) oz1 oz2 oz3 oz4 oz1 oz2 (show (↑k:Int).toNat<(K_ mdlC u.m).length by (simp;omega))<|.d7 (M_ (k:=.i64) (show ((0):Int)=((↑0:Int)) from (by (try dsimp only)<;>omega))) (show BlkW (Blk.var [AV.sl 5 (K_ blcC (u.m.getD k default).l)]) (Blk.var [AV.any]) from (BlkW.var (m:=[AV.any]) (.cons (Weak.any _) .nil))) (show BlkW (Blk.slc 54 5 ([]++K_ blcC (u.m.getD k default).l)) (Blk.slc 54 5 (K_ blcC (u.m.getD k default).l)) from (BZ_ (e:=54) (z:=5) (rows_to (blcC) (r:=[]++K_ blcC (u.m.getD k default).l) (l:=[]++(u.m.getD k default).l) (m:=(u.m.getD k default).l) (by first|(simp only[X_,Z_,AL_,AM_,V_,D_,AK_];done)|rfl|(simp only[X_,Z_,AL_,AM_,V_,D_,AK_];rfl)|(simp only[X_,Z_,AL_,AM_,V_,D_,AK_,blcC,ints];done)) (show ([]++(u.m.getD k default).l)=((u.m.getD k default).l) from (by (simp;done)))))) oz11 (i6n ((↑k:Int)+1) (by (try dsimp only)<;>omega)) (M_ (k:=.i64) (show (((↑k:Int)+1):Int)=((↑(k+1):Int)) from (by (try dsimp only)<;>omega))) (show BlkW (Blk.slc 49 1 ((K_ mdlC u.m).set (↑k:Int).toNat [AV.sl 5 (K_ blcC (u.m.getD k default).l)])) (Blk.slc 49 1 (K_ mdlC u.m)) from (BZ_ (e:=49) (z:=1) (rows_to (mdlC) (r:=(K_ mdlC u.m).set (↑k:Int).toNat [AV.sl 5 (K_ blcC (u.m.getD k default).l)]) (l:=u.m.set (↑k:Int).toNat (Mdl.mk (u.m.getD k default).l)) (m:=u.m) (by first|(simp only[X_,Z_,AL_,AM_,V_,D_,AK_];done)|rfl|(simp only[X_,Z_,AL_,AM_,V_,D_,AK_];rfl)|(simp only[X_,Z_,AL_,AM_,V_,D_,AK_,mdlC,ints];done)) (show (u.m.set (↑k:Int).toNat (Mdl.mk (u.m.getD k default).l))=(u.m) from (by (exact set_mdl hk)))))))
theorem copy_o_e (u:Bun) (sz:u.Sz) (hne:∀ m∈u.m,m.l≠[]):VT N_ (fnC Tryz.f29 [1,1,0,1,0,0]) (copy_o_I u (u.m.length)) (.exit 0) (copy_o_Z u):=by
 exact tR_ [r_,d_] [.any [14],.sort] (.d (show decide ((u.m.length:Int)<((K_ mdlC u.m).length:Int))=false by (simp;done)))
theorem copy_o (u:Bun) (sz:u.Sz) (hne:∀ m∈u.m,m.l≠[]):VT N_ (fnC Tryz.f29 [1,1,0,1,0]) (copy_o_I u 0) (.exit 0) (copy_o_Z u) :=
 VT.loop (fun k=>copy_o_I u k) (u.m.length) (fun k hk=>copy_o_s u sz hne k hk) (copy_o_e u sz hne) (by intro h;cases h)
theorem copy_y (u:Bun) (sz:u.Sz) (hne:∀ m∈u.m,m.l≠[]) (hm:u.m≠[]):VC N_ 29 ([bun u]) (bun u):=by
 have q1:=sz.l
 have q2:K_ mdlC u.m≠[]:=by simpa using hm
 have oz0:=(show VM N_ 49 [AV.sl 1 (K_ mdlC u.m)] [] (AV.own 7) [(7,Blk.slc 49 1 ([]++K_ mdlC u.m))] from (show VM N_ 49 ([AV.sl 1 (K_ mdlC u.m)]) ([]) (AV.own 7) ([(7,Blk.slc 49 1 ([]++K_ mdlC u.m))]) from mR_ [r_,r_,d_,r_] [GI.sort] _ Tryz.func49 (.d4 (show K_ mdlC u.m≠[] from q2) (show false=false from (by with_reducible rfl)) (show (0+(K_ mdlC u.m).length)*24≤140737488355328 from (by (simp;omega))) (show 0+(K_ mdlC u.m).length≤9223372036854775807 from (by (simp;omega))))))
 have oz1:=(M_ (k:=.i64) (show (((([]++K_ mdlC u.m).length:Int)):Int)=(((K_ mdlC u.m).length:Int)) from (by (simp;done))))
 have oz5:=@copy_o (u) sz hne
 exact cR_ [r_,.r [] [.callm [] [(7,20000)] (rM oz0) (oM oz0)],r_,.code [.any [0,8,9,10],.ren 20000 900,.weak 12 (wO oz1),.weak 13 (i64 (↑0:Int)),.blk 2 (Blk.var [AV.any,AV.any,AV.any,AV.any,AV.any]),.blk 900 (Blk.slc 49 1 (K_ mdlC u.m)),.sort] (AI_ 0) (zO oz5),r_,r_] _ Tryz.func29 (.d6 oz0 oz1 w0_ (show BlkW (Blk.var [i64 (0:Int),i64 (0:Int),i64 (0:Int),i64 (0:Int),AV.lit (AC_ none (0:Nat) (0:Nat))]) (Blk.var [AV.any,AV.any,AV.any,AV.any,AV.any]) from (BlkW.var (m:=[AV.any,AV.any,AV.any,AV.any,AV.any]) (.cons (Weak.any _) (.cons (Weak.any _) (.cons (Weak.any _) (.cons (Weak.any _) (.cons (Weak.any _) .nil))))))) (show BlkW (Blk.slc 49 1 ([]++K_ mdlC u.m)) (Blk.slc 49 1 (K_ mdlC u.m)) from (BZ_ (e:=49) (z:=1) (rows_to (mdlC) (r:=[]++K_ mdlC u.m) (l:=[]++u.m) (m:=u.m) (by first|(simp only[X_,Z_,AL_,AM_,V_,D_,AK_];done)|rfl|(simp only[X_,Z_,AL_,AM_,V_,D_,AK_];rfl)|(simp only[X_,Z_,AL_,AM_,V_,D_,AK_,mdlC,ints];done)) (show ([]++u.m)=(u.m) from (by (simp;done)))))) oz5)
end Go.Proofs.YtdmkhinckljddaaGreatDoor
