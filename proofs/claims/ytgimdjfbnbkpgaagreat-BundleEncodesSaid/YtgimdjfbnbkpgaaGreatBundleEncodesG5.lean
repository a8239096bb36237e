/- A part of this claim. No condition. -/
import Derived.Test.YtgimdjfbnbkpgaaGreatBundleEncodesG4
set_option maxRecDepth 100000
set_option maxHeartbeats 2000000
set_option linter.unusedVariables false
set_option linter.unusedSimpArgs false
set_option linter.unnecessarySimpa false
namespace Go.Proofs.YtgimdjfbnbkpgaaGreat
open Go.RowKit
open BlkW renaming rows→AG_
open Bool renaming and_eq_true→P_,and_eq_false_iff→S_,or_eq_false_iff→T_,not_eq_false'→U_,not_eq_true'→W_,or_eq_true→Z_,and_true→C_,false_and→AE_,not_false→BN_,true_and→BO_,and_false→BP_,not_true→BQ_,false_or→BR_,false_eq_true→BA_,or_false→BC_,true_eq_false→CE_,or_true→DM_
open Exit renaming exit→AF_,ret→CA_
open Int renaming reduceEq→BH_,not_lt→CL_,natCast_nonpos_iff→CS_,mul_nonneg→CC_
open IntKind renaming i64→Q_
open List renaming map→K_,length_map→N_,length_append→O_,map_replicate→X_,map_append→A_,map_cons→D_,getElem?_eq_getElem→AL_,map_take→AM_,map_drop→AN_,map_nil→AO_,map_set→AP_,getD_eq_getElem?_getD→AU_,length_cons→AC_,length_nil→BB_,length_eq_zero_iff→CQ_,getElem_mem→CY_,all_eq_true→CZ_
open Nat renaming le_refl→AX_,zero_le→CG_
open Tryz renaming prog→L_
open Value renaming int→AQ_,slice→AY_,bool→BS_,agg→BI_
open Weak renaming int→R_,bool→AZ_,tup→AA_,agg→AD_,nil→CK_,rows→CP_
open WeakL renaming refl→B_
theorem more1 (n:Nod) (h:n.kd=1):n=(⟨n.kd,n.na,0,n.nk,n.ns,n.np,n.no,n.za,0,n.w,n.b,n.qm,n.qs,n.qz,0,0,0,n.lo,n.hi⟩:Nod)↔moreE n=false:=by
 unfold moreE scaledB
 cases n
 simp only at h
 subst h
 simp only[Nod.mk.injEq,true_and,and_true,T_,S_,G_,beq_self_eq_true,Bool.true_or,DM_,BQ_,AE_,BC_,BP_,true_or,or_true,and_self,Bool.or_self,BR_,U_,F_,Int.reduceBEq,Int.reduceBNe,BH_,BN_,BO_,C_,false_or,or_false,CL_,gt_iff_lt,BA_,CE_,CS_,CQ_]
 first|done|(constructor<;>intro h<;>simp_all)|omega
theorem more2 (n:Nod) (h:n.kd=2):n=(⟨n.kd,n.na,0,n.nk,n.ns,n.np,0,n.za,0,n.w,n.b,n.qm,n.qs,n.qz,0,0,0,n.lo,n.hi⟩:Nod)↔moreE n=false:=by
 unfold moreE scaledB
 cases n
 simp only at h
 subst h
 simp only[Nod.mk.injEq,true_and,and_true,T_,S_,G_,beq_self_eq_true,Bool.true_or,DM_,BQ_,AE_,BC_,BP_,true_or,or_true,and_self,Bool.or_self,BR_,U_,F_,Int.reduceBEq,Int.reduceBNe,BH_,BN_,BO_,C_,false_or,or_false,CL_,gt_iff_lt,BA_,CE_,CS_,CQ_]
 first|done|(constructor<;>intro h<;>simp_all)|omega
theorem more3 (n:Nod) (h:n.kd=3):n=(⟨n.kd,n.na,0,0,0,0,n.no,n.za,0,n.w,n.b,n.qm,n.qs,n.qz,0,0,0,n.lo,n.hi⟩:Nod)↔moreE n=false:=by
 unfold moreE scaledB
 cases n
 simp only at h
 subst h
 simp only[Nod.mk.injEq,true_and,and_true,T_,S_,G_,beq_self_eq_true,Bool.true_or,DM_,BQ_,AE_,BC_,BP_,true_or,or_true,and_self,Bool.or_self,BR_,U_,F_,Int.reduceBEq,Int.reduceBNe,BH_,BN_,BO_,C_,false_or,or_false,CL_,gt_iff_lt,BA_,CE_,CS_,CQ_]
 first|done|(constructor<;>intro h<;>simp_all)|omega
theorem more4 (n:Nod) (h:n.kd=4):n=(⟨n.kd,n.na,0,n.nk,n.ns,n.np,0,0,0,[],[],0,0,0,0,0,0,0,0⟩:Nod)↔moreE n=false:=by
 unfold moreE scaledB
 cases n
 simp only at h
 subst h
 simp only[Nod.mk.injEq,true_and,and_true,T_,S_,G_,beq_self_eq_true,Bool.true_or,DM_,BQ_,AE_,BC_,BP_,true_or,or_true,and_self,Bool.or_self,BR_,U_,F_,Int.reduceBEq,Int.reduceBNe,BH_,BN_,BO_,C_,false_or,or_false,CL_,gt_iff_lt,BA_,CE_,CS_,CQ_]
 first|done|(constructor<;>intro h<;>simp_all)|omega
theorem more5 (n:Nod) (h:n.kd=5):n=(⟨n.kd,n.na,0,n.nk,n.ns,n.np,0,0,0,[],[],0,0,0,0,0,0,0,0⟩:Nod)↔moreE n=false:=by
 unfold moreE scaledB
 cases n
 simp only at h
 subst h
 simp only[Nod.mk.injEq,true_and,and_true,T_,S_,G_,beq_self_eq_true,Bool.true_or,DM_,BQ_,AE_,BC_,BP_,true_or,or_true,and_self,Bool.or_self,BR_,U_,F_,Int.reduceBEq,Int.reduceBNe,BH_,BN_,BO_,C_,false_or,or_false,CL_,gt_iff_lt,BA_,CE_,CS_,CQ_]
 first|done|(constructor<;>intro h<;>simp_all)|omega
theorem more6 (n:Nod) (h:n.kd=6):n=(⟨n.kd,n.na,n.nb,0,0,0,0,n.za,n.zb,[],[],n.qm,n.qs,n.qz,n.rm,n.rs,0,n.lo,n.hi⟩:Nod)↔moreE n=false:=by
 unfold moreE scaledB
 cases n
 simp only at h
 subst h
 simp only[Nod.mk.injEq,true_and,and_true,T_,S_,G_,beq_self_eq_true,Bool.true_or,DM_,BQ_,AE_,BC_,BP_,true_or,or_true,and_self,Bool.or_self,BR_,U_,F_,Int.reduceBEq,Int.reduceBNe,BH_,BN_,BO_,C_,false_or,or_false,CL_,gt_iff_lt,BA_,CE_,CS_,CQ_]
 first|done|(constructor<;>intro h<;>simp_all)|omega
theorem more7 (n:Nod) (h:n.kd=7):n=(⟨n.kd,n.na,0,0,0,0,0,n.za,0,[],[],n.qm,n.qs,n.qz,0,0,0,n.lo,n.hi⟩:Nod)↔moreE n=false:=by
 unfold moreE scaledB
 cases n
 simp only at h
 subst h
 simp only[Nod.mk.injEq,true_and,and_true,T_,S_,G_,beq_self_eq_true,Bool.true_or,DM_,BQ_,AE_,BC_,BP_,true_or,or_true,and_self,Bool.or_self,BR_,U_,F_,Int.reduceBEq,Int.reduceBNe,BH_,BN_,BO_,C_,false_or,or_false,CL_,gt_iff_lt,BA_,CE_,CS_,CQ_]
 first|done|(constructor<;>intro h<;>simp_all)|omega
theorem more8 (n:Nod) (h:n.kd=8):n=(⟨n.kd,n.na,0,0,0,n.np,0,n.za,0,[],[],0,0,0,0,0,0,0,0⟩:Nod)↔moreE n=false:=by
 unfold moreE scaledB
 cases n
 simp only at h
 subst h
 simp only[Nod.mk.injEq,true_and,and_true,T_,S_,G_,beq_self_eq_true,Bool.true_or,DM_,BQ_,AE_,BC_,BP_,true_or,or_true,and_self,Bool.or_self,BR_,U_,F_,Int.reduceBEq,Int.reduceBNe,BH_,BN_,BO_,C_,false_or,or_false,CL_,gt_iff_lt,BA_,CE_,CS_,CQ_]
 first|done|(constructor<;>intro h<;>simp_all)|omega
theorem more9 (n:Nod) (h:n.kd=9):n=(⟨n.kd,n.na,0,0,0,0,0,0,0,[],[],0,0,0,0,0,0,0,0⟩:Nod)↔moreE n=false:=by
 unfold moreE scaledB
 cases n
 simp only at h
 subst h
 simp only[Nod.mk.injEq,true_and,and_true,T_,S_,G_,beq_self_eq_true,Bool.true_or,DM_,BQ_,AE_,BC_,BP_,true_or,or_true,and_self,Bool.or_self,BR_,U_,F_,Int.reduceBEq,Int.reduceBNe,BH_,BN_,BO_,C_,false_or,or_false,CL_,gt_iff_lt,BA_,CE_,CS_,CQ_]
 first|done|(constructor<;>intro h<;>simp_all)|omega
theorem more_iff (n:Nod) (h0:1≤n.kd) (h9:n.kd≤9):nodEq n (plainN n) = !moreE n:=by
 have:n.kd=1∨n.kd=2∨n.kd=3∨n.kd=4∨n.kd=5∨n.kd=6∨n.kd=7∨n.kd=8∨n.kd=9:=by omega
 have key:n=plainN n↔moreE n=false:=by
  unfold plainN
  rcases this with h|h|h|h|h|h|h|h|h
  ·have e:=more1 n h;simp only[h,BH_,if_true,if_false] at e ⊢;exact e
  ·have e:=more2 n h;simp only[h,BH_,if_true,if_false] at e ⊢;exact e
  ·have e:=more3 n h;simp only[h,BH_,if_true,if_false] at e ⊢;exact e
  ·have e:=more4 n h;simp only[h,BH_,if_true,if_false] at e ⊢;exact e
  ·have e:=more5 n h;simp only[h,BH_,if_true,if_false] at e ⊢;exact e
  ·have e:=more6 n h;simp only[h,BH_,if_true,if_false] at e ⊢;exact e
  ·have e:=more7 n h;simp only[h,BH_,if_true,if_false] at e ⊢;exact e
  ·have e:=more8 n h;simp only[h,BH_,if_true,if_false] at e ⊢;exact e
  ·have e:=more9 n h;simp only[h,BH_,if_true,if_false] at e ⊢;exact e
 rw[Bool.eq_iff_iff,nodEq_iff,key,W_]
theorem ck_eq {n:Nod} (h0:1≤n.kd) (h9:n.kd≤9):checkE n=if moreE n=true then 2 else if (((n.kd==1 || n.kd==2 || n.kd==3 || n.kd==6 || n.kd==7) && !rightQ n.qm n.qs) || (n.kd==6 && !rightQ n.rm n.rs))=true then 7 else if ((n.kd==1 || n.kd==2 || n.kd==3 || n.kd==6 || n.kd==7)&&decide (n.lo>n.hi))=true then 2 else 0:=by
 unfold checkE;rw[j_ (by omega)];rfl
theorem ck2 {n:Nod} (h0:1≤n.kd) (h9:n.kd≤9) (h:moreE n=true):2=checkE n:=by rw[ck_eq h0 h9,i_ h]
theorem ck7 {n:Nod} (h0:1≤n.kd) (h9:n.kd≤9) (h:moreE n=false) (q:(((n.kd==1 || n.kd==2 || n.kd==3 || n.kd==6 || n.kd==7) && !rightQ n.qm n.qs) || (n.kd==6 && !rightQ n.rm n.rs))=true):7=checkE n:=by rw[ck_eq h0 h9,j_ (by simp[h]),i_ q]
theorem ck2b {n:Nod} (h0:1≤n.kd) (h9:n.kd≤9) (h:moreE n=false) (q:(((n.kd==1 || n.kd==2 || n.kd==3 || n.kd==6 || n.kd==7) && !rightQ n.qm n.qs) || (n.kd==6 && !rightQ n.rm n.rs))=false) (l:((n.kd==1 || n.kd==2 || n.kd==3 || n.kd==6 || n.kd==7)&&decide (n.lo>n.hi))=true):2=checkE n:=by rw[ck_eq h0 h9,j_ (by simp[h]),j_ (by rw[q];simp),i_ l]
theorem ck0 {n:Nod} (h0:1≤n.kd) (h9:n.kd≤9) (h:moreE n=false) (q:(((n.kd==1 || n.kd==2 || n.kd==3 || n.kd==6 || n.kd==7) && !rightQ n.qm n.qs) || (n.kd==6 && !rightQ n.rm n.rs))=false) (l:((n.kd==1 || n.kd==2 || n.kd==3 || n.kd==6 || n.kd==7)&&decide (n.lo>n.hi))=false):0=checkE n:=by rw[ck_eq h0 h9,j_ (by simp[h]),j_ (by rw[q];simp),j_ (by rw[l];simp)]
theorem nq {n:Nod} {b:Bool} (h2:nodEq n (plainN n) = !moreE n) (h:(!nodEq n (plainN n))=b):moreE n=b:=by rw[←h,h2,Bool.not_not]
theorem orf {a b:Bool} (h:a=false) (h':b=false):(a || b)=false:=by rw[h,h'];rfl
theorem orl {a b:Bool} (h:a=true):(a || b)=true:=by rw[h];rfl
theorem orr {a b:Bool} (h:b=true):(a || b)=true:=by rw[h,DM_]
theorem refCheck_n (n:Nod) (hk:In64 n.kd) (hn:n.kd<1∨9<n.kd):VC L_ 72 ([nod n]) (i64 (checkE n)):=by
 have h2:=nameEq_out hn
 have oz0:=@refName_v (n.kd) hk
 exact (VC.run (fn:=Tryz.f72) (W:=[r_,.r [] [.callr (rO oz0)],b_,r_]) (r:=i64 6) Tryz.func72 (by kernel_rfl) (.c oz0<|.c h2<|.n)).to (by (simp only[checkE];rw[i_ hn]))
theorem refCheck_y (n:Nod) (hw:n.w.length≤100000) (hb:n.b.length≤100000) (hk:1≤n.kd) (hk9:n.kd≤9):VC L_ 72 ([nod n]) (i64 (checkE n)):=by
 have h1:=nameEq_in hk hk9
 have oz0:=@refName_v (n.kd) (by omega)
 have oz2:=@refMore_v (n) hw hb
 rcases bft (moreE n) with hc0|hc0
 ·have gc0:moreE n=true:=by first|exact hc0|exact of_decide_eq_true hc0|exact of_decide_eq_false hc0|simpa [eqNums] using hc0|(simp[eqNums] at hc0 ⊢;first|done|assumption|omega)
  exact (VC.run (fn:=Tryz.f72) (W:=[r_,.r [] [.callr (rO oz0)],d_,.r [] [.callr (rO oz2)],b_,r_]) (r:=i64 2) Tryz.func72 (by kernel_rfl) (.c oz0<|.c h1<|.c oz2<|.c hc0<|.n)).weak (B_ _) (R_ (by (exact ck2 hk hk9 (by assumption))))
 ·have gc0:moreE n=false:=by first|exact hc0|exact of_decide_eq_true hc0|exact of_decide_eq_false hc0|simpa [eqNums] using hc0|(simp[eqNums] at hc0 ⊢;first|done|assumption|omega)
  have oz4:=@refScaled_v (n.kd)
  have oz5:=@refRight_v (n.qm) (n.qs) (n.qz)
  have oz6:=@refRight_v (n.rm) (n.rs) (n.rz)
  rcases bft ((n.kd==1 || n.kd==2 || n.kd==3 || n.kd==6 || n.kd==7) && !rightQ n.qm n.qs || n.kd==6 && !rightQ n.rm n.rs) with hc1|hc1
  ·have gc1:((((n.kd=1∨n.kd=2)∨n.kd=3)∨n.kd=6)∨n.kd=7)∧rightQ n.qm n.qs=false∨n.kd=6∧rightQ n.rm n.rs=false:=by simp only[Z_,T_,P_,S_,W_,U_,E_,F_,I_,J_,ne_eq,H_,G_,eqNums,C_] at hc1;first|exact hc1|omega
   exact (VC.run (fn:=Tryz.f72) (W:=[r_,.r [] [.callr (rO oz0)],d_,.r [] [.callr (rO oz2)],d_,.r [] [.callr (rO oz4),o_,o_,o_,.callr (rO oz5),o_,.sel 2,o_,o_,o_,o_,o_,o_,o_,.callr (rO oz6),o_,o_,.sel 2,.sel 1],b_,r_]) (r:=i64 7) Tryz.func72 (by kernel_rfl) (.c oz0<|.c h1<|.c oz2<|.c hc0<|.c oz4<|.c oz5<|.c oz6<|.c hc1<|.n)).weak (B_ _) (R_ (by (exact ck7 hk hk9 (by assumption) (by assumption))))
  ·have gc1:((((¬n.kd=1∧¬n.kd=2)∧¬n.kd=3)∧¬n.kd=6)∧¬n.kd=7∨rightQ n.qm n.qs=true)∧(¬n.kd=6∨rightQ n.rm n.rs=true):=by simp only[Z_,T_,P_,S_,W_,U_,E_,F_,I_,J_,ne_eq,H_,G_,eqNums,C_] at hc1;first|exact hc1|omega
   rcases bft ((n.kd==1 || n.kd==2 || n.kd==3 || n.kd==6 || n.kd==7)&&decide (n.lo>n.hi)) with hc2|hc2
   ·have gc2:((((n.kd=1∨n.kd=2)∨n.kd=3)∨n.kd=6)∨n.kd=7)∧n.lo>n.hi:=by simp only[Z_,T_,P_,S_,W_,U_,E_,F_,I_,J_,ne_eq,H_,G_,eqNums,C_] at hc2;first|exact hc2|omega
    exact (VC.run (fn:=Tryz.f72) (W:=[r_,.r [] [.callr (rO oz0)],d_,.r [] [.callr (rO oz2)],d_,.r [] [.callr (rO oz4),o_,o_,o_,.callr (rO oz5),o_,.sel 2,o_,o_,o_,o_,o_,o_,o_,.callr (rO oz6),o_,o_,.sel 2,.sel 1],d_,.r [] [.callr (rO oz4),o_,o_,o_,o_,o_,.sel 2],b_,r_]) (r:=i64 2) Tryz.func72 (by kernel_rfl) (.c oz0<|.c h1<|.c oz2<|.c hc0<|.c oz4<|.c oz5<|.c oz6<|.c hc1<|.c oz4<|.c hc2<|.n)).weak (B_ _) (R_ (by (exact ck2b hk hk9 (by assumption) (by assumption) (by assumption))))
   ·have gc2:(((¬n.kd=1∧¬n.kd=2)∧¬n.kd=3)∧¬n.kd=6)∧¬n.kd=7∨¬n.lo>n.hi:=by simp only[Z_,T_,P_,S_,W_,U_,E_,F_,I_,J_,ne_eq,H_,G_,eqNums,C_] at hc2;first|exact hc2|omega
    exact (VC.run (fn:=Tryz.f72) (W:=[r_,.r [] [.callr (rO oz0)],d_,.r [] [.callr (rO oz2)],d_,.r [] [.callr (rO oz4),o_,o_,o_,.callr (rO oz5),o_,.sel 2,o_,o_,o_,o_,o_,o_,o_,.callr (rO oz6),o_,o_,.sel 2,.sel 1],d_,.r [] [.callr (rO oz4),o_,o_,o_,o_,o_,.sel 2],d_,r_]) (r:=i64 0) Tryz.func72 (by kernel_rfl) (.c oz0<|.c h1<|.c oz2<|.c hc0<|.c oz4<|.c oz5<|.c oz6<|.c hc1<|.c oz4<|.c hc2<|.n)).weak (B_ _) (R_ (by (exact ck0 hk hk9 (by assumption) (by assumption) (by assumption))))
theorem refCheck_v (n:Nod) (hw:n.w.length≤100000) (hb:n.b.length≤100000) (hk:In64 n.kd):VC L_ 72 [nod n] (i64 (checkE n)):=by
 by_cases h:n.kd<1∨9<n.kd
 ·exact refCheck_n n hk h
 ·exact refCheck_y n hw hb (by omega) (by omega)
theorem plain_v (n:Nod) (hw:n.w.length≤100000) (hb:n.b.length≤100000) (h0:1≤n.kd) (h9:n.kd≤9):VC L_ 195 [nod n] (nod (plainN n)):=by
 have:n.kd=1∨n.kd=2∨n.kd=3∨n.kd=4∨n.kd=5∨n.kd=6∨n.kd=7∨n.kd=8∨n.kd=9:=by omega
 unfold plainN
 rcases this with h|h|h|h|h|h|h|h|h
 ·have e:=plain1 n h hw hb;simp only[h,BH_,if_true,if_false] at e ⊢;exact e
 ·have e:=plain2 n h hw hb;simp only[h,BH_,if_true,if_false] at e ⊢;exact e
 ·have e:=plain3 n h hw hb;simp only[h,BH_,if_true,if_false] at e ⊢;exact e
 ·have e:=plain4 n h hw hb;simp only[h,BH_,if_true,if_false] at e ⊢;exact e
 ·have e:=plain5 n h hw hb;simp only[h,BH_,if_true,if_false] at e ⊢;exact e
 ·have e:=plain6 n h hw hb;simp only[h,BH_,if_true,if_false] at e ⊢;exact e
 ·have e:=plain7 n h hw hb;simp only[h,BH_,if_true,if_false] at e ⊢;exact e
 ·have e:=plain8 n h hw hb;simp only[h,BH_,if_true,if_false] at e ⊢;exact e
 ·have e:=plain9 n h hw hb;simp only[h,BH_,if_true,if_false] at e ⊢;exact e
theorem check_n (n:Nod) (hk:In64 n.kd) (hn:n.kd<1∨9<n.kd):VC L_ 166 ([nod n]) (i64 (checkE n)):=by
 have h2:=nameEq_out hn
 have oz0:=@name_v (n.kd) hk
 exact (VC.run (fn:=Tryz.f166) (W:=[r_,.r [] [.callr (rO oz0)],b_,r_]) (r:=i64 6) Tryz.func166 (by kernel_rfl) (.c oz0<|.c h2<|.n)).to (by (simp only[checkE];rw[i_ hn]))
theorem check_y (n:Nod) (hw:n.w.length≤100000) (hb:n.b.length≤100000) (hk:1≤n.kd) (hk9:n.kd≤9):VC L_ 166 ([nod n]) (i64 (checkE n)):=by
 have h1:=nameEq_in hk hk9
 have h2:=more_iff n hk hk9
 have oz0:=@name_v (n.kd) (by omega)
 have oz2:=@plain_v (n) hw hb hk hk9
 have oz3:=@same_v (n) (plainN n) hw hb
 rcases bft (!nodEq n (plainN n)) with hc0|hc0
 ·have gc0:nodEq n (plainN n)=false:=by first|exact hc0|exact of_decide_eq_true hc0|exact of_decide_eq_false hc0|simpa [eqNums] using hc0|(simp[eqNums] at hc0 ⊢;first|done|assumption|omega)
  exact (VC.run (fn:=Tryz.f166) (W:=[r_,.r [] [.callr (rO oz0)],d_,.r [] [.callr (rO oz2),.callr (rO oz3)],b_,r_]) (r:=i64 2) Tryz.func166 (by kernel_rfl) (.c oz0<|.c h1<|.c oz2<|.c oz3<|.c hc0<|.n)).weak (B_ _) (R_ (by (exact ck2 hk hk9 (nq h2 (by assumption)))))
 ·have gc0:nodEq n (plainN n)=true:=by first|exact hc0|exact of_decide_eq_true hc0|exact of_decide_eq_false hc0|simpa [eqNums] using hc0|(simp[eqNums] at hc0 ⊢;first|done|assumption|omega)
  have oz5:=@scaledK_v (n.kd)
  have oz6:=@right_v (n.qm) (n.qs) (n.qz)
  rcases bft ((n.kd==1 || n.kd==2 || n.kd==3 || n.kd==6 || n.kd==7) && !rightQ n.qm n.qs) with hc1|hc1
  ·have gc1:((((n.kd=1∨n.kd=2)∨n.kd=3)∨n.kd=6)∨n.kd=7)∧rightQ n.qm n.qs=false:=by simp only[Z_,T_,P_,S_,W_,U_,E_,F_,I_,J_,ne_eq,H_,G_,eqNums,C_] at hc1;first|exact hc1|omega
   exact (VC.run (fn:=Tryz.f166) (W:=[r_,.r [] [.callr (rO oz0)],d_,.r [] [.callr (rO oz2),.callr (rO oz3)],d_,.r [] [.callr (rO oz5),o_,o_,o_,.callr (rO oz6),o_,.sel 2],b_,b_,r_]) (r:=i64 7) Tryz.func166 (by kernel_rfl) (.c oz0<|.c h1<|.c oz2<|.c oz3<|.c hc0<|.c oz5<|.c oz6<|.c hc1<|.c hc1<|.n)).weak (B_ _) (R_ (by (exact ck7 hk hk9 (nq h2 (by assumption)) (orl (by assumption)))))
  ·have gc1:(((¬n.kd=1∧¬n.kd=2)∧¬n.kd=3)∧¬n.kd=6)∧¬n.kd=7∨rightQ n.qm n.qs=true:=by simp only[Z_,T_,P_,S_,W_,U_,E_,F_,I_,J_,ne_eq,H_,G_,eqNums,C_] at hc1;first|exact hc1|omega
   have oz8:=@right_v (n.rm) (n.rs) (n.rz)
   rcases bft (n.kd==6 && !rightQ n.rm n.rs) with hc2|hc2
   ·have gc2:n.kd=6∧rightQ n.rm n.rs=false:=by simp only[Z_,T_,P_,S_,W_,U_,E_,F_,I_,J_,ne_eq,H_,G_,eqNums,C_] at hc2;first|exact hc2|omega
    exact (VC.run (fn:=Tryz.f166) (W:=[r_,.r [] [.callr (rO oz0)],d_,.r [] [.callr (rO oz2),.callr (rO oz3)],d_,.r [] [.callr (rO oz5),o_,o_,o_,.callr (rO oz6),o_,.sel 2],d_,.r [] [o_,o_,o_,.callr (rO oz8),o_,.sel 2],b_,r_]) (r:=i64 7) Tryz.func166 (by kernel_rfl) (.c oz0<|.c h1<|.c oz2<|.c oz3<|.c hc0<|.c oz5<|.c oz6<|.c hc1<|.c oz8<|.c hc2<|.n)).weak (B_ _) (R_ (by (exact ck7 hk hk9 (nq h2 (by assumption)) (orr (by assumption)))))
   ·have gc2:¬n.kd=6∨rightQ n.rm n.rs=true:=by simp only[Z_,T_,P_,S_,W_,U_,E_,F_,I_,J_,ne_eq,H_,G_,eqNums,C_] at hc2;first|exact hc2|omega
    rcases bft ((n.kd==1 || n.kd==2 || n.kd==3 || n.kd==6 || n.kd==7)&&decide (n.lo>n.hi)) with hc3|hc3
    ·have gc3:((((n.kd=1∨n.kd=2)∨n.kd=3)∨n.kd=6)∨n.kd=7)∧n.lo>n.hi:=by simp only[Z_,T_,P_,S_,W_,U_,E_,F_,I_,J_,ne_eq,H_,G_,eqNums,C_] at hc3;first|exact hc3|omega
     exact (VC.run (fn:=Tryz.f166) (W:=[r_,.r [] [.callr (rO oz0)],d_,.r [] [.callr (rO oz2),.callr (rO oz3)],d_,.r [] [.callr (rO oz5),o_,o_,o_,.callr (rO oz6),o_,.sel 2],d_,.r [] [o_,o_,o_,.callr (rO oz8),o_,.sel 2],d_,.r [] [.callr (rO oz5),o_,o_,o_,o_,o_,.sel 2],b_,r_]) (r:=i64 2) Tryz.func166 (by kernel_rfl) (.c oz0<|.c h1<|.c oz2<|.c oz3<|.c hc0<|.c oz5<|.c oz6<|.c hc1<|.c oz8<|.c hc2<|.c oz5<|.c hc3<|.n)).weak (B_ _) (R_ (by (exact ck2b hk hk9 (nq h2 (by assumption)) (orf (by assumption) (by assumption)) (by assumption))))
    ·have gc3:(((¬n.kd=1∧¬n.kd=2)∧¬n.kd=3)∧¬n.kd=6)∧¬n.kd=7∨¬n.lo>n.hi:=by simp only[Z_,T_,P_,S_,W_,U_,E_,F_,I_,J_,ne_eq,H_,G_,eqNums,C_] at hc3;first|exact hc3|omega
     exact (VC.run (fn:=Tryz.f166) (W:=[r_,.r [] [.callr (rO oz0)],d_,.r [] [.callr (rO oz2),.callr (rO oz3)],d_,.r [] [.callr (rO oz5),o_,o_,o_,.callr (rO oz6),o_,.sel 2],d_,.r [] [o_,o_,o_,.callr (rO oz8),o_,.sel 2],d_,.r [] [.callr (rO oz5),o_,o_,o_,o_,o_,.sel 2],d_,r_]) (r:=i64 0) Tryz.func166 (by kernel_rfl) (.c oz0<|.c h1<|.c oz2<|.c oz3<|.c hc0<|.c oz5<|.c oz6<|.c hc1<|.c oz8<|.c hc2<|.c oz5<|.c hc3<|.n)).weak (B_ _) (R_ (by (exact ck0 hk hk9 (nq h2 (by assumption)) (orf (by assumption) (by assumption)) (by assumption))))
theorem check_v (n:Nod) (hw:n.w.length≤100000) (hb:n.b.length≤100000) (hk:In64 n.kd):VC L_ 166 [nod n] (i64 (checkE n)):=by
 by_cases h:n.kd<1∨9<n.kd
 ·exact check_n n hk h
 ·exact check_y n hw hb (by omega) (by omega)
def depthE (t:Shp) (n:Nod):Shp×Int :=
 if (slideE t n.nk n.ns n.np t.c).2≠0 then (⟨0,0,0⟩,(slideE t n.nk n.ns n.np t.c).2)
 else if (n.w.length:Int)≠t.c*n.nk*n.nk∨16384<(n.w.length:Int)∨(n.b.length:Int)≠t.c then (⟨0,0,0⟩,9) else ((slideE t n.nk n.ns n.np t.c).1,0)
theorem depthShape_v (t:Shp) (n:Nod) (ok:t.Ok) (okn:n.Ok):VC L_ 210 ([shp t,nod n]) (.tup [shp (depthE t n).1,i64 (depthE t n).2]):=by
 have q2:=ok.c
 have q3:=fun h=>wts_bd (t:=t) (k:=n.nk) (s:=n.ns) (p:=n.np) (o:=t.c) h
 have oz0:=@slide_v (t) (n.nk) (n.ns) (n.np) (t.c) ok q2
 rcases bft ((slideE t n.nk n.ns n.np t.c).snd != 0) with hc0|hc0
 ·have gc0:¬(slideE t n.nk n.ns n.np t.c).snd=0:=bdt hc0
  exact (VC.run (fn:=Tryz.f210) (W:=[r_,.r [] [.callr (rO oz0)],r_,b_,r_]) (r:=AV.tup [AV.agg [i64 0,i64 0,i64 0],i64 (slideE t n.nk n.ns n.np t.c).snd]) Tryz.func210 (by kernel_rfl) (.c oz0<|.c hc0<|.n)).to (by (simp only[depthE];rw[i_ (by omega)]))
 ·have gc0:(slideE t n.nk n.ns n.np t.c).snd=0:=bdf hc0
  have oz2:=(i6n (t.c*n.nk) (by omega))
  have oz3:=(i6n (t.c*n.nk*n.nk) (by omega))
  rcases bft (((K_ (row1 .i8) n.w).length:Int) != t.c*n.nk*n.nk || decide (((K_ (row1 .i8) n.w).length:Int)>16384) || ((K_ (row1 .i32) n.b).length:Int) != t.c) with hc1|hc1
  ·have gc1:(¬((K_ (row1 .i8) n.w).length:Int)=t.c*n.nk*n.nk∨((K_ (row1 .i8) n.w).length:Int)>16384)∨¬((K_ (row1 .i32) n.b).length:Int)=t.c:=by simp only[Z_,T_,P_,S_,W_,U_,E_,F_,I_,J_,ne_eq,H_,G_,eqNums,C_] at hc1;first|exact hc1|omega
   exact (VC.run (fn:=Tryz.f210) (W:=[r_,.r [] [.callr (rO oz0)],r_,d_,.r [] [.n (nO oz2),.n (nO oz3),o_,o_,o_,o_,.sel 1,o_,o_,o_,o_,o_,o_,.sel 1],b_,r_]) (r:=AV.tup [AV.agg [i64 0,i64 0,i64 0],i64 9]) Tryz.func210 (by kernel_rfl) (.c oz0<|.c hc0<|.c oz2<|.c oz3<|.c hc1<|.n)).to (by (simp only[depthE,N_] at *;rw[j_ (by omega),i_ (by omega)]))
  ·have gc1:(((K_ (row1 .i8) n.w).length:Int)=t.c*n.nk*n.nk∧¬((K_ (row1 .i8) n.w).length:Int)>16384)∧((K_ (row1 .i32) n.b).length:Int)=t.c:=by simp only[Z_,T_,P_,S_,W_,U_,E_,F_,I_,J_,ne_eq,H_,G_,eqNums,C_] at hc1;first|exact hc1|omega
   exact (VC.run (fn:=Tryz.f210) (W:=[r_,.r [] [.callr (rO oz0)],r_,d_,.r [] [.n (nO oz2),.n (nO oz3),o_,o_,o_,o_,.sel 1,o_,o_,o_,o_,o_,o_,.sel 1],d_,r_]) (r:=AV.tup [AV.agg [i64 (slideE t n.nk n.ns n.np t.c).fst.h,i64 (slideE t n.nk n.ns n.np t.c).fst.x,i64 (slideE t n.nk n.ns n.np t.c).fst.c],i64 0]) Tryz.func210 (by kernel_rfl) (.c oz0<|.c hc0<|.c oz2<|.c oz3<|.c hc1<|.n)).to (by (simp only[depthE,N_] at *;rw[j_ (by omega),j_ (by omega)]))
theorem refDepthShape_v (t:Shp) (n:Nod) (ok:t.Ok) (okn:n.Ok):VC L_ 110 ([shp t,nod n]) (.tup [shp (depthE t n).1,i64 (depthE t n).2]):=by
 have q2:=ok.c
 have q3:=fun h=>wts_bd (t:=t) (k:=n.nk) (s:=n.ns) (p:=n.np) (o:=t.c) h
 have oz0:=@refSlide_v (t) (n.nk) (n.ns) (n.np) (t.c) ok q2
 rcases bft ((slideE t n.nk n.ns n.np t.c).snd != 0) with hc0|hc0
 ·have gc0:¬(slideE t n.nk n.ns n.np t.c).snd=0:=bdt hc0
  exact (VC.run (fn:=Tryz.f110) (W:=[r_,.r [] [.callr (rO oz0)],r_,b_,r_]) (r:=AV.tup [AV.agg [i64 0,i64 0,i64 0],i64 (slideE t n.nk n.ns n.np t.c).snd]) Tryz.func110 (by kernel_rfl) (.c oz0<|.c hc0<|.n)).to (by (simp only[depthE];rw[i_ (by omega)]))
 ·have gc0:(slideE t n.nk n.ns n.np t.c).snd=0:=bdf hc0
  have oz2:=(i6n (t.c*n.nk) (by omega))
  have oz3:=(i6n (t.c*n.nk*n.nk) (by omega))
  rcases bft (((K_ (row1 .i8) n.w).length:Int) != t.c*n.nk*n.nk || decide (((K_ (row1 .i8) n.w).length:Int)>16384) || ((K_ (row1 .i32) n.b).length:Int) != t.c) with hc1|hc1
  ·have gc1:(¬((K_ (row1 .i8) n.w).length:Int)=t.c*n.nk*n.nk∨((K_ (row1 .i8) n.w).length:Int)>16384)∨¬((K_ (row1 .i32) n.b).length:Int)=t.c:=by simp only[Z_,T_,P_,S_,W_,U_,E_,F_,I_,J_,ne_eq,H_,G_,eqNums,C_] at hc1;first|exact hc1|omega
   exact (VC.run (fn:=Tryz.f110) (W:=[r_,.r [] [.callr (rO oz0)],r_,d_,.r [] [.n (nO oz2),.n (nO oz3),o_,o_,o_,o_,.sel 1,o_,o_,o_,o_,o_,o_,.sel 1],b_,r_]) (r:=AV.tup [AV.agg [i64 0,i64 0,i64 0],i64 9]) Tryz.func110 (by kernel_rfl) (.c oz0<|.c hc0<|.c oz2<|.c oz3<|.c hc1<|.n)).to (by (simp only[depthE,N_] at *;rw[j_ (by omega),i_ (by omega)]))
  ·have gc1:(((K_ (row1 .i8) n.w).length:Int)=t.c*n.nk*n.nk∧¬((K_ (row1 .i8) n.w).length:Int)>16384)∧((K_ (row1 .i32) n.b).length:Int)=t.c:=by simp only[Z_,T_,P_,S_,W_,U_,E_,F_,I_,J_,ne_eq,H_,G_,eqNums,C_] at hc1;first|exact hc1|omega
   exact (VC.run (fn:=Tryz.f110) (W:=[r_,.r [] [.callr (rO oz0)],r_,d_,.r [] [.n (nO oz2),.n (nO oz3),o_,o_,o_,o_,.sel 1,o_,o_,o_,o_,o_,o_,.sel 1],d_,r_]) (r:=AV.tup [AV.agg [i64 (slideE t n.nk n.ns n.np t.c).fst.h,i64 (slideE t n.nk n.ns n.np t.c).fst.x,i64 (slideE t n.nk n.ns n.np t.c).fst.c],i64 0]) Tryz.func110 (by kernel_rfl) (.c oz0<|.c hc0<|.c oz2<|.c oz3<|.c hc1<|.n)).to (by (simp only[depthE,N_] at *;rw[j_ (by omega),j_ (by omega)]))
theorem elems_in (h x c:Int):0≤elems h x c∧elems h x c≤1024:=by
 unfold elems;split
 ·rename_i g
  have:=CC_ (CC_ (show 0≤h by omega) (show 0≤x by omega)) (show 0≤c by omega)
  omega
 ·omega
def denseE (t:Shp) (n:Nod):Shp×Int :=
 if elems t.h t.x t.c=0∨elems 1 1 n.no=0 then (⟨0,0,0⟩,5)
 else if (n.w.length:Int)≠n.no*elems t.h t.x t.c∨16384<(n.w.length:Int)∨(n.b.length:Int)≠n.no then (⟨0,0,0⟩,9) else (⟨1,1,n.no⟩,0)
theorem denseShape_v (t:Shp) (n:Nod) (ok:t.Ok) (okn:n.Ok):VC L_ 211 ([shp t,nod n]) (.tup [shp (denseE t n).1,i64 (denseE t n).2]):=by
 obtain ⟨p1,p2,p3⟩:=id ok
 have q2:=elems_in t.h t.x t.c
 have q3:=elems_in 1 1 n.no
 have q4:0<elems 1 1 n.no→1≤n.no∧n.no≤1024:=fun h=>by have:=elems_ok h;omega
 have q5:0<elems 1 1 n.no→0≤n.no*elems t.h t.x t.c∧n.no*elems t.h t.x t.c≤1024*1024:=fun h=>mul_bd (by have:=q4 h;omega) (q4 h).2 q2.1 q2.2
 have oz0:=@sRight_v (t) ok
 have oz1:=@sRight_v (Shp.mk 1 1 n.no) (by (exact Shp.mk_ok ⟨by decide,by decide⟩ ⟨by decide,by decide⟩ okn.no))
 rcases bft (!decide (0<elems t.h t.x t.c) || !decide (0<elems 1 1 n.no)) with hc0|hc0
 ·have gc0:¬0<elems t.h t.x t.c∨¬0<elems 1 1 n.no:=by simp only[Z_,T_,P_,S_,W_,U_,E_,F_,I_,J_,ne_eq,H_,G_,eqNums,C_] at hc0;first|exact hc0|omega
  exact (VC.run (fn:=Tryz.f211) (W:=[r_,r_,.r [] [.callr (rO oz0),o_,o_,.callr (rO oz1),o_,.sel 1],b_,r_]) (r:=AV.tup [AV.agg [i64 0,i64 0,i64 0],i64 5]) Tryz.func211 (by kernel_rfl) (.c oz0<|.c oz1<|.c hc0<|.n)).to (by (simp only[denseE];rw[i_ (by omega)]))
 ·have gc0:0<elems t.h t.x t.c∧0<elems 1 1 n.no:=by simp only[Z_,T_,P_,S_,W_,U_,E_,F_,I_,J_,ne_eq,H_,G_,eqNums,C_] at hc0;first|exact hc0|omega
  have oz3:=@elems_v (t.h) (t.x) (t.c) p1 p2 p3
  have oz4:=(i6n (n.no*elems t.h t.x t.c) (by omega))
  rcases bft (((K_ (row1 .i8) n.w).length:Int) != n.no*elems t.h t.x t.c || decide (((K_ (row1 .i8) n.w).length:Int)>16384) || ((K_ (row1 .i32) n.b).length:Int) != n.no) with hc1|hc1
  ·have gc1:(¬((K_ (row1 .i8) n.w).length:Int)=n.no*elems t.h t.x t.c∨((K_ (row1 .i8) n.w).length:Int)>16384)∨¬((K_ (row1 .i32) n.b).length:Int)=n.no:=by simp only[Z_,T_,P_,S_,W_,U_,E_,F_,I_,J_,ne_eq,H_,G_,eqNums,C_] at hc1;first|exact hc1|omega
   exact (VC.run (fn:=Tryz.f211) (W:=[r_,r_,.r [] [.callr (rO oz0),o_,o_,.callr (rO oz1),o_,.sel 1],d_,.r [] [.callr (rO oz3),.n (nO oz4),o_,o_,o_,o_,.sel 1,o_,o_,o_,o_,o_,o_,.sel 1],b_,r_]) (r:=AV.tup [AV.agg [i64 0,i64 0,i64 0],i64 9]) Tryz.func211 (by kernel_rfl) (.c oz0<|.c oz1<|.c hc0<|.c oz3<|.c oz4<|.c hc1<|.n)).to (by (simp only[denseE,N_] at *;rw[j_ (by omega),i_ (by omega)]))
  ·have gc1:(((K_ (row1 .i8) n.w).length:Int)=n.no*elems t.h t.x t.c∧¬((K_ (row1 .i8) n.w).length:Int)>16384)∧((K_ (row1 .i32) n.b).length:Int)=n.no:=by simp only[Z_,T_,P_,S_,W_,U_,E_,F_,I_,J_,ne_eq,H_,G_,eqNums,C_] at hc1;first|exact hc1|omega
   exact (VC.run (fn:=Tryz.f211) (W:=[r_,r_,.r [] [.callr (rO oz0),o_,o_,.callr (rO oz1),o_,.sel 1],d_,.r [] [.callr (rO oz3),.n (nO oz4),o_,o_,o_,o_,.sel 1,o_,o_,o_,o_,o_,o_,.sel 1],d_,r_]) (r:=AV.tup [AV.agg [i64 1,i64 1,i64 n.no],i64 0]) Tryz.func211 (by kernel_rfl) (.c oz0<|.c oz1<|.c hc0<|.c oz3<|.c oz4<|.c hc1<|.n)).to (by (simp only[denseE,N_] at *;rw[j_ (by omega),j_ (by omega)]))
theorem refDenseShape_v (t:Shp) (n:Nod) (ok:t.Ok) (okn:n.Ok):VC L_ 111 ([shp t,nod n]) (.tup [shp (denseE t n).1,i64 (denseE t n).2]):=by
 obtain ⟨p1,p2,p3⟩:=id ok
 have p4:=okn.no
 have p5:In64 1:=⟨by decide,by decide⟩
 have q2:=elems_in t.h t.x t.c
 have q3:=elems_in 1 1 n.no
 have q4:0<elems 1 1 n.no→1≤n.no∧n.no≤1024:=fun h=>by have:=elems_ok h;omega
 have q5:0<elems 1 1 n.no→0≤n.no*elems t.h t.x t.c∧n.no*elems t.h t.x t.c≤1024*1024:=fun h=>mul_bd (by have:=q4 h;omega) (q4 h).2 q2.1 q2.2
 have oz0:=@refElems_v (t.h) (t.x) (t.c) p1 p2 p3
 have oz1:=@refElems_v (1) (1) (n.no) p5 p5 p4
 rcases bft (elems t.h t.x t.c==0 || elems 1 1 n.no==0) with hc0|hc0
 ·have gc0:elems t.h t.x t.c=0∨elems 1 1 n.no=0:=by simp only[Z_,T_,P_,S_,W_,U_,E_,F_,I_,J_,ne_eq,H_,G_,eqNums,C_] at hc0;first|exact hc0|omega
  exact (VC.run (fn:=Tryz.f111) (W:=[r_,r_,.r [] [.callr (rO oz0),o_,o_,.callr (rO oz1),o_,.sel 1],b_,r_]) (r:=AV.tup [AV.agg [i64 0,i64 0,i64 0],i64 5]) Tryz.func111 (by kernel_rfl) (.c oz0<|.c oz1<|.c hc0<|.n)).to (by (simp only[denseE];rw[i_ (by omega)]))
 ·have gc0:¬elems t.h t.x t.c=0∧¬elems 1 1 n.no=0:=by simp only[Z_,T_,P_,S_,W_,U_,E_,F_,I_,J_,ne_eq,H_,G_,eqNums,C_] at hc0;first|exact hc0|omega
  have oz4:=(i6n (n.no*elems t.h t.x t.c) (by omega))
  rcases bft (((K_ (row1 .i8) n.w).length:Int) != n.no*elems t.h t.x t.c || decide (((K_ (row1 .i8) n.w).length:Int)>16384) || ((K_ (row1 .i32) n.b).length:Int) != n.no) with hc1|hc1
  ·have gc1:(¬((K_ (row1 .i8) n.w).length:Int)=n.no*elems t.h t.x t.c∨((K_ (row1 .i8) n.w).length:Int)>16384)∨¬((K_ (row1 .i32) n.b).length:Int)=n.no:=by simp only[Z_,T_,P_,S_,W_,U_,E_,F_,I_,J_,ne_eq,H_,G_,eqNums,C_] at hc1;first|exact hc1|omega
   exact (VC.run (fn:=Tryz.f111) (W:=[r_,r_,.r [] [.callr (rO oz0),o_,o_,.callr (rO oz1),o_,.sel 1],d_,.r [] [.callr (rO oz0),.n (nO oz4),o_,o_,o_,o_,.sel 1,o_,o_,o_,o_,o_,o_,.sel 1],b_,r_]) (r:=AV.tup [AV.agg [i64 0,i64 0,i64 0],i64 9]) Tryz.func111 (by kernel_rfl) (.c oz0<|.c oz1<|.c hc0<|.c oz0<|.c oz4<|.c hc1<|.n)).to (by (simp only[denseE,N_] at *;rw[j_ (by omega),i_ (by omega)]))
  ·have gc1:(((K_ (row1 .i8) n.w).length:Int)=n.no*elems t.h t.x t.c∧¬((K_ (row1 .i8) n.w).length:Int)>16384)∧((K_ (row1 .i32) n.b).length:Int)=n.no:=by simp only[Z_,T_,P_,S_,W_,U_,E_,F_,I_,J_,ne_eq,H_,G_,eqNums,C_] at hc1;first|exact hc1|omega
   exact (VC.run (fn:=Tryz.f111) (W:=[r_,r_,.r [] [.callr (rO oz0),o_,o_,.callr (rO oz1),o_,.sel 1],d_,.r [] [.callr (rO oz0),.n (nO oz4),o_,o_,o_,o_,.sel 1,o_,o_,o_,o_,o_,o_,.sel 1],d_,r_]) (r:=AV.tup [AV.agg [i64 1,i64 1,i64 n.no],i64 0]) Tryz.func111 (by kernel_rfl) (.c oz0<|.c oz1<|.c hc0<|.c oz0<|.c oz4<|.c hc1<|.n)).to (by (simp only[denseE,N_] at *;rw[j_ (by omega),j_ (by omega)]))
def aroundE (a:Shp) (p:Int):Shp×Int:=if p<0∨4<p then (⟨0,0,0⟩,2) else if elems (a.h+2*p) (a.x+2*p) a.c=0 then (⟨0,0,0⟩,5) else (⟨a.h+2*p,a.x+2*p,a.c⟩,0)
def shapeE (n:Nod) (a b:Shp):Shp×Int :=
 if n.kd=1 then convE a n else if n.kd=2 then depthE a n else if n.kd=3 then denseE a n else if n.kd=4∨n.kd=5 then slideE a n.nk n.ns n.np a.c
 else if n.kd<1∨9<n.kd then (⟨0,0,0⟩,6) else if elems a.h a.x a.c=0∨(n.kd=6∧¬(a.h=b.h∧a.x=b.x∧a.c=b.c)) then (⟨0,0,0⟩,5)
 else if n.kd=9 then (⟨1,1,elems a.h a.x a.c⟩,0) else if n.kd=8 then
  aroundE a n.np else (a,0)
theorem around_v (a:Shp) (p:Int) (ok:a.Ok) (h0:0<elems a.h a.x a.c):VC L_ 229 ([shp a,i64 p]) (.tup [shp (aroundE a p).1,i64 (aroundE a p).2]):=by
 have q:=elems_ok h0
 have q2:=elems_in (a.h+2*p) (a.x+2*p) a.c
 have q3:=ok.c
 rcases bft (decide (p<0) || decide (p>4)) with hc0|hc0
 ·have gc0:p<0∨p>4:=by simp only[Z_,T_,P_,S_,W_,U_,E_,F_,I_,J_,ne_eq,H_,G_,eqNums,C_] at hc0;first|exact hc0|omega
  exact (VC.run (fn:=Tryz.f229) (W:=[r_,.r [] [o_,o_,.sel 1],b_,r_]) (r:=AV.tup [AV.agg [i64 0,i64 0,i64 0],i64 2]) Tryz.func229 (by kernel_rfl) (.c hc0<|.n)).weak (B_ _) (AA_ (.cons (AD_ (.cons (R_ (by (unfold aroundE;(repeat first|rw[i_ (by omega)]|rw[j_ (by omega)])))) (.cons (R_ (by (unfold aroundE;(repeat first|rw[i_ (by omega)]|rw[j_ (by omega)])))) (.cons (R_ (by (unfold aroundE;(repeat first|rw[i_ (by omega)]|rw[j_ (by omega)])))) .nil)))) (.cons (R_ (by (unfold aroundE;(repeat first|rw[i_ (by omega)]|rw[j_ (by omega)])))) .nil)))
 ·have gc0:¬p<0∧¬p>4:=by simp only[Z_,T_,P_,S_,W_,U_,E_,F_,I_,J_,ne_eq,H_,G_,eqNums,C_] at hc0;first|exact hc0|omega
  have oz1:=(i6n (2*p) (by omega))
  have oz2:=(i6n (a.h+2*p) (by omega))
  have oz4:=(i6n (a.x+2*p) (by omega))
  have oz5:=@sRight_v (Shp.mk (a.h+2*p) (a.x+2*p) a.c) (by (exact Shp.mk_ok ⟨by omega,by omega⟩ ⟨by omega,by omega⟩ q3))
  rcases bft (!decide (0<elems (a.h+2*p) (a.x+2*p) a.c)) with hc1|hc1
  ·have gc1:=bnt hc1
   exact (VC.run (fn:=Tryz.f229) (W:=[r_,.r [] [o_,o_,.sel 1],d_,.r [] [.n (nO oz1),.n (nO oz2),.n (nO oz1),.n (nO oz4)],.r [] [.callr (rO oz5)],b_,r_]) (r:=AV.tup [AV.agg [i64 0,i64 0,i64 0],i64 5]) Tryz.func229 (by kernel_rfl) (.c hc0<|.c oz1<|.c oz2<|.c oz1<|.c oz4<|.c oz5<|.c hc1<|.n)).weak (B_ _) (AA_ (.cons (AD_ (.cons (R_ (by (unfold aroundE;(repeat first|rw[i_ (by omega)]|rw[j_ (by omega)])))) (.cons (R_ (by (unfold aroundE;(repeat first|rw[i_ (by omega)]|rw[j_ (by omega)])))) (.cons (R_ (by (unfold aroundE;(repeat first|rw[i_ (by omega)]|rw[j_ (by omega)])))) .nil)))) (.cons (R_ (by (unfold aroundE;(repeat first|rw[i_ (by omega)]|rw[j_ (by omega)])))) .nil)))
  ·have gc1:=bnf hc1
   exact (VC.run (fn:=Tryz.f229) (W:=[r_,.r [] [o_,o_,.sel 1],d_,.r [] [.n (nO oz1),.n (nO oz2),.n (nO oz1),.n (nO oz4)],.r [] [.callr (rO oz5)],d_,r_]) (r:=AV.tup [AV.agg [i64 (a.h+2*p),i64 (a.x+2*p),i64 a.c],i64 0]) Tryz.func229 (by kernel_rfl) (.c hc0<|.c oz1<|.c oz2<|.c oz1<|.c oz4<|.c oz5<|.c hc1<|.n)).weak (B_ _) (AA_ (.cons (AD_ (.cons (R_ (by (unfold aroundE;(repeat first|rw[i_ (by omega)]|rw[j_ (by omega)])))) (.cons (R_ (by (unfold aroundE;(repeat first|rw[i_ (by omega)]|rw[j_ (by omega)])))) (.cons (R_ (by (unfold aroundE;(repeat first|rw[i_ (by omega)]|rw[j_ (by omega)])))) .nil)))) (.cons (R_ (by (unfold aroundE;(repeat first|rw[i_ (by omega)]|rw[j_ (by omega)])))) .nil)))
theorem plainShape_v (n:Nod) (a b:Shp) (ok:a.Ok) (okb:b.Ok) (hk:6≤n.kd) (hk9:n.kd≤9):VC L_ 213 ([nod n,shp a,shp b]) (.tup [shp (shapeE n a b).1,i64 (shapeE n a b).2]):=by
 obtain ⟨p1,p2,p3⟩:=id ok
 have q2:=elems_in a.h a.x a.c
 have oz0:=@sRight_v (a) ok
 rcases bft (!decide (0<elems a.h a.x a.c)) with hc0|hc0
 ·have gc0:=bnt hc0
  exact (VC.run (fn:=Tryz.f213) (W:=[r_,.r [] [.callr (rO oz0)],b_,r_]) (r:=AV.tup [AV.agg [i64 0,i64 0,i64 0],i64 5]) Tryz.func213 (by kernel_rfl) (.c oz0<|.c hc0<|.n)).weak (B_ _) (AA_ (.cons (AD_ (.cons (R_ (by (unfold shapeE;(repeat first|rw[i_ (by omega)]|rw[j_ (by omega)])))) (.cons (R_ (by (unfold shapeE;(repeat first|rw[i_ (by omega)]|rw[j_ (by omega)])))) (.cons (R_ (by (unfold shapeE;(repeat first|rw[i_ (by omega)]|rw[j_ (by omega)])))) .nil)))) (.cons (R_ (by (unfold shapeE;(repeat first|rw[i_ (by omega)]|rw[j_ (by omega)])))) .nil)))
 ·have gc0:=bnf hc0
  rcases bft (n.kd==6) with hc1|hc1
  ·have gc1:n.kd=6:=bet hc1
   have oz3:=(show BinTo L_ BinOp.neq 23 (Operand.tmp 16) (Operand.tmp 17) (BI_ #[AQ_ Q_ a.h,AQ_ Q_ a.x,AQ_ Q_ a.c]) (BI_ #[AQ_ Q_ b.h,AQ_ Q_ b.x,AQ_ Q_ b.c]) (BS_ !eqNums [(Q_,a.h,b.h),(Q_,a.x,b.x),(Q_,a.c,b.c)]) from ((bin_nums (l:=[(Q_,a.h,b.h),(Q_,a.x,b.x),(Q_,a.c,b.c)]) (by kernel_rfl) (by kernel_rfl) (by kernel_rfl) (by kernel_rfl) _ _).2))
   rcases bft (!eqNums [(Q_,a.h,b.h),(Q_,a.x,b.x),(Q_,a.c,b.c)]) with hc2|hc2
   ·have gc2:¬(a.h=b.h∧a.x=b.x∧a.c=b.c):=by simp only[Z_,T_,P_,S_,W_,U_,E_,F_,I_,J_,ne_eq,H_,G_,eqNums,C_] at hc2;first|exact hc2|omega
    exact (VC.run (fn:=Tryz.f213) (W:=[r_,.r [] [.callr (rO oz0)],d_,r_,r_,b_,.r [] [.v (BS_ !eqNums [(Q_,a.h,b.h),(Q_,a.x,b.x),(Q_,a.c,b.c)])],b_,r_]) (r:=AV.tup [AV.agg [i64 0,i64 0,i64 0],i64 5]) Tryz.func213 (by kernel_rfl) (.c oz0<|.c hc0<|.c hc1<|.c oz3<|.c hc2<|.n)).weak (B_ _) (AA_ (.cons (AD_ (.cons (R_ (by (unfold shapeE;(repeat first|rw[i_ (by omega)]|rw[j_ (by omega)])))) (.cons (R_ (by (unfold shapeE;(repeat first|rw[i_ (by omega)]|rw[j_ (by omega)])))) (.cons (R_ (by (unfold shapeE;(repeat first|rw[i_ (by omega)]|rw[j_ (by omega)])))) .nil)))) (.cons (R_ (by (unfold shapeE;(repeat first|rw[i_ (by omega)]|rw[j_ (by omega)])))) .nil)))
   ·have gc2:a.h=b.h∧a.x=b.x∧a.c=b.c:=by simp only[Z_,T_,P_,S_,W_,U_,E_,F_,I_,J_,ne_eq,H_,G_,eqNums,C_] at hc2;first|exact hc2|omega
    exact (VC.run (fn:=Tryz.f213) (W:=[r_,.r [] [.callr (rO oz0)],d_,r_,r_,b_,.r [] [.v (BS_ !eqNums [(Q_,a.h,b.h),(Q_,a.x,b.x),(Q_,a.c,b.c)])],d_,r_]) (r:=AV.tup [AV.agg [i64 a.h,i64 a.x,i64 a.c],i64 0]) Tryz.func213 (by kernel_rfl) (.c oz0<|.c hc0<|.c hc1<|.c oz3<|.c hc2<|.n)).weak (B_ _) (AA_ (.cons (AD_ (.cons (R_ (by (unfold shapeE;(repeat first|rw[i_ (by omega)]|rw[j_ (by omega)])))) (.cons (R_ (by (unfold shapeE;(repeat first|rw[i_ (by omega)]|rw[j_ (by omega)])))) (.cons (R_ (by (unfold shapeE;(repeat first|rw[i_ (by omega)]|rw[j_ (by omega)])))) .nil)))) (.cons (R_ (by (unfold shapeE;(repeat first|rw[i_ (by omega)]|rw[j_ (by omega)])))) .nil)))
  ·have gc1:¬n.kd=6:=bef hc1
   rcases bft (n.kd==8) with hc2|hc2
   ·have gc2:n.kd=8:=bet hc2
    have oz4:=@around_v (a) (n.np) ok gc0
    exact (VC.run (fn:=Tryz.f213) (W:=[r_,.r [] [.callr (rO oz0)],d_,r_,r_,d_,r_,b_,.r [] [.callr (rO oz4)]]) (r:=AV.tup [AV.agg [i64 (aroundE a n.np).fst.h,i64 (aroundE a n.np).fst.x,i64 (aroundE a n.np).fst.c],i64 (aroundE a n.np).snd]) Tryz.func213 (by kernel_rfl) (.c oz0<|.c hc0<|.c hc1<|.c hc2<|.c oz4<|.n)).weak (B_ _) (AA_ (.cons (AD_ (.cons (R_ (by (unfold shapeE;(repeat first|rw[i_ (by omega)]|rw[j_ (by omega)])))) (.cons (R_ (by (unfold shapeE;(repeat first|rw[i_ (by omega)]|rw[j_ (by omega)])))) (.cons (R_ (by (unfold shapeE;(repeat first|rw[i_ (by omega)]|rw[j_ (by omega)])))) .nil)))) (.cons (R_ (by (unfold shapeE;(repeat first|rw[i_ (by omega)]|rw[j_ (by omega)])))) .nil)))
   ·have gc2:¬n.kd=8:=bef hc2
    rcases bft (n.kd==9) with hc3|hc3
    ·have gc3:n.kd=9:=bet hc3
     have oz5:=@elems_v (a.h) (a.x) (a.c) p1 p2 p3
     exact (VC.run (fn:=Tryz.f213) (W:=[r_,.r [] [.callr (rO oz0)],d_,r_,r_,d_,r_,d_,r_,b_,.r [] [.callr (rO oz5)]]) (r:=AV.tup [AV.agg [i64 1,i64 1,i64 (elems a.h a.x a.c)],i64 0]) Tryz.func213 (by kernel_rfl) (.c oz0<|.c hc0<|.c hc1<|.c hc2<|.c hc3<|.c oz5<|.n)).weak (B_ _) (AA_ (.cons (AD_ (.cons (R_ (by (unfold shapeE;(repeat first|rw[i_ (by omega)]|rw[j_ (by omega)])))) (.cons (R_ (by (unfold shapeE;(repeat first|rw[i_ (by omega)]|rw[j_ (by omega)])))) (.cons (R_ (by (unfold shapeE;(repeat first|rw[i_ (by omega)]|rw[j_ (by omega)])))) .nil)))) (.cons (R_ (by (unfold shapeE;(repeat first|rw[i_ (by omega)]|rw[j_ (by omega)])))) .nil)))
    ·have gc3:¬n.kd=9:=bef hc3
     exact (VC.run (fn:=Tryz.f213) (W:=[r_,.r [] [.callr (rO oz0)],d_,r_,r_,d_,r_,d_,r_,d_,r_]) (r:=AV.tup [AV.agg [i64 a.h,i64 a.x,i64 a.c],i64 0]) Tryz.func213 (by kernel_rfl) (.c oz0<|.c hc0<|.c hc1<|.c hc2<|.c hc3<|.n)).weak (B_ _) (AA_ (.cons (AD_ (.cons (R_ (by (unfold shapeE;(repeat first|rw[i_ (by omega)]|rw[j_ (by omega)])))) (.cons (R_ (by (unfold shapeE;(repeat first|rw[i_ (by omega)]|rw[j_ (by omega)])))) (.cons (R_ (by (unfold shapeE;(repeat first|rw[i_ (by omega)]|rw[j_ (by omega)])))) .nil)))) (.cons (R_ (by (unfold shapeE;(repeat first|rw[i_ (by omega)]|rw[j_ (by omega)])))) .nil)))
theorem kshape_v (n:Nod) (a b:Shp) (ok:a.Ok) (okb:b.Ok) (okn:n.Ok):VC L_ 179 ([nod n,shp a,shp b]) (.tup [shp (shapeE n a b).1,i64 (shapeE n a b).2]):=by
 obtain ⟨p1,p2,p3⟩:=id ok
 rcases bft (n.kd==1) with hc0|hc0
 ·have gc0:n.kd=1:=bet hc0
  have oz1:=@convShape_v (a) (n) ok okn
  exact (VC.run (fn:=Tryz.f179) (W:=[r_,r_,r_,b_,.r [] [.callr (rO oz1)]]) (r:=AV.tup [AV.agg [i64 (convE a n).fst.h,i64 (convE a n).fst.x,i64 (convE a n).fst.c],i64 (convE a n).snd]) Tryz.func179 (by kernel_rfl) (.c hc0<|.c oz1<|.n)).weak (B_ _) (AA_ (.cons (AD_ (.cons (R_ (by (unfold shapeE;(repeat first|rw[i_ (by omega)]|rw[j_ (by omega)])))) (.cons (R_ (by (unfold shapeE;(repeat first|rw[i_ (by omega)]|rw[j_ (by omega)])))) (.cons (R_ (by (unfold shapeE;(repeat first|rw[i_ (by omega)]|rw[j_ (by omega)])))) .nil)))) (.cons (R_ (by (unfold shapeE;(repeat first|rw[i_ (by omega)]|rw[j_ (by omega)])))) .nil)))
 ·have gc0:¬n.kd=1:=bef hc0
  rcases bft (n.kd==2) with hc1|hc1
  ·have gc1:n.kd=2:=bet hc1
   have oz2:=@depthShape_v (a) (n) ok okn
   exact (VC.run (fn:=Tryz.f179) (W:=[r_,r_,r_,d_,r_,b_,.r [] [.callr (rO oz2)]]) (r:=AV.tup [AV.agg [i64 (depthE a n).fst.h,i64 (depthE a n).fst.x,i64 (depthE a n).fst.c],i64 (depthE a n).snd]) Tryz.func179 (by kernel_rfl) (.c hc0<|.c hc1<|.c oz2<|.n)).weak (B_ _) (AA_ (.cons (AD_ (.cons (R_ (by (unfold shapeE;(repeat first|rw[i_ (by omega)]|rw[j_ (by omega)])))) (.cons (R_ (by (unfold shapeE;(repeat first|rw[i_ (by omega)]|rw[j_ (by omega)])))) (.cons (R_ (by (unfold shapeE;(repeat first|rw[i_ (by omega)]|rw[j_ (by omega)])))) .nil)))) (.cons (R_ (by (unfold shapeE;(repeat first|rw[i_ (by omega)]|rw[j_ (by omega)])))) .nil)))
  ·have gc1:¬n.kd=2:=bef hc1
   rcases bft (n.kd==3) with hc2|hc2
   ·have gc2:n.kd=3:=bet hc2
    have oz3:=@denseShape_v (a) (n) ok okn
    exact (VC.run (fn:=Tryz.f179) (W:=[r_,r_,r_,d_,r_,d_,r_,b_,.r [] [.callr (rO oz3)]]) (r:=AV.tup [AV.agg [i64 (denseE a n).fst.h,i64 (denseE a n).fst.x,i64 (denseE a n).fst.c],i64 (denseE a n).snd]) Tryz.func179 (by kernel_rfl) (.c hc0<|.c hc1<|.c hc2<|.c oz3<|.n)).weak (B_ _) (AA_ (.cons (AD_ (.cons (R_ (by (unfold shapeE;(repeat first|rw[i_ (by omega)]|rw[j_ (by omega)])))) (.cons (R_ (by (unfold shapeE;(repeat first|rw[i_ (by omega)]|rw[j_ (by omega)])))) (.cons (R_ (by (unfold shapeE;(repeat first|rw[i_ (by omega)]|rw[j_ (by omega)])))) .nil)))) (.cons (R_ (by (unfold shapeE;(repeat first|rw[i_ (by omega)]|rw[j_ (by omega)])))) .nil)))
   ·have gc2:¬n.kd=3:=bef hc2
    rcases bft (n.kd==4) with hc3|hc3
    ·have gc3:n.kd=4:=bet hc3
     have oz5:=@slide_v (a) (n.nk) (n.ns) (n.np) (a.c) ok p3
     exact (VC.run (fn:=Tryz.f179) (W:=[r_,r_,r_,d_,r_,d_,r_,d_,r_,b_,b_,.r [] [.callr (rO oz5)]]) (r:=AV.tup [AV.agg [i64 (slideE a n.nk n.ns n.np a.c).fst.h,i64 (slideE a n.nk n.ns n.np a.c).fst.x,i64 (slideE a n.nk n.ns n.np a.c).fst.c],i64 (slideE a n.nk n.ns n.np a.c).snd]) Tryz.func179 (by kernel_rfl) (.c hc0<|.c hc1<|.c hc2<|.c hc3<|.c hc3<|.c oz5<|.n)).weak (B_ _) (AA_ (.cons (AD_ (.cons (R_ (by (unfold shapeE;(repeat first|rw[i_ (by omega)]|rw[j_ (by omega)])))) (.cons (R_ (by (unfold shapeE;(repeat first|rw[i_ (by omega)]|rw[j_ (by omega)])))) (.cons (R_ (by (unfold shapeE;(repeat first|rw[i_ (by omega)]|rw[j_ (by omega)])))) .nil)))) (.cons (R_ (by (unfold shapeE;(repeat first|rw[i_ (by omega)]|rw[j_ (by omega)])))) .nil)))
    ·have gc3:¬n.kd=4:=bef hc3
     rcases bft (n.kd==5) with hc4|hc4
     ·have gc4:n.kd=5:=bet hc4
      have oz5:=@slide_v (a) (n.nk) (n.ns) (n.np) (a.c) ok p3
      exact (VC.run (fn:=Tryz.f179) (W:=[r_,r_,r_,d_,r_,d_,r_,d_,r_,d_,r_,b_,.r [] [.callr (rO oz5)]]) (r:=AV.tup [AV.agg [i64 (slideE a n.nk n.ns n.np a.c).fst.h,i64 (slideE a n.nk n.ns n.np a.c).fst.x,i64 (slideE a n.nk n.ns n.np a.c).fst.c],i64 (slideE a n.nk n.ns n.np a.c).snd]) Tryz.func179 (by kernel_rfl) (.c hc0<|.c hc1<|.c hc2<|.c hc3<|.c hc4<|.c oz5<|.n)).weak (B_ _) (AA_ (.cons (AD_ (.cons (R_ (by (unfold shapeE;(repeat first|rw[i_ (by omega)]|rw[j_ (by omega)])))) (.cons (R_ (by (unfold shapeE;(repeat first|rw[i_ (by omega)]|rw[j_ (by omega)])))) (.cons (R_ (by (unfold shapeE;(repeat first|rw[i_ (by omega)]|rw[j_ (by omega)])))) .nil)))) (.cons (R_ (by (unfold shapeE;(repeat first|rw[i_ (by omega)]|rw[j_ (by omega)])))) .nil)))
     ·have gc4:¬n.kd=5:=bef hc4
      rcases bft (n.kd==6) with hc5|hc5
      ·have gc5:n.kd=6:=bet hc5
       have oz7:=@plainShape_v (n) (a) (b) ok okb (by omega) (by omega)
       exact VC.run (fn:=Tryz.f179) (W:=[r_,r_,r_,d_,r_,d_,r_,d_,r_,d_,r_,d_,r_,b_,b_,.r [] [.callr (rO oz7)]]) Tryz.func179 (by kernel_rfl) (.c hc0<|.c hc1<|.c hc2<|.c hc3<|.c hc4<|.c hc5<|.c hc5<|.c oz7<|.n)
      ·have gc5:¬n.kd=6:=bef hc5
       rcases bft (n.kd==7) with hc6|hc6
       ·have gc6:n.kd=7:=bet hc6
        have oz8:=@plainShape_v (n) (a) (b) ok okb (by omega) (by omega)
        exact VC.run (fn:=Tryz.f179) (W:=[r_,r_,r_,d_,r_,d_,r_,d_,r_,d_,r_,d_,r_,d_,r_,b_,b_,.r [] [.callr (rO oz8)]]) Tryz.func179 (by kernel_rfl) (.c hc0<|.c hc1<|.c hc2<|.c hc3<|.c hc4<|.c hc5<|.c hc6<|.c hc6<|.c oz8<|.n)
       ·have gc6:¬n.kd=7:=bef hc6
        rcases bft (n.kd==8) with hc7|hc7
        ·have gc7:n.kd=8:=bet hc7
         have oz9:=@plainShape_v (n) (a) (b) ok okb (by omega) (by omega)
         exact VC.run (fn:=Tryz.f179) (W:=[r_,r_,r_,d_,r_,d_,r_,d_,r_,d_,r_,d_,r_,d_,r_,d_,r_,b_,b_,.r [] [.callr (rO oz9)]]) Tryz.func179 (by kernel_rfl) (.c hc0<|.c hc1<|.c hc2<|.c hc3<|.c hc4<|.c hc5<|.c hc6<|.c hc7<|.c hc7<|.c oz9<|.n)
        ·have gc7:¬n.kd=8:=bef hc7
         rcases bft (n.kd==9) with hc8|hc8
         ·have gc8:n.kd=9:=bet hc8
          have oz9:=@plainShape_v (n) (a) (b) ok okb (by omega) (by omega)
          exact VC.run (fn:=Tryz.f179) (W:=[r_,r_,r_,d_,r_,d_,r_,d_,r_,d_,r_,d_,r_,d_,r_,d_,r_,d_,r_,b_,.r [] [.callr (rO oz9)]]) Tryz.func179 (by kernel_rfl) (.c hc0<|.c hc1<|.c hc2<|.c hc3<|.c hc4<|.c hc5<|.c hc6<|.c hc7<|.c hc8<|.c oz9<|.n)
         ·have gc8:¬n.kd=9:=bef hc8
          exact (VC.run (fn:=Tryz.f179) (W:=[r_,r_,r_,d_,r_,d_,r_,d_,r_,d_,r_,d_,r_,d_,r_,d_,r_,d_,r_,d_,r_]) (r:=AV.tup [AV.agg [i64 0,i64 0,i64 0],i64 6]) Tryz.func179 (by kernel_rfl) (.c hc0<|.c hc1<|.c hc2<|.c hc3<|.c hc4<|.c hc5<|.c hc6<|.c hc7<|.c hc8<|.n)).weak (B_ _) (AA_ (.cons (AD_ (.cons (R_ (by (unfold shapeE;(repeat first|rw[i_ (by omega)]|rw[j_ (by omega)])))) (.cons (R_ (by (unfold shapeE;(repeat first|rw[i_ (by omega)]|rw[j_ (by omega)])))) (.cons (R_ (by (unfold shapeE;(repeat first|rw[i_ (by omega)]|rw[j_ (by omega)])))) .nil)))) (.cons (R_ (by (unfold shapeE;(repeat first|rw[i_ (by omega)]|rw[j_ (by omega)])))) .nil)))
theorem refKshape_v (n:Nod) (a b:Shp) (ok:a.Ok) (okb:b.Ok) (okn:n.Ok):VC L_ 74 ([nod n,shp a,shp b]) (.tup [shp (shapeE n a b).1,i64 (shapeE n a b).2]):=by
 obtain ⟨p1,p2,p3⟩:=id ok
 have q2:=elems_in a.h a.x a.c
 have q4:=fun (h:0<elems a.h a.x a.c)=>elems_ok h
 rcases bft (n.kd==1) with hc0|hc0
 ·have gc0:n.kd=1:=bet hc0
  have oz1:=@refConvShape_v (a) (n) ok okn
  exact (VC.run (fn:=Tryz.f74) (W:=[r_,r_,b_,.r [] [.callr (rO oz1)]]) (r:=AV.tup [AV.agg [i64 (convE a n).fst.h,i64 (convE a n).fst.x,i64 (convE a n).fst.c],i64 (convE a n).snd]) Tryz.func74 (by kernel_rfl) (.c hc0<|.c oz1<|.n)).weak (B_ _) (AA_ (.cons (AD_ (.cons (R_ (by (unfold shapeE;try unfold aroundE;(repeat first|rw[i_ (by omega)]|rw[j_ (by omega)])))) (.cons (R_ (by (unfold shapeE;try unfold aroundE;(repeat first|rw[i_ (by omega)]|rw[j_ (by omega)])))) (.cons (R_ (by (unfold shapeE;try unfold aroundE;(repeat first|rw[i_ (by omega)]|rw[j_ (by omega)])))) .nil)))) (.cons (R_ (by (unfold shapeE;try unfold aroundE;(repeat first|rw[i_ (by omega)]|rw[j_ (by omega)])))) .nil)))
 ·have gc0:¬n.kd=1:=bef hc0
  rcases bft (n.kd==2) with hc1|hc1
  ·have gc1:n.kd=2:=bet hc1
   have oz2:=@refDepthShape_v (a) (n) ok okn
   exact (VC.run (fn:=Tryz.f74) (W:=[r_,r_,d_,r_,b_,.r [] [.callr (rO oz2)]]) (r:=AV.tup [AV.agg [i64 (depthE a n).fst.h,i64 (depthE a n).fst.x,i64 (depthE a n).fst.c],i64 (depthE a n).snd]) Tryz.func74 (by kernel_rfl) (.c hc0<|.c hc1<|.c oz2<|.n)).weak (B_ _) (AA_ (.cons (AD_ (.cons (R_ (by (unfold shapeE;try unfold aroundE;(repeat first|rw[i_ (by omega)]|rw[j_ (by omega)])))) (.cons (R_ (by (unfold shapeE;try unfold aroundE;(repeat first|rw[i_ (by omega)]|rw[j_ (by omega)])))) (.cons (R_ (by (unfold shapeE;try unfold aroundE;(repeat first|rw[i_ (by omega)]|rw[j_ (by omega)])))) .nil)))) (.cons (R_ (by (unfold shapeE;try unfold aroundE;(repeat first|rw[i_ (by omega)]|rw[j_ (by omega)])))) .nil)))
  ·have gc1:¬n.kd=2:=bef hc1
   rcases bft (n.kd==3) with hc2|hc2
   ·have gc2:n.kd=3:=bet hc2
    have oz3:=@refDenseShape_v (a) (n) ok okn
    exact (VC.run (fn:=Tryz.f74) (W:=[r_,r_,d_,r_,d_,r_,b_,.r [] [.callr (rO oz3)]]) (r:=AV.tup [AV.agg [i64 (denseE a n).fst.h,i64 (denseE a n).fst.x,i64 (denseE a n).fst.c],i64 (denseE a n).snd]) Tryz.func74 (by kernel_rfl) (.c hc0<|.c hc1<|.c hc2<|.c oz3<|.n)).weak (B_ _) (AA_ (.cons (AD_ (.cons (R_ (by (unfold shapeE;try unfold aroundE;(repeat first|rw[i_ (by omega)]|rw[j_ (by omega)])))) (.cons (R_ (by (unfold shapeE;try unfold aroundE;(repeat first|rw[i_ (by omega)]|rw[j_ (by omega)])))) (.cons (R_ (by (unfold shapeE;try unfold aroundE;(repeat first|rw[i_ (by omega)]|rw[j_ (by omega)])))) .nil)))) (.cons (R_ (by (unfold shapeE;try unfold aroundE;(repeat first|rw[i_ (by omega)]|rw[j_ (by omega)])))) .nil)))
   ·have gc2:¬n.kd=3:=bef hc2
    rcases bft (n.kd==4 || n.kd==5) with hc3|hc3
    ·have gc3:n.kd=4∨n.kd=5:=by simp only[Z_,T_,P_,S_,W_,U_,E_,F_,I_,J_,ne_eq,H_,G_,eqNums,C_] at hc3;first|exact hc3|omega
     have oz4:=@refSlide_v (a) (n.nk) (n.ns) (n.np) (a.c) ok p3
     exact (VC.run (fn:=Tryz.f74) (W:=[r_,r_,d_,r_,d_,r_,d_,.r [] [o_,o_,o_,.sel 1],b_,.r [] [.callr (rO oz4)]]) (r:=AV.tup [AV.agg [i64 (slideE a n.nk n.ns n.np a.c).fst.h,i64 (slideE a n.nk n.ns n.np a.c).fst.x,i64 (slideE a n.nk n.ns n.np a.c).fst.c],i64 (slideE a n.nk n.ns n.np a.c).snd]) Tryz.func74 (by kernel_rfl) (.c hc0<|.c hc1<|.c hc2<|.c hc3<|.c oz4<|.n)).weak (B_ _) (AA_ (.cons (AD_ (.cons (R_ (by (unfold shapeE;try unfold aroundE;(repeat first|rw[i_ (by omega)]|rw[j_ (by omega)])))) (.cons (R_ (by (unfold shapeE;try unfold aroundE;(repeat first|rw[i_ (by omega)]|rw[j_ (by omega)])))) (.cons (R_ (by (unfold shapeE;try unfold aroundE;(repeat first|rw[i_ (by omega)]|rw[j_ (by omega)])))) .nil)))) (.cons (R_ (by (unfold shapeE;try unfold aroundE;(repeat first|rw[i_ (by omega)]|rw[j_ (by omega)])))) .nil)))
    ·have gc3:¬n.kd=4∧¬n.kd=5:=by simp only[Z_,T_,P_,S_,W_,U_,E_,F_,I_,J_,ne_eq,H_,G_,eqNums,C_] at hc3;first|exact hc3|omega
     rcases bft (decide (n.kd<1) || decide (n.kd>9)) with hc4|hc4
     ·have gc4:n.kd<1∨n.kd>9:=by simp only[Z_,T_,P_,S_,W_,U_,E_,F_,I_,J_,ne_eq,H_,G_,eqNums,C_] at hc4;first|exact hc4|omega
      exact (VC.run (fn:=Tryz.f74) (W:=[r_,r_,d_,r_,d_,r_,d_,.r [] [o_,o_,o_,.sel 1],d_,.r [] [o_,o_,o_,.sel 1],b_,r_]) (r:=AV.tup [AV.agg [i64 0,i64 0,i64 0],i64 6]) Tryz.func74 (by kernel_rfl) (.c hc0<|.c hc1<|.c hc2<|.c hc3<|.c hc4<|.n)).weak (B_ _) (AA_ (.cons (AD_ (.cons (R_ (by (unfold shapeE;try unfold aroundE;(repeat first|rw[i_ (by omega)]|rw[j_ (by omega)])))) (.cons (R_ (by (unfold shapeE;try unfold aroundE;(repeat first|rw[i_ (by omega)]|rw[j_ (by omega)])))) (.cons (R_ (by (unfold shapeE;try unfold aroundE;(repeat first|rw[i_ (by omega)]|rw[j_ (by omega)])))) .nil)))) (.cons (R_ (by (unfold shapeE;try unfold aroundE;(repeat first|rw[i_ (by omega)]|rw[j_ (by omega)])))) .nil)))
     ·have gc4:¬n.kd<1∧¬n.kd>9:=by simp only[Z_,T_,P_,S_,W_,U_,E_,F_,I_,J_,ne_eq,H_,G_,eqNums,C_] at hc4;first|exact hc4|omega
      have oz5:=@refElems_v (a.h) (a.x) (a.c) p1 p2 p3
      have oz6:=(show BinTo L_ BinOp.neq 23 (Operand.tmp 70) (Operand.tmp 71) (BI_ #[AQ_ Q_ a.h,AQ_ Q_ a.x,AQ_ Q_ a.c]) (BI_ #[AQ_ Q_ b.h,AQ_ Q_ b.x,AQ_ Q_ b.c]) (BS_ !eqNums [(Q_,a.h,b.h),(Q_,a.x,b.x),(Q_,a.c,b.c)]) from ((bin_nums (l:=[(Q_,a.h,b.h),(Q_,a.x,b.x),(Q_,a.c,b.c)]) (by kernel_rfl) (by kernel_rfl) (by kernel_rfl) (by kernel_rfl) _ _).2))
      rcases bft (elems a.h a.x a.c==0 || n.kd==6 && !eqNums [(Q_,a.h,b.h),(Q_,a.x,b.x),(Q_,a.c,b.c)]) with hc5|hc5
      ·have gc5:elems a.h a.x a.c=0∨n.kd=6∧¬(a.h=b.h∧a.x=b.x∧a.c=b.c):=by simp only[Z_,T_,P_,S_,W_,U_,E_,F_,I_,J_,ne_eq,H_,G_,eqNums,C_] at hc5;first|exact hc5|omega
       exact (VC.run (fn:=Tryz.f74) (W:=[r_,r_,d_,r_,d_,r_,d_,.r [] [o_,o_,o_,.sel 1],d_,.r [] [o_,o_,o_,.sel 1],d_,.r [] [.callr (rO oz5),o_,o_,o_,o_,o_,o_,o_,.v (BS_ !eqNums [(Q_,a.h,b.h),(Q_,a.x,b.x),(Q_,a.c,b.c)]),o_,.sel 2,.sel 1],b_,r_]) (r:=AV.tup [AV.agg [i64 0,i64 0,i64 0],i64 5]) Tryz.func74 (by kernel_rfl) (.c hc0<|.c hc1<|.c hc2<|.c hc3<|.c hc4<|.c oz5<|.c oz6<|.c hc5<|.n)).weak (B_ _) (AA_ (.cons (AD_ (.cons (R_ (by (unfold shapeE;try unfold aroundE;(repeat first|rw[i_ (by omega)]|rw[j_ (by omega)])))) (.cons (R_ (by (unfold shapeE;try unfold aroundE;(repeat first|rw[i_ (by omega)]|rw[j_ (by omega)])))) (.cons (R_ (by (unfold shapeE;try unfold aroundE;(repeat first|rw[i_ (by omega)]|rw[j_ (by omega)])))) .nil)))) (.cons (R_ (by (unfold shapeE;try unfold aroundE;(repeat first|rw[i_ (by omega)]|rw[j_ (by omega)])))) .nil)))
      ·have gc5:¬elems a.h a.x a.c=0∧(¬n.kd=6∨a.h=b.h∧a.x=b.x∧a.c=b.c):=by simp only[Z_,T_,P_,S_,W_,U_,E_,F_,I_,J_,ne_eq,H_,G_,eqNums,C_] at hc5;first|exact hc5|omega
       rcases bft (n.kd==9) with hc6|hc6
       ·have gc6:n.kd=9:=bet hc6
        exact (VC.run (fn:=Tryz.f74) (W:=[r_,r_,d_,r_,d_,r_,d_,.r [] [o_,o_,o_,.sel 1],d_,.r [] [o_,o_,o_,.sel 1],d_,.r [] [.callr (rO oz5),o_,o_,o_,o_,o_,o_,o_,.v (BS_ !eqNums [(Q_,a.h,b.h),(Q_,a.x,b.x),(Q_,a.c,b.c)]),o_,.sel 2,.sel 1],d_,r_,b_,.r [] [.callr (rO oz5)]]) (r:=AV.tup [AV.agg [i64 1,i64 1,i64 (elems a.h a.x a.c)],i64 0]) Tryz.func74 (by kernel_rfl) (.c hc0<|.c hc1<|.c hc2<|.c hc3<|.c hc4<|.c oz5<|.c oz6<|.c hc5<|.c hc6<|.c oz5<|.n)).weak (B_ _) (AA_ (.cons (AD_ (.cons (R_ (by (unfold shapeE;try unfold aroundE;(repeat first|rw[i_ (by omega)]|rw[j_ (by omega)])))) (.cons (R_ (by (unfold shapeE;try unfold aroundE;(repeat first|rw[i_ (by omega)]|rw[j_ (by omega)])))) (.cons (R_ (by (unfold shapeE;try unfold aroundE;(repeat first|rw[i_ (by omega)]|rw[j_ (by omega)])))) .nil)))) (.cons (R_ (by (unfold shapeE;try unfold aroundE;(repeat first|rw[i_ (by omega)]|rw[j_ (by omega)])))) .nil)))
       ·have gc6:¬n.kd=9:=bef hc6
        rcases bft (n.kd==8) with hc7|hc7
        ·have gc7:n.kd=8:=bet hc7
         rcases bft (decide (n.np<0) || decide (n.np>4)) with hc8|hc8
         ·have gc8:n.np<0∨n.np>4:=by simp only[Z_,T_,P_,S_,W_,U_,E_,F_,I_,J_,ne_eq,H_,G_,eqNums,C_] at hc8;first|exact hc8|omega
          exact (VC.run (fn:=Tryz.f74) (W:=[r_,r_,d_,r_,d_,r_,d_,.r [] [o_,o_,o_,.sel 1],d_,.r [] [o_,o_,o_,.sel 1],d_,.r [] [.callr (rO oz5),o_,o_,o_,o_,o_,o_,o_,.v (BS_ !eqNums [(Q_,a.h,b.h),(Q_,a.x,b.x),(Q_,a.c,b.c)]),o_,.sel 2,.sel 1],d_,r_,d_,r_,b_,.r [] [o_,o_,o_,.sel 1],b_,r_]) (r:=AV.tup [AV.agg [i64 0,i64 0,i64 0],i64 2]) Tryz.func74 (by kernel_rfl) (.c hc0<|.c hc1<|.c hc2<|.c hc3<|.c hc4<|.c oz5<|.c oz6<|.c hc5<|.c hc6<|.c hc7<|.c hc8<|.n)).weak (B_ _) (AA_ (.cons (AD_ (.cons (R_ (by (unfold shapeE;try unfold aroundE;(repeat first|rw[i_ (by omega)]|rw[j_ (by omega)])))) (.cons (R_ (by (unfold shapeE;try unfold aroundE;(repeat first|rw[i_ (by omega)]|rw[j_ (by omega)])))) (.cons (R_ (by (unfold shapeE;try unfold aroundE;(repeat first|rw[i_ (by omega)]|rw[j_ (by omega)])))) .nil)))) (.cons (R_ (by (unfold shapeE;try unfold aroundE;(repeat first|rw[i_ (by omega)]|rw[j_ (by omega)])))) .nil)))
         ·have gc8:¬n.np<0∧¬n.np>4:=by simp only[Z_,T_,P_,S_,W_,U_,E_,F_,I_,J_,ne_eq,H_,G_,eqNums,C_] at hc8;first|exact hc8|omega
          have oz11:=(i6n (2*n.np) (by omega))
          have oz12:=(i6n (a.h+2*n.np) (by omega))
          have oz14:=(i6n (a.x+2*n.np) (by omega))
          have oz15:=@refElems_v (a.h+2*n.np) (a.x+2*n.np) (a.c) (by omega) (by omega) p3
          rcases bft (elems (a.h+2*n.np) (a.x+2*n.np) a.c==0) with hc9|hc9
          ·have gc9:elems (a.h+2*n.np) (a.x+2*n.np) a.c=0:=bet hc9
           exact (VC.run (fn:=Tryz.f74) (W:=[r_,r_,d_,r_,d_,r_,d_,.r [] [o_,o_,o_,.sel 1],d_,.r [] [o_,o_,o_,.sel 1],d_,.r [] [.callr (rO oz5),o_,o_,o_,o_,o_,o_,o_,.v (BS_ !eqNums [(Q_,a.h,b.h),(Q_,a.x,b.x),(Q_,a.c,b.c)]),o_,.sel 2,.sel 1],d_,r_,d_,r_,b_,.r [] [o_,o_,o_,.sel 1],d_,.r [] [.n (nO oz11),.n (nO oz12),.n (nO oz11),.n (nO oz14)],.r [] [.callr (rO oz15)],b_,r_]) (r:=AV.tup [AV.agg [i64 0,i64 0,i64 0],i64 5]) Tryz.func74 (by kernel_rfl) (.c hc0<|.c hc1<|.c hc2<|.c hc3<|.c hc4<|.c oz5<|.c oz6<|.c hc5<|.c hc6<|.c hc7<|.c hc8<|.c oz11<|.c oz12<|.c oz11<|.c oz14<|.c oz15<|.c hc9<|.n)).weak (B_ _) (AA_ (.cons (AD_ (.cons (R_ (by (unfold shapeE;try unfold aroundE;(repeat first|rw[i_ (by omega)]|rw[j_ (by omega)])))) (.cons (R_ (by (unfold shapeE;try unfold aroundE;(repeat first|rw[i_ (by omega)]|rw[j_ (by omega)])))) (.cons (R_ (by (unfold shapeE;try unfold aroundE;(repeat first|rw[i_ (by omega)]|rw[j_ (by omega)])))) .nil)))) (.cons (R_ (by (unfold shapeE;try unfold aroundE;(repeat first|rw[i_ (by omega)]|rw[j_ (by omega)])))) .nil)))
          ·have gc9:¬elems (a.h+2*n.np) (a.x+2*n.np) a.c=0:=bef hc9
           exact (VC.run (fn:=Tryz.f74) (W:=[r_,r_,d_,r_,d_,r_,d_,.r [] [o_,o_,o_,.sel 1],d_,.r [] [o_,o_,o_,.sel 1],d_,.r [] [.callr (rO oz5),o_,o_,o_,o_,o_,o_,o_,.v (BS_ !eqNums [(Q_,a.h,b.h),(Q_,a.x,b.x),(Q_,a.c,b.c)]),o_,.sel 2,.sel 1],d_,r_,d_,r_,b_,.r [] [o_,o_,o_,.sel 1],d_,.r [] [.n (nO oz11),.n (nO oz12),.n (nO oz11),.n (nO oz14)],.r [] [.callr (rO oz15)],d_,r_]) (r:=AV.tup [AV.agg [i64 (a.h+2*n.np),i64 (a.x+2*n.np),i64 a.c],i64 0]) Tryz.func74 (by kernel_rfl) (.c hc0<|.c hc1<|.c hc2<|.c hc3<|.c hc4<|.c oz5<|.c oz6<|.c hc5<|.c hc6<|.c hc7<|.c hc8<|.c oz11<|.c oz12<|.c oz11<|.c oz14<|.c oz15<|.c hc9<|.n)).weak (B_ _) (AA_ (.cons (AD_ (.cons (R_ (by (unfold shapeE;try unfold aroundE;(repeat first|rw[i_ (by omega)]|rw[j_ (by omega)])))) (.cons (R_ (by (unfold shapeE;try unfold aroundE;(repeat first|rw[i_ (by omega)]|rw[j_ (by omega)])))) (.cons (R_ (by (unfold shapeE;try unfold aroundE;(repeat first|rw[i_ (by omega)]|rw[j_ (by omega)])))) .nil)))) (.cons (R_ (by (unfold shapeE;try unfold aroundE;(repeat first|rw[i_ (by omega)]|rw[j_ (by omega)])))) .nil)))
        ·have gc7:¬n.kd=8:=bef hc7
         exact (VC.run (fn:=Tryz.f74) (W:=[r_,r_,d_,r_,d_,r_,d_,.r [] [o_,o_,o_,.sel 1],d_,.r [] [o_,o_,o_,.sel 1],d_,.r [] [.callr (rO oz5),o_,o_,o_,o_,o_,o_,o_,.v (BS_ !eqNums [(Q_,a.h,b.h),(Q_,a.x,b.x),(Q_,a.c,b.c)]),o_,.sel 2,.sel 1],d_,r_,d_,r_,d_,r_]) (r:=AV.tup [AV.agg [i64 a.h,i64 a.x,i64 a.c],i64 0]) Tryz.func74 (by kernel_rfl) (.c hc0<|.c hc1<|.c hc2<|.c hc3<|.c hc4<|.c oz5<|.c oz6<|.c hc5<|.c hc6<|.c hc7<|.n)).weak (B_ _) (AA_ (.cons (AD_ (.cons (R_ (by (unfold shapeE;try unfold aroundE;(repeat first|rw[i_ (by omega)]|rw[j_ (by omega)])))) (.cons (R_ (by (unfold shapeE;try unfold aroundE;(repeat first|rw[i_ (by omega)]|rw[j_ (by omega)])))) (.cons (R_ (by (unfold shapeE;try unfold aroundE;(repeat first|rw[i_ (by omega)]|rw[j_ (by omega)])))) .nil)))) (.cons (R_ (by (unfold shapeE;try unfold aroundE;(repeat first|rw[i_ (by omega)]|rw[j_ (by omega)])))) .nil)))
instance:Inhabited Nod:=⟨⟨0,0,0,0,0,0,0,0,0,[],[],0,0,0,0,0,0,0,0⟩⟩
instance:Inhabited Shp:=⟨⟨0,0,0⟩⟩
abbrev shpC (s:Shp):List AV:=[i64 s.h,i64 s.x,i64 s.c]
def firstBad (p:Nat→Bool):Nat→Nat
 | 0=>0
 | n+1=>if firstBad p n<n then firstBad p n else if p n=true then n+1 else n
theorem firstBad_all {p:Nat→Bool}:∀ {n},(∀ k,k<n→p k=true)→firstBad p n=n
 | 0,_=>rfl
 | n+1,h=>by rw[firstBad,firstBad_all fun k hk=>h k (by omega),j_ (by omega),i_ (h n (by omega))]
theorem firstBad_at {p:Nat→Bool} {m:Nat} (hp:p m=false) (h:∀ k,k<m→p k=true):∀ {n},m<n→firstBad p n=m
 | n+1,hm=>by
  by_cases e:m=n
  ·subst e;rw[firstBad,firstBad_all h,j_ (by omega),j_ (by simp[hp])]
  ·rw[firstBad,firstBad_at hp h (show m<n by omega),i_ (by omega)]
theorem firstBad_le {p:Nat→Bool}:∀ n,firstBad p n≤n
 | 0=>AX_ _
 | n+1=>by have:=firstBad_le (p:=p) n;rw[firstBad];split<;>(try split)<;>omega
def growL {α:Type} (f:Nod→List α→α×Int) (l:List Nod) (x:α):Nat→List α
 | 0=>[x]
 | k+1=>growL f l x k++[(f (l.getD k default) (growL f l x k)).1]
def errL {α:Type} (f:Nod→List α→α×Int) (l:List Nod) (x:α) (k:Nat):Int:=(f (l.getD k default) (growL f l x k)).2
theorem growL_len {α:Type} (f:Nod→List α→α×Int) (l:List Nod) (x:α):∀ k,(growL f l x k).length=k+1
 | 0=>rfl
 | k+1=>by rw[growL,O_,growL_len f l x k];rfl
theorem growL_all {α:Type} {f:Nod→List α→α×Int} {l:List Nod} {x:α} {p:α→Prop} (h0:p x) {n:Nat} (h:∀ k,k<n→(∀ y∈growL f l x k,p y)→p (f (l.getD k default) (growL f l x k)).1):∀ k,k≤n→∀ y∈growL f l x k,p y
 | 0,_=>by intro y hy;simp only[growL,List.mem_singleton] at hy;subst hy;exact h0
 | k+1,hk=>by
  have ih:=growL_all h0 h k (by omega)
  intro y hy
  rw[growL,List.mem_append,List.mem_singleton] at hy
  rcases hy with hy|rfl
  ·exact ih y hy
  ·exact h k (by omega) ih
theorem getD_in {α:Type} [Inhabited α] {l:List α} {p:α→Prop} (h:∀ y∈l,p y) {i:Nat} (hi:i<l.length):p (l.getD i default):=by
 rw[AU_,AL_ hi];exact h _ (CY_ hi)
def takesL (n:Nod):List Int:=if n.kd=6 then [n.na,n.nb] else [n.na]
def secN (n:Nod):Int:=if n.kd=6 then n.nb else n.na
def thereB (n:Nod) (m:Int):Bool:=decide (0≤n.na)&&decide (n.na<m)&&decide (0≤secN n)&&decide (secN n<m)
theorem takes_v (n:Nod)  : VC L_ 208 ([nod n]) (ints .i64 (takesL n)):=by
 rcases bft (n.kd==6) with hc0|hc0
 ·have gc0:n.kd=6:=bet hc0
  exact (VC.run (fn:=Tryz.f208) (W:=[r_,r_,b_,r_]) (r:=AV.sl 1 [[i64 n.na],[i64 n.nb]]) Tryz.func208 (by kernel_rfl) (.c hc0<|.n)).weak (B_ _) (CP_ (rows_to (row1 .i64) (r:=[[i64 n.na],[i64 n.nb]]) (l:=[n.na,n.nb]) (m:=takesL n) (by first|(simp only[A_,D_,AO_,AP_,X_,AM_,AN_];done)|rfl|(simp only[A_,D_,AO_,AP_,X_,AM_,AN_];rfl)) (show ([n.na,n.nb])=(takesL n) from (by (unfold takesL;rw[i_ (by simp_all)])))))
 ·have gc0:¬n.kd=6:=bef hc0
  exact (VC.run (fn:=Tryz.f208) (W:=[r_,r_,d_,r_]) (r:=AV.sl 1 [[i64 n.na]]) Tryz.func208 (by kernel_rfl) (.c hc0<|.n)).weak (B_ _) (CP_ (rows_to (row1 .i64) (r:=[[i64 n.na]]) (l:=[n.na]) (m:=takesL n) (by first|(simp only[A_,D_,AO_,AP_,X_,AM_,AN_];done)|rfl|(simp only[A_,D_,AO_,AP_,X_,AM_,AN_];rfl)) (show ([n.na])=(takesL n) from (by (unfold takesL;rw[j_ (by simp_all)])))))
theorem takes_len (n:Nod):1≤(takesL n).length∧(takesL n).length≤2:=by unfold takesL;split<;>simp
theorem takes_last (n:Nod) {i:Nat} (hi:i=(takesL n).length-1):(takesL n).getD i 0=secN n:=by subst hi;unfold takesL secN;split<;>rfl
theorem takes_there (n:Nod) (m:Int):(∀ k,k<(takesL n).length→decide (0≤(takesL n).getD k 0∧(takesL n).getD k 0<m)=true)↔thereB n m=true:=by
 unfold takesL thereB secN
 split
 ·simp only[AC_,BB_,P_,E_]
  constructor
  ·intro h
   have h0:=h 0 (by omega);have h1:=h 1 (by omega)
   simp only[List.getD_cons_zero,List.getD_cons_succ] at h0 h1
   omega
  ·intro h k hk
   match k,hk with
   | 0,_=>simp only[List.getD_cons_zero];omega
   | 1,_=>simp only[List.getD_cons_zero,List.getD_cons_succ];omega
   | k+2,hk=>omega
 ·simp only[AC_,BB_,P_,E_]
  constructor
  ·intro h
   have h0:=h 0 (by omega)
   simp only[List.getD_cons_zero] at h0
   omega
  ·intro h k hk
   have:k=0:=by omega
   subst this
   simp only[List.getD_cons_zero];omega
noncomputable def there_ly_I (l:List Int) (m:Int) (k:Nat):VS:=stt 22 [(1,i64 m),(8,ints .i64 l),(9,i64 l.length),(10,i64 k)] []
noncomputable def there_ly_Z (l:List Int) (m:Int):VS:=there_ly_I l m (l.length)
theorem there_ly_s (l:List Int) (m:Int) (hl:l.length≤1000) (h:∀ k,k<l.length→0≤l.getD k 0∧l.getD k 0<m) (k:Nat) (hk:k<l.length):VT L_ (fnC Tryz.f178 [1,0,1,0,0]) (there_ly_I l m k) .normal (there_ly_I l m (k+1)):=by
 have q:=h k hk
 have oz3:=(decide_eq_false (p:=(l.getD k 0<0)) (by omega))
 exact VT.run (W:=[r_,b_,.r [] [.row [i64 (l.getD k 0)]],.r [] [e_,e_,e_,f_],d_,.r [] [.n ((↑k:Int)+1)]]) (G:=[.any (rg [(6,1),(11,11)]),.weak 10 (i64 (↑(k+1):Int)),.sort]) (by kernel_rfl) (.c (decide_eq_true (p:=((↑k:Int)<(l.length:Int))) (by omega))<|.c (show 0≤(↑k:Int) by omega)<|.c (map_at (row1 .i64) (0) (l:=l) (i:=k) hk)<|.c oz3<|.c oz3<|.c oz3<|.c oz3<|.c (decide_eq_false (p:=(l.getD k 0≥m)) (by omega))<|.c (i6n ((↑k:Int)+1) (by omega))<|.c (wS_ k)<|.n)
theorem there_ly_e (l:List Int) (m:Int) (hl:l.length≤1000) (h:∀ k,k<l.length→0≤l.getD k 0∧l.getD k 0<m):VT L_ (fnC Tryz.f178 [1,0,1,0,0]) (there_ly_I l m (l.length)) (.exit 0) (there_ly_Z l m):=by
 exact VT.run (W:=[r_,d_]) (G:=[.any [11],.sort]) (by kernel_rfl) (.c (decide_eq_false (p:=((l.length:Int)<(l.length:Int))) (by omega))<|.n)
theorem there_ly (l:List Int) (m:Int) (hl:l.length≤1000) (h:∀ k,k<l.length→0≤l.getD k 0∧l.getD k 0<m):VT L_ (fnC Tryz.f178 [1,0,1,0]) (there_ly_I l m 0) (.exit 0) (there_ly_Z l m) :=
 VT.loop (fun k=>there_ly_I l m k) (l.length) (fun k hk=>there_ly_s l m hl h k hk) (there_ly_e l m hl h) (by intro h;cases h)
noncomputable def there_ln_I (l:List Int) (m:Int) (j:Nat) (k:Nat):VS:=stt 22 [(1,i64 m),(8,ints .i64 l),(9,i64 l.length),(10,i64 k)] []
noncomputable def there_ln_Z (l:List Int) (m:Int) (j:Nat):VS:=stt 22 [(4,bv false)] []
theorem there_ln_s (l:List Int) (m:Int) (j:Nat) (hl:l.length≤1000) (hj:j<l.length) (hf:¬ (0≤l.getD j 0∧l.getD j 0<m)) (h:∀ k,k<j→0≤l.getD k 0∧l.getD k 0<m) (k:Nat) (hk:k<j):VT L_ (fnC Tryz.f178 [1,0,1,0,0]) (there_ln_I l m j k) .normal (there_ln_I l m j (k+1)):=by
 have q:=h k hk
 have oz3:=(decide_eq_false (p:=(l.getD k 0<0)) (by omega))
 exact VT.run (W:=[r_,b_,.r [] [.row [i64 (l.getD k 0)]],.r [] [e_,e_,e_,f_],d_,.r [] [.n ((↑k:Int)+1)]]) (G:=[.any (rg [(6,1),(11,11)]),.weak 10 (i64 (↑(k+1):Int)),.sort]) (by kernel_rfl) (.c (decide_eq_true (p:=((↑k:Int)<(l.length:Int))) (by omega))<|.c (show 0≤(↑k:Int) by omega)<|.c (map_at (row1 .i64) (0) (l:=l) (i:=k) (by omega))<|.c oz3<|.c oz3<|.c oz3<|.c oz3<|.c (decide_eq_false (p:=(l.getD k 0≥m)) (by omega))<|.c (i6n ((↑k:Int)+1) (by omega))<|.c (wS_ k)<|.n)
theorem there_ln_e (l:List Int) (m:Int) (j:Nat) (hl:l.length≤1000) (hj:j<l.length) (hf:¬ (0≤l.getD j 0∧l.getD j 0<m)) (h:∀ k,k<j→0≤l.getD k 0∧l.getD k 0<m):VT L_ (fnC Tryz.f178 [1,0,1,0,0]) (there_ln_I l m j (j)) (.ret) (there_ln_Z l m j):=by
 exact VT.run (W:=[r_,b_,.r [] [.row [i64 (l.getD j 0)]],.r [] [o_,o_,o_,.sel 1],b_,r_]) (G:=[.any (rg [(1,1),(6,1),(8,9),(20,1)]),.sort]) (by kernel_rfl) (.c (decide_eq_true (p:=((↑j:Int)<(l.length:Int))) (by omega))<|.c (show 0≤(↑j:Int) by omega)<|.c (map_at (row1 .i64) (0) (l:=l) (i:=j) hj)<|.c (show (decide (l.getD j 0<0) || decide (l.getD j 0≥m))=true by (simp at *;omega))<|.n)
theorem there_ln (l:List Int) (m:Int) (j:Nat) (hl:l.length≤1000) (hj:j<l.length) (hf:¬ (0≤l.getD j 0∧l.getD j 0<m)) (h:∀ k,k<j→0≤l.getD k 0∧l.getD k 0<m):VT L_ (fnC Tryz.f178 [1,0,1,0]) (there_ln_I l m j 0) (.ret) (there_ln_Z l m j) :=
 VT.loop (fun k=>there_ln_I l m j k) (j) (fun k hk=>there_ln_s l m j hl hj hf h k hk) (there_ln_e l m j hl hj hf h) (by intro h;cases h)
theorem there_y (n:Nod) (m:Int) (h:∀ k,k<(takesL n).length→0≤(takesL n).getD k 0∧(takesL n).getD k 0<m):VC L_ 178 ([nod n,i64 m]) (bv true):=by
 have q:=takes_len n
 have oz0:=@takes_v (n)
 have oz1:=(R_ (k:=.i64) (show ((((K_ (row1 .i64) (takesL n)).length:Int)):Int)=(((takesL n).length:Int)) from (by (simp;done))))
 have oz3:=@there_ly (takesL n) (m) (by omega) h
 exact VC.run (fn:=Tryz.f178) (W:=[r_,.r [] [.callr (rO oz0)],.code [.any [0,2,4,7],.drop [2],.weak 9 (wO oz1),.weak 10 (i64 (↑0:Int)),.sort] (AF_ 0) (zO oz3),r_]) Tryz.func178 (by kernel_rfl) (.c oz0<|.c oz1<|.c w0_<|.c oz3<|.n)
theorem there_n (n:Nod) (m:Int) (j:Nat) (hj:j<(takesL n).length) (hf:¬ (0≤(takesL n).getD j 0∧(takesL n).getD j 0<m)) (h:∀ k,k<j→0≤(takesL n).getD k 0∧(takesL n).getD k 0<m):VC L_ 178 ([nod n,i64 m]) (bv false):=by
 have q:=takes_len n
 have oz0:=@takes_v (n)
 have oz1:=(R_ (k:=.i64) (show ((((K_ (row1 .i64) (takesL n)).length:Int)):Int)=(((takesL n).length:Int)) from (by (simp;done))))
 have oz3:=@there_ln (takesL n) (m) (j) (by omega) hj hf h
 exact VC.run (fn:=Tryz.f178) (W:=[r_,.r [] [.callr (rO oz0)],.code [.any [0,2,4,7],.drop [2],.weak 9 (wO oz1),.weak 10 (i64 (↑0:Int)),.sort] (CA_) (zO oz3)]) Tryz.func178 (by kernel_rfl) (.c oz0<|.c oz1<|.c w0_<|.c oz3<|.n)
theorem there_v (n:Nod) (m:Int):VC L_ 178 [nod n,i64 m] (bv (thereB n m)):=by
 rcases all_or (fun k=>decide (0≤(takesL n).getD k 0∧(takesL n).getD k 0<m)) (takesL n).length with h|⟨j,h1,h2,h3⟩
 ·rw[(takes_there n m).1 h];exact there_y n m fun k hk=>of_decide_eq_true (h k hk)
 ·have:thereB n m=false:=by
   cases e:thereB n m with
   | false=>rfl
   | true=>have:=(takes_there n m).2 e j h1;rw[h2] at this;cases this
  rw[this];exact there_n n m j h1 (of_decide_eq_false h2) fun k hk=>of_decide_eq_true (h3 k hk)
theorem gof_v (n:Nod)  : VC L_ 180 ([nod n]) (i64 (secN n)):=by
 have q:=takes_len n
 have q2:(K_ (row1 .i64) (takesL n)).length=(takesL n).length:=N_ _
 have oz0:=@takes_v (n)
 have oz1:=(i6n (((K_ (row1 .i64) (takesL n)).length:Int)-1) (by omega))
 have oz3:=(map_at (row1 .i64) (0) (l:=takesL n) (i:=(((K_ (row1 .i64) (takesL n)).length:Int)-1).toNat) (by omega))
 exact (VC.run (fn:=Tryz.f180) (W:=[r_,.r [] [.callr (rO oz0)],.r [] [.n (nO oz1),.row (sO oz3)]]) (r:=i64 ((takesL n).getD (((K_ (row1 .i64) (takesL n)).length:Int)-1).toNat 0)) Tryz.func180 (by kernel_rfl) (.c oz0<|.c oz1<|.c (show 0≤((K_ (row1 .i64) (takesL n)).length:Int)-1 by omega)<|.c oz3<|.n)).weak (B_ _) (R_ (by (exact takes_last n (by omega))))
theorem refThere_v (n:Nod) (m:Int)  : VC L_ 73 ([nod n,i64 m]) (bv (thereB n m)):=by
 exact (VC.run (fn:=Tryz.f73) (W:=[r_,.r [] [o_,o_,o_,o_,.sel 2,o_,o_,o_,o_,o_,o_,o_,o_,o_,o_,o_,o_,o_,.sel 2,o_,.sel 1,.sel 2]]) (r:=bv (decide (n.na≥0)&&decide (n.na<m)&&(n.kd != 6 || decide (n.nb≥0)&&decide (n.nb<m)))) Tryz.func73 (by kernel_rfl) (.n)).weak (B_ _) (AZ_ (by (unfold thereB secN;rw[Bool.eq_iff_iff];by_cases e6:n.kd=6<;>simp[e6]<;>omega)))
theorem refSecond_v (n:Nod)  : VC L_ 75 ([nod n]) (i64 (secN n)):=by
 rcases bft (n.kd==6) with hc0|hc0
 ·have gc0:n.kd=6:=bet hc0
  exact (VC.run (fn:=Tryz.f75) (W:=[r_,r_,b_,r_]) (r:=i64 n.nb) Tryz.func75 (by kernel_rfl) (.c hc0<|.n)).weak (B_ _) (R_ (by (unfold secN;rw[i_ (by simp_all)])))
 ·have gc0:¬n.kd=6:=bef hc0
  exact (VC.run (fn:=Tryz.f75) (W:=[r_,r_,d_,r_]) (r:=i64 n.na) Tryz.func75 (by kernel_rfl) (.c hc0<|.n)).weak (B_ _) (R_ (by (unfold secN;rw[j_ (by simp_all)])))
def nextE (n:Nod) (L:List Shp):Shp×Int:=if checkE n≠0 then (⟨0,0,0⟩,checkE n) else if thereB n L.length=true then shapeE n (L.getD n.na.toNat default) (L.getD (secN n).toNat default) else (⟨0,0,0⟩,8)
theorem there_iff {n:Nod} {m:Int}:thereB n m=true↔0≤n.na∧n.na<m∧0≤secN n∧secN n<m:=by
 unfold thereB;simp only[P_,E_];omega
theorem next_v (n:Nod) (L:List Shp) (ok:n.Ok) (okL:∀ s∈L,s.Ok) (hL:L.length≤100) (wl:n.w.length≤100000) (bl:n.b.length≤100000):VC L_ 147 ([nod n,.sl 3 (L.map shpC)]) (.tup [shp (nextE n L).1,i64 (nextE n L).2]):=by
 have q1:=@there_iff n L.length
 have q2:=ok.kd
 have q3:=fun (h:n.na.toNat<L.length)=>getD_in okL h
 have q4:=fun (h:(secN n).toNat<L.length)=>getD_in okL h
 have oz0:=@check_v (n) wl bl q2
 rcases bft (checkE n != 0) with hc0|hc0
 ·have gc0:¬checkE n=0:=bdt hc0
  exact (VC.run (fn:=Tryz.f147) (W:=[r_,.r [] [.callr (rO oz0)],r_,b_,r_]) (r:=AV.tup [AV.agg [i64 0,i64 0,i64 0],i64 (checkE n)]) Tryz.func147 (by kernel_rfl) (.c oz0<|.c hc0<|.n)).weak (B_ _) (AA_ (.cons (AD_ (.cons (R_ (by (unfold nextE;rw[i_ (by simp_all)]))) (.cons (R_ (by (unfold nextE;rw[i_ (by simp_all)]))) (.cons (R_ (by (unfold nextE;rw[i_ (by simp_all)]))) .nil)))) (.cons (R_ (by (unfold nextE;rw[i_ (by simp_all)]))) .nil)))
 ·have gc0:checkE n=0:=bdf hc0
  have oz2:=@there_v (n) (((K_ shpC L).length:Int))
  rcases bft (!thereB n ((K_ shpC L).length:Int)) with hc1|hc1
  ·have gc1:thereB n ((K_ shpC L).length:Int)=false:=by first|exact hc1|exact of_decide_eq_true hc1|exact of_decide_eq_false hc1|simpa [eqNums] using hc1|(simp[eqNums] at hc1 ⊢;first|done|assumption|omega)
   exact (VC.run (fn:=Tryz.f147) (W:=[r_,.r [] [.callr (rO oz0)],r_,d_,.r [] [.callr (rO oz2)],b_,r_]) (r:=AV.tup [AV.agg [i64 0,i64 0,i64 0],i64 8]) Tryz.func147 (by kernel_rfl) (.c oz0<|.c hc0<|.c oz2<|.c hc1<|.n)).weak (B_ _) (AA_ (.cons (AD_ (.cons (R_ (by (unfold nextE;rw[j_ (by simp_all),j_ (by simp_all)]))) (.cons (R_ (by (unfold nextE;rw[j_ (by simp_all),j_ (by simp_all)]))) (.cons (R_ (by (unfold nextE;rw[j_ (by simp_all),j_ (by simp_all)]))) .nil)))) (.cons (R_ (by (unfold nextE;rw[j_ (by simp_all),j_ (by simp_all)]))) .nil)))
  ·have gc1:thereB n ((K_ shpC L).length:Int)=true:=by first|exact hc1|exact of_decide_eq_true hc1|exact of_decide_eq_false hc1|simpa [eqNums] using hc1|(simp[eqNums] at hc1 ⊢;first|done|assumption|omega)
   have oz5:=(map_at (shpC) (default) (l:=L) (i:=n.na.toNat) (by (have:=q1.1 (by simp_all);omega)))
   have oz6:=@gof_v (n)
   have oz8:=(map_at (shpC) (default) (l:=L) (i:=(secN n).toNat) (by (have:=q1.1 (by simp_all);omega)))
   have oz9:=@kshape_v (n) (L.getD n.na.toNat default) (L.getD (secN n).toNat default) (by (exact q3 (by have:=q1.1 (by simp_all);omega))) (by (exact q4 (by have:=q1.1 (by simp_all);omega))) ok
   exact (VC.run (fn:=Tryz.f147) (W:=[r_,.r [] [.callr (rO oz0)],r_,d_,.r [] [.callr (rO oz2)],d_,.r [] [.row (sO oz5),.callr (rO oz6),.row (sO oz8),.callr (rO oz9)]]) (r:=AV.tup [AV.agg [i64 (shapeE n (L.getD n.na.toNat default) (L.getD (secN n).toNat default)).fst.h,i64 (shapeE n (L.getD n.na.toNat default) (L.getD (secN n).toNat default)).fst.x,i64 (shapeE n (L.getD n.na.toNat default) (L.getD (secN n).toNat default)).fst.c],i64 (shapeE n (L.getD n.na.toNat default) (L.getD (secN n).toNat default)).snd]) Tryz.func147 (by kernel_rfl) (.c oz0<|.c hc0<|.c oz2<|.c hc1<|.c (show 0≤n.na by (have:=q1.1 (by simp_all);omega))<|.c oz5<|.c oz6<|.c (show 0≤secN n by (have:=q1.1 (by simp_all);omega))<|.c oz8<|.c oz9<|.n)).weak (B_ _) (AA_ (.cons (AD_ (.cons (R_ (by (unfold nextE;rw[j_ (by simp_all),i_ (by simp_all)]))) (.cons (R_ (by (unfold nextE;rw[j_ (by simp_all),i_ (by simp_all)]))) (.cons (R_ (by (unfold nextE;rw[j_ (by simp_all),i_ (by simp_all)]))) .nil)))) (.cons (R_ (by (unfold nextE;rw[j_ (by simp_all),i_ (by simp_all)]))) .nil)))
def smallB (n:Nod):Bool:=decide (n.w.length≤1000)&&decide (n.b.length≤100)
def fewB (l:List Nod) (d:Nat):Bool:=decide (l.length≤12)&&decide (d≤300)&&l.all smallB
noncomputable def few_ly_I (l:List Nod) (k:Nat):VS:=stt 37 [(0,.sl 19 (l.map nodC)),(5,i64 k)] []
noncomputable def few_ly_Z (l:List Nod):VS:=few_ly_I l (l.length)
theorem few_ly_s (l:List Nod) (hl:l.length≤12) (h:∀ k,k<l.length→smallB (l.getD k default)=true) (k:Nat) (hk:k<l.length):VT L_ (fnC Tryz.f27 [1,1,0,1,0,0]) (few_ly_I l k) .normal (few_ly_I l (k+1)):=by
 have q:=h k hk
 simp only[smallB,P_,E_] at q
 obtain ⟨q1,q2⟩:=q
 have oz1:=(show 0≤(↑k:Int) by omega)
 have oz2:=(map_at (nodC) (default) (l:=l) (i:=k) hk)
 exact VT.run (W:=[r_,b_,.r [] [.row (sO oz2),o_,o_,o_,.row (sO oz2),o_,o_,o_,o_,.sel 1],d_,.r [] [.n ((↑k:Int)+1)]]) (G:=[.any (rg [(15,14),(36,1)]),.weak 5 (i64 (↑(k+1):Int)),.sort]) (by kernel_rfl) (.c (show decide ((↑k:Int)<((K_ nodC l).length:Int))=true by (simp;omega))<|.c oz1<|.c oz2<|.c oz1<|.c oz2<|.c (show (decide (((K_ (row1 .i8) (l.getD k default).w).length:Int)>1000) || decide (((K_ (row1 .i32) (l.getD k default).b).length:Int)>100))=false by (simp at *;omega))<|.c (i6n ((↑k:Int)+1) (by omega))<|.c (wS_ k)<|.n)
theorem few_ly_e (l:List Nod) (hl:l.length≤12) (h:∀ k,k<l.length→smallB (l.getD k default)=true):VT L_ (fnC Tryz.f27 [1,1,0,1,0,0]) (few_ly_I l (l.length)) (.exit 0) (few_ly_Z l):=by
 exact VT.run (W:=[r_,d_]) (G:=[.any (rg [(15,4)]),.sort]) (by kernel_rfl) (.c (show decide ((l.length:Int)<((K_ nodC l).length:Int))=false by (simp;done))<|.n)
theorem few_ly (l:List Nod) (hl:l.length≤12) (h:∀ k,k<l.length→smallB (l.getD k default)=true):VT L_ (fnC Tryz.f27 [1,1,0,1,0]) (few_ly_I l 0) (.exit 0) (few_ly_Z l) :=
 VT.loop (fun k=>few_ly_I l k) (l.length) (fun k hk=>few_ly_s l hl h k hk) (few_ly_e l hl h) (by intro h;cases h)
noncomputable def few_ln_I (l:List Nod) (m:Nat) (k:Nat):VS:=stt 37 [(0,.sl 19 (l.map nodC)),(5,i64 k)] []
noncomputable def few_ln_Z (l:List Nod) (m:Nat):VS:=stt 37 [(4,bv false)] []
theorem few_ln_s (l:List Nod) (m:Nat) (hl:l.length≤12) (hm:m<l.length) (hf:smallB (l.getD m default)=false) (h:∀ k,k<m→smallB (l.getD k default)=true) (k:Nat) (hk:k<m):VT L_ (fnC Tryz.f27 [1,1,0,1,0,0]) (few_ln_I l m k) .normal (few_ln_I l m (k+1)):=by
 have q:=h k hk
 simp only[smallB,P_,E_] at q
 obtain ⟨q1,q2⟩:=q
 have oz1:=(show 0≤(↑k:Int) by omega)
 have oz2:=(map_at (nodC) (default) (l:=l) (i:=k) (by omega))
 exact VT.run (W:=[r_,b_,.r [] [.row (sO oz2),o_,o_,o_,.row (sO oz2),o_,o_,o_,o_,.sel 1],d_,.r [] [.n ((↑k:Int)+1)]]) (G:=[.any (rg [(15,14),(36,1)]),.weak 5 (i64 (↑(k+1):Int)),.sort]) (by kernel_rfl) (.c (show decide ((↑k:Int)<((K_ nodC l).length:Int))=true by (simp;omega))<|.c oz1<|.c oz2<|.c oz1<|.c oz2<|.c (show (decide (((K_ (row1 .i8) (l.getD k default).w).length:Int)>1000) || decide (((K_ (row1 .i32) (l.getD k default).b).length:Int)>100))=false by (simp at *;omega))<|.c (i6n ((↑k:Int)+1) (by omega))<|.c (wS_ k)<|.n)
theorem few_ln_e (l:List Nod) (m:Nat) (hl:l.length≤12) (hm:m<l.length) (hf:smallB (l.getD m default)=false) (h:∀ k,k<m→smallB (l.getD k default)=true):VT L_ (fnC Tryz.f27 [1,1,0,1,0,0]) (few_ln_I l m (m)) (.ret) (few_ln_Z l m):=by
 simp only[smallB,S_,F_] at hf
 have oz1:=(show 0≤(↑m:Int) by omega)
 have oz2:=(map_at (nodC) (default) (l:=l) (i:=m) hm)
 exact VT.run (W:=[r_,b_,.r [] [.row (sO oz2),o_,o_,o_,.row (sO oz2),o_,o_,o_,o_,.sel 1],b_,r_]) (G:=[.any (rg [(0,1),(5,1),(15,4),(21,8),(36,1)]),.sort]) (by kernel_rfl) (.c (show decide ((↑m:Int)<((K_ nodC l).length:Int))=true by (simp;omega))<|.c oz1<|.c oz2<|.c oz1<|.c oz2<|.c (show (decide (((K_ (row1 .i8) (l.getD m default).w).length:Int)>1000) || decide (((K_ (row1 .i32) (l.getD m default).b).length:Int)>100))=true by (simp at *;omega))<|.n)
theorem few_ln (l:List Nod) (m:Nat) (hl:l.length≤12) (hm:m<l.length) (hf:smallB (l.getD m default)=false) (h:∀ k,k<m→smallB (l.getD k default)=true):VT L_ (fnC Tryz.f27 [1,1,0,1,0]) (few_ln_I l m 0) (.ret) (few_ln_Z l m) :=
 VT.loop (fun k=>few_ln_I l m k) (m) (fun k hk=>few_ln_s l m hl hm hf h k hk) (few_ln_e l m hl hm hf h) (by intro h;cases h)
theorem few_a (l:List Nod) (T:Ten) (h:12<l.length∨300<T.d.length):VC L_ 27 ([.sl 19 (l.map nodC),ten .i8 T]) (bv false):=by
 exact VC.run (fn:=Tryz.f27) (W:=[r_,.r [] [o_,o_,o_,o_,.sel 1],b_,r_]) Tryz.func27 (by kernel_rfl) (.c (show (decide (((K_ nodC l).length:Int)>12) || decide (((K_ (row1 .i8) T.d).length:Int)>300))=true by (simp;omega))<|.n)
theorem few_y (l:List Nod) (T:Ten) (hl:l.length≤12) (hd:T.d.length≤300) (h:∀ k,k<l.length→smallB (l.getD k default)=true):VC L_ 27 ([.sl 19 (l.map nodC),ten .i8 T]) (bv true):=by
 have oz2:=@few_ly (l) hl h
 exact VC.run (fn:=Tryz.f27) (W:=[r_,.r [] [o_,o_,o_,o_,.sel 1],d_,r_,.code [.any [1,3,4,6,7,8,9,14],.drop [3],.weak 5 (i64 (↑0:Int)),.sort] (AF_ 0) (zO oz2),r_]) Tryz.func27 (by kernel_rfl) (.c (show (decide (((K_ nodC l).length:Int)>12) || decide (((K_ (row1 .i8) T.d).length:Int)>300))=false by (simp;omega))<|.c w0_<|.c oz2<|.n)
theorem few_n (l:List Nod) (T:Ten) (m:Nat) (hl:l.length≤12) (hd:T.d.length≤300) (hm:m<l.length) (hf:smallB (l.getD m default)=false) (h:∀ k,k<m→smallB (l.getD k default)=true):VC L_ 27 ([.sl 19 (l.map nodC),ten .i8 T]) (bv false):=by
 have oz2:=@few_ln (l) (m) hl hm hf h
 exact VC.run (fn:=Tryz.f27) (W:=[r_,.r [] [o_,o_,o_,o_,.sel 1],d_,r_,.code [.any [1,3,4,6,7,8,9,14],.drop [3],.weak 5 (i64 (↑0:Int)),.sort] (CA_) (zO oz2)]) Tryz.func27 (by kernel_rfl) (.c (show (decide (((K_ nodC l).length:Int)>12) || decide (((K_ (row1 .i8) T.d).length:Int)>300))=false by (simp;omega))<|.c w0_<|.c oz2<|.n)
theorem few_v (l:List Nod) (T:Ten):VC L_ 27 [.sl 19 (l.map nodC),ten .i8 T] (bv (fewB l T.d.length)):=by
 unfold fewB
 by_cases h1:l.length≤12
 ·by_cases h2:T.d.length≤300
  ·rw[decide_eq_true h1,decide_eq_true h2]
   rcases all_or (fun k=>smallB (l.getD k default)) l.length with h|⟨m,g1,g2,g3⟩
   ·rw[all_getD.2 h];exact few_y l T h1 h2 h
   ·have:l.all smallB=false:=by
     cases e:l.all smallB with
     | false=>rfl
     | true=>have:=all_getD.1 e m g1;exact absurd (this.symm.trans g2) (by simp)
    rw[this];exact few_n l T m h1 h2 g1 g2 g3
  ·rw[decide_eq_false h2,BP_,AE_];exact few_a l T (.inr (by omega))
 ·rw[decide_eq_false h1,AE_,AE_];exact few_a l T (.inl (by omega))
theorem few_0 (l:List Nod):VC L_ 27 [.sl 19 (l.map nodC),.agg [i64 0,i64 0,i64 0,.sl 1 []]] (bv (fewB l 0)):=few_v l ⟨0,0,0,[]⟩
theorem few_facts {l:List Nod} {d:Nat} (h:fewB l d=true):l.length≤12∧d≤300∧∀ n∈l,n.w.length≤1000∧n.b.length≤100:=by
 simp only[fewB,P_,E_,CZ_,smallB] at h
 exact ⟨h.1.1,h.1.2,fun n hn=>h.2 n hn⟩
theorem few_wide {l:List Nod} {d:Nat} (h:fewB l d=true):∀ n∈l,n.w.length≤100000∧n.b.length≤100000:=fun n hn=>by
 have:=(few_facts h).2.2 n hn;omega
structure Blc where
 n:List Nod
 ex:Bool
 w:List Int
 b:List Int
 nd:Int
abbrev blcC (x:Blc):List AV:=[.sl 19 (x.n.map nodC),bv x.ex,ints .i8 x.w,ints .i32 x.b,i32 x.nd]
structure Blc.Ok (x:Blc):Prop where
 n:∀ d∈x.n,Nod.Ok d
 w:∀ v∈x.w,In8 v
 b:∀ v∈x.b,In32 v
 nd:In32 x.nd
instance:Inhabited Blc:=⟨⟨[],false,[],[],0⟩⟩
structure Mdl where
 l:List Blc
abbrev mdlC (m:Mdl):List AV:=[.sl 5 (m.l.map blcC)]
structure Mdl.Ok (m:Mdl):Prop where
 l:∀ d∈m.l,Blc.Ok d
instance:Inhabited Mdl:=⟨⟨[]⟩⟩
structure Bun where
 h:Int
 x:Int
 c:Int
 cl:Int
 m:List Mdl
abbrev bunC (u:Bun):List AV:=[i64 u.h,i64 u.x,i64 u.c,i64 u.cl,.sl 1 (u.m.map mdlC)]
structure Bun.Ok (u:Bun):Prop where
 h:In64 u.h
 x:In64 u.x
 c:In64 u.c
 cl:In64 u.cl
 m:∀ d∈u.m,Mdl.Ok d
abbrev Bun.inp (u:Bun):Shp:=⟨u.h,u.x,u.c⟩
abbrev blc (x:Blc):AV:=.agg (blcC x)
abbrev bun (u:Bun):AV:=.agg (bunC u)
def blcS (x:Blc):Bool:=fewB x.n 0&&decide (x.w.length≤4000)&&decide (x.b.length≤100)
def mdlS (m:Mdl):Bool:=decide (m.l.length≤8)&&m.l.all blcS
def bunS (u:Bun):Bool:=decide (u.m.length≤4)&&u.m.all mdlS
theorem blcS_iff {x:Blc}:blcS x=true↔fewB x.n 0=true∧x.w.length≤4000∧x.b.length≤100:=by
 simp only[blcS,P_,E_,and_assoc]
theorem mdlS_iff {m:Mdl}:mdlS m=true↔m.l.length≤8∧∀ k,k<m.l.length→blcS (m.l.getD k default)=true:=by
 simp only[mdlS,P_,E_,all_getD]
noncomputable def few31_iy_I (u:Bun) (K:Int) (l:List Blc) (k:Nat):VS:=stt 60 [(1,.ptr 1 0 0),(3,i64 K),(4,.sl 5 (l.map blcC)),(5,i64 k)] [(1,.var (bunC u))]
noncomputable def few31_iy_Z (u:Bun) (K:Int) (l:List Blc):VS:=few31_iy_I u K l (l.length)
theorem few31_iy_s (u:Bun) (K:Int) (l:List Blc) (hl:l.length≤8) (h:∀ k,k<l.length→blcS (l.getD k default)=true) (k:Nat) (hk:k<l.length):VT L_ (fnC Tryz.f9 [1,1,0,1,0,0,1,0,0,1,1,1,0,0]) (few31_iy_I u K l k) .normal (few31_iy_I u K l (k+1)):=by
 have q:=blcS_iff.1 (h k hk)
 obtain ⟨q1,q2,q3⟩:=q
 have oz1:=(show 0≤(↑k:Int) by omega)
 have oz2:=(map_at (blcC) (default) (l:=l) (i:=k) hk)
 have oz4:=@few_0 ((l.getD k default).n)
 exact VT.run (W:=[r_,b_,.r [] [.row (sO oz2),.call (aO oz4) (rO oz4),o_,o_,o_,.row (sO oz2),o_,o_,o_,o_,o_,.sel 1,o_,o_,o_,.row (sO oz2),o_,o_,o_,o_,o_,.sel 1],d_,.r [] [.n ((↑k:Int)+1)]]) (G:=[.any (rg [(26,15),(49,2),(59,1)]),.weak 5 (i64 (↑(k+1):Int)),.sort]) (by kernel_rfl) (.c (show decide ((↑k:Int)<((K_ blcC l).length:Int))=true by (simp;omega))<|.c oz1<|.c oz2<|.c (show WeakL [AV.sl 19 (K_ nodC (l.getD k default).n),AV.agg [i64 0,i64 0,i64 0,AV.lit (AY_ none 0 0)]] [AV.sl 19 (K_ nodC (l.getD k default).n),AV.agg [i64 0,i64 0,i64 0,AV.sl 1 []]] from (.cons (.refl _) (.cons (AD_ (.cons (.refl _) (.cons (.refl _) (.cons (.refl _) (.cons (CK_ _) .nil))))) .nil)))<|.c oz4<|.c oz1<|.c oz2<|.c oz1<|.c oz2<|.c (show (!fewB (l.getD k default).n 0 || decide (((K_ (row1 .i8) (l.getD k default).w).length:Int)>4000) || decide (((K_ (row1 .i32) (l.getD k default).b).length:Int)>100))=false by (rw[q1];simp only[BQ_,BR_,T_,F_,N_];omega))<|.c (i6n ((↑k:Int)+1) (by omega))<|.c (wS_ k)<|.n)
theorem few31_iy_e (u:Bun) (K:Int) (l:List Blc) (hl:l.length≤8) (h:∀ k,k<l.length→blcS (l.getD k default)=true):VT L_ (fnC Tryz.f9 [1,1,0,1,0,0,1,0,0,1,1,1,0,0]) (few31_iy_I u K l (l.length)) (.exit 2) (few31_iy_Z u K l):=by
 exact VT.run (W:=[r_,d_]) (G:=[.any (rg [(26,4)]),.sort]) (by kernel_rfl) (.c (show decide ((l.length:Int)<((K_ blcC l).length:Int))=false by (simp;done))<|.n)
theorem few31_iy (u:Bun) (K:Int) (l:List Blc) (hl:l.length≤8) (h:∀ k,k<l.length→blcS (l.getD k default)=true):VT L_ (fnC Tryz.f9 [1,1,0,1,0,0,1,0,0,1,1,1,0]) (few31_iy_I u K l 0) (.exit 2) (few31_iy_Z u K l) :=
 VT.loop (fun k=>few31_iy_I u K l k) (l.length) (fun k hk=>few31_iy_s u K l hl h k hk) (few31_iy_e u K l hl h) (by intro h;cases h)
noncomputable def few31_in_I (u:Bun) (K:Int) (l:List Blc) (m:Nat) (k:Nat):VS:=stt 60 [(1,.ptr 1 0 0),(3,i64 K),(4,.sl 5 (l.map blcC)),(5,i64 k)] [(1,.var (bunC u))]
noncomputable def few31_in_Z (u:Bun) (K:Int) (l:List Blc) (m:Nat):VS:=stt 60 [(2,bv false)] []
theorem few31_in_s (u:Bun) (K:Int) (l:List Blc) (m:Nat) (hl:l.length≤8) (hm:m<l.length) (hf:blcS (l.getD m default)=false) (h:∀ k,k<m→blcS (l.getD k default)=true) (k:Nat) (hk:k<m):VT L_ (fnC Tryz.f9 [1,1,0,1,0,0,1,0,0,1,1,1,0,0]) (few31_in_I u K l m k) .normal (few31_in_I u K l m (k+1)):=by
 have q:=blcS_iff.1 (h k hk)
 obtain ⟨q1,q2,q3⟩:=q
 have oz1:=(show 0≤(↑k:Int) by omega)
 have oz2:=(map_at (blcC) (default) (l:=l) (i:=k) (by omega))
 have oz4:=@few_0 ((l.getD k default).n)
 exact VT.run (W:=[r_,b_,.r [] [.row (sO oz2),.call (aO oz4) (rO oz4),o_,o_,o_,.row (sO oz2),o_,o_,o_,o_,o_,.sel 1,o_,o_,o_,.row (sO oz2),o_,o_,o_,o_,o_,.sel 1],d_,.r [] [.n ((↑k:Int)+1)]]) (G:=[.any (rg [(26,15),(49,2),(59,1)]),.weak 5 (i64 (↑(k+1):Int)),.sort]) (by kernel_rfl) (.c (show decide ((↑k:Int)<((K_ blcC l).length:Int))=true by (simp;omega))<|.c oz1<|.c oz2<|.c (show WeakL [AV.sl 19 (K_ nodC (l.getD k default).n),AV.agg [i64 0,i64 0,i64 0,AV.lit (AY_ none 0 0)]] [AV.sl 19 (K_ nodC (l.getD k default).n),AV.agg [i64 0,i64 0,i64 0,AV.sl 1 []]] from (.cons (.refl _) (.cons (AD_ (.cons (.refl _) (.cons (.refl _) (.cons (.refl _) (.cons (CK_ _) .nil))))) .nil)))<|.c oz4<|.c oz1<|.c oz2<|.c oz1<|.c oz2<|.c (show (!fewB (l.getD k default).n 0 || decide (((K_ (row1 .i8) (l.getD k default).w).length:Int)>4000) || decide (((K_ (row1 .i32) (l.getD k default).b).length:Int)>100))=false by (rw[q1];simp only[BQ_,BR_,T_,F_,N_];omega))<|.c (i6n ((↑k:Int)+1) (by omega))<|.c (wS_ k)<|.n)
theorem few31_in_e (u:Bun) (K:Int) (l:List Blc) (m:Nat) (hl:l.length≤8) (hm:m<l.length) (hf:blcS (l.getD m default)=false) (h:∀ k,k<m→blcS (l.getD k default)=true):VT L_ (fnC Tryz.f9 [1,1,0,1,0,0,1,0,0,1,1,1,0,0]) (few31_in_I u K l m (m)) (.ret) (few31_in_Z u K l m):=by
 have q0:fewB (l.getD m default).n 0=true→¬ ((l.getD m default).w.length≤4000∧(l.getD m default).b.length≤100):=fun c d=>by rw[blcS_iff.2 ⟨c,d⟩] at hf;cases hf
 have oz1:=(show 0≤(↑m:Int) by omega)
 have oz2:=(map_at (blcC) (default) (l:=l) (i:=m) hm)
 have oz4:=@few_0 ((l.getD m default).n)
 exact VT.run (W:=[r_,b_,.r [] [.row (sO oz2),.call (aO oz4) (rO oz4),o_,o_,o_,.row (sO oz2),o_,o_,o_,o_,o_,.sel 1,o_,o_,o_,.row (sO oz2),o_,o_,o_,o_,o_,.sel 1],b_,r_]) (G:=[.any (rg [(1,1),(3,3),(26,4),(32,9),(49,2),(59,1)]),.drop [1],.sort]) (by kernel_rfl) (.c (show decide ((↑m:Int)<((K_ blcC l).length:Int))=true by (simp;omega))<|.c oz1<|.c oz2<|.c (show WeakL [AV.sl 19 (K_ nodC (l.getD m default).n),AV.agg [i64 0,i64 0,i64 0,AV.lit (AY_ none 0 0)]] [AV.sl 19 (K_ nodC (l.getD m default).n),AV.agg [i64 0,i64 0,i64 0,AV.sl 1 []]] from (.cons (.refl _) (.cons (AD_ (.cons (.refl _) (.cons (.refl _) (.cons (.refl _) (.cons (CK_ _) .nil))))) .nil)))<|.c oz4<|.c oz1<|.c oz2<|.c oz1<|.c oz2<|.c (show (!fewB (l.getD m default).n 0 || decide (((K_ (row1 .i8) (l.getD m default).w).length:Int)>4000) || decide (((K_ (row1 .i32) (l.getD m default).b).length:Int)>100))=true by (cases ef:fewB (l.getD m default).n 0 with|false=>rfl|true=>(have q9:=q0 ef;simp only[BQ_,BR_,Z_,E_,N_];omega)))<|.n)
theorem few31_in (u:Bun) (K:Int) (l:List Blc) (m:Nat) (hl:l.length≤8) (hm:m<l.length) (hf:blcS (l.getD m default)=false) (h:∀ k,k<m→blcS (l.getD k default)=true):VT L_ (fnC Tryz.f9 [1,1,0,1,0,0,1,0,0,1,1,1,0]) (few31_in_I u K l m 0) (.ret) (few31_in_Z u K l m) :=
 VT.loop (fun k=>few31_in_I u K l m k) (m) (fun k hk=>few31_in_s u K l m hl hm hf h k hk) (few31_in_e u K l m hl hm hf h) (by intro h;cases h)
noncomputable def few31_oy_I (u:Bun) (k:Nat):VS:=stt 60 [(1,.ptr 1 0 0),(3,i64 k)] [(1,.var (bunC u))]
noncomputable def few31_oy_Z (u:Bun):VS:=few31_oy_I u (u.m.length)
theorem few31_oy_s (u:Bun) (hl:u.m.length≤4) (h:∀ k,k<u.m.length→mdlS (u.m.getD k default)=true) (k:Nat) (hk:k<u.m.length):VT L_ (fnC Tryz.f9 [1,1,0,1,0,0]) (few31_oy_I u k) .normal (few31_oy_I u (k+1)):=by
 have q:=mdlS_iff.1 (h k hk)
 obtain ⟨q1,q2⟩:=q
 have oz2:=(map_at (mdlC) (default) (l:=u.m) (i:=k) hk)
 have oz5:=@few31_iy (u) ((↑k:Int)) ((u.m.getD k default).l) q1 q2
 exact VT.run (W:=[r_,b_,.r [] [.row (sO oz2)],r_,d_,r_,.code [.any (rg [(10,5),(17,9)]),.weak 5 (i64 (↑0:Int)),.sort] (AF_ 2) (zO oz5),.r [] [.n ((↑k:Int)+1)]]) (G:=[.any [4,5,15,16],.weak 3 (i64 (↑(k+1):Int)),.sort]) (by kernel_rfl) (.c (show decide ((↑k:Int)<((K_ mdlC u.m).length:Int))=true by (simp;omega))<|.c (show 0≤(↑k:Int) by omega)<|.c oz2<|.c (show decide (((K_ blcC (u.m.getD k default).l).length:Int)>8)=false by (simp at *;omega))<|.c w0_<|.c oz5<|.c (i6n ((↑k:Int)+1) (by omega))<|.c (wS_ k)<|.n)
theorem few31_oy_e (u:Bun) (hl:u.m.length≤4) (h:∀ k,k<u.m.length→mdlS (u.m.getD k default)=true):VT L_ (fnC Tryz.f9 [1,1,0,1,0,0]) (few31_oy_I u (u.m.length)) (.exit 0) (few31_oy_Z u):=by
 exact VT.run (W:=[r_,d_]) (G:=[.any (rg [(10,5)]),.sort]) (by kernel_rfl) (.c (show decide ((u.m.length:Int)<((K_ mdlC u.m).length:Int))=false by (simp;done))<|.n)
theorem few31_oy (u:Bun) (hl:u.m.length≤4) (h:∀ k,k<u.m.length→mdlS (u.m.getD k default)=true):VT L_ (fnC Tryz.f9 [1,1,0,1,0]) (few31_oy_I u 0) (.exit 0) (few31_oy_Z u) :=
 VT.loop (fun k=>few31_oy_I u k) (u.m.length) (fun k hk=>few31_oy_s u hl h k hk) (few31_oy_e u hl h) (by intro h;cases h)
noncomputable def few31_oa_I (u:Bun) (m:Nat) (k:Nat):VS:=stt 60 [(1,.ptr 1 0 0),(3,i64 k)] [(1,.var (bunC u))]
noncomputable def few31_oa_Z (u:Bun) (m:Nat):VS:=stt 60 [(2,bv false)] []
theorem few31_oa_s (u:Bun) (m:Nat) (hl:u.m.length≤4) (hm:m<u.m.length) (hf:8<(u.m.getD m default).l.length) (h:∀ k,k<m→mdlS (u.m.getD k default)=true) (k:Nat) (hk:k<m):VT L_ (fnC Tryz.f9 [1,1,0,1,0,0]) (few31_oa_I u m k) .normal (few31_oa_I u m (k+1)):=by
 have q:=mdlS_iff.1 (h k hk)
 obtain ⟨q1,q2⟩:=q
 have oz2:=(map_at (mdlC) (default) (l:=u.m) (i:=k) (by omega))
 have oz5:=@few31_iy (u) ((↑k:Int)) ((u.m.getD k default).l) q1 q2
 exact VT.run (W:=[r_,b_,.r [] [.row (sO oz2)],r_,d_,r_,.code [.any (rg [(10,5),(17,9)]),.weak 5 (i64 (↑0:Int)),.sort] (AF_ 2) (zO oz5),.r [] [.n ((↑k:Int)+1)]]) (G:=[.any [4,5,15,16],.weak 3 (i64 (↑(k+1):Int)),.sort]) (by kernel_rfl) (.c (show decide ((↑k:Int)<((K_ mdlC u.m).length:Int))=true by (simp;omega))<|.c (show 0≤(↑k:Int) by omega)<|.c oz2<|.c (show decide (((K_ blcC (u.m.getD k default).l).length:Int)>8)=false by (simp at *;omega))<|.c w0_<|.c oz5<|.c (i6n ((↑k:Int)+1) (by omega))<|.c (wS_ k)<|.n)
theorem few31_oa_e (u:Bun) (m:Nat) (hl:u.m.length≤4) (hm:m<u.m.length) (hf:8<(u.m.getD m default).l.length) (h:∀ k,k<m→mdlS (u.m.getD k default)=true):VT L_ (fnC Tryz.f9 [1,1,0,1,0,0]) (few31_oa_I u m (m)) (.ret) (few31_oa_Z u m):=by
 have oz2:=(map_at (mdlC) (default) (l:=u.m) (i:=m) hm)
 exact VT.run (W:=[r_,b_,.r [] [.row (sO oz2)],r_,b_,r_]) (G:=[.any (rg [(1,1),(3,2),(10,5),(17,9)]),.drop [1],.sort]) (by kernel_rfl) (.c (show decide ((↑m:Int)<((K_ mdlC u.m).length:Int))=true by (simp;omega))<|.c (show 0≤(↑m:Int) by omega)<|.c oz2<|.c (show decide (((K_ blcC (u.m.getD m default).l).length:Int)>8)=true by (simp at *;omega))<|.n)
theorem few31_oa (u:Bun) (m:Nat) (hl:u.m.length≤4) (hm:m<u.m.length) (hf:8<(u.m.getD m default).l.length) (h:∀ k,k<m→mdlS (u.m.getD k default)=true):VT L_ (fnC Tryz.f9 [1,1,0,1,0]) (few31_oa_I u m 0) (.ret) (few31_oa_Z u m) :=
 VT.loop (fun k=>few31_oa_I u m k) (m) (fun k hk=>few31_oa_s u m hl hm hf h k hk) (few31_oa_e u m hl hm hf h) (by intro h;cases h)
noncomputable def few31_ob_I (u:Bun) (m j:Nat) (k:Nat):VS:=stt 60 [(1,.ptr 1 0 0),(3,i64 k)] [(1,.var (bunC u))]
noncomputable def few31_ob_Z (u:Bun) (m j:Nat):VS:=stt 60 [(2,bv false)] []
theorem few31_ob_s (u:Bun) (m j:Nat) (hl:u.m.length≤4) (hm:m<u.m.length) (hs:(u.m.getD m default).l.length≤8) (hj:j<(u.m.getD m default).l.length) (hf:blcS ((u.m.getD m default).l.getD j default)=false) (hb:∀ k,k<j→blcS ((u.m.getD m default).l.getD k default)=true) (h:∀ k,k<m→mdlS (u.m.getD k default)=true) (k:Nat) (hk:k<m):VT L_ (fnC Tryz.f9 [1,1,0,1,0,0]) (few31_ob_I u m j k) .normal (few31_ob_I u m j (k+1)):=by
 have q:=mdlS_iff.1 (h k hk)
 obtain ⟨q1,q2⟩:=q
 have oz2:=(map_at (mdlC) (default) (l:=u.m) (i:=k) (by omega))
 have oz5:=@few31_iy (u) ((↑k:Int)) ((u.m.getD k default).l) q1 q2
 exact VT.run (W:=[r_,b_,.r [] [.row (sO oz2)],r_,d_,r_,.code [.any (rg [(10,5),(17,9)]),.weak 5 (i64 (↑0:Int)),.sort] (AF_ 2) (zO oz5),.r [] [.n ((↑k:Int)+1)]]) (G:=[.any [4,5,15,16],.weak 3 (i64 (↑(k+1):Int)),.sort]) (by kernel_rfl) (.c (show decide ((↑k:Int)<((K_ mdlC u.m).length:Int))=true by (simp;omega))<|.c (show 0≤(↑k:Int) by omega)<|.c oz2<|.c (show decide (((K_ blcC (u.m.getD k default).l).length:Int)>8)=false by (simp at *;omega))<|.c w0_<|.c oz5<|.c (i6n ((↑k:Int)+1) (by omega))<|.c (wS_ k)<|.n)
theorem few31_ob_e (u:Bun) (m j:Nat) (hl:u.m.length≤4) (hm:m<u.m.length) (hs:(u.m.getD m default).l.length≤8) (hj:j<(u.m.getD m default).l.length) (hf:blcS ((u.m.getD m default).l.getD j default)=false) (hb:∀ k,k<j→blcS ((u.m.getD m default).l.getD k default)=true) (h:∀ k,k<m→mdlS (u.m.getD k default)=true):VT L_ (fnC Tryz.f9 [1,1,0,1,0,0]) (few31_ob_I u m j (m)) (.ret) (few31_ob_Z u m j):=by
 have oz2:=(map_at (mdlC) (default) (l:=u.m) (i:=m) hm)
 have oz5:=@few31_in (u) ((↑m:Int)) ((u.m.getD m default).l) (j) hs hj hf hb
 exact VT.run (W:=[r_,b_,.r [] [.row (sO oz2)],r_,d_,r_,.code [.any (rg [(10,5),(17,9)]),.weak 5 (i64 (↑0:Int)),.sort] (CA_) (zO oz5)]) (G:=[.sort]) (by kernel_rfl) (.c (show decide ((↑m:Int)<((K_ mdlC u.m).length:Int))=true by (simp;omega))<|.c (show 0≤(↑m:Int) by omega)<|.c oz2<|.c (show decide (((K_ blcC (u.m.getD m default).l).length:Int)>8)=false by (simp at *;omega))<|.c w0_<|.c oz5<|.n)
theorem few31_ob (u:Bun) (m j:Nat) (hl:u.m.length≤4) (hm:m<u.m.length) (hs:(u.m.getD m default).l.length≤8) (hj:j<(u.m.getD m default).l.length) (hf:blcS ((u.m.getD m default).l.getD j default)=false) (hb:∀ k,k<j→blcS ((u.m.getD m default).l.getD k default)=true) (h:∀ k,k<m→mdlS (u.m.getD k default)=true):VT L_ (fnC Tryz.f9 [1,1,0,1,0]) (few31_ob_I u m j 0) (.ret) (few31_ob_Z u m j) :=
 VT.loop (fun k=>few31_ob_I u m j k) (m) (fun k hk=>few31_ob_s u m j hl hm hs hj hf hb h k hk) (few31_ob_e u m j hl hm hs hj hf hb h) (by intro h;cases h)
theorem few31_a (u:Bun) (h:4<u.m.length):VC L_ 9 ([bun u]) (bv false):=by
 exact VC.run (fn:=Tryz.f9) (W:=[r_,r_,b_,r_]) Tryz.func9 (by kernel_rfl) (.c (show decide (((K_ mdlC u.m).length:Int)>4)=true by (simp;omega))<|.n)
theorem few31_y (u:Bun) (hl:u.m.length≤4) (h:∀ k,k<u.m.length→mdlS (u.m.getD k default)=true):VC L_ 9 ([bun u]) (bv true):=by
 have oz2:=@few31_oy (u) hl h
 exact VC.run (fn:=Tryz.f9) (W:=[r_,r_,d_,r_,.code [.any [0,2,6,7,8,9],.weak 3 (i64 (↑0:Int)),.sort] (AF_ 0) (zO oz2),r_]) Tryz.func9 (by kernel_rfl) (.c (show decide (((K_ mdlC u.m).length:Int)>4)=false by (simp;omega))<|.c w0_<|.c oz2<|.n)
theorem few31_na (u:Bun) (m:Nat) (hl:u.m.length≤4) (hm:m<u.m.length) (hf:8<(u.m.getD m default).l.length) (h:∀ k,k<m→mdlS (u.m.getD k default)=true):VC L_ 9 ([bun u]) (bv false):=by
 have oz2:=@few31_oa (u) (m) hl hm hf h
 exact VC.run (fn:=Tryz.f9) (W:=[r_,r_,d_,r_,.code [.any [0,2,6,7,8,9],.weak 3 (i64 (↑0:Int)),.sort] (CA_) (zO oz2)]) Tryz.func9 (by kernel_rfl) (.c (show decide (((K_ mdlC u.m).length:Int)>4)=false by (simp;omega))<|.c w0_<|.c oz2<|.n)
theorem few31_nb (u:Bun) (m j:Nat) (hl:u.m.length≤4) (hm:m<u.m.length) (hs:(u.m.getD m default).l.length≤8) (hj:j<(u.m.getD m default).l.length) (hf:blcS ((u.m.getD m default).l.getD j default)=false) (hb:∀ k,k<j→blcS ((u.m.getD m default).l.getD k default)=true) (h:∀ k,k<m→mdlS (u.m.getD k default)=true):VC L_ 9 ([bun u]) (bv false):=by
 have oz2:=@few31_ob (u) (m) (j) hl hm hs hj hf hb h
 exact VC.run (fn:=Tryz.f9) (W:=[r_,r_,d_,r_,.code [.any [0,2,6,7,8,9],.weak 3 (i64 (↑0:Int)),.sort] (CA_) (zO oz2)]) Tryz.func9 (by kernel_rfl) (.c (show decide (((K_ mdlC u.m).length:Int)>4)=false by (simp;omega))<|.c w0_<|.c oz2<|.n)
theorem few31_v (u:Bun):VC L_ 9 [bun u] (bv (bunS u)):=by
 unfold bunS
 by_cases h1:u.m.length≤4
 ·rw[decide_eq_true h1,BO_]
  rcases all_or (fun k=>mdlS (u.m.getD k default)) u.m.length with h|⟨m,g1,g2,g3⟩
  ·rw[all_getD.2 h];exact few31_y u h1 h
  ·have:u.m.all mdlS=false:=by
    cases e:u.m.all mdlS with
    | false=>rfl
    | true=>have:=all_getD.1 e m g1;exact absurd (this.symm.trans g2) (by simp)
   rw[this]
   by_cases h2:8<(u.m.getD m default).l.length
   ·exact few31_na u m h1 g1 h2 g3
   ·rcases all_or (fun k=>blcS ((u.m.getD m default).l.getD k default)) (u.m.getD m default).l.length with h|⟨j,j1,j2,j3⟩
    ·exfalso
     have:mdlS (u.m.getD m default)=true:=mdlS_iff.2 ⟨by omega,h⟩
     exact absurd (this.symm.trans g2) (by simp)
    ·exact few31_nb u m j h1 g1 (by omega) j1 j2 j3 g3
 ·rw[decide_eq_false h1,AE_];exact few31_a u (by omega)
theorem blc_facts {x:Blc} (h:blcS x=true):x.n.length≤12∧(∀ n∈x.n,n.w.length≤1000∧n.b.length≤100)∧(∀ n∈x.n,n.w.length≤100000∧n.b.length≤100000)∧x.w.length≤4000∧x.b.length≤100:=by
 have h:=blcS_iff.1 h
 exact ⟨(few_facts h.1).1,(few_facts h.1).2.2,few_wide h.1,h.2.1,h.2.2⟩
def six (n:Nod):List Int:=[n.na,n.nb,n.nk,n.ns,n.np,n.no]
def okI (v:Int):Bool:=decide (0≤v)&&decide (v≤1024)
theorem okI_n {v:Int} (h:okI v≠true):v<0∨1024<v:=by
 false_or_by_contra
 rename_i g
 exact h (by simp only[okI,P_,E_];omega)
def nodeP (n:Nod):List Int×Int:=if checkE n≠0 then ([],checkE n) else if (six n).all okI=false then ([],3) else if 16384<n.w.length∨16384<n.b.length then ([],3) else (nodeL putN n,0)
theorem six_y {n:Nod} (h:(six n).all okI=true):∀ k,k<6→okI ((six n).getD k default)=true:=by
 rw[all_getD] at h;exact h
theorem six_n {n:Nod} (h:(six n).all okI=false):∃ m,m<6∧okI ((six n).getD m default)≠true∧∀ k,k<m→okI ((six n).getD k default)=true:=by
 have:¬ ∀ k,k<6→okI ((six n).getD k default)=true:=fun g=>by
  have:(six n).all okI=true:=by rw[all_getD];exact g
  rw[this] at h;cases h
 false_or_by_contra
 rename_i hn
 refine this fun k hk=>?_
 induction k using Nat.strongRecOn with
 | ind k ih =>
  false_or_by_contra
  rename_i hb
  exact hn ⟨k,hk,hb,fun j hj=>ih j hj (by omega)⟩
def accB (l:List Nod) (B:List Int):Nat→List Int
 | 0=>B
 | k+1=>accB l B k++(nodeP (l.getD k default)).1
theorem nodeR_le (n:Nod) (okn:n.Ok):(nodeP n).1.length≤n.w.length+10*n.b.length+200:=by
 unfold nodeP
 split
 ·exact CG_ _
 ·split
  ·exact CG_ _
  ·split
   ·exact CG_ _
   ·rename_i h
    have hx:=okn.b
    have h8:(smallL n.w).length=n.w.length:=N_ _
    have h32:=wideL_len n.b hx
    have p:∀ x,(putN x).length≤10:=putN_len
    dsimp only
    unfold nodeL
    have p1:=p n.kd;have p2:=p n.na;have p3:=p n.nb;have p4:=p n.nk;have p5:=p n.ns;have p6:=p n.np;have p7:=p n.no;have p8:=p n.qm;have p9:=p n.qs;have pa:=p n.rm;have pb:=p n.rs;have pc:=p (n.w.length:Int);have pd:=p (n.b.length:Int)
    repeat' split
    all_goals (first|unfold lb_1|unfold lb_2|unfold lb_3|unfold lb_4|unfold lb_6|unfold lb_7|unfold lb_8|unfold lb_9)
    all_goals (simp only[O_,AC_,BB_];omega)
structure Nods (l:List Nod):Prop where
 ok:∀ n∈l,n.Ok
 w:∀ n∈l,n.w.length≤3000∧n.b.length≤3000
theorem accB_le {l:List Nod} (h:Nods l) (B:List Int) {k:Nat} (hk:k≤l.length):(accB l B k).length≤B.length+34000*k:=by
 induction k with
 | zero=>exact AX_ _
 | succ k ih =>
  have a:=ih (by omega)
  have b:=nodeR_le _ (getD_in h.ok (show k<l.length by omega))
  have c:=getD_in h.w (show k<l.length by omega)
  rw[accB,O_];omega
theorem rput_1 (B:List Int) (L:Int→List Int) (x:Int) (hB:B.length≤1000000) (hL:RPuts L):VM L_ 94 ([.own 950,i64 x]) ([(950,.slc 5 1 ((B).map (row1 .u8)))]) (.own 951) ([(951,.slc 5 1 ((B++L x).map (row1 .u8)))]):=by
 have q:=hL.l x
 have oz0:=@rputs_v (L) hL (x)
 exact VM.run (fn:=Tryz.f94) (W:=[r_,.r [] [.w,.callr (rO oz0)]]) (G:=[.ren 9 951,.blk 951 (Blk.slc 5 1 (K_ (row1 .u8) (B++L x))),.sort]) Tryz.func94 (by kernel_rfl) (.c oz0<|.c (show ((K_ (row1 .u8) B).length+(K_ (row1 .u8) (L x)).length)*1≤140737488355328 by (simp only[N_];omega))<|.c (show (K_ (row1 .u8) B).length+(K_ (row1 .u8) (L x)).length≤9223372036854775807 by (simp only[N_];omega))<|.c (show BlkW (Blk.slc 5 1 (K_ (row1 .u8) B++K_ (row1 .u8) (L x))) (Blk.slc 5 1 (K_ (row1 .u8) (B++L x))) from (AG_ (e:=5) (z:=1) (rows_to (row1 .u8) (r:=K_ (row1 .u8) B++K_ (row1 .u8) (L x)) (l:=B++L x) (m:=B++L x) (by first|(simp only[A_,D_,AO_,AP_,X_,AM_,AN_];done)|rfl|(simp only[A_,D_,AO_,AP_,X_,AM_,AN_];rfl)) rfl)))<|.n)
theorem rlists_v (B:List Int) (L:Int→List Int) (w b:List Int) (hB:B.length≤500000) (hL:RPuts L) (hw:w.length≤100000) (hb:b.length≤16384) (hx:∀ x∈b,-2147483648≤x∧x≤2147483647):VM L_ 138 ([.own 950,ints .i8 w,ints .i32 b]) ([(950,.slc 5 1 ((B).map (row1 .u8)))]) (.own 951) ([(951,.slc 5 1 ((B++L (w.length:Int)++smallL w++L (b.length:Int)++wideL b).map (row1 .u8)))]):=by
 have q1:=hL.l (w.length:Int)
 have q3:=hL.l (b.length:Int)
 have q2:(smallL w).length=w.length:=N_ _
 have q4:(B++L (w.length:Int)).length=B.length+(L (w.length:Int)).length:=O_
 have q5:(B++L (w.length:Int)++smallL w).length=B.length+(L (w.length:Int)).length+w.length:=by rw[O_,q4,q2]
 have q6:(B++L (w.length:Int)++smallL w++L (b.length:Int)).length=B.length+(L (w.length:Int)).length+w.length+(L (b.length:Int)).length:=by rw[O_,q5]
 have q7:=wideL_len b hx
 have oz0:=@rput_1 (B) (L) (((K_ (row1 .i8) w).length:Int)) (by omega) hL
 have oz1:=@refSmall_v (w) (by omega)
 have oz4:=@VM.pre _ _ ([AV.own 950,i64 ((K_ (row1 .i32) b).length:Int)]) _ ([(950,Blk.slc 5 1 (K_ (row1 .u8) (B++L ((K_ (row1 .i8) w).length:Int))++K_ (row1 .u8) (smallL w)))]) _ _ _ ([GI.blk 950 (Blk.slc 5 1 (K_ (row1 .u8) (B++L ((K_ (row1 .i8) w).length:Int)++smallL w))),GI.sort]) _ (@rput_1 (B++L ((K_ (row1 .i8) w).length:Int)++smallL w) (L) (((K_ (row1 .i32) b).length:Int)) (by (simp only[N_];omega)) hL) (by kernel_rfl) (.c (AG_ (e:=5) (z:=1) (rows_to (row1 .u8) (r:=K_ (row1 .u8) (B++L ((K_ (row1 .i8) w).length:Int))++K_ (row1 .u8) (smallL w)) (l:=B++L ((K_ (row1 .i8) w).length:Int)++smallL w) (m:=B++L ((K_ (row1 .i8) w).length:Int)++smallL w) (by first|(simp only[A_,D_,AO_,AP_,X_,AM_,AN_];done)|rfl|(simp only[A_,D_,AO_,AP_,X_,AM_,AN_];rfl)) rfl))<|.n)
 have oz5:=@refWide_v (b) hx (by omega)
 exact VM.run (fn:=Tryz.f138) (W:=[r_,.r [] [.callm [(950,950)] [(951,20000)] (rM oz0) (oM oz0),.callr (rO oz1)],.r [] [.callm [(13,950)] [(951,20001)] (rM oz4) (oM oz4),.callr (rO oz5)]]) (G:=[.ren 20 951,.blk 951 (Blk.slc 5 1 (K_ (row1 .u8) (B++L (w.length:Int)++smallL w++L (b.length:Int)++wideL b))),.sort]) Tryz.func138 (by kernel_rfl) (.c oz0<|.c oz1<|.c (show ((K_ (row1 .u8) (B++L ((K_ (row1 .i8) w).length:Int))).length+(K_ (row1 .u8) (smallL w)).length)*1≤140737488355328 by (simp only[N_];omega))<|.c (show (K_ (row1 .u8) (B++L ((K_ (row1 .i8) w).length:Int))).length+(K_ (row1 .u8) (smallL w)).length≤9223372036854775807 by (simp only[N_];omega))<|.c oz4<|.c oz5<|.c (show ((K_ (row1 .u8) (B++L ((K_ (row1 .i8) w).length:Int)++smallL w++L ((K_ (row1 .i32) b).length:Int))).length+(K_ (row1 .u8) (wideL b)).length)*1≤140737488355328 by (simp only[N_];omega))<|.c (show (K_ (row1 .u8) (B++L ((K_ (row1 .i8) w).length:Int)++smallL w++L ((K_ (row1 .i32) b).length:Int))).length+(K_ (row1 .u8) (wideL b)).length≤9223372036854775807 by (simp only[N_];omega))<|.c (show BlkW (Blk.slc 5 1 (K_ (row1 .u8) (B++L ((K_ (row1 .i8) w).length:Int)++smallL w++L ((K_ (row1 .i32) b).length:Int))++K_ (row1 .u8) (wideL b))) (Blk.slc 5 1 (K_ (row1 .u8) (B++L (w.length:Int)++smallL w++L (b.length:Int)++wideL b))) from (AG_ (e:=5) (z:=1) (rows_to (row1 .u8) (r:=K_ (row1 .u8) (B++L ((K_ (row1 .i8) w).length:Int)++smallL w++L ((K_ (row1 .i32) b).length:Int))++K_ (row1 .u8) (wideL b)) (l:=B++L ((K_ (row1 .i8) w).length:Int)++smallL w++L ((K_ (row1 .i32) b).length:Int)++wideL b) (m:=B++L (w.length:Int)++smallL w++L (b.length:Int)++wideL b) (by first|(simp only[A_,D_,AO_,AP_,X_,AM_,AN_];done)|rfl|(simp only[A_,D_,AO_,AP_,X_,AM_,AN_];rfl)) (show (B++L ((K_ (row1 .i8) w).length:Int)++smallL w++L ((K_ (row1 .i32) b).length:Int)++wideL b)=(B++L (w.length:Int)++smallL w++L (b.length:Int)++wideL b) from (by (simp;done))))))<|.n)
theorem tells_1 (k:Int) (h:k=1):VC L_ 163 ([i64 k]) (.agg [bv false,bv true,bv true,bv true,bv true,bv true]):=by
 have oz0:=(show (k==1) = !false by (refine decide_eq_true ?_;omega))
 have oz2:=(show (k==1)=true by (refine decide_eq_true ?_;omega))
 have oz3:=(show true = !false by (simp;done))
 have oz5:=(show true=true by with_reducible rfl)
 exact (VC.run (fn:=Tryz.f163) (W:=[r_,.r [] [f_,f_,e_,f_,f_,e_],.r [] [f_,f_,e_,f_,f_,e_],.r [] [f_,f_,e_,f_,f_,e_,f_,f_,e_,f_,f_,e_,f_,f_,e_]]) (r:=AV.agg [bv (k==6),bv true,bv true,bv true,bv true,bv true]) Tryz.func163 (by kernel_rfl) (.c oz0<|.c oz0<|.c oz2<|.c oz3<|.c oz3<|.c oz5<|.c oz3<|.c oz3<|.c oz5<|.c oz3<|.c oz3<|.c oz5<|.c oz0<|.c oz0<|.c oz2<|.c oz3<|.c oz3<|.c oz5<|.c oz3<|.c oz3<|.c oz5<|.c oz0<|.c oz0<|.c oz2<|.c oz3<|.c oz3<|.c oz5<|.n)).weak (B_ _) (AD_ (.cons (AZ_ (by (refine decide_eq_false ?_;omega))) (.cons (.refl _) (.cons (.refl _) (.cons (.refl _) (.cons (.refl _) (.cons (.refl _) .nil)))))))
theorem tells_2 (k:Int) (h:k=2):VC L_ 163 ([i64 k]) (.agg [bv false,bv true,bv false,bv true,bv true,bv true]):=by
 have oz0:=(show (k==1)=false by (refine decide_eq_false ?_;omega))
 have oz3:=(show (k==2) = !false by (refine decide_eq_true ?_;omega))
 have oz5:=(show (k==2)=true by (refine decide_eq_true ?_;omega))
 have oz6:=(show true = !false by (simp;done))
 have oz8:=(show true=true by with_reducible rfl)
 exact (VC.run (fn:=Tryz.f163) (W:=[r_,.r [] [e_,e_,f_,f_,f_,e_],.r [] [f_,f_,e_,f_,f_,e_],.r [] [e_,e_,f_,f_,f_,e_,f_,f_,e_,e_,e_,f_,f_,f_,e_]]) (r:=AV.agg [bv (k==6),bv true,bv (k==3),bv true,bv true,bv true]) Tryz.func163 (by kernel_rfl) (.c oz0<|.c oz0<|.c oz0<|.c oz3<|.c oz3<|.c oz5<|.c oz6<|.c oz6<|.c oz8<|.c oz6<|.c oz6<|.c oz8<|.c oz0<|.c oz0<|.c oz0<|.c oz3<|.c oz3<|.c oz5<|.c oz6<|.c oz6<|.c oz8<|.c oz0<|.c oz0<|.c oz0<|.c oz6<|.c oz6<|.c oz8<|.n)).weak (B_ _) (AD_ (.cons (AZ_ (by (refine decide_eq_false ?_;omega))) (.cons (.refl _) (.cons (AZ_ (by (refine decide_eq_false ?_;omega))) (.cons (.refl _) (.cons (.refl _) (.cons (.refl _) .nil)))))))
theorem tells_3 (k:Int) (h:k=3):VC L_ 163 ([i64 k]) (.agg [bv false,bv false,bv true,bv true,bv true,bv true]):=by
 have oz0:=(show (k==1)=false by (refine decide_eq_false ?_;omega))
 have oz3:=(show (k==2)=false by (refine decide_eq_false ?_;omega))
 have oz6:=(show (k==3) = !false by (refine decide_eq_true ?_;omega))
 have oz9:=(show true = !false by (simp;done))
 have oz11:=(show true=true by with_reducible rfl)
 have oz18:=(show (k==4)=false by (refine decide_eq_false ?_;omega))
 exact (VC.run (fn:=Tryz.f163) (W:=[r_,.r [] [e_,e_,f_,e_,e_,f_],.r [] [f_,f_,e_,f_,f_,e_],.r [] [e_,e_,f_,e_,e_,f_,e_,e_,f_,e_,e_,f_,f_,f_,e_]]) (r:=AV.agg [bv (k==6),bv (k==5),bv (k==3),bv true,bv (k==3),bv true]) Tryz.func163 (by kernel_rfl) (.c oz0<|.c oz0<|.c oz0<|.c oz3<|.c oz3<|.c oz3<|.c oz6<|.c oz6<|.c (show (k==3)=true by (refine decide_eq_true ?_;omega))<|.c oz9<|.c oz9<|.c oz11<|.c oz0<|.c oz0<|.c oz0<|.c oz3<|.c oz3<|.c oz3<|.c oz18<|.c oz18<|.c oz18<|.c oz0<|.c oz0<|.c oz0<|.c oz9<|.c oz9<|.c oz11<|.n)).weak (B_ _) (AD_ (.cons (AZ_ (by (refine decide_eq_false ?_;omega))) (.cons (AZ_ (by (refine decide_eq_false ?_;omega))) (.cons (AZ_ (by (refine decide_eq_true ?_;omega))) (.cons (.refl _) (.cons (AZ_ (by (refine decide_eq_true ?_;omega))) (.cons (.refl _) .nil)))))))
theorem tells_4 (k:Int) (h:k=4∨k=5):VC L_ 163 ([i64 k]) (.agg [bv false,bv true,bv false,bv false,bv false,bv false]):=by
 have oz0:=(show (k==1)=false by (refine decide_eq_false ?_;omega))
 have oz3:=(show (k==2)=false by (refine decide_eq_false ?_;omega))
 have oz6:=(show (k==3)=false by (refine decide_eq_false ?_;omega))
 have oz9:=(show (k==6)=false by (refine decide_eq_false ?_;omega))
 have oz21:=(show (k==7)=false by (refine decide_eq_false ?_;omega))
 exact (VC.run (fn:=Tryz.f163) (W:=[r_,.r [] [e_,e_,f_,e_,e_,f_],.r [] [e_,e_,f_,e_,e_,f_],.r [] [e_,e_,f_,e_,e_,f_,o_,o_,.sel 1,e_,e_,f_,e_,e_,f_]]) (r:=AV.agg [bv (k==6),bv (k==4 || k==5),bv (k==3),bv (k==8),bv (k==3),bv (k==7)]) Tryz.func163 (by kernel_rfl) (.c oz0<|.c oz0<|.c oz0<|.c oz3<|.c oz3<|.c oz3<|.c oz6<|.c oz6<|.c oz6<|.c oz9<|.c oz9<|.c oz9<|.c oz0<|.c oz0<|.c oz0<|.c oz3<|.c oz3<|.c oz3<|.c oz0<|.c oz0<|.c oz0<|.c oz21<|.c oz21<|.c oz21<|.n)).weak (B_ _) (AD_ (.cons (AZ_ (by (refine decide_eq_false ?_;omega))) (.cons (AZ_ (by (simp;omega))) (.cons (AZ_ (by (refine decide_eq_false ?_;omega))) (.cons (AZ_ (by (refine decide_eq_false ?_;omega))) (.cons (AZ_ (by (refine decide_eq_false ?_;omega))) (.cons (AZ_ (by (refine decide_eq_false ?_;omega))) .nil)))))))
theorem tells_6 (k:Int) (h:k=6):VC L_ 163 ([i64 k]) (.agg [bv true,bv false,bv false,bv true,bv false,bv true]):=by
 have oz0:=(show (k==1)=false by (refine decide_eq_false ?_;omega))
 have oz3:=(show (k==2)=false by (refine decide_eq_false ?_;omega))
 have oz6:=(show (k==3)=false by (refine decide_eq_false ?_;omega))
 have oz9:=(show (k==6) = !false by (refine decide_eq_true ?_;omega))
 have oz18:=(show (k==4)=false by (refine decide_eq_false ?_;omega))
 have oz24:=(show true = !false by (simp;done))
 exact (VC.run (fn:=Tryz.f163) (W:=[r_,.r [] [e_,e_,f_,e_,e_,f_],.r [] [e_,e_,f_,f_,f_,e_],.r [] [e_,e_,f_,e_,e_,f_,e_,e_,f_,e_,e_,f_,f_,f_,e_]]) (r:=AV.agg [bv (k==6),bv (k==5),bv (k==3),bv true,bv (k==3),bv true]) Tryz.func163 (by kernel_rfl) (.c oz0<|.c oz0<|.c oz0<|.c oz3<|.c oz3<|.c oz3<|.c oz6<|.c oz6<|.c oz6<|.c oz9<|.c oz9<|.c (show (k==6)=true by (refine decide_eq_true ?_;omega))<|.c oz0<|.c oz0<|.c oz0<|.c oz3<|.c oz3<|.c oz3<|.c oz18<|.c oz18<|.c oz18<|.c oz0<|.c oz0<|.c oz0<|.c oz24<|.c oz24<|.c (show true=true by with_reducible rfl)<|.n)).weak (B_ _) (AD_ (.cons (AZ_ (by (refine decide_eq_true ?_;omega))) (.cons (AZ_ (by (refine decide_eq_false ?_;omega))) (.cons (AZ_ (by (refine decide_eq_false ?_;omega))) (.cons (.refl _) (.cons (AZ_ (by (refine decide_eq_false ?_;omega))) (.cons (.refl _) .nil)))))))
theorem tells_7 (k:Int) (h:k=7):VC L_ 163 ([i64 k]) (.agg [bv false,bv false,bv false,bv true,bv false,bv true]):=by
 have oz0:=(show (k==1)=false by (refine decide_eq_false ?_;omega))
 have oz3:=(show (k==2)=false by (refine decide_eq_false ?_;omega))
 have oz6:=(show (k==3)=false by (refine decide_eq_false ?_;omega))
 have oz9:=(show (k==6)=false by (refine decide_eq_false ?_;omega))
 have oz18:=(show (k==4)=false by (refine decide_eq_false ?_;omega))
 have oz24:=(show (k==7) = !false by (refine decide_eq_true ?_;omega))
 exact (VC.run (fn:=Tryz.f163) (W:=[r_,.r [] [e_,e_,f_,e_,e_,f_],.r [] [e_,e_,f_,e_,e_,f_],.r [] [e_,e_,f_,e_,e_,f_,e_,e_,f_,e_,e_,f_,f_,f_,e_]]) (r:=AV.agg [bv (k==6),bv (k==5),bv (k==3),bv true,bv (k==3),bv (k==7)]) Tryz.func163 (by kernel_rfl) (.c oz0<|.c oz0<|.c oz0<|.c oz3<|.c oz3<|.c oz3<|.c oz6<|.c oz6<|.c oz6<|.c oz9<|.c oz9<|.c oz9<|.c oz0<|.c oz0<|.c oz0<|.c oz3<|.c oz3<|.c oz3<|.c oz18<|.c oz18<|.c oz18<|.c oz0<|.c oz0<|.c oz0<|.c oz24<|.c oz24<|.c (show (k==7)=true by (refine decide_eq_true ?_;omega))<|.n)).weak (B_ _) (AD_ (.cons (AZ_ (by (refine decide_eq_false ?_;omega))) (.cons (AZ_ (by (refine decide_eq_false ?_;omega))) (.cons (AZ_ (by (refine decide_eq_false ?_;omega))) (.cons (.refl _) (.cons (AZ_ (by (refine decide_eq_false ?_;omega))) (.cons (AZ_ (by (refine decide_eq_true ?_;omega))) .nil)))))))
theorem tells_8 (k:Int) (h:k=8):VC L_ 163 ([i64 k]) (.agg [bv false,bv false,bv false,bv true,bv false,bv false]):=by
 have oz0:=(show (k==1)=false by (refine decide_eq_false ?_;omega))
 have oz3:=(show (k==2)=false by (refine decide_eq_false ?_;omega))
 have oz6:=(show (k==3)=false by (refine decide_eq_false ?_;omega))
 have oz9:=(show (k==6)=false by (refine decide_eq_false ?_;omega))
 have oz18:=(show (k==4)=false by (refine decide_eq_false ?_;omega))
 have oz24:=(show (k==7)=false by (refine decide_eq_false ?_;omega))
 exact (VC.run (fn:=Tryz.f163) (W:=[r_,.r [] [e_,e_,f_,e_,e_,f_],.r [] [e_,e_,f_,e_,e_,f_],.r [] [e_,e_,f_,e_,e_,f_,e_,e_,f_,e_,e_,f_,e_,e_,f_]]) (r:=AV.agg [bv (k==6),bv (k==5),bv (k==3),bv (k==8),bv (k==3),bv (k==7)]) Tryz.func163 (by kernel_rfl) (.c oz0<|.c oz0<|.c oz0<|.c oz3<|.c oz3<|.c oz3<|.c oz6<|.c oz6<|.c oz6<|.c oz9<|.c oz9<|.c oz9<|.c oz0<|.c oz0<|.c oz0<|.c oz3<|.c oz3<|.c oz3<|.c oz18<|.c oz18<|.c oz18<|.c oz0<|.c oz0<|.c oz0<|.c oz24<|.c oz24<|.c oz24<|.n)).weak (B_ _) (AD_ (.cons (AZ_ (by (refine decide_eq_false ?_;omega))) (.cons (AZ_ (by (refine decide_eq_false ?_;omega))) (.cons (AZ_ (by (refine decide_eq_false ?_;omega))) (.cons (AZ_ (by (refine decide_eq_true ?_;omega))) (.cons (AZ_ (by (refine decide_eq_false ?_;omega))) (.cons (AZ_ (by (refine decide_eq_false ?_;omega))) .nil)))))))
theorem tells_9 (k:Int) (h:k<1∨8<k):VC L_ 163 ([i64 k]) (.agg [bv false,bv false,bv false,bv false,bv false,bv false]):=by
 have oz0:=(show (k==1)=false by (refine decide_eq_false ?_;omega))
 have oz3:=(show (k==2)=false by (refine decide_eq_false ?_;omega))
 have oz6:=(show (k==3)=false by (refine decide_eq_false ?_;omega))
 have oz9:=(show (k==6)=false by (refine decide_eq_false ?_;omega))
 have oz18:=(show (k==4)=false by (refine decide_eq_false ?_;omega))
 have oz24:=(show (k==7)=false by (refine decide_eq_false ?_;omega))
 exact (VC.run (fn:=Tryz.f163) (W:=[r_,.r [] [e_,e_,f_,e_,e_,f_],.r [] [e_,e_,f_,e_,e_,f_],.r [] [e_,e_,f_,e_,e_,f_,e_,e_,f_,e_,e_,f_,e_,e_,f_]]) (r:=AV.agg [bv (k==6),bv (k==5),bv (k==3),bv (k==8),bv (k==3),bv (k==7)]) Tryz.func163 (by kernel_rfl) (.c oz0<|.c oz0<|.c oz0<|.c oz3<|.c oz3<|.c oz3<|.c oz6<|.c oz6<|.c oz6<|.c oz9<|.c oz9<|.c oz9<|.c oz0<|.c oz0<|.c oz0<|.c oz3<|.c oz3<|.c oz3<|.c oz18<|.c oz18<|.c oz18<|.c oz0<|.c oz0<|.c oz0<|.c oz24<|.c oz24<|.c oz24<|.n)).weak (B_ _) (AD_ (.cons (AZ_ (by (refine decide_eq_false ?_;omega))) (.cons (AZ_ (by (refine decide_eq_false ?_;omega))) (.cons (AZ_ (by (refine decide_eq_false ?_;omega))) (.cons (AZ_ (by (refine decide_eq_false ?_;omega))) (.cons (AZ_ (by (refine decide_eq_false ?_;omega))) (.cons (AZ_ (by (refine decide_eq_false ?_;omega))) .nil)))))))
end Go.Proofs.YtgimdjfbnbkpgaaGreat
