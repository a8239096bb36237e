/- A part of this claim. No condition. -/
import Derived.Test.YtdmkhinckljddaaGreatDoorReportLinesG5
set_option maxRecDepth 100000
set_option maxHeartbeats 2000000
set_option linter.unusedVariables false
set_option linter.unusedSimpArgs false
set_option linter.unnecessarySimpa false
namespace Go.Proofs.YtdmkhinckljddaaGreatDoor
open Go.RowKit
open BlkW renaming rows→BZ_
open Bool renaming and_eq_true→O_,and_eq_false_iff→P_,or_eq_false_iff→R_,not_eq_false'→T_,not_eq_true'→U_,or_eq_true→W_,and_true→B_,false_and→AG_,not_eq_eq_eq_not→AH_,not_false→AJ_,not_true→BM_,false_or→BN_,and_false→BO_,false_eq_true→BS_,true_and→BU_,or_false→BY_,true_eq_false→CW_
open Exit renaming exit→AI_
open Int renaming toNat_natCast→AF_,not_lt→BI_,not_le→CZ_
open IntKind renaming i64→S_
open List renaming map→K_,length_map→Q_,map_replicate→V_,map_append→X_,map_cons→Z_,map_take→D_,map_drop→AK_,map_nil→AL_,map_set→AM_,length_cons→AO_,getD_eq_getElem?_getD→AR_,length_nil→AS_,getElem?_map→AT_,length_append→AW_,length_replicate→AB_,map_eq_nil_iff→BQ_,length_take→BT_,length_range→BV_,length_drop→BX_,length_set→BA_
open Nat renaming le_refl→AV_,zero_add→BR_
open Tryz renaming prog→N_
open Value renaming int→AY_,slice→AC_,bool→CO_
open Weak renaming int→M_,tup→AZ_,agg→AD_
open WeakL renaming refl→A_
theorem rowsR_both (f:Nat→Rng) (n:Nat):∀ k,k<n→rowsR f (k+1)=bothR ((List.range n).map f) (k+1):=by
 have g:∀ k,k<n→((List.range n).map f).getD k default=f k:=fun k hk=>by
  rw[AR_,AT_,List.getElem?_range hk];rfl
 intro k
 induction k with
 | zero=>intro h;rw[rowsR,i_ rfl,bothR,bothR,g 0 h]
 | succ k ih=>intro h;rw[rowsR,j_ (by omega),ih (by omega),bothR.eq_2 _ (k+1),g _ h]
theorem rowsR_spans {n:Nod} {a:Rng} (b0:0<n.b.length) (h:sharedB n.w n.b=true):rowsR (spRow n.w n.b a.lo a.hi n.za (decide (n.np>0))) n.b.length=bothR (spansN n a) (spansN n a).length:=by
 have e:spansN n a=(List.range n.b.length).map (spRow n.w n.b a.lo a.hi n.za (decide (n.np>0))):=by unfold spansN allR;rw[i_ h]
 rw[e,Q_,BV_]
 obtain ⟨m,hm⟩:∃ m,n.b.length=m+1:=⟨n.b.length-1,by omega⟩
 rw[hm];exact rowsR_both _ _ _ (by omega)
theorem sumE_s {n:Nod} {a:Rng} (h:sharedB n.w n.b=true) (hh:((allR n.w n.b a.lo a.hi n.za (decide (n.np>0)) n.b.length).all holdB)=true):sumG n a=(afterE ⟨(rowsR (spRow n.w n.b a.lo a.hi n.za (decide (n.np>0))) n.b.length).lo,(rowsR (spRow n.w n.b a.lo a.hi n.za (decide (n.np>0))) n.b.length).hi⟩ n,0):=by
 rw[sumG_y (by rw[i_ h];exact hh),←rowsR_spans (hd_pos h) h]
theorem sumE_o {n:Nod} {a:Rng} (h:sharedB n.w n.b=true) (hh:((allR n.w n.b a.lo a.hi n.za (decide (n.np>0)) n.b.length).all holdB)=false):sumG n a=(⟨0,0⟩,10):=by
 unfold sumG spansN;rw[i_ h,j_ (by rw[hh];decide)]
theorem sumE_0 {n:Nod} {a:Rng} (h:sharedB n.w n.b=false):sumG n a=(afterE ⟨0,0⟩ n,0):=by
 unfold sumG spansN;rw[h];rfl
theorem nodeR_pad {n:Nod} {a b:Rng} (h1:¬ checkE n≠0) (h2:¬ (a.lo>a.hi∨(n.kd=6∧b.lo>b.hi))) (h3:n.kd=8∧n.np>0):nodeR n a b=(⟨min a.lo n.za,max a.hi n.za⟩,0):=by
 unfold nodeR
 rw[j_ h1,j_ h2,j_ (by omega),j_ (by omega),j_ (by omega),i_ h3]
theorem refGNode_v (n:Nod) (a b:Rng) (ok:n.Ok) (ha:a.In8) (hb:b.In8) (wl:n.w.length≤100000) (bl:n.b.length≤100000):VC N_ 80 ([nod n,rch a,rch b]) (.tup [rch (nodeR n a b).1,i64 (nodeR n a b).2]):=by
 have ok_kd:=ok.kd
 have ok_za:=ok.za
 have ok_w:=ok.w
 have ok_b:=ok.b
 obtain ⟨p1,p2⟩:=id ha
 obtain ⟨p3,p4⟩:=id hb
 have q1:=@hd_pos n.w n.b
 have q2:=@rows_all n.w n.b a.lo a.hi n.za (decide (n.np>0))
 have oz0:=@refCheck_v (n) wl bl ok_kd
 rcases bft (checkE n != 0) with hc0|hc0
 ·have gc0:¬checkE n=0:=bdt hc0
  exact (cR_ [r_,.r [] [cr oz0],r_,b_,r_] (AV.tup [AV.agg [i8 0,i8 0],i64 (checkE n)]) Tryz.func80 (.d2 oz0 hc0)).weak (A_ _) (AZ_ (.cons (AD_ (.cons (M_ (by (unfold nodeR;(repeat first|rw[i_ (by omega)]|rw[j_ (by omega)])))) (.cons (M_ (by (unfold nodeR;(repeat first|rw[i_ (by omega)]|rw[j_ (by omega)])))) .nil))) (.cons (M_ (by (unfold nodeR;(repeat first|rw[i_ (by omega)]|rw[j_ (by omega)])))) .nil)))
 ·have gc0:checkE n=0:=bdf hc0
  rcases bft (decide (a.lo>a.hi) || n.kd==6&&decide (b.lo>b.hi)) with hc1|hc1
  ·have gc1:a.lo>a.hi∨n.kd=6∧b.lo>b.hi:=gc0_ hc1
   exact (cR_ [r_,.r [] [cr oz0],r_,d_,.r [] [o_,o_,o_,o_,o_,o_,o_,o_,o_,o_,.sel 2,.sel 1],b_,r_] (AV.tup [AV.agg [i8 0,i8 0],i64 2]) Tryz.func80 (.d3 oz0 hc0 hc1)).weak (A_ _) (AZ_ (.cons (AD_ (.cons (M_ (by (unfold nodeR;(repeat first|rw[i_ (by omega)]|rw[j_ (by omega)])))) (.cons (M_ (by (unfold nodeR;(repeat first|rw[i_ (by omega)]|rw[j_ (by omega)])))) .nil))) (.cons (M_ (by (unfold nodeR;(repeat first|rw[i_ (by omega)]|rw[j_ (by omega)])))) .nil)))
  ·have gc1:¬a.lo>a.hi∧(¬n.kd=6∨¬b.lo>b.hi):=gc0_ hc1
   rcases bft (n.kd==1 || n.kd==2 || n.kd==3) with hc2|hc2
   ·have gc2:(n.kd=1∨n.kd=2)∨n.kd=3:=gc0_ hc2
    have oz4:=@shared_v (n.w) (n.b) wl bl
    rcases bft (sharedB n.w n.b) with hc3|hc3
    ·have gc3:sharedB n.w n.b=true:=by first|exact hc3|exact of_decide_eq_true hc3|exact of_decide_eq_false hc3|simpa [eqNums] using hc3|(simp[eqNums] at hc3 ⊢;first|done|assumption|omega)
     have oz6:=@rows_v (n.w) (n.b) (a.lo) (a.hi) (n.za) (decide (n.np>0)) ok_w ok_b wl bl (by (exact q1 (by assumption))) p1 p2 ok_za
     rcases bft (!(decide ((rowsR (spRow n.w n.b a.lo a.hi n.za (decide (n.np>0))) n.b.length).lo ≥ -2147483648)&&decide ((rowsR (spRow n.w n.b a.lo a.hi n.za (decide (n.np>0))) n.b.length).hi≤2147483647))) with hc4|hc4
     ·have gc4:¬(rowsR (spRow n.w n.b a.lo a.hi n.za (decide (n.np>0))) n.b.length).lo ≥ -2147483648∨¬(rowsR (spRow n.w n.b a.lo a.hi n.za (decide (n.np>0))) n.b.length).hi≤2147483647:=gc0_ hc4
      exact (cR_ [r_,.r [] [cr oz0],r_,d_,.r [] [o_,o_,o_,o_,o_,o_,o_,o_,o_,o_,.sel 2,.sel 1],d_,.r [] [o_,o_,o_,.sel 1,o_,o_,o_,.sel 1],b_,r_,.r [] [cr oz4],b_,.r [] [cr oz6],r_,b_,r_] (AV.tup [AV.agg [i8 0,i8 0],i64 10]) Tryz.func80 (.d8 oz0 hc0 hc1 hc2 oz4 hc3 oz6 hc4)).weak (A_ _) (AZ_ (.cons (AD_ (.cons (M_ (by (unfold nodeR;(repeat first|rw[i_ (by omega)]|rw[j_ (by omega)]);rw[sumE_o (by assumption) (by rw[←q2 (q1 (by assumption))];simp_all)]<;>rfl))) (.cons (M_ (by (unfold nodeR;(repeat first|rw[i_ (by omega)]|rw[j_ (by omega)]);rw[sumE_o (by assumption) (by rw[←q2 (q1 (by assumption))];simp_all)]<;>rfl))) .nil))) (.cons (M_ (by (unfold nodeR;(repeat first|rw[i_ (by omega)]|rw[j_ (by omega)]);rw[sumE_o (by assumption) (by rw[←q2 (q1 (by assumption))];simp_all)]<;>rfl))) .nil)))
     ·have gc4:(rowsR (spRow n.w n.b a.lo a.hi n.za (decide (n.np>0))) n.b.length).lo ≥ -2147483648∧(rowsR (spRow n.w n.b a.lo a.hi n.za (decide (n.np>0))) n.b.length).hi≤2147483647:=gc0_ hc4
      have oz8:=@refAfter_v (rowsR (spRow n.w n.b a.lo a.hi n.za (decide (n.np>0))) n.b.length) (n) ok
      exact (cR_ [r_,.r [] [cr oz0],r_,d_,.r [] [o_,o_,o_,o_,o_,o_,o_,o_,o_,o_,.sel 2,.sel 1],d_,.r [] [o_,o_,o_,.sel 1,o_,o_,o_,.sel 1],b_,r_,.r [] [cr oz4],b_,.r [] [cr oz6],r_,d_,.r [] [cr oz8],r_] (AV.tup [AV.agg [i8 (afterE (rowsR (spRow n.w n.b a.lo a.hi n.za (decide (n.np>0))) n.b.length) n).lo,i8 (afterE (rowsR (spRow n.w n.b a.lo a.hi n.za (decide (n.np>0))) n.b.length) n).hi],i64 0]) Tryz.func80 (.c8 oz0 hc0 hc1 hc2 oz4 hc3 oz6 hc4<|.d oz8)).weak (A_ _) (AZ_ (.cons (AD_ (.cons (M_ (by (unfold nodeR;(repeat first|rw[i_ (by omega)]|rw[j_ (by omega)]);rw[sumE_s (by assumption) (by rw[←q2 (q1 (by assumption))];simp_all)]<;>rfl))) (.cons (M_ (by (unfold nodeR;(repeat first|rw[i_ (by omega)]|rw[j_ (by omega)]);rw[sumE_s (by assumption) (by rw[←q2 (q1 (by assumption))];simp_all)]<;>rfl))) .nil))) (.cons (M_ (by (unfold nodeR;(repeat first|rw[i_ (by omega)]|rw[j_ (by omega)]);rw[sumE_s (by assumption) (by rw[←q2 (q1 (by assumption))];simp_all)]<;>rfl))) .nil)))
    ·have gc3:sharedB n.w n.b=false:=by first|exact hc3|exact of_decide_eq_true hc3|exact of_decide_eq_false hc3|simpa [eqNums] using hc3|(simp[eqNums] at hc3 ⊢;first|done|assumption|omega)
     have oz7:=@refAfter_v (Rng.mk 0 0) (n) ok
     exact (cR_ [r_,.r [] [cr oz0],r_,d_,.r [] [o_,o_,o_,o_,o_,o_,o_,o_,o_,o_,.sel 2,.sel 1],d_,.r [] [o_,o_,o_,.sel 1,o_,o_,o_,.sel 1],b_,r_,.r [] [cr oz4],d_,r_,d_,.r [] [cr oz7],r_] (AV.tup [AV.agg [i8 (afterE (Rng.mk 0 0) n).lo,i8 (afterE (Rng.mk 0 0) n).hi],i64 0]) Tryz.func80 (.d8 oz0 hc0 hc1 hc2 oz4 hc3 z1_ oz7)).weak (A_ _) (AZ_ (.cons (AD_ (.cons (M_ (by (unfold nodeR;(repeat first|rw[i_ (by omega)]|rw[j_ (by omega)]);rw[sumE_0 (by assumption)]<;>rfl))) (.cons (M_ (by (unfold nodeR;(repeat first|rw[i_ (by omega)]|rw[j_ (by omega)]);rw[sumE_0 (by assumption)]<;>rfl))) .nil))) (.cons (M_ (by (unfold nodeR;(repeat first|rw[i_ (by omega)]|rw[j_ (by omega)]);rw[sumE_0 (by assumption)]<;>rfl))) .nil)))
   ·have gc2:(¬n.kd=1∧¬n.kd=2)∧¬n.kd=3:=gc0_ hc2
    rcases bft (n.kd==6) with hc3|hc3
    ·have gc3:n.kd=6:=bet hc3
     have oz5:=@refJoinOne_v (a.lo) (b.lo) (n) ok p1 p3
     have oz6:=@refJoinOne_v (a.hi) (b.hi) (n) ok p2 p4
     exact (cR_ [r_,.r [] [cr oz0],r_,d_,.r [] [o_,o_,o_,o_,o_,o_,o_,o_,o_,o_,.sel 2,.sel 1],d_,.r [] [o_,o_,o_,.sel 1,o_,o_,o_,.sel 1],d_,r_,b_,.r [] [cr oz5,cr oz6]] (AV.tup [AV.agg [i8 (joinE a.lo b.lo n),i8 (joinE a.hi b.hi n)],i64 0]) Tryz.func80 (.d7 oz0 hc0 hc1 hc2 hc3 oz5 oz6)).weak (A_ _) (AZ_ (.cons (AD_ (.cons (M_ (by (unfold nodeR;(repeat first|rw[i_ (by omega)]|rw[j_ (by omega)])))) (.cons (M_ (by (unfold nodeR;(repeat first|rw[i_ (by omega)]|rw[j_ (by omega)])))) .nil))) (.cons (M_ (by (unfold nodeR;(repeat first|rw[i_ (by omega)]|rw[j_ (by omega)])))) .nil)))
    ·have gc3:¬n.kd=6:=bef hc3
     rcases bft (n.kd==7) with hc4|hc4
     ·have gc4:n.kd=7:=bet hc4
      have oz6:=@refActOne_v (a.lo) (n) ok p1
      have oz7:=@refActOne_v (a.hi) (n) ok p2
      exact (cR_ [r_,.r [] [cr oz0],r_,d_,.r [] [o_,o_,o_,o_,o_,o_,o_,o_,o_,o_,.sel 2,.sel 1],d_,.r [] [o_,o_,o_,.sel 1,o_,o_,o_,.sel 1],d_,r_,d_,r_,b_,.r [] [cr oz6,cr oz7]] (AV.tup [AV.agg [i8 (oneN a.lo n),i8 (oneN a.hi n)],i64 0]) Tryz.func80 (.d8 oz0 hc0 hc1 hc2 hc3 hc4 oz6 oz7)).weak (A_ _) (AZ_ (.cons (AD_ (.cons (M_ (by (unfold nodeR;(repeat first|rw[i_ (by omega)]|rw[j_ (by omega)])))) (.cons (M_ (by (unfold nodeR;(repeat first|rw[i_ (by omega)]|rw[j_ (by omega)])))) .nil))) (.cons (M_ (by (unfold nodeR;(repeat first|rw[i_ (by omega)]|rw[j_ (by omega)])))) .nil)))
     ·have gc4:¬n.kd=7:=bef hc4
      rcases bft (n.kd==8&&decide (n.np>0)) with hc5|hc5
      ·have gc5:n.kd=8∧n.np>0:=gc0_ hc5
       exact (cR_ [r_,.r [] [cr oz0],r_,d_,.r [] [o_,o_,o_,o_,o_,o_,o_,o_,o_,o_,.sel 2,.sel 1],d_,.r [] [o_,o_,o_,.sel 1,o_,o_,o_,.sel 1],d_,r_,d_,r_,d_,.r [] [o_,o_,o_,.sel 2],b_,r_] (AV.tup [AV.agg [i8 (if n.za<a.lo then n.za else a.lo),i8 (if n.za>a.hi then n.za else a.hi)],i64 0]) Tryz.func80 (.d7 oz0 hc0 hc1 hc2 hc3 hc4 hc5)).weak (A_ _) (AZ_ (.cons (AD_ (.cons (M_ (by (rw[nodeR_pad (by omega) (by omega) (by omega)];dsimp only;omega))) (.cons (M_ (by (rw[nodeR_pad (by omega) (by omega) (by omega)];dsimp only;omega))) .nil))) (.cons (M_ (by (unfold nodeR;(repeat first|rw[i_ (by omega)]|rw[j_ (by omega)])))) .nil)))
      ·have gc5:¬n.kd=8∨¬n.np>0:=gc0_ hc5
       exact (cR_ [r_,.r [] [cr oz0],r_,d_,.r [] [o_,o_,o_,o_,o_,o_,o_,o_,o_,o_,.sel 2,.sel 1],d_,.r [] [o_,o_,o_,.sel 1,o_,o_,o_,.sel 1],d_,r_,d_,r_,d_,.r [] [o_,o_,o_,.sel 2],d_,r_] (AV.tup [AV.agg [i8 a.lo,i8 a.hi],i64 0]) Tryz.func80 (.d7 oz0 hc0 hc1 hc2 hc3 hc4 hc5)).weak (A_ _) (AZ_ (.cons (AD_ (.cons (M_ (by (unfold nodeR;(repeat first|rw[i_ (by omega)]|rw[j_ (by omega)])))) (.cons (M_ (by (unfold nodeR;(repeat first|rw[i_ (by omega)]|rw[j_ (by omega)])))) .nil))) (.cons (M_ (by (unfold nodeR;(repeat first|rw[i_ (by omega)]|rw[j_ (by omega)])))) .nil)))
theorem stepR_6 {n:Nod} {L:List Rng} (h:thereB n ((K_ rchC L).length:Int)=true) (h6:n.kd=6):stepR n L=nodeR n (L.getD n.na.toNat default) (L.getD n.nb.toNat default):=by
 rw[Q_] at h
 unfold stepR;rw[i_ h];unfold secN;rw[i_ h6]
theorem stepR_1 {n:Nod} {L:List Rng} (h:thereB n ((K_ rchC L).length:Int)=true) (h6:¬ n.kd=6):stepR n L=nodeR n (L.getD n.na.toNat default) (L.getD n.na.toNat default):=by
 rw[Q_] at h
 unfold stepR;rw[i_ h];unfold secN;rw[j_ h6]
theorem stepR_0 {n:Nod} {L:List Rng} (h:thereB n ((K_ rchC L).length:Int)=false):stepR n L=(⟨0,0⟩,8):=by
 rw[Q_] at h
 unfold stepR;rw[h];rfl
theorem stepR_ok {n:Nod} {L:List Rng} (h:(stepR n L).2=0):thereB n ((K_ rchC L).length:Int)=true:=by
 cases e:thereB n ((K_ rchC L).length:Int) with
 | true=>rfl
 | false=>rw[stepR_0 e] at h;cases h
theorem stepR_at {n:Nod} {L:List Rng} (okL:∀ r∈L,r.In8) (h:thereB n ((K_ rchC L).length:Int)=true):(0≤n.na∧n.na<L.length∧n.na.toNat<L.length∧(n.kd=6→0≤n.nb∧n.nb<L.length∧n.nb.toNat<L.length))∧(L.getD n.na.toNat default).In8∧(n.kd=6→(L.getD n.nb.toNat default).In8):=by
 rw[Q_] at h
 have h:=there_iff.1 h
 have h6:n.kd=6→secN n=n.nb:=fun h=>i_ h
 refine ⟨⟨by omega,by omega,by omega,fun e=>by have:=h6 e;omega⟩,getD_in okL (by omega),fun e=>getD_in okL (by have:=h6 e;omega)⟩
noncomputable def rflow_ly_I (l:List Nod) (a:Rng) (k:Nat):VS:=stt 77 [(0,.sl 19 (l.map nodC)),(7,.own 900),(8,i64 k)] [(900,.slc 134 2 ((growL stepR l a k).map rchC))]
noncomputable def rflow_ly_Z (l:List Nod) (a:Rng):VS:=rflow_ly_I l a (l.length)
theorem rflow_ly_s (l:List Nod) (a:Rng) (okl:∀ n∈l,n.Ok) (wl:∀ n∈l,n.w.length≤100000∧n.b.length≤100000) (ha:a.In8) (f8:l.length≤8) (h:∀ k,k<l.length→errL stepR l a k=0) (k:Nat) (hk:k<l.length):VT N_ (fnC Tryz.f57 [1,1,1,1,1,0,1,0,0]) (rflow_ly_I l a k) .normal (rflow_ly_I l a (k+1)):=by
 have q:=h k hk
 have q1:=growL_len stepR l a k
 have q2:=flow_in okl ha (Nat.le_of_lt hk)
 have q3:=getD_in okl hk
 have q4:=getD_in wl hk
 obtain ⟨q5,q6⟩:=q4
 have q8:(K_ rchC (growL stepR l a k)).length=(growL stepR l a k).length:=Q_ _
 unfold errL at q
 have qt:=stepR_ok q
 obtain ⟨qa,qb,qc⟩:=stepR_at (n:=l.getD k default) q2 qt
 have s6:=stepR_6 qt
 have s1:=stepR_1 qt
 have oz0:=(show decide ((↑k:Int)<((K_ nodC l).length:Int))=true by (simp;omega))
 have oz1:=(s_ (0≤(↑k:Int)))
 have oz2:=(map_at (nodC) (default) (l:=l) (i:=k) hk)
 have oz3:=@refThere_v (l.getD k default) (((K_ rchC (growL stepR l a k)).length:Int))
 have oz4:=(show (!thereB (l.getD k default) ((K_ rchC (growL stepR l a k)).length:Int))=false by (rw[qt];rfl))
 have oz5:=(s_ (0≤(l.getD k default).na))
 have oz6:=(s_ ((l.getD k default).na<((K_ rchC (growL stepR l a k)).length:Int)))
 have oz7:=(map_at (rchC) (default) (l:=growL stepR l a k) (i:=(l.getD k default).na.toNat) (by omega))
 rcases bft ((l.getD k default).kd==6) with hc0|hc0
 ·have gc0:(l.getD k default).kd=6:=bet hc0
  have oz11:=(map_at (rchC) (default) (l:=growL stepR l a k) (i:=(l.getD k default).nb.toNat) (by omega))
  have oz15:=@refGNode_v (l.getD k default) ((growL stepR l a k).getD (l.getD k default).na.toNat default) ((growL stepR l a k).getD (l.getD k default).nb.toNat default) q3 qb (by (exact qc (by omega))) q5 q6
  exact tR_ [r_,b_,.r [] [.row (sO oz2)],.r [] [cr oz3],d_,.r [] [.row (sO oz7)],r_,b_,.r [] [.row (sO oz11)],.r [] [.row (sO oz7),cr oz15],r_,d_,r_,.r [] [.n ((↑k:Int)+1)]] [.any (rg [(9,4),(26,15),(42,26),(70,4)]),.drop [9,10,11,72],.ren 73 900,.weak 8 (i64 (↑(k+1):Int)),.blk 900 (Blk.slc 134 2 (K_ rchC (growL stepR l a (k+1)))),.sort] (.c8 oz0 oz1 oz2 oz3 oz4 oz5 oz6 oz7<|.c8 hc0 (s_ (0≤(l.getD k default).nb)) (s_ ((l.getD k default).nb<((K_ rchC (growL stepR l a k)).length:Int))) oz11 oz5 oz6 oz7 oz15<|.d6 (show ((nodeR (l.getD k default) ((growL stepR l a k).getD (l.getD k default).na.toNat default) ((growL stepR l a k).getD (l.getD k default).nb.toNat default)).snd != 0)=false by (rw[s6 (by omega)] at q;rw[q];rfl)) (s_ (((K_ rchC (growL stepR l a k)).length+1)*2≤140737488355328)) (s_ ((K_ rchC (growL stepR l a k)).length+1≤9223372036854775807)) (i6n ((↑k:Int)+1) (by omega)) (wS_ k) (show BlkW (Blk.slc 134 2 (K_ rchC (growL stepR l a k)++[[i8 (nodeR (l.getD k default) ((growL stepR l a k).getD (l.getD k default).na.toNat default) ((growL stepR l a k).getD (l.getD k default).nb.toNat default)).fst.lo,i8 (nodeR (l.getD k default) ((growL stepR l a k).getD (l.getD k default).na.toNat default) ((growL stepR l a k).getD (l.getD k default).nb.toNat default)).fst.hi]])) (Blk.slc 134 2 (K_ rchC (growL stepR l a (k+1)))) from (BZ_ (e:=134) (z:=2) (rows_to (rchC) (r:=K_ rchC (growL stepR l a k)++[[i8 (nodeR (l.getD k default) ((growL stepR l a k).getD (l.getD k default).na.toNat default) ((growL stepR l a k).getD (l.getD k default).nb.toNat default)).fst.lo,i8 (nodeR (l.getD k default) ((growL stepR l a k).getD (l.getD k default).na.toNat default) ((growL stepR l a k).getD (l.getD k default).nb.toNat default)).fst.hi]]) (l:=growL stepR l a k++[Rng.mk (nodeR (l.getD k default) ((growL stepR l a k).getD (l.getD k default).na.toNat default) ((growL stepR l a k).getD (l.getD k default).nb.toNat default)).fst.lo (nodeR (l.getD k default) ((growL stepR l a k).getD (l.getD k default).na.toNat default) ((growL stepR l a k).getD (l.getD k default).nb.toNat default)).fst.hi]) (m:=growL stepR l a (k+1)) (by first|(simp only[X_,Z_,AL_,AM_,V_,D_,AK_];done)|rfl|(simp only[X_,Z_,AL_,AM_,V_,D_,AK_];rfl)|(simp only[X_,Z_,AL_,AM_,V_,D_,AK_,rchC,ints];done)) (show (growL stepR l a k++[Rng.mk (nodeR (l.getD k default) ((growL stepR l a k).getD (l.getD k default).na.toNat default) ((growL stepR l a k).getD (l.getD k default).nb.toNat default)).fst.lo (nodeR (l.getD k default) ((growL stepR l a k).getD (l.getD k default).na.toNat default) ((growL stepR l a k).getD (l.getD k default).nb.toNat default)).fst.hi])=(growL stepR l a (k+1)) from (by (rw[growL,s6 (by omega)])))))))
 ·have gc0:¬(l.getD k default).kd=6:=bef hc0
  have oz12:=@refGNode_v (l.getD k default) ((growL stepR l a k).getD (l.getD k default).na.toNat default) ((growL stepR l a k).getD (l.getD k default).na.toNat default) q3 qb qb q5 q6
  exact tR_ [r_,b_,.r [] [.row (sO oz2)],.r [] [cr oz3],d_,.r [] [.row (sO oz7)],r_,d_,.r [] [.row (sO oz7),cr oz12],r_,d_,r_,.r [] [.n ((↑k:Int)+1)]] [.any (rg [(9,4),(26,15),(42,8),(55,13),(70,4)]),.drop [9,10,11,72],.ren 73 900,.weak 8 (i64 (↑(k+1):Int)),.blk 900 (Blk.slc 134 2 (K_ rchC (growL stepR l a (k+1)))),.sort] (.c8 oz0 oz1 oz2 oz3 oz4 oz5 oz6 oz7<|.c8 hc0 oz5 oz6 oz7 oz12 (show ((nodeR (l.getD k default) ((growL stepR l a k).getD (l.getD k default).na.toNat default) ((growL stepR l a k).getD (l.getD k default).na.toNat default)).snd != 0)=false by (rw[s1 (by omega)] at q;rw[q];rfl)) (s_ (((K_ rchC (growL stepR l a k)).length+1)*2≤140737488355328)) (s_ ((K_ rchC (growL stepR l a k)).length+1≤9223372036854775807))<|.d3 (i6n ((↑k:Int)+1) (by omega)) (wS_ k) (show BlkW (Blk.slc 134 2 (K_ rchC (growL stepR l a k)++[[i8 (nodeR (l.getD k default) ((growL stepR l a k).getD (l.getD k default).na.toNat default) ((growL stepR l a k).getD (l.getD k default).na.toNat default)).fst.lo,i8 (nodeR (l.getD k default) ((growL stepR l a k).getD (l.getD k default).na.toNat default) ((growL stepR l a k).getD (l.getD k default).na.toNat default)).fst.hi]])) (Blk.slc 134 2 (K_ rchC (growL stepR l a (k+1)))) from (BZ_ (e:=134) (z:=2) (rows_to (rchC) (r:=K_ rchC (growL stepR l a k)++[[i8 (nodeR (l.getD k default) ((growL stepR l a k).getD (l.getD k default).na.toNat default) ((growL stepR l a k).getD (l.getD k default).na.toNat default)).fst.lo,i8 (nodeR (l.getD k default) ((growL stepR l a k).getD (l.getD k default).na.toNat default) ((growL stepR l a k).getD (l.getD k default).na.toNat default)).fst.hi]]) (l:=growL stepR l a k++[Rng.mk (nodeR (l.getD k default) ((growL stepR l a k).getD (l.getD k default).na.toNat default) ((growL stepR l a k).getD (l.getD k default).na.toNat default)).fst.lo (nodeR (l.getD k default) ((growL stepR l a k).getD (l.getD k default).na.toNat default) ((growL stepR l a k).getD (l.getD k default).na.toNat default)).fst.hi]) (m:=growL stepR l a (k+1)) (by first|(simp only[X_,Z_,AL_,AM_,V_,D_,AK_];done)|rfl|(simp only[X_,Z_,AL_,AM_,V_,D_,AK_];rfl)|(simp only[X_,Z_,AL_,AM_,V_,D_,AK_,rchC,ints];done)) (show (growL stepR l a k++[Rng.mk (nodeR (l.getD k default) ((growL stepR l a k).getD (l.getD k default).na.toNat default) ((growL stepR l a k).getD (l.getD k default).na.toNat default)).fst.lo (nodeR (l.getD k default) ((growL stepR l a k).getD (l.getD k default).na.toNat default) ((growL stepR l a k).getD (l.getD k default).na.toNat default)).fst.hi])=(growL stepR l a (k+1)) from (by (rw[growL,s1 (by omega)])))))))
theorem rflow_ly_e (l:List Nod) (a:Rng) (okl:∀ n∈l,n.Ok) (wl:∀ n∈l,n.w.length≤100000∧n.b.length≤100000) (ha:a.In8) (f8:l.length≤8) (h:∀ k,k<l.length→errL stepR l a k=0):VT N_ (fnC Tryz.f57 [1,1,1,1,1,0,1,0,0]) (rflow_ly_I l a (l.length)) (.exit 0) (rflow_ly_Z l a):=by
 exact tR_ [r_,d_] [.any (rg [(26,4)]),.sort] (.d (show decide ((l.length:Int)<((K_ nodC l).length:Int))=false by (simp;done)))
theorem rflow_ly (l:List Nod) (a:Rng) (okl:∀ n∈l,n.Ok) (wl:∀ n∈l,n.w.length≤100000∧n.b.length≤100000) (ha:a.In8) (f8:l.length≤8) (h:∀ k,k<l.length→errL stepR l a k=0):VT N_ (fnC Tryz.f57 [1,1,1,1,1,0,1,0]) (rflow_ly_I l a 0) (.exit 0) (rflow_ly_Z l a) :=
 VT.loop (fun k=>rflow_ly_I l a k) (l.length) (fun k hk=>rflow_ly_s l a okl wl ha f8 h k hk) (rflow_ly_e l a okl wl ha f8 h) (by intro h;cases h)
noncomputable def rflow_ln_I (l:List Nod) (a:Rng) (m:Nat) (k:Nat):VS:=stt 77 [(0,.sl 19 (l.map nodC)),(7,.own 900),(8,i64 k)] [(900,.slc 134 2 ((growL stepR l a k).map rchC))]
noncomputable def rflow_ln_Z (l:List Nod) (a:Rng) (m:Nat):VS:=stt 77 [(4,nilv),(5,i64 m),(6,i64 (errL stepR l a m))] []
theorem rflow_ln_s (l:List Nod) (a:Rng) (m:Nat) (okl:∀ n∈l,n.Ok) (wl:∀ n∈l,n.w.length≤100000∧n.b.length≤100000) (ha:a.In8) (f8:l.length≤8) (hm:m<l.length) (hf:errL stepR l a m≠0) (h:∀ k,k<m→errL stepR l a k=0) (k:Nat) (hk:k<m):VT N_ (fnC Tryz.f57 [1,1,1,1,1,0,1,0,0]) (rflow_ln_I l a m k) .normal (rflow_ln_I l a m (k+1)):=by
 have q:=h k hk
 have q1:=growL_len stepR l a k
 have q2:=flow_in okl ha (s_ (k≤l.length))
 have q3:=getD_in okl (s_ (k<l.length))
 have q4:=getD_in wl (s_ (k<l.length))
 obtain ⟨q5,q6⟩:=q4
 have q8:(K_ rchC (growL stepR l a k)).length=(growL stepR l a k).length:=Q_ _
 unfold errL at q
 have qt:=stepR_ok q
 obtain ⟨qa,qb,qc⟩:=stepR_at (n:=l.getD k default) q2 qt
 have s6:=stepR_6 qt
 have s1:=stepR_1 qt
 have oz0:=(show decide ((↑k:Int)<((K_ nodC l).length:Int))=true by (simp;omega))
 have oz1:=(s_ (0≤(↑k:Int)))
 have oz2:=(map_at (nodC) (default) (l:=l) (i:=k) (by omega))
 have oz3:=@refThere_v (l.getD k default) (((K_ rchC (growL stepR l a k)).length:Int))
 have oz4:=(show (!thereB (l.getD k default) ((K_ rchC (growL stepR l a k)).length:Int))=false by (rw[qt];rfl))
 have oz5:=(s_ (0≤(l.getD k default).na))
 have oz6:=(s_ ((l.getD k default).na<((K_ rchC (growL stepR l a k)).length:Int)))
 have oz7:=(map_at (rchC) (default) (l:=growL stepR l a k) (i:=(l.getD k default).na.toNat) (by omega))
 rcases bft ((l.getD k default).kd==6) with hc0|hc0
 ·have gc0:(l.getD k default).kd=6:=bet hc0
  have oz11:=(map_at (rchC) (default) (l:=growL stepR l a k) (i:=(l.getD k default).nb.toNat) (by omega))
  have oz15:=@refGNode_v (l.getD k default) ((growL stepR l a k).getD (l.getD k default).na.toNat default) ((growL stepR l a k).getD (l.getD k default).nb.toNat default) q3 qb (by (exact qc (by omega))) q5 q6
  exact tR_ [r_,b_,.r [] [.row (sO oz2)],.r [] [cr oz3],d_,.r [] [.row (sO oz7)],r_,b_,.r [] [.row (sO oz11)],.r [] [.row (sO oz7),cr oz15],r_,d_,r_,.r [] [.n ((↑k:Int)+1)]] [.any (rg [(9,4),(26,15),(42,26),(70,4)]),.drop [9,10,11,72],.ren 73 900,.weak 8 (i64 (↑(k+1):Int)),.blk 900 (Blk.slc 134 2 (K_ rchC (growL stepR l a (k+1)))),.sort] (.c8 oz0 oz1 oz2 oz3 oz4 oz5 oz6 oz7<|.c8 hc0 (s_ (0≤(l.getD k default).nb)) (s_ ((l.getD k default).nb<((K_ rchC (growL stepR l a k)).length:Int))) oz11 oz5 oz6 oz7 oz15<|.d6 (show ((nodeR (l.getD k default) ((growL stepR l a k).getD (l.getD k default).na.toNat default) ((growL stepR l a k).getD (l.getD k default).nb.toNat default)).snd != 0)=false by (rw[s6 (by omega)] at q;rw[q];rfl)) (s_ (((K_ rchC (growL stepR l a k)).length+1)*2≤140737488355328)) (s_ ((K_ rchC (growL stepR l a k)).length+1≤9223372036854775807)) (i6n ((↑k:Int)+1) (by omega)) (wS_ k) (show BlkW (Blk.slc 134 2 (K_ rchC (growL stepR l a k)++[[i8 (nodeR (l.getD k default) ((growL stepR l a k).getD (l.getD k default).na.toNat default) ((growL stepR l a k).getD (l.getD k default).nb.toNat default)).fst.lo,i8 (nodeR (l.getD k default) ((growL stepR l a k).getD (l.getD k default).na.toNat default) ((growL stepR l a k).getD (l.getD k default).nb.toNat default)).fst.hi]])) (Blk.slc 134 2 (K_ rchC (growL stepR l a (k+1)))) from (BZ_ (e:=134) (z:=2) (rows_to (rchC) (r:=K_ rchC (growL stepR l a k)++[[i8 (nodeR (l.getD k default) ((growL stepR l a k).getD (l.getD k default).na.toNat default) ((growL stepR l a k).getD (l.getD k default).nb.toNat default)).fst.lo,i8 (nodeR (l.getD k default) ((growL stepR l a k).getD (l.getD k default).na.toNat default) ((growL stepR l a k).getD (l.getD k default).nb.toNat default)).fst.hi]]) (l:=growL stepR l a k++[Rng.mk (nodeR (l.getD k default) ((growL stepR l a k).getD (l.getD k default).na.toNat default) ((growL stepR l a k).getD (l.getD k default).nb.toNat default)).fst.lo (nodeR (l.getD k default) ((growL stepR l a k).getD (l.getD k default).na.toNat default) ((growL stepR l a k).getD (l.getD k default).nb.toNat default)).fst.hi]) (m:=growL stepR l a (k+1)) (by first|(simp only[X_,Z_,AL_,AM_,V_,D_,AK_];done)|rfl|(simp only[X_,Z_,AL_,AM_,V_,D_,AK_];rfl)|(simp only[X_,Z_,AL_,AM_,V_,D_,AK_,rchC,ints];done)) (show (growL stepR l a k++[Rng.mk (nodeR (l.getD k default) ((growL stepR l a k).getD (l.getD k default).na.toNat default) ((growL stepR l a k).getD (l.getD k default).nb.toNat default)).fst.lo (nodeR (l.getD k default) ((growL stepR l a k).getD (l.getD k default).na.toNat default) ((growL stepR l a k).getD (l.getD k default).nb.toNat default)).fst.hi])=(growL stepR l a (k+1)) from (by (rw[growL,s6 (by omega)])))))))
 ·have gc0:¬(l.getD k default).kd=6:=bef hc0
  have oz12:=@refGNode_v (l.getD k default) ((growL stepR l a k).getD (l.getD k default).na.toNat default) ((growL stepR l a k).getD (l.getD k default).na.toNat default) q3 qb qb q5 q6
  exact tR_ [r_,b_,.r [] [.row (sO oz2)],.r [] [cr oz3],d_,.r [] [.row (sO oz7)],r_,d_,.r [] [.row (sO oz7),cr oz12],r_,d_,r_,.r [] [.n ((↑k:Int)+1)]] [.any (rg [(9,4),(26,15),(42,8),(55,13),(70,4)]),.drop [9,10,11,72],.ren 73 900,.weak 8 (i64 (↑(k+1):Int)),.blk 900 (Blk.slc 134 2 (K_ rchC (growL stepR l a (k+1)))),.sort] (.c8 oz0 oz1 oz2 oz3 oz4 oz5 oz6 oz7<|.c8 hc0 oz5 oz6 oz7 oz12 (show ((nodeR (l.getD k default) ((growL stepR l a k).getD (l.getD k default).na.toNat default) ((growL stepR l a k).getD (l.getD k default).na.toNat default)).snd != 0)=false by (rw[s1 (by omega)] at q;rw[q];rfl)) (s_ (((K_ rchC (growL stepR l a k)).length+1)*2≤140737488355328)) (s_ ((K_ rchC (growL stepR l a k)).length+1≤9223372036854775807))<|.d3 (i6n ((↑k:Int)+1) (by omega)) (wS_ k) (show BlkW (Blk.slc 134 2 (K_ rchC (growL stepR l a k)++[[i8 (nodeR (l.getD k default) ((growL stepR l a k).getD (l.getD k default).na.toNat default) ((growL stepR l a k).getD (l.getD k default).na.toNat default)).fst.lo,i8 (nodeR (l.getD k default) ((growL stepR l a k).getD (l.getD k default).na.toNat default) ((growL stepR l a k).getD (l.getD k default).na.toNat default)).fst.hi]])) (Blk.slc 134 2 (K_ rchC (growL stepR l a (k+1)))) from (BZ_ (e:=134) (z:=2) (rows_to (rchC) (r:=K_ rchC (growL stepR l a k)++[[i8 (nodeR (l.getD k default) ((growL stepR l a k).getD (l.getD k default).na.toNat default) ((growL stepR l a k).getD (l.getD k default).na.toNat default)).fst.lo,i8 (nodeR (l.getD k default) ((growL stepR l a k).getD (l.getD k default).na.toNat default) ((growL stepR l a k).getD (l.getD k default).na.toNat default)).fst.hi]]) (l:=growL stepR l a k++[Rng.mk (nodeR (l.getD k default) ((growL stepR l a k).getD (l.getD k default).na.toNat default) ((growL stepR l a k).getD (l.getD k default).na.toNat default)).fst.lo (nodeR (l.getD k default) ((growL stepR l a k).getD (l.getD k default).na.toNat default) ((growL stepR l a k).getD (l.getD k default).na.toNat default)).fst.hi]) (m:=growL stepR l a (k+1)) (by first|(simp only[X_,Z_,AL_,AM_,V_,D_,AK_];done)|rfl|(simp only[X_,Z_,AL_,AM_,V_,D_,AK_];rfl)|(simp only[X_,Z_,AL_,AM_,V_,D_,AK_,rchC,ints];done)) (show (growL stepR l a k++[Rng.mk (nodeR (l.getD k default) ((growL stepR l a k).getD (l.getD k default).na.toNat default) ((growL stepR l a k).getD (l.getD k default).na.toNat default)).fst.lo (nodeR (l.getD k default) ((growL stepR l a k).getD (l.getD k default).na.toNat default) ((growL stepR l a k).getD (l.getD k default).na.toNat default)).fst.hi])=(growL stepR l a (k+1)) from (by (rw[growL,s1 (by omega)])))))))
theorem rflow_ln_e (l:List Nod) (a:Rng) (m:Nat) (okl:∀ n∈l,n.Ok) (wl:∀ n∈l,n.w.length≤100000∧n.b.length≤100000) (ha:a.In8) (f8:l.length≤8) (hm:m<l.length) (hf:errL stepR l a m≠0) (h:∀ k,k<m→errL stepR l a k=0):VT N_ (fnC Tryz.f57 [1,1,1,1,1,0,1,0,0]) (rflow_ln_I l a m (m)) (.ret) (rflow_ln_Z l a m):=by
 have q1:=growL_len stepR l a m
 have q2:=flow_in okl ha (Nat.le_of_lt hm)
 have q3:=getD_in okl hm
 have q4:=getD_in wl hm
 obtain ⟨q5,q6⟩:=q4
 have q8:(K_ rchC (growL stepR l a m)).length=(growL stepR l a m).length:=Q_ _
 have qa:=fun h=>stepR_at (n:=l.getD m default) q2 h
 have s6:=@stepR_6 (l.getD m default) (growL stepR l a m)
 have s1:=@stepR_1 (l.getD m default) (growL stepR l a m)
 have s0:=@stepR_0 (l.getD m default) (growL stepR l a m)
 have q:errL stepR l a m=(stepR (l.getD m default) (growL stepR l a m)).2:=rfl
 unfold errL at hf
 have oz0:=(show decide ((↑m:Int)<((K_ nodC l).length:Int))=true by (simp;omega))
 have oz1:=(s_ (0≤(↑m:Int)))
 have oz2:=(map_at (nodC) (default) (l:=l) (i:=m) hm)
 have oz3:=@refThere_v (l.getD m default) (((K_ rchC (growL stepR l a m)).length:Int))
 rcases bft (!thereB (l.getD m default) ((K_ rchC (growL stepR l a m)).length:Int)) with hc0|hc0
 ·have gc0:thereB (l.getD m default) ((K_ rchC (growL stepR l a m)).length:Int)=false:=by first|exact hc0|exact of_decide_eq_true hc0|exact of_decide_eq_false hc0|simpa [eqNums] using hc0|(simp[eqNums] at hc0 ⊢;first|done|assumption|omega)
  exact tR_ [r_,b_,.r [] [.row (sO oz2)],.r [] [cr oz3],b_,r_] [.any (rg [(0,1),(7,3),(26,4),(32,10)]),.drop [900,9],.weak 6 (i64 (errL stepR l a m)),.sort] (.d6 oz0 oz1 oz2 oz3 hc0 (M_ (k:=.i64) (show ((8):Int)=(errL stepR l a m) from (by (rw[q,s0 (by simp_all)])))))
 ·have gc0:thereB (l.getD m default) ((K_ rchC (growL stepR l a m)).length:Int)=true:=by first|exact hc0|exact of_decide_eq_true hc0|exact of_decide_eq_false hc0|simpa [eqNums] using hc0|(simp[eqNums] at hc0 ⊢;first|done|assumption|omega)
  have oz5:=(show 0≤(l.getD m default).na by (have:=qa (by assumption);omega))
  have oz6:=(show (l.getD m default).na<((K_ rchC (growL stepR l a m)).length:Int) by (have:=qa (by assumption);omega))
  have oz7:=(map_at (rchC) (default) (l:=growL stepR l a m) (i:=(l.getD m default).na.toNat) (by (have:=qa (by assumption);omega)))
  rcases bft ((l.getD m default).kd==6) with hc1|hc1
  ·have gc1:(l.getD m default).kd=6:=bet hc1
   have oz11:=(map_at (rchC) (default) (l:=growL stepR l a m) (i:=(l.getD m default).nb.toNat) (by (have:=qa (by assumption);omega)))
   have oz15:=@refGNode_v (l.getD m default) ((growL stepR l a m).getD (l.getD m default).na.toNat default) ((growL stepR l a m).getD (l.getD m default).nb.toNat default) q3 (by (have:=qa (by assumption);exact this.2.1)) (by (have:=qa (by assumption);exact this.2.2 (by omega))) q5 q6
   have oz17:=(M_ (k:=.i64) (show (((nodeR (l.getD m default) ((growL stepR l a m).getD (l.getD m default).na.toNat default) ((growL stepR l a m).getD (l.getD m default).nb.toNat default)).snd):Int)=(errL stepR l a m) from (by (rw[q,s6 (by assumption) (by omega)]))))
   exact tR_ [r_,b_,.r [] [.row (sO oz2)],.r [] [cr oz3],d_,.r [] [.row (sO oz7)],r_,b_,.r [] [.row (sO oz11)],.r [] [.row (sO oz7),cr oz15],r_,b_,r_] [.any (rg [(0,1),(7,6),(26,4),(32,9),(42,28)]),.drop [900,9,10,11],.weak 6 (wO oz17),.sort] (.c8 oz0 oz1 oz2 oz3 hc0 oz5 oz6 oz7<|.c8 hc1 (show 0≤(l.getD m default).nb by (have:=qa (by assumption);omega)) (show (l.getD m default).nb<((K_ rchC (growL stepR l a m)).length:Int) by (have:=qa (by assumption);omega)) oz11 oz5 oz6 oz7 oz15<|.d2 (show ((nodeR (l.getD m default) ((growL stepR l a m).getD (l.getD m default).na.toNat default) ((growL stepR l a m).getD (l.getD m default).nb.toNat default)).snd != 0)=true by (rw[s6 (by assumption) (by omega)] at hf;rw[J_];exact hf)) oz17)
  ·have gc1:¬(l.getD m default).kd=6:=bef hc1
   have oz12:=@refGNode_v (l.getD m default) ((growL stepR l a m).getD (l.getD m default).na.toNat default) ((growL stepR l a m).getD (l.getD m default).na.toNat default) q3 (by (have:=qa (by assumption);exact this.2.1)) (by (have:=qa (by assumption);exact this.2.1)) q5 q6
   have oz14:=(M_ (k:=.i64) (show (((nodeR (l.getD m default) ((growL stepR l a m).getD (l.getD m default).na.toNat default) ((growL stepR l a m).getD (l.getD m default).na.toNat default)).snd):Int)=(errL stepR l a m) from (by (rw[q,s1 (by assumption) (by omega)]))))
   exact tR_ [r_,b_,.r [] [.row (sO oz2)],.r [] [cr oz3],d_,.r [] [.row (sO oz7)],r_,d_,.r [] [.row (sO oz7),cr oz12],r_,b_,r_] [.any (rg [(0,1),(7,6),(26,4),(32,9),(42,8),(55,15)]),.drop [900,9,10,11],.weak 6 (wO oz14),.sort] (.c8 oz0 oz1 oz2 oz3 hc0 oz5 oz6 oz7<|.d7 hc1 oz5 oz6 oz7 oz12 (show ((nodeR (l.getD m default) ((growL stepR l a m).getD (l.getD m default).na.toNat default) ((growL stepR l a m).getD (l.getD m default).na.toNat default)).snd != 0)=true by (rw[s1 (by assumption) (by omega)] at hf;rw[J_];exact hf)) oz14)
theorem rflow_ln (l:List Nod) (a:Rng) (m:Nat) (okl:∀ n∈l,n.Ok) (wl:∀ n∈l,n.w.length≤100000∧n.b.length≤100000) (ha:a.In8) (f8:l.length≤8) (hm:m<l.length) (hf:errL stepR l a m≠0) (h:∀ k,k<m→errL stepR l a k=0):VT N_ (fnC Tryz.f57 [1,1,1,1,1,0,1,0]) (rflow_ln_I l a m 0) (.ret) (rflow_ln_Z l a m) :=
 VT.loop (fun k=>rflow_ln_I l a m k) (m) (fun k hk=>rflow_ln_s l a m okl wl ha f8 hm hf h k hk) (rflow_ln_e l a m okl wl ha f8 hm hf h) (by intro h;cases h)
theorem rflow_y (l:List Nod) (a:Rng) (okl:∀ n∈l,n.Ok) (wl:∀ n∈l,n.w.length≤100000∧n.b.length≤100000) (ha:a.In8) (h:FOK l a):VC N_ 57 ([.sl 19 (l.map nodC),rch a]) (.tup [.sl 2 ((growL stepR l a l.length).map rchC),i64 l.length,i64 0]):=by
 obtain ⟨q2,q3,q1,q4⟩:=id h
 have oz4:=@rflow_ly (l) (a) okl wl ha q3 q4
 exact (cR_ [r_,r_,d_,r_,d_,r_,d_,r_,r_,.code [.any (rg [(1,1),(3,4),(13,13)]),.drop [3],.ren 25 900,.weak 8 (i64 (↑0:Int)),.sort] (AI_ 0) (zO oz4),r_] (AV.tup [AV.sl 2 (K_ rchC (growL stepR l a l.length)),i64 ((K_ nodC l).length:Int),i64 0]) Tryz.func57 (.d5 (show (((K_ nodC l).length:Int)==0)=false by (simp only[E_,F_,I_,J_,ne_eq,H_,G_,U_,T_,AH_,BM_,AJ_,Classical.not_not,BI_,CZ_,O_,P_,W_,R_,B_,BU_,BO_,AG_,BY_,BN_,eqNums,Q_,AW_,AO_,AS_,BA_,AB_,BT_,BX_,BV_,AF_,BR_,BQ_];(first|done|with_reducible assumption|omega|contradiction))) (show decide (((K_ nodC l).length:Int)>8)=false by (simp;omega)) (decide_eq_false (p:=(a.lo>a.hi)) (by omega)) w0_ oz4)).weak (A_ _) (AZ_ (.cons (.refl _) (.cons (M_ (by (simp;done))) (.cons (.refl _) .nil))))
theorem rflow_m (l:List Nod) (a:Rng) (m:Nat) (okl:∀ n∈l,n.Ok) (wl:∀ n∈l,n.w.length≤100000∧n.b.length≤100000) (ha:a.In8) (i:a.lo≤a.hi) (f8:l.length≤8) (hm:m<l.length) (hf:errL stepR l a m≠0) (h:∀ k,k<m→errL stepR l a k=0):VC N_ 57 ([.sl 19 (l.map nodC),rch a]) (.tup [nilv,i64 m,i64 (errL stepR l a m)]):=by
 have oz4:=@rflow_ln (l) (a) (m) okl wl ha f8 hm hf h
 exact cR_ [r_,r_,d_,r_,d_,r_,d_,r_,r_,.code [.any (rg [(1,1),(3,4),(13,13)]),.drop [3],.ren 25 900,.weak 8 (i64 (↑0:Int)),.sort] (Exit.ret) (zO oz4)] _ Tryz.func57 (.d5 (show (((K_ nodC l).length:Int)==0)=false by (simp only[E_,F_,I_,J_,ne_eq,H_,G_,U_,T_,AH_,BM_,AJ_,Classical.not_not,BI_,CZ_,O_,P_,W_,R_,B_,BU_,BO_,AG_,BY_,BN_,eqNums,Q_,AW_,AO_,AS_,BA_,AB_,BT_,BX_,BV_,AF_,BR_,BQ_];(first|done|with_reducible assumption|omega|contradiction))) (show decide (((K_ nodC l).length:Int)>8)=false by (simp;omega)) (decide_eq_false (p:=(a.lo>a.hi)) (by omega)) w0_ oz4)
theorem rflow_a (l:List Nod) (a:Rng) (hl:l.length≤1000) (h:l.length=0∨8<l.length∨a.lo>a.hi):VC N_ 57 ([.sl 19 (l.map nodC),rch a]) (.tup [nilv,i64 (flowE l a).1,i64 (flowE l a).2]):=by
 rcases bft (((K_ nodC l).length:Int)==0) with hc0|hc0
 ·have gc0:((K_ nodC l).length:Int)=0:=bet hc0
  exact (cR_ [r_,r_,b_,r_] (AV.tup [AV.lit (AC_ none 0 0),i64 (-1),i64 12]) Tryz.func57 (.d hc0)).weak (A_ _) (AZ_ (.cons (.refl _) (.cons (M_ (by (unfold flowE;(try simp only[Q_] at *);(repeat first|rw[i_ (by omega)]|rw[j_ (by omega)])))) (.cons (M_ (by (unfold flowE;(try simp only[Q_] at *);(repeat first|rw[i_ (by omega)]|rw[j_ (by omega)])))) .nil))))
 ·have gc0:¬((K_ nodC l).length:Int)=0:=bef hc0
  rcases bft (decide (((K_ nodC l).length:Int)>8)) with hc1|hc1
  ·have gc1:=of_decide_eq_true hc1
   exact (cR_ [r_,r_,d_,r_,b_,r_] (AV.tup [AV.lit (AC_ none 0 0),i64 (-1),i64 4]) Tryz.func57 (.d2 hc0 hc1)).weak (A_ _) (AZ_ (.cons (.refl _) (.cons (M_ (by (unfold flowE;(try simp only[Q_] at *);(repeat first|rw[i_ (by omega)]|rw[j_ (by omega)])))) (.cons (M_ (by (unfold flowE;(try simp only[Q_] at *);(repeat first|rw[i_ (by omega)]|rw[j_ (by omega)])))) .nil))))
  ·have gc1:=of_decide_eq_false hc1
   exact (cR_ [r_,r_,d_,r_,d_,r_,b_,r_] (AV.tup [AV.lit (AC_ none 0 0),i64 (-1),i64 2]) Tryz.func57 (.d3 hc0 hc1 (show decide (a.lo>a.hi)=true by (simp only[E_,F_,I_,J_,ne_eq,H_,G_,U_,T_,AH_,BM_,AJ_,Classical.not_not,BI_,CZ_,O_,P_,W_,R_,B_,BU_,BO_,AG_,BY_,BN_,eqNums,Q_,AW_,AO_,AS_,BA_,AB_,BT_,BX_,BV_,AF_,BR_,BQ_] at *;(first|done|with_reducible assumption|omega|contradiction))))).weak (A_ _) (AZ_ (.cons (.refl _) (.cons (M_ (by (unfold flowE;(try simp only[Q_] at *);(repeat first|rw[i_ (by omega)]|rw[j_ (by omega)])))) (.cons (M_ (by (unfold flowE;(try simp only[Q_] at *);(repeat first|rw[i_ (by omega)]|rw[j_ (by omega)])))) .nil))))
theorem rflow_n (l:List Nod) (a:Rng) (okl:∀ n∈l,n.Ok) (wl:∀ n∈l,n.w.length≤100000∧n.b.length≤100000) (ha:a.In8) (hl:l.length≤1000) (h:¬ FOK l a):VC N_ 57 [.sl 19 (l.map nodC),rch a] (.tup [nilv,i64 (flowE l a).1,i64 (flowE l a).2]):=by
 rcases FOK.cases l a with q|q|⟨i,e,f,m,h1,h2,h3⟩
 ·exact absurd q h
 ·exact rflow_a l a hl q
 ·rw[flowE_at i e f h1 h2 h3];exact rflow_m l a m okl wl ha i f h1 h2 h3
abbrev fullR:Rng:=⟨-128,127⟩
theorem fullR_in:fullR.In8:=⟨⟨by decide,by decide⟩,⟨by decide,by decide⟩⟩
abbrev rchsL (l:List Nod):List Rng:=growL stepR l fullR l.length
def lastR (l:List Nod):Rng:=(rchsL l).getD l.length default
theorem rchsL_len (l:List Nod):(rchsL l).length=l.length+1:=growL_len stepR l fullR l.length
theorem lastR_in {l:List Nod} (okl:∀ n∈l,n.Ok):(lastR l).In8:=getD_in (flow_in okl fullR_in (AV_ _)) (show l.length<(rchsL l).length by rw[rchsL_len];omega)
theorem lastR_i {l:List Nod} {i:Nat} (hi:i=l.length):(growL stepR l fullR l.length).getD i default=lastR l:=by subst hi;rfl
def verdE (s:Shp) (w b:List Int) (nd cl:Int):Int :=
 if elems s.h s.x s.c=0 then 5 else if cl<2∨16<cl then 2
 else if (w.length:Int)≠cl*elems s.h s.x s.c∨16384<(w.length:Int)∨(b.length:Int)≠cl then 9 else if nd<0 then 11 else 0
theorem clel_bd {cl:Int} (s:Shp) (h:2≤cl∧cl≤16):0≤cl*elems s.h s.x s.c∧cl*elems s.h s.x s.c≤16384:=by
 have h1:=elems_in s.h s.x s.c
 have:=mul_bd (A:=16) (B:=1024) (a:=cl) (by omega) (by omega) h1.1 h1.2
 omega
theorem vcheck_v (s:Shp) (w b:List Int) (nd cl:Int) (ok:s.Ok) (wl:w.length≤100000) (bl:b.length≤100000):VC N_ 105 ([shp s,.agg (hedC w b nd),i64 cl]) (i64 (verdE s w b nd cl)):=by
 obtain ⟨p1,p2,p3⟩:=id ok
 have q1:=elems_in s.h s.x s.c
 have q2:=@clel_bd cl s
 have oz0:=@elems_v (s.h) (s.x) (s.c) p1 p2 p3
 rcases bft (elems s.h s.x s.c==0) with hc0|hc0
 ·have gc0:elems s.h s.x s.c=0:=bet hc0
  exact (cR_ [r_,.r [] [cr oz0],r_,b_,r_] (i64 5) Tryz.func105 (.d2 oz0 hc0)).weak (A_ _) (M_ (by (unfold verdE;(try simp only[Q_] at *);(repeat first|rw[i_ (by omega)]|rw[j_ (by omega)]))))
 ·have gc0:¬elems s.h s.x s.c=0:=bef hc0
  rcases bft (decide (cl<2) || decide (cl>16)) with hc1|hc1
  ·have gc1:cl<2∨cl>16:=gc0_ hc1
   exact (cR_ [r_,.r [] [cr oz0],r_,d_,.r [] [o_,o_,.sel 1],b_,r_] (i64 2) Tryz.func105 (.d3 oz0 hc0 hc1)).weak (A_ _) (M_ (by (unfold verdE;(try simp only[Q_] at *);(repeat first|rw[i_ (by omega)]|rw[j_ (by omega)]))))
  ·have gc1:¬cl<2∧¬cl>16:=gc0_ hc1
   have oz3:=(i6n (cl*elems s.h s.x s.c) (by omega))
   rcases bft (((K_ (row1 .i8) w).length:Int) != cl*elems s.h s.x s.c || decide (((K_ (row1 .i8) w).length:Int)>16384) || ((K_ (row1 .i32) b).length:Int) != cl) with hc2|hc2
   ·have gc2:(¬((K_ (row1 .i8) w).length:Int)=cl*elems s.h s.x s.c∨((K_ (row1 .i8) w).length:Int)>16384)∨¬((K_ (row1 .i32) b).length:Int)=cl:=gc0_ hc2
    exact (cR_ [r_,.r [] [cr oz0],r_,d_,.r [] [o_,o_,.sel 1],d_,.r [] [.n (nO oz3),o_,o_,o_,o_,.sel 1,o_,o_,o_,o_,o_,.sel 1],b_,r_] (i64 9) Tryz.func105 (.d5 oz0 hc0 hc1 oz3 hc2)).weak (A_ _) (M_ (by (unfold verdE;(try simp only[Q_] at *);(repeat first|rw[i_ (by omega)]|rw[j_ (by omega)]))))
   ·have gc2:(((K_ (row1 .i8) w).length:Int)=cl*elems s.h s.x s.c∧¬((K_ (row1 .i8) w).length:Int)>16384)∧((K_ (row1 .i32) b).length:Int)=cl:=gc0_ hc2
    rcases bft (decide (nd<0)) with hc3|hc3
    ·have gc3:=of_decide_eq_true hc3
     exact (cR_ [r_,.r [] [cr oz0],r_,d_,.r [] [o_,o_,.sel 1],d_,.r [] [.n (nO oz3),o_,o_,o_,o_,.sel 1,o_,o_,o_,o_,o_,.sel 1],d_,r_,b_,r_] (i64 11) Tryz.func105 (.d6 oz0 hc0 hc1 oz3 hc2 hc3)).weak (A_ _) (M_ (by (unfold verdE;(try simp only[Q_] at *);(repeat first|rw[i_ (by omega)]|rw[j_ (by omega)]))))
    ·have gc3:=of_decide_eq_false hc3
     exact (cR_ [r_,.r [] [cr oz0],r_,d_,.r [] [o_,o_,.sel 1],d_,.r [] [.n (nO oz3),o_,o_,o_,o_,.sel 1,o_,o_,o_,o_,o_,.sel 1],d_,r_,d_,r_] (i64 0) Tryz.func105 (.d6 oz0 hc0 hc1 oz3 hc2 hc3)).weak (A_ _) (M_ (by (unfold verdE;(try simp only[Q_] at *);(repeat first|rw[i_ (by omega)]|rw[j_ (by omega)]))))
theorem refVcheck_v (s:Shp) (w b:List Int) (nd cl:Int) (ok:s.Ok) (wl:w.length≤100000) (bl:b.length≤100000):VC N_ 58 ([shp s,.agg (hedC w b nd),i64 cl]) (i64 (verdE s w b nd cl)):=by
 obtain ⟨p1,p2,p3⟩:=id ok
 have q1:=elems_in s.h s.x s.c
 have q2:=@clel_bd cl s
 have oz0:=@refElems_v (s.h) (s.x) (s.c) p1 p2 p3
 rcases bft (elems s.h s.x s.c==0) with hc0|hc0
 ·have gc0:elems s.h s.x s.c=0:=bet hc0
  exact (cR_ [r_,.r [] [cr oz0],b_,r_] (i64 5) Tryz.func58 (.d2 oz0 hc0)).weak (A_ _) (M_ (by (unfold verdE;(try simp only[Q_] at *);(repeat first|rw[i_ (by omega)]|rw[j_ (by omega)]))))
 ·have gc0:¬elems s.h s.x s.c=0:=bef hc0
  rcases bft (decide (cl<2) || decide (cl>16)) with hc1|hc1
  ·have gc1:cl<2∨cl>16:=gc0_ hc1
   exact (cR_ [r_,.r [] [cr oz0],d_,.r [] [o_,o_,.sel 1],b_,r_] (i64 2) Tryz.func58 (.d3 oz0 hc0 hc1)).weak (A_ _) (M_ (by (unfold verdE;(try simp only[Q_] at *);(repeat first|rw[i_ (by omega)]|rw[j_ (by omega)]))))
  ·have gc1:¬cl<2∧¬cl>16:=gc0_ hc1
   have oz4:=(i6n (cl*elems s.h s.x s.c) (by omega))
   rcases bft (((K_ (row1 .i8) w).length:Int) != cl*elems s.h s.x s.c || decide (((K_ (row1 .i8) w).length:Int)>16384) || ((K_ (row1 .i32) b).length:Int) != cl) with hc2|hc2
   ·have gc2:(¬((K_ (row1 .i8) w).length:Int)=cl*elems s.h s.x s.c∨((K_ (row1 .i8) w).length:Int)>16384)∨¬((K_ (row1 .i32) b).length:Int)=cl:=gc0_ hc2
    exact (cR_ [r_,.r [] [cr oz0],d_,.r [] [o_,o_,.sel 1],d_,.r [] [cr oz0,.n (nO oz4),o_,o_,o_,o_,.sel 1,o_,o_,o_,o_,o_,.sel 1],b_,r_] (i64 9) Tryz.func58 (.d6 oz0 hc0 hc1 oz0 oz4 hc2)).weak (A_ _) (M_ (by (unfold verdE;(try simp only[Q_] at *);(repeat first|rw[i_ (by omega)]|rw[j_ (by omega)]))))
   ·have gc2:(((K_ (row1 .i8) w).length:Int)=cl*elems s.h s.x s.c∧¬((K_ (row1 .i8) w).length:Int)>16384)∧((K_ (row1 .i32) b).length:Int)=cl:=gc0_ hc2
    rcases bft (decide (nd<0)) with hc3|hc3
    ·have gc3:=of_decide_eq_true hc3
     exact (cR_ [r_,.r [] [cr oz0],d_,.r [] [o_,o_,.sel 1],d_,.r [] [cr oz0,.n (nO oz4),o_,o_,o_,o_,.sel 1,o_,o_,o_,o_,o_,.sel 1],d_,r_,b_,r_] (i64 11) Tryz.func58 (.d7 oz0 hc0 hc1 oz0 oz4 hc2 hc3)).weak (A_ _) (M_ (by (unfold verdE;(try simp only[Q_] at *);(repeat first|rw[i_ (by omega)]|rw[j_ (by omega)]))))
    ·have gc3:=of_decide_eq_false hc3
     exact (cR_ [r_,.r [] [cr oz0],d_,.r [] [o_,o_,.sel 1],d_,.r [] [cr oz0,.n (nO oz4),o_,o_,o_,o_,.sel 1,o_,o_,o_,o_,o_,.sel 1],d_,r_,d_,r_] (i64 0) Tryz.func58 (.d7 oz0 hc0 hc1 oz0 oz4 hc2 hc3)).weak (A_ _) (M_ (by (unfold verdE;(try simp only[Q_] at *);(repeat first|rw[i_ (by omega)]|rw[j_ (by omega)]))))
theorem bare_v (w b:List Int) (nd:Int) (wl:w.length≤100000) (bl:b.length≤100000):VC N_ 104 ([.agg (hedC w b nd)]) (bv (decide (w.length=0∧b.length=0∧nd=0))):=by
 exact (cR_ [r_,.r [] [o_,o_,o_,o_,.sel 2,o_,o_,o_,.sel 2]] (bv (((K_ (row1 .i8) w).length:Int)==0&&((K_ (row1 .i32) b).length:Int)==0&&nd==0)) Tryz.func104 (.n)).weak (A_ _) (Weak.bool (by (rw[Bool.eq_iff_iff];simp only[E_,F_,I_,J_,ne_eq,H_,G_,U_,T_,AH_,BM_,AJ_,Classical.not_not,BI_,CZ_,O_,P_,W_,R_,B_,BU_,BO_,AG_,BY_,BN_,eqNums,Q_,AW_,AO_,AS_,BA_,AB_,BT_,BX_,BV_,AF_,BR_,BQ_,BS_,CW_,false_iff,true_iff,iff_false,iff_true] at *;first|done|omega)))
def exitE (x:Blc) (out:Shp) (r:Rng) (cl:Int) (last:Bool):Int :=
 if x.ex=false∧(last=true∨¬ (x.w.length=0∧x.b.length=0∧x.nd=0)) then 11 else if x.ex=false then 0
 else if verdE out x.w x.b x.nd cl≠0 then verdE out x.w x.b x.nd cl else headE x.w x.b r.lo r.hi
theorem vexit_v (x:Blc) (out:Shp) (r:Rng) (cl:Int) (last:Bool) (ok:x.Ok) (oks:out.Ok) (hr:r.In8) (wl:x.w.length≤100000) (bl:x.b.length≤100000):VC N_ 87 ([blc x,shp out,rch r,i64 cl,bv last]) (i64 (exitE x out r cl last)):=by
 have q1:=ok.w
 have q2:=ok.b
 obtain ⟨q3,q4⟩:=id hr
 rcases bft (last && !x.ex) with hc0|hc0
 ·have gc0:last=true∧x.ex=false:=gc0_ hc0
  exact (cR_ [r_,.r [] [o_,o_,o_,.sel 2],b_,b_,r_] (i64 11) Tryz.func87 (.d2 hc0 hc0)).weak (A_ _) (M_ (by (unfold exitE;simp_all;done)))
 ·have gc0:last=false∨x.ex=true:=gc0_ hc0
  have oz1:=@bare_v (x.w) (x.b) (x.nd) wl bl
  rcases bft (!x.ex && !decide (x.w.length=0∧x.b.length=0∧x.nd=0)) with hc1|hc1
  ·have gc1:x.ex=false∧¬(x.w.length=0∧x.b.length=0∧x.nd=0):=gc0_ hc1
   exact (cR_ [r_,.r [] [o_,o_,o_,.sel 2],d_,.r [] [o_,o_,o_,cr oz1,o_,.sel 2],b_,r_] (i64 11) Tryz.func87 (.d3 hc0 oz1 hc1)).weak (A_ _) (M_ (by (unfold exitE;simp_all;done)))
  ·have gc1:x.ex=true∨x.w.length=0∧x.b.length=0∧x.nd=0:=gc0_ hc1
   rcases bft (!x.ex) with hc2|hc2
   ·have gc2:x.ex=false:=by first|exact hc2|exact of_decide_eq_true hc2|exact of_decide_eq_false hc2|simpa [eqNums] using hc2|(simp[eqNums] at hc2 ⊢;first|done|assumption|omega)
    exact (cR_ [r_,.r [] [o_,o_,o_,.sel 2],d_,.r [] [o_,o_,o_,cr oz1,o_,.sel 2],d_,r_,b_,r_] (i64 0) Tryz.func87 (.d4 hc0 oz1 hc1 hc2)).weak (A_ _) (M_ (by (unfold exitE;simp_all;done)))
   ·have gc2:x.ex=true:=by first|exact hc2|exact of_decide_eq_true hc2|exact of_decide_eq_false hc2|simpa [eqNums] using hc2|(simp[eqNums] at hc2 ⊢;first|done|assumption|omega)
    have oz4:=@vcheck_v (out) (x.w) (x.b) (x.nd) (cl) oks wl bl
    rcases bft (verdE out x.w x.b x.nd cl != 0) with hc3|hc3
    ·have gc3:¬verdE out x.w x.b x.nd cl=0:=bdt hc3
     exact (cR_ [r_,.r [] [o_,o_,o_,.sel 2],d_,.r [] [o_,o_,o_,cr oz1,o_,.sel 2],d_,r_,d_,.r [] [cr oz4],r_,b_,r_] (i64 (verdE out x.w x.b x.nd cl)) Tryz.func87 (.d6 hc0 oz1 hc1 hc2 oz4 hc3)).weak (A_ _) (M_ (by (unfold exitE;simp_all;done)))
    ·have gc3:verdE out x.w x.b x.nd cl=0:=bdf hc3
     have oz6:=@ghead_v (x.w) (x.b) (x.nd) (r.lo) (r.hi) q1 q2 wl bl q3 q4
     exact (cR_ [r_,.r [] [o_,o_,o_,.sel 2],d_,.r [] [o_,o_,o_,cr oz1,o_,.sel 2],d_,r_,d_,.r [] [cr oz4],r_,d_,.r [] [cr oz6]] (i64 (headE x.w x.b r.lo r.hi)) Tryz.func87 (.d7 hc0 oz1 hc1 hc2 oz4 hc3 oz6)).weak (A_ _) (M_ (by (unfold exitE;simp_all;done)))
def validE (x:Blc) (a:Shp) (cl:Int) (last:Bool):Int×Int :=
 if (shapesE x.n a).2≠0 then shapesE x.n a else if (flowE x.n fullR).2≠0 then flowE x.n fullR
 else if exitE x (lastS x.n a) (lastR x.n) cl last≠0 then (-1,exitE x (lastS x.n a) (lastR x.n) cl last) else ((x.n.length:Int),0)
theorem validE_s {x:Blc} {a:Shp} {cl:Int} {last:Bool} (h:¬ SOK x.n a):validE x a cl last=shapesE x.n a:=i_ (shapesE_n h)
theorem validE_f {x:Blc} {a:Shp} {cl:Int} {last:Bool} (h:SOK x.n a) (g:¬ FOK x.n fullR):validE x a cl last=flowE x.n fullR:=by
 unfold validE;rw[j_ (by rw[shapesE_y h];simp),i_ (flowE_n g)]
theorem validE_y {x:Blc} {a:Shp} {cl:Int} {last:Bool} (h:SOK x.n a) (g:FOK x.n fullR):validE x a cl last=if exitE x (lastS x.n a) (lastR x.n) cl last≠0 then (-1,exitE x (lastS x.n a) (lastR x.n) cl last) else ((x.n.length:Int),0):=by
 unfold validE;rw[j_ (by rw[shapesE_y h];simp),j_ (by rw[flowE_y g];simp)]
structure Blc.Sm (x:Blc):Prop where
 l:x.n.length≤12
 s:∀ n∈x.n,n.w.length≤100000∧n.b.length≤100000
 w:x.w.length≤100000
 b:x.b.length≤100000
theorem Blc.sm {x:Blc} (h:blcS x=true):x.Sm:=by
 have q:=blc_facts h
 exact ⟨q.1,q.2.2.1,by omega,by omega⟩
theorem vblock_s (x:Blc) (a:Shp) (cl:Int) (last:Bool) (ok:x.Ok) (oka:a.Ok) (sm:x.Sm) (h:¬ SOK x.n a):VC N_ 70 ([blc x,shp a,i64 cl,bv last]) (.tup [i64 (validE x a cl last).1,i64 (validE x a cl last).2]):=by
 have q1:=ok.n
 obtain ⟨q2,q3,q4,q5⟩:=id sm
 have q6:=shapesE_n h
 have q7:=@validE_s x a cl last h
 have oz0:=@shapes_n (x.n) (a) q1 q3 oka (by omega) h
 exact (cR_ [r_,.r [] [cr oz0],r_,b_,r_] (AV.tup [i64 (shapesE x.n a).fst,i64 (shapesE x.n a).snd]) Tryz.func70 (.d2 oz0 (show ((shapesE x.n a).snd != 0)=true by (simp;omega)))).weak (A_ _) (AZ_ (.cons (M_ (by (rw[q7]))) (.cons (M_ (by (rw[q7]))) .nil)))
theorem vblock_f (x:Blc) (a:Shp) (cl:Int) (last:Bool) (ok:x.Ok) (oka:a.Ok) (sm:x.Sm) (h:SOK x.n a) (g:¬ FOK x.n fullR):VC N_ 70 ([blc x,shp a,i64 cl,bv last]) (.tup [i64 (validE x a cl last).1,i64 (validE x a cl last).2]):=by
 have q1:=ok.n
 obtain ⟨q2,q3,q4,q5⟩:=id sm
 have q6:=flowE_n g
 have q7:=@validE_f x a cl last h g
 have q8:=fullR_in
 have oz0:=@shapes_y (x.n) (a) q1 q3 h
 have oz2:=@flow_n (x.n) (Rng.mk (-128) 127) q1 q3 q8 (by omega) g
 exact (cR_ [r_,.r [] [cr oz0],r_,d_,.r [] [cr oz2],r_,b_,r_] (AV.tup [i64 (flowE x.n (Rng.mk (-128) 127)).fst,i64 (flowE x.n (Rng.mk (-128) 127)).snd]) Tryz.func70 (.d4 oz0 z1_ oz2 (show ((flowE x.n (Rng.mk (-128) 127)).snd != 0)=true by (simp;omega)))).weak (A_ _) (AZ_ (.cons (M_ (by (rw[q7]))) (.cons (M_ (by (rw[q7]))) .nil)))
theorem vblock_y (x:Blc) (a:Shp) (cl:Int) (last:Bool) (ok:x.Ok) (oka:a.Ok) (sm:x.Sm) (h:SOK x.n a) (g:FOK x.n fullR):VC N_ 70 ([blc x,shp a,i64 cl,bv last]) (.tup [i64 (validE x a cl last).1,i64 (validE x a cl last).2]):=by
 have q1:=ok.n
 obtain ⟨q2,q3,q4,q5⟩:=id sm
 have q7:=@validE_y x a cl last h g
 have q8:=fullR_in
 have l1:=shpsL_len x.n a
 have l2:=rchsL_len x.n
 have l3:(K_ shpC (shpsL x.n a)).length=(shpsL x.n a).length:=Q_ _
 have l4:(K_ rchC (rchsL x.n)).length=(rchsL x.n).length:=Q_ _
 have l5:(K_ nodC x.n).length=x.n.length:=Q_ _
 have s1:=@lastS_i x.n a
 have s2:=@lastR_i x.n
 have s3:=lastS_ok (l:=x.n) oka
 have s4:=lastR_in q1
 have oz0:=@shapes_y (x.n) (a) q1 q3 h
 have oz1:=z1_
 have oz2:=@flow_y (x.n) (Rng.mk (-128) 127) q1 q3 q8 g
 have oz4:=(s_ (0≤((K_ nodC x.n).length:Int)))
 have oz5:=(map_at (shpC) (default) (l:=growL nextE x.n a x.n.length) (i:=(K_ nodC x.n).length) (by (simp_all;done)))
 have oz7:=(map_at (rchC) (default) (l:=growL stepR x.n (Rng.mk (-128) 127) x.n.length) (i:=(K_ nodC x.n).length) (by (simp_all;done)))
 have oz8:=@vexit_v (x) ((growL nextE x.n a x.n.length).getD (K_ nodC x.n).length default) ((growL stepR x.n (Rng.mk (-128) 127) x.n.length).getD (K_ nodC x.n).length default) (cl) (last) ok (by (rw[s1 (by omega)];exact s3)) (by (rw[s2 (by omega)];exact s4)) q4 q5
 rcases bft (exitE x ((growL nextE x.n a x.n.length).getD (K_ nodC x.n).length default) ((growL stepR x.n (Rng.mk (-128) 127) x.n.length).getD (K_ nodC x.n).length default) cl last != 0) with hc0|hc0
 ·have gc0:¬exitE x ((growL nextE x.n a x.n.length).getD (K_ nodC x.n).length default) ((growL stepR x.n (Rng.mk (-128) 127) x.n.length).getD (K_ nodC x.n).length default) cl last=0:=bdt hc0
  exact (cR_ [r_,.r [] [cr oz0],r_,d_,.r [] [cr oz2],r_,d_,.r [] [.row (sO oz5),.row (sO oz7),cr oz8],r_,b_,r_] (AV.tup [i64 (-1),i64 (exitE x ((growL nextE x.n a x.n.length).getD (K_ nodC x.n).length default) ((growL stepR x.n (Rng.mk (-128) 127) x.n.length).getD (K_ nodC x.n).length default) cl last)]) Tryz.func70 (.c8 oz0 oz1 oz2 oz1 oz4 oz5 oz4 oz7<|.d2 oz8 hc0)).weak (A_ _) (AZ_ (.cons (M_ (by (rw[q7,i_ (by simp_all)]))) (.cons (M_ (by (simp_all;done))) .nil)))
 ·have gc0:exitE x ((growL nextE x.n a x.n.length).getD (K_ nodC x.n).length default) ((growL stepR x.n (Rng.mk (-128) 127) x.n.length).getD (K_ nodC x.n).length default) cl last=0:=bdf hc0
  exact (cR_ [r_,.r [] [cr oz0],r_,d_,.r [] [cr oz2],r_,d_,.r [] [.row (sO oz5),.row (sO oz7),cr oz8],r_,d_,r_] (AV.tup [i64 ((K_ nodC x.n).length:Int),i64 0]) Tryz.func70 (.c8 oz0 oz1 oz2 oz1 oz4 oz5 oz4 oz7<|.d2 oz8 hc0)).weak (A_ _) (AZ_ (.cons (M_ (by (simp_all;done))) (.cons (M_ (by (rw[q7,j_ (by simp_all)]))) .nil)))
theorem exitE_a {x:Blc} {out:Shp} {r:Rng} {cl:Int} {last:Bool} (h:(!x.ex&&(last || (decide (((K_ (row1 .i8) x.w).length:Int)>0) || decide (((K_ (row1 .i32) x.b).length:Int)>0) || x.nd != 0)))=true):exitE x out r cl last=11:=by
 simp only[Q_,O_,W_,E_,J_,U_] at h
 unfold exitE
 rw[i_ ⟨h.1,by rcases h.2 with h|h;exact .inl h;right;omega⟩]
theorem exitE_b {x:Blc} {out:Shp} {r:Rng} {cl:Int} {last:Bool} (h:(!x.ex&&(last || (decide (((K_ (row1 .i8) x.w).length:Int)>0) || decide (((K_ (row1 .i32) x.b).length:Int)>0) || x.nd != 0)))=false) (hx:x.ex=false):exitE x out r cl last=0:=by
 rw[hx] at h
 simp only[Q_,AJ_,BU_,R_,F_,G_] at h
 unfold exitE
 rw[j_ (by rintro ⟨_,g|g⟩;(rw[h.1] at g;cases g);omega),i_ hx]
theorem exitE_c {x:Blc} {out:Shp} {r:Rng} {cl:Int} {last:Bool} (hx:x.ex=true):exitE x out r cl last=if verdE out x.w x.b x.nd cl≠0 then verdE out x.w x.b x.nd cl else headE x.w x.b r.lo r.hi:=by
 unfold exitE
 rw[j_ (by rw[hx];simp),j_ (by rw[hx];simp)]
theorem rvblock_s (x:Blc) (a:Shp) (cl:Int) (last:Bool) (ok:x.Ok) (oka:a.Ok) (sm:x.Sm) (h:¬ SOK x.n a):VC N_ 39 ([blc x,shp a,i64 cl,bv last]) (.tup [i64 (validE x a cl last).1,i64 (validE x a cl last).2]):=by
 have q1:=ok.n
 obtain ⟨q2,q3,q4,q5⟩:=id sm
 have q6:=shapesE_n h
 have q7:=@validE_s x a cl last h
 have oz0:=@rshapes_n (x.n) (a) q1 q3 oka (by omega) h
 exact (cR_ [r_,.r [] [cr oz0],r_,b_,r_] (AV.tup [i64 (shapesE x.n a).fst,i64 (shapesE x.n a).snd]) Tryz.func39 (.d2 oz0 (show ((shapesE x.n a).snd != 0)=true by (simp;omega)))).weak (A_ _) (AZ_ (.cons (M_ (by (rw[q7]))) (.cons (M_ (by (rw[q7]))) .nil)))
theorem rvblock_f (x:Blc) (a:Shp) (cl:Int) (last:Bool) (ok:x.Ok) (oka:a.Ok) (sm:x.Sm) (h:SOK x.n a) (g:¬ FOK x.n fullR):VC N_ 39 ([blc x,shp a,i64 cl,bv last]) (.tup [i64 (validE x a cl last).1,i64 (validE x a cl last).2]):=by
 have q1:=ok.n
 obtain ⟨q2,q3,q4,q5⟩:=id sm
 have q6:=flowE_n g
 have q7:=@validE_f x a cl last h g
 have q8:=fullR_in
 have oz0:=@rshapes_y (x.n) (a) q1 q3 h
 have oz2:=@rflow_n (x.n) (Rng.mk (-128) 127) q1 q3 q8 (by omega) g
 exact (cR_ [r_,.r [] [cr oz0],r_,d_,.r [] [cr oz2],r_,b_,r_] (AV.tup [i64 (flowE x.n (Rng.mk (-128) 127)).fst,i64 (flowE x.n (Rng.mk (-128) 127)).snd]) Tryz.func39 (.d4 oz0 z1_ oz2 (show ((flowE x.n (Rng.mk (-128) 127)).snd != 0)=true by (simp;omega)))).weak (A_ _) (AZ_ (.cons (M_ (by (rw[q7]))) (.cons (M_ (by (rw[q7]))) .nil)))
theorem rvblock_y (x:Blc) (a:Shp) (cl:Int) (last:Bool) (ok:x.Ok) (oka:a.Ok) (sm:x.Sm) (h:SOK x.n a) (g:FOK x.n fullR):VC N_ 39 ([blc x,shp a,i64 cl,bv last]) (.tup [i64 (validE x a cl last).1,i64 (validE x a cl last).2]):=by
 have q1:=ok.n
 have qw:=ok.w
 have qb:=ok.b
 obtain ⟨q2,q3,q4,q5⟩:=id sm
 have q7:=@validE_y x a cl last h g
 have q8:=fullR_in
 have l1:=growL_len nextE x.n a x.n.length
 have l2:=growL_len stepR x.n (Rng.mk (-128) 127) x.n.length
 have l3:(K_ shpC (growL nextE x.n a x.n.length)).length=(growL nextE x.n a x.n.length).length:=Q_ _
 have l4:(K_ rchC (growL stepR x.n (Rng.mk (-128) 127) x.n.length)).length=(growL stepR x.n (Rng.mk (-128) 127) x.n.length).length:=Q_ _
 have l5:(K_ nodC x.n).length=x.n.length:=Q_ _
 have i1:(((K_ shpC (growL nextE x.n a x.n.length)).length:Int)-1).toNat=x.n.length:=by omega
 have i2:((↑(K_ rchC (growL stepR x.n (Rng.mk (-128) 127) x.n.length)).length:Int)-1).toNat=x.n.length:=by omega
 have s3:=lastS_ok (l:=x.n) oka
 have vq:(growL nextE x.n a x.n.length).getD (((K_ shpC (growL nextE x.n a x.n.length)).length:Int)-1).toNat default=lastS x.n a:=by rw[i1];rfl
 have vr:(growL stepR x.n (Rng.mk (-128) 127) x.n.length).getD ((↑(K_ rchC (growL stepR x.n (Rng.mk (-128) 127) x.n.length)).length:Int)-1).toNat default=lastR x.n:=by rw[i2];rfl
 obtain ⟨s4,s5⟩:=lastR_in q1
 have oz0:=@rshapes_y (x.n) (a) q1 q3 h
 have oz1:=z1_
 have oz2:=@rflow_y (x.n) (Rng.mk (-128) 127) q1 q3 q8 g
 rcases bft (!x.ex&&(last || (decide (((K_ (row1 .i8) x.w).length:Int)>0) || decide (((K_ (row1 .i32) x.b).length:Int)>0) || x.nd != 0))) with hc0|hc0
 ·have gc0:x.ex=false∧(last=true∨(((K_ (row1 .i8) x.w).length:Int)>0∨((K_ (row1 .i32) x.b).length:Int)>0)∨¬x.nd=0):=gc0_ hc0
  exact (cR_ [r_,.r [] [cr oz0],r_,d_,.r [] [cr oz2],r_,d_,.r [] [o_,o_,o_,o_,o_,.sel 1,o_,o_,o_,o_,.sel 1],.r [] [o_,o_,o_,o_,.sel 1,.sel 2],b_,r_] (AV.tup [i64 (-1),i64 11]) Tryz.func39 (.d5 oz0 oz1 oz2 oz1 hc0)).weak (A_ _) (AZ_ (.cons (M_ (by (rw[q7,exitE_a (by assumption),i_ (by decide)]))) (.cons (M_ (by (rw[q7,exitE_a (by assumption),i_ (by decide)]))) .nil)))
 ·have gc0:x.ex=true∨last=false∧(¬((K_ (row1 .i8) x.w).length:Int)>0∧¬((K_ (row1 .i32) x.b).length:Int)>0)∧x.nd=0:=gc0_ hc0
  rcases bft (x.ex) with hc1|hc1
  ·have gc1:x.ex=true:=by first|exact hc1|exact of_decide_eq_true hc1|exact of_decide_eq_false hc1|simpa [eqNums] using hc1|(simp[eqNums] at hc1 ⊢;first|done|assumption|omega)
   have oz6:=(i6n (((K_ shpC (growL nextE x.n a x.n.length)).length:Int)-1) (by omega))
   have oz7:=(s_ (0≤((K_ shpC (growL nextE x.n a x.n.length)).length:Int)-1))
   have oz8:=(map_at (shpC) (default) (l:=growL nextE x.n a x.n.length) (i:=(((K_ shpC (growL nextE x.n a x.n.length)).length:Int)-1).toNat) (by omega))
   have oz9:=@refVcheck_v ((growL nextE x.n a x.n.length).getD (((K_ shpC (growL nextE x.n a x.n.length)).length:Int)-1).toNat default) (x.w) (x.b) (x.nd) (cl) (by (rw[i1];exact s3)) q4 q5
   rcases bft (verdE ((growL nextE x.n a x.n.length).getD (((K_ shpC (growL nextE x.n a x.n.length)).length:Int)-1).toNat default) x.w x.b x.nd cl != 0) with hc2|hc2
   ·have gc2:¬verdE ((growL nextE x.n a x.n.length).getD (((K_ shpC (growL nextE x.n a x.n.length)).length:Int)-1).toNat default) x.w x.b x.nd cl=0:=bdt hc2
    exact (cR_ [r_,.r [] [cr oz0],r_,d_,.r [] [cr oz2],r_,d_,.r [] [o_,o_,o_,o_,o_,.sel 1,o_,o_,o_,o_,.sel 1],.r [] [o_,o_,o_,o_,.sel 1,.sel 2],d_,r_,b_,.r [] [.n (nO oz6),.row (sO oz8),cr oz9],r_,b_,r_] (AV.tup [i64 (-1),i64 (verdE ((growL nextE x.n a x.n.length).getD (((K_ shpC (growL nextE x.n a x.n.length)).length:Int)-1).toNat default) x.w x.b x.nd cl)]) Tryz.func39 (.c8 oz0 oz1 oz2 oz1 hc0 hc1 oz6 oz7<|.d3 oz8 oz9 hc2)).to (by (simp only[vq,vr] at *;rw[q7,exitE_c (by assumption)];simp_all;done))
   ·have gc2:verdE ((growL nextE x.n a x.n.length).getD (((K_ shpC (growL nextE x.n a x.n.length)).length:Int)-1).toNat default) x.w x.b x.nd cl=0:=bdf hc2
    have oz11:=(i6n ((↑(K_ rchC (growL stepR x.n (Rng.mk (-128) 127) x.n.length)).length:Int)-1) (by omega))
    have oz12:=(s_ (0≤(↑(K_ rchC (growL stepR x.n (Rng.mk (-128) 127) x.n.length)).length:Int)-1))
    have oz13:=(map_at (rchC) (default) (l:=growL stepR x.n (Rng.mk (-128) 127) x.n.length) (i:=((↑(K_ rchC (growL stepR x.n (Rng.mk (-128) 127) x.n.length)).length:Int)-1).toNat) (by omega))
    have oz14:=@refHead_v (x.w) (x.b) (x.nd) (((growL stepR x.n (Rng.mk (-128) 127) x.n.length).getD ((↑(K_ rchC (growL stepR x.n (Rng.mk (-128) 127) x.n.length)).length:Int)-1).toNat default).lo) (((growL stepR x.n (Rng.mk (-128) 127) x.n.length).getD ((↑(K_ rchC (growL stepR x.n (Rng.mk (-128) 127) x.n.length)).length:Int)-1).toNat default).hi) qw qb q4 q5 (by (rw[i2];exact s4)) (by (rw[i2];exact s5))
    rcases bft (headE x.w x.b ((growL stepR x.n (Rng.mk (-128) 127) x.n.length).getD ((↑(K_ rchC (growL stepR x.n (Rng.mk (-128) 127) x.n.length)).length:Int)-1).toNat default).lo ((growL stepR x.n (Rng.mk (-128) 127) x.n.length).getD ((↑(K_ rchC (growL stepR x.n (Rng.mk (-128) 127) x.n.length)).length:Int)-1).toNat default).hi != 0) with hc3|hc3
    ·have gc3:¬headE x.w x.b ((growL stepR x.n (Rng.mk (-128) 127) x.n.length).getD ((↑(K_ rchC (growL stepR x.n (Rng.mk (-128) 127) x.n.length)).length:Int)-1).toNat default).lo ((growL stepR x.n (Rng.mk (-128) 127) x.n.length).getD ((↑(K_ rchC (growL stepR x.n (Rng.mk (-128) 127) x.n.length)).length:Int)-1).toNat default).hi=0:=bdt hc3
     exact (cR_ [r_,.r [] [cr oz0],r_,d_,.r [] [cr oz2],r_,d_,.r [] [o_,o_,o_,o_,o_,.sel 1,o_,o_,o_,o_,.sel 1],.r [] [o_,o_,o_,o_,.sel 1,.sel 2],d_,r_,b_,.r [] [.n (nO oz6),.row (sO oz8),cr oz9],r_,d_,.r [] [.n (nO oz11),.row (sO oz13),cr oz14],r_,b_,r_] (AV.tup [i64 (-1),i64 (headE x.w x.b ((growL stepR x.n (Rng.mk (-128) 127) x.n.length).getD ((↑(K_ rchC (growL stepR x.n (Rng.mk (-128) 127) x.n.length)).length:Int)-1).toNat default).lo ((growL stepR x.n (Rng.mk (-128) 127) x.n.length).getD ((↑(K_ rchC (growL stepR x.n (Rng.mk (-128) 127) x.n.length)).length:Int)-1).toNat default).hi)]) Tryz.func39 (.c8 oz0 oz1 oz2 oz1 hc0 hc1 oz6 oz7<|.d8 oz8 oz9 hc2 oz11 oz12 oz13 oz14 hc3)).to (by (simp only[vq,vr] at *;rw[q7,exitE_c (by assumption)];simp_all;done))
    ·have gc3:headE x.w x.b ((growL stepR x.n (Rng.mk (-128) 127) x.n.length).getD ((↑(K_ rchC (growL stepR x.n (Rng.mk (-128) 127) x.n.length)).length:Int)-1).toNat default).lo ((growL stepR x.n (Rng.mk (-128) 127) x.n.length).getD ((↑(K_ rchC (growL stepR x.n (Rng.mk (-128) 127) x.n.length)).length:Int)-1).toNat default).hi=0:=bdf hc3
     exact (cR_ [r_,.r [] [cr oz0],r_,d_,.r [] [cr oz2],r_,d_,.r [] [o_,o_,o_,o_,o_,.sel 1,o_,o_,o_,o_,.sel 1],.r [] [o_,o_,o_,o_,.sel 1,.sel 2],d_,r_,b_,.r [] [.n (nO oz6),.row (sO oz8),cr oz9],r_,d_,.r [] [.n (nO oz11),.row (sO oz13),cr oz14],r_,d_,r_] (AV.tup [i64 ((K_ nodC x.n).length:Int),i64 0]) Tryz.func39 (.c8 oz0 oz1 oz2 oz1 hc0 hc1 oz6 oz7<|.d8 oz8 oz9 hc2 oz11 oz12 oz13 oz14 hc3)).to (by (simp only[vq,vr] at *;rw[q7,exitE_c (by assumption)];simp_all;done))
  ·have gc1:x.ex=false:=by first|exact hc1|exact of_decide_eq_true hc1|exact of_decide_eq_false hc1|simpa [eqNums] using hc1|(simp[eqNums] at hc1 ⊢;first|done|assumption|omega)
   exact (cR_ [r_,.r [] [cr oz0],r_,d_,.r [] [cr oz2],r_,d_,.r [] [o_,o_,o_,o_,o_,.sel 1,o_,o_,o_,o_,.sel 1],.r [] [o_,o_,o_,o_,.sel 1,.sel 2],d_,r_,d_,r_] (AV.tup [i64 ((K_ nodC x.n).length:Int),i64 0]) Tryz.func39 (.d6 oz0 oz1 oz2 oz1 hc0 hc1)).weak (A_ _) (AZ_ (.cons (M_ (by (rw[q7,exitE_b (by assumption) (by assumption),j_ (by simp),Q_]))) (.cons (M_ (by (rw[q7,exitE_b (by assumption) (by assumption),j_ (by simp)]))) .nil)))
theorem vblock_v (x:Blc) (a:Shp) (cl:Int) (last:Bool) (ok:x.Ok) (oka:a.Ok) (sm:x.Sm):VC N_ 70 [blc x,shp a,i64 cl,bv last] (.tup [i64 (validE x a cl last).1,i64 (validE x a cl last).2]):=by
 by_cases h:SOK x.n a
 ·by_cases g:FOK x.n fullR
  ·exact vblock_y x a cl last ok oka sm h g
  ·exact vblock_f x a cl last ok oka sm h g
 ·exact vblock_s x a cl last ok oka sm h
theorem rvblock_v (x:Blc) (a:Shp) (cl:Int) (last:Bool) (ok:x.Ok) (oka:a.Ok) (sm:x.Sm):VC N_ 39 [blc x,shp a,i64 cl,bv last] (.tup [i64 (validE x a cl last).1,i64 (validE x a cl last).2]):=by
 by_cases h:SOK x.n a
 ·by_cases g:FOK x.n fullR
  ·exact rvblock_y x a cl last ok oka sm h g
  ·exact rvblock_f x a cl last ok oka sm h g
 ·exact rvblock_s x a cl last ok oka sm h
structure Flt where
 w:Int
 m:Int
 b:Int
 n:Int
abbrev fltC (f:Flt):List AV:=[i64 f.w,i64 f.m,i64 f.b,i64 f.n]
abbrev flt (f:Flt):AV:=.agg (fltC f)
def wholeE (u:Bun):Int:=if ¬ 0<elems u.h u.x u.c then 5 else if u.cl<2∨u.cl>16 then 2 else if u.m.length=0 then 12 else if 3<u.m.length then 4 else 0
theorem vwhole_v (u:Bun) (ok:u.Ok) (hl:u.m.length≤1000):VC N_ 47 ([bun u]) (i64 (wholeE u)):=by
 have q1:=elems_in u.h u.x u.c
 have q2:u.inp.Ok:=⟨ok.h,ok.x,ok.c⟩
 have oz0:=@sRight_v (Shp.mk u.h u.x u.c) q2
 rcases bft (!decide (0<elems u.h u.x u.c)) with hc0|hc0
 ·have gc0:=bnt hc0
  exact (cR_ [r_,.r [] [cr oz0],b_,r_] (i64 5) Tryz.func47 (.d2 oz0 hc0)).weak (A_ _) (M_ (by (unfold wholeE;(try simp only[Q_] at *);(repeat first|rw[i_ (by omega)]|rw[j_ (by omega)]))))
 ·have gc0:=bnf hc0
  rcases bft (decide (u.cl<2) || decide (u.cl>16)) with hc1|hc1
  ·have gc1:u.cl<2∨u.cl>16:=gc0_ hc1
   exact (cR_ [r_,.r [] [cr oz0],d_,.r [] [o_,o_,o_,.sel 1],b_,r_] (i64 2) Tryz.func47 (.d3 oz0 hc0 hc1)).weak (A_ _) (M_ (by (unfold wholeE;(try simp only[Q_] at *);(repeat first|rw[i_ (by omega)]|rw[j_ (by omega)]))))
  ·have gc1:¬u.cl<2∧¬u.cl>16:=gc0_ hc1
   rcases bft (((K_ mdlC u.m).length:Int)==0) with hc2|hc2
   ·have gc2:((K_ mdlC u.m).length:Int)=0:=bet hc2
    exact (cR_ [r_,.r [] [cr oz0],d_,.r [] [o_,o_,o_,.sel 1],d_,r_,b_,r_] (i64 12) Tryz.func47 (.d4 oz0 hc0 hc1 hc2)).weak (A_ _) (M_ (by (unfold wholeE;(try simp only[Q_] at *);(repeat first|rw[i_ (by omega)]|rw[j_ (by omega)]))))
   ·have gc2:¬((K_ mdlC u.m).length:Int)=0:=bef hc2
    rcases bft (decide (((K_ mdlC u.m).length:Int)>3)) with hc3|hc3
    ·have gc3:=of_decide_eq_true hc3
     exact (cR_ [r_,.r [] [cr oz0],d_,.r [] [o_,o_,o_,.sel 1],d_,r_,d_,r_,b_,r_] (i64 4) Tryz.func47 (.d5 oz0 hc0 hc1 hc2 hc3)).weak (A_ _) (M_ (by (unfold wholeE;(try simp only[Q_] at *);(repeat first|rw[i_ (by omega)]|rw[j_ (by omega)]))))
    ·have gc3:=of_decide_eq_false hc3
     exact (cR_ [r_,.r [] [cr oz0],d_,.r [] [o_,o_,o_,.sel 1],d_,r_,d_,r_,d_,r_] (i64 0) Tryz.func47 (.d5 oz0 hc0 hc1 hc2 hc3)).weak (A_ _) (M_ (by (unfold wholeE;(try simp only[Q_] at *);(repeat first|rw[i_ (by omega)]|rw[j_ (by omega)]))))
def inS (l:List Blc) (a:Shp):Nat→Shp
 | 0=>a
 | k+1=>lastS (l.getD k default).n (inS l a k)
theorem inS_ok {l:List Blc} {a:Shp} (h:a.Ok):∀ k,(inS l a k).Ok
 | 0=>h
 | k+1=>lastS_ok (inS_ok h k)
abbrev vB (l:List Blc) (a:Shp) (cl:Int) (k:Nat):Int×Int:=validE (l.getD k default) (inS l a k) cl ((k:Int)==((K_ blcC l).length:Int)-1)
theorem validE_ok {x:Blc} {a:Shp} {cl:Int} {last:Bool} (h:(validE x a cl last).2=0):SOK x.n a:=by
 by_cases g:SOK x.n a
 ·exact g
 ·rw[validE_s g] at h;exact absurd h (shapesE_n g)
noncomputable def vmodel_ly_I (u:Bun) (l:List Blc) (a:Shp) (j:Int) (k:Nat):VS:=stt 77 [(1,i64 j),(2,.ptr 2 0 0),(4,.ptr 4 0 0),(5,.sl 5 (l.map blcC)),(6,.ptr 6 0 0),(34,.sl 5 (l.map blcC)),(35,i64 l.length),(36,i64 k)] [(2,.var (bunC u)),(4,.var [i64 0,i64 0,i64 0,i64 0]),(6,.var (shpC (inS l a k)))]
noncomputable def vmodel_ly_Z (u:Bun) (l:List Blc) (a:Shp) (j:Int):VS:=vmodel_ly_I u l a j (l.length)
theorem vmodel_ly_s (u:Bun) (l:List Blc) (a:Shp) (j:Int) (ok:∀ d∈l,d.Ok) (sm:∀ d∈l,d.Sm) (oka:a.Ok) (hl:l.length≤6) (h:∀ k,k<l.length→(vB l a u.cl k).2=0) (k:Nat) (hk:k<l.length):VT N_ (fnC Tryz.f48 [1,1,1,1,0,1,0,0]) (vmodel_ly_I u l a j k) .normal (vmodel_ly_I u l a j (k+1)):=by
 have q:=h k hk
 have q1:=validE_ok q
 have q2:=getD_in ok hk
 have q3:=getD_in sm hk
 have q4:=inS_ok (l:=l) oka k
 have lb:(K_ blcC l).length=l.length:=Q_ _
 have q5:=q2.n
 have q6:=q3.s
 have q7:=q3.l
 have l1:=growL_len nextE (l.getD k default).n (inS l a k) (l.getD k default).n.length
 have l3:(K_ shpC (growL nextE (l.getD k default).n (inS l a k) (l.getD k default).n.length)).length=(growL nextE (l.getD k default).n (inS l a k) (l.getD k default).n.length).length:=Q_ _
 have i1:(((K_ shpC (growL nextE (l.getD k default).n (inS l a k) (l.getD k default).n.length)).length:Int)-1).toNat=(l.getD k default).n.length:=by omega
 have oz2:=(map_at (blcC) (default) (l:=l) (i:=k) hk)
 have oz3:=(i6n (((K_ blcC l).length:Int)-1) (by omega))
 have oz4:=@vblock_v (l.getD k default) (inS l a k) (u.cl) ((↑k:Int)==((K_ blcC l).length:Int)-1) q2 q4 q3
 have oz6:=@shapes_y ((l.getD k default).n) (inS l a k) q5 q6 q1
 have oz7:=(i6n (((K_ shpC (growL nextE (l.getD k default).n (inS l a k) (l.getD k default).n.length)).length:Int)-1) (by omega))
 have oz9:=(map_at (shpC) (default) (l:=growL nextE (l.getD k default).n (inS l a k) (l.getD k default).n.length) (i:=(((K_ shpC (growL nextE (l.getD k default).n (inS l a k) (l.getD k default).n.length)).length:Int)-1).toNat) (by omega))
 exact tR_ [r_,b_,.r [] [.row (sO oz2)],.r [] [.n (nO oz3),cr oz4],r_,d_,.r [] [cr oz6],.r [] [.n (nO oz7),.row (sO oz9)],.r [] [.n ((↑k:Int)+1)]] [.any (rg [(7,7),(37,19),(61,15)]),.drop [8],.weak 36 (i64 (↑(k+1):Int)),.blk 6 (Blk.var [i64 (inS l a (k+1)).h,i64 (inS l a (k+1)).x,i64 (inS l a (k+1)).c]),.sort] (.c8 (decide_eq_true (p:=((↑k:Int)<(l.length:Int))) (by omega)) (s_ (0≤(↑k:Int))) oz2 oz3 oz4 (show ((validE (l.getD k default) (inS l a k) u.cl ((↑k:Int)==((K_ blcC l).length:Int)-1)).snd != 0)=false by (rw[q];rfl)) oz6 oz7<|.d5 (s_ (0≤((K_ shpC (growL nextE (l.getD k default).n (inS l a k) (l.getD k default).n.length)).length:Int)-1)) oz9 (i6n ((↑k:Int)+1) (by omega)) (wS_ k) (show BlkW (Blk.var [i64 ((growL nextE (l.getD k default).n (inS l a k) (l.getD k default).n.length).getD (((K_ shpC (growL nextE (l.getD k default).n (inS l a k) (l.getD k default).n.length)).length:Int)-1).toNat default).h,i64 ((growL nextE (l.getD k default).n (inS l a k) (l.getD k default).n.length).getD (((K_ shpC (growL nextE (l.getD k default).n (inS l a k) (l.getD k default).n.length)).length:Int)-1).toNat default).x,i64 ((growL nextE (l.getD k default).n (inS l a k) (l.getD k default).n.length).getD (((K_ shpC (growL nextE (l.getD k default).n (inS l a k) (l.getD k default).n.length)).length:Int)-1).toNat default).c]) (Blk.var [i64 (inS l a (k+1)).h,i64 (inS l a (k+1)).x,i64 (inS l a (k+1)).c]) from (BlkW.var (m:=[i64 (inS l a (k+1)).h,i64 (inS l a (k+1)).x,i64 (inS l a (k+1)).c]) (.cons (M_ (by (rw[i1]<;>rfl))) (.cons (M_ (by (rw[i1]<;>rfl))) (.cons (M_ (by (rw[i1]<;>rfl))) .nil))))))
theorem vmodel_ly_e (u:Bun) (l:List Blc) (a:Shp) (j:Int) (ok:∀ d∈l,d.Ok) (sm:∀ d∈l,d.Sm) (oka:a.Ok) (hl:l.length≤6) (h:∀ k,k<l.length→(vB l a u.cl k).2=0):VT N_ (fnC Tryz.f48 [1,1,1,1,0,1,0,0]) (vmodel_ly_I u l a j (l.length)) (.exit 1) (vmodel_ly_Z u l a j):=by
 exact tR_ [r_,d_] [.any [37],.sort] (.d (decide_eq_false (p:=((l.length:Int)<(l.length:Int))) (by omega)))
theorem vmodel_ly (u:Bun) (l:List Blc) (a:Shp) (j:Int) (ok:∀ d∈l,d.Ok) (sm:∀ d∈l,d.Sm) (oka:a.Ok) (hl:l.length≤6) (h:∀ k,k<l.length→(vB l a u.cl k).2=0):VT N_ (fnC Tryz.f48 [1,1,1,1,0,1,0]) (vmodel_ly_I u l a j 0) (.exit 1) (vmodel_ly_Z u l a j) :=
 VT.loop (fun k=>vmodel_ly_I u l a j k) (l.length) (fun k hk=>vmodel_ly_s u l a j ok sm oka hl h k hk) (vmodel_ly_e u l a j ok sm oka hl h) (by intro h;cases h)
noncomputable def vmodel_ln_I (u:Bun) (l:List Blc) (a:Shp) (j:Int) (m:Nat) (k:Nat):VS:=stt 77 [(1,i64 j),(2,.ptr 2 0 0),(4,.ptr 4 0 0),(5,.sl 5 (l.map blcC)),(6,.ptr 6 0 0),(34,.sl 5 (l.map blcC)),(35,i64 l.length),(36,i64 k)] [(2,.var (bunC u)),(4,.var [i64 0,i64 0,i64 0,i64 0]),(6,.var (shpC (inS l a k)))]
noncomputable def vmodel_ln_Z (u:Bun) (l:List Blc) (a:Shp) (j:Int) (m:Nat):VS:=stt 77 [(4,.ptr 4 0 0)] [(4,.var [i64 (vB l a u.cl m).2,i64 j,i64 m,i64 (vB l a u.cl m).1])]
theorem vmodel_ln_s (u:Bun) (l:List Blc) (a:Shp) (j:Int) (m:Nat) (ok:∀ d∈l,d.Ok) (sm:∀ d∈l,d.Sm) (oka:a.Ok) (hl:l.length≤6) (hm:m<l.length) (hf:(vB l a u.cl m).2≠0) (h:∀ k,k<m→(vB l a u.cl k).2=0) (k:Nat) (hk:k<m):VT N_ (fnC Tryz.f48 [1,1,1,1,0,1,0,0]) (vmodel_ln_I u l a j m k) .normal (vmodel_ln_I u l a j m (k+1)):=by
 have q:=h k hk
 have q1:=validE_ok q
 have q2:=getD_in ok (s_ (k<l.length))
 have q3:=getD_in sm (s_ (k<l.length))
 have q4:=inS_ok (l:=l) oka k
 have lb:(K_ blcC l).length=l.length:=Q_ _
 have q5:=q2.n
 have q6:=q3.s
 have q7:=q3.l
 have l1:=growL_len nextE (l.getD k default).n (inS l a k) (l.getD k default).n.length
 have l3:(K_ shpC (growL nextE (l.getD k default).n (inS l a k) (l.getD k default).n.length)).length=(growL nextE (l.getD k default).n (inS l a k) (l.getD k default).n.length).length:=Q_ _
 have i1:(((K_ shpC (growL nextE (l.getD k default).n (inS l a k) (l.getD k default).n.length)).length:Int)-1).toNat=(l.getD k default).n.length:=by omega
 have oz2:=(map_at (blcC) (default) (l:=l) (i:=k) (by omega))
 have oz3:=(i6n (((K_ blcC l).length:Int)-1) (by omega))
 have oz4:=@vblock_v (l.getD k default) (inS l a k) (u.cl) ((↑k:Int)==((K_ blcC l).length:Int)-1) q2 q4 q3
 have oz6:=@shapes_y ((l.getD k default).n) (inS l a k) q5 q6 q1
 have oz7:=(i6n (((K_ shpC (growL nextE (l.getD k default).n (inS l a k) (l.getD k default).n.length)).length:Int)-1) (by omega))
 have oz9:=(map_at (shpC) (default) (l:=growL nextE (l.getD k default).n (inS l a k) (l.getD k default).n.length) (i:=(((K_ shpC (growL nextE (l.getD k default).n (inS l a k) (l.getD k default).n.length)).length:Int)-1).toNat) (by omega))
 exact tR_ [r_,b_,.r [] [.row (sO oz2)],.r [] [.n (nO oz3),cr oz4],r_,d_,.r [] [cr oz6],.r [] [.n (nO oz7),.row (sO oz9)],.r [] [.n ((↑k:Int)+1)]] [.any (rg [(7,7),(37,19),(61,15)]),.drop [8],.weak 36 (i64 (↑(k+1):Int)),.blk 6 (Blk.var [i64 (inS l a (k+1)).h,i64 (inS l a (k+1)).x,i64 (inS l a (k+1)).c]),.sort] (.c8 (decide_eq_true (p:=((↑k:Int)<(l.length:Int))) (by omega)) (s_ (0≤(↑k:Int))) oz2 oz3 oz4 (show ((validE (l.getD k default) (inS l a k) u.cl ((↑k:Int)==((K_ blcC l).length:Int)-1)).snd != 0)=false by (rw[q];rfl)) oz6 oz7<|.d5 (s_ (0≤((K_ shpC (growL nextE (l.getD k default).n (inS l a k) (l.getD k default).n.length)).length:Int)-1)) oz9 (i6n ((↑k:Int)+1) (by omega)) (wS_ k) (show BlkW (Blk.var [i64 ((growL nextE (l.getD k default).n (inS l a k) (l.getD k default).n.length).getD (((K_ shpC (growL nextE (l.getD k default).n (inS l a k) (l.getD k default).n.length)).length:Int)-1).toNat default).h,i64 ((growL nextE (l.getD k default).n (inS l a k) (l.getD k default).n.length).getD (((K_ shpC (growL nextE (l.getD k default).n (inS l a k) (l.getD k default).n.length)).length:Int)-1).toNat default).x,i64 ((growL nextE (l.getD k default).n (inS l a k) (l.getD k default).n.length).getD (((K_ shpC (growL nextE (l.getD k default).n (inS l a k) (l.getD k default).n.length)).length:Int)-1).toNat default).c]) (Blk.var [i64 (inS l a (k+1)).h,i64 (inS l a (k+1)).x,i64 (inS l a (k+1)).c]) from (BlkW.var (m:=[i64 (inS l a (k+1)).h,i64 (inS l a (k+1)).x,i64 (inS l a (k+1)).c]) (.cons (M_ (by (rw[i1]<;>rfl))) (.cons (M_ (by (rw[i1]<;>rfl))) (.cons (M_ (by (rw[i1]<;>rfl))) .nil))))))
theorem vmodel_ln_e (u:Bun) (l:List Blc) (a:Shp) (j:Int) (m:Nat) (ok:∀ d∈l,d.Ok) (sm:∀ d∈l,d.Sm) (oka:a.Ok) (hl:l.length≤6) (hm:m<l.length) (hf:(vB l a u.cl m).2≠0) (h:∀ k,k<m→(vB l a u.cl k).2=0):VT N_ (fnC Tryz.f48 [1,1,1,1,0,1,0,0]) (vmodel_ln_I u l a j m (m)) (.ret) (vmodel_ln_Z u l a j m):=by
 have q2:=getD_in ok hm
 have q3:=getD_in sm hm
 have q4:=inS_ok (l:=l) oka m
 have lb:(K_ blcC l).length=l.length:=Q_ _
 have oz2:=(map_at (blcC) (default) (l:=l) (i:=m) hm)
 have oz3:=(i6n (((K_ blcC l).length:Int)-1) (by omega))
 have oz4:=@vblock_v (l.getD m default) (inS l a m) (u.cl) ((↑m:Int)==((K_ blcC l).length:Int)-1) q2 q4 q3
 exact tR_ [r_,b_,.r [] [.row (sO oz2)],.r [] [.n (nO oz3),cr oz4],r_,b_,r_] [.any (rg [(1,2),(5,6),(34,27)]),.drop [2,6,8],.sort] (.d6 (decide_eq_true (p:=((↑m:Int)<(l.length:Int))) (by omega)) (s_ (0≤(↑m:Int))) oz2 oz3 oz4 (show ((validE (l.getD m default) (inS l a m) u.cl ((↑m:Int)==((K_ blcC l).length:Int)-1)).snd != 0)=true by (rw[J_];exact hf)))
theorem vmodel_ln (u:Bun) (l:List Blc) (a:Shp) (j:Int) (m:Nat) (ok:∀ d∈l,d.Ok) (sm:∀ d∈l,d.Sm) (oka:a.Ok) (hl:l.length≤6) (hm:m<l.length) (hf:(vB l a u.cl m).2≠0) (h:∀ k,k<m→(vB l a u.cl k).2=0):VT N_ (fnC Tryz.f48 [1,1,1,1,0,1,0]) (vmodel_ln_I u l a j m 0) (.ret) (vmodel_ln_Z u l a j m) :=
 VT.loop (fun k=>vmodel_ln_I u l a j m k) (m) (fun k hk=>vmodel_ln_s u l a j m ok sm oka hl hm hf h k hk) (vmodel_ln_e u l a j m ok sm oka hl hm hf h) (by intro h;cases h)
def modelE (l:List Blc) (a:Shp) (cl j:Int):Flt :=
 if l.length=0 then ⟨12,j,-1,-1⟩ else if 6<l.length then ⟨4,j,-1,-1⟩
 else if firstBad (fun k=>(vB l a cl k).2==0) l.length<l.length then ⟨(vB l a cl (firstBad (fun k=>(vB l a cl k).2==0) l.length)).2,j,firstBad (fun k=>(vB l a cl k).2==0) l.length,(vB l a cl (firstBad (fun k=>(vB l a cl k).2==0) l.length)).1⟩
 else ⟨0,0,0,0⟩
theorem modelE_y {l:List Blc} {a:Shp} {cl j:Int} (h0:¬ l.length=0) (h6:l.length≤6) (h:∀ k,k<l.length→(vB l a cl k).2=0):modelE l a cl j=⟨0,0,0,0⟩:=by
 unfold modelE
 rw[j_ h0,j_ (by omega),firstBad_all fun k hk=>by simpa using h k hk,j_ (by omega)]
theorem modelE_m {l:List Blc} {a:Shp} {cl j:Int} {m:Nat} (h6:l.length≤6) (hm:m<l.length) (hf:(vB l a cl m).2≠0) (h:∀ k,k<m→(vB l a cl k).2=0):modelE l a cl j=⟨(vB l a cl m).2,j,m,(vB l a cl m).1⟩:=by
 have e:=firstBad_at (p:=fun k=>(vB l a cl k).2==0) (m:=m) (by simpa using hf) (fun k hk=>by simpa using h k hk) hm
 unfold modelE
 rw[j_ (by omega),j_ (by omega),e,i_ hm]
theorem modelE_cases (l:List Blc) (a:Shp) (cl:Int):(¬ l.length=0∧l.length≤6∧∀ k,k<l.length→(vB l a cl k).2=0)∨(l.length=0∨6<l.length)∨(l.length≤6∧∃ m,m<l.length∧(vB l a cl m).2≠0∧∀ k,k<m→(vB l a cl k).2=0):=by
 by_cases c:l.length=0∨6<l.length
 ·exact .inr (.inl c)
 ·rcases all_or (fun k=>(vB l a cl k).2==0) l.length with h|⟨m,h1,h2,h3⟩
  ·exact .inl ⟨by omega,by omega,fun k hk=>by simpa using h k hk⟩
  ·exact .inr (.inr ⟨by omega,m,h1,by simpa using h2,fun k hk=>by simpa using h3 k hk⟩)
structure Bun.Sm (u:Bun):Prop where
 l:u.m.length≤4
 m:∀ d∈u.m,d.l.length≤8∧∀ x∈d.l,x.Sm
theorem Bun.sm {u:Bun} (h:bunS u=true):u.Sm:=by
 simp only[bunS,mdlS,O_,E_,List.all_eq_true] at h
 exact ⟨h.1,fun d hd=>⟨(h.2 d hd).1,fun x hx=>Blc.sm ((h.2 d hd).2 x hx)⟩⟩
theorem vmodel_y (u:Bun) (j:Nat) (ok:u.Ok) (sm:u.Sm) (hj:j<u.m.length) (h0:¬ (u.m.getD j default).l.length=0) (h6:(u.m.getD j default).l.length≤6) (h:∀ k,k<(u.m.getD j default).l.length→(vB (u.m.getD j default).l u.inp u.cl k).2=0):VC N_ 48 ([bun u,i64 j]) (flt ⟨0,0,0,0⟩):=by
 have q2:u.inp.Ok:=⟨ok.h,ok.x,ok.c⟩
 have q3:=(getD_in ok.m hj).l
 have q4:=(getD_in sm.m hj).2
 have q5:=sm.l
 have oz1:=(map_at (mdlC) (default) (l:=u.m) (i:=j) hj)
 have oz4:=(M_ (k:=.i64) (show ((((K_ blcC (u.m.getD j default).l).length:Int)):Int)=((↑(u.m.getD j default).l.length:Int)) from (by (simp;done))))
 have oz6:=@vmodel_ly (u) ((u.m.getD j default).l) (Shp.mk u.1 u.2 u.3) ((↑j:Int)) q3 q4 q2 h6 h
 exact cR_ [r_,.r [] [.row (sO oz1)],r_,d_,r_,d_,r_,r_,.code [.any (rg [(0,1),(14,10),(26,4),(32,2)]),.weak 35 (wO oz4),.weak 36 (i64 (↑0:Int)),.sort] (AI_ 1) (zO oz6),r_] _ Tryz.func48 (.d7 (s_ (0≤(↑j:Int))) oz1 (show (((K_ blcC (u.m.getD j default).l).length:Int)==0)=false by (simp at *;omega)) (show decide (((K_ blcC (u.m.getD j default).l).length:Int)>6)=false by (simp at *;omega)) oz4 w0_ oz6)
theorem vmodel_m (u:Bun) (j m:Nat) (ok:u.Ok) (sm:u.Sm) (hj:j<u.m.length) (h6:(u.m.getD j default).l.length≤6) (hm:m<(u.m.getD j default).l.length) (hf:(vB (u.m.getD j default).l u.inp u.cl m).2≠0) (h:∀ k,k<m→(vB (u.m.getD j default).l u.inp u.cl k).2=0):VC N_ 48 ([bun u,i64 j]) (flt ⟨(vB (u.m.getD j default).l u.inp u.cl m).2,j,m,(vB (u.m.getD j default).l u.inp u.cl m).1⟩):=by
 have q2:u.inp.Ok:=⟨ok.h,ok.x,ok.c⟩
 have q3:=(getD_in ok.m hj).l
 have q4:=(getD_in sm.m hj).2
 have q5:=sm.l
 have oz1:=(map_at (mdlC) (default) (l:=u.m) (i:=j) hj)
 have oz4:=(M_ (k:=.i64) (show ((((K_ blcC (u.m.getD j default).l).length:Int)):Int)=((↑(u.m.getD j default).l.length:Int)) from (by (simp;done))))
 have oz6:=@vmodel_ln (u) ((u.m.getD j default).l) (Shp.mk u.1 u.2 u.3) ((↑j:Int)) (m) q3 q4 q2 h6 hm hf h
 exact cR_ [r_,.r [] [.row (sO oz1)],r_,d_,r_,d_,r_,r_,.code [.any (rg [(0,1),(14,10),(26,4),(32,2)]),.weak 35 (wO oz4),.weak 36 (i64 (↑0:Int)),.sort] (Exit.ret) (zO oz6)] _ Tryz.func48 (.d7 (s_ (0≤(↑j:Int))) oz1 (show (((K_ blcC (u.m.getD j default).l).length:Int)==0)=false by (simp only[E_,F_,I_,J_,ne_eq,H_,G_,U_,T_,AH_,BM_,AJ_,Classical.not_not,BI_,CZ_,O_,P_,W_,R_,B_,BU_,BO_,AG_,BY_,BN_,eqNums,Q_,AW_,AO_,AS_,BA_,AB_,BT_,BX_,BV_,AF_,BR_,BQ_];(first|done|with_reducible assumption|omega|contradiction))) (show decide (((K_ blcC (u.m.getD j default).l).length:Int)>6)=false by (simp at *;omega)) oz4 w0_ oz6)
theorem vmodel_a (u:Bun) (j:Nat) (sm:u.Sm) (hj:j<u.m.length) (h:(u.m.getD j default).l.length=0∨6<(u.m.getD j default).l.length):VC N_ 48 ([bun u,i64 j]) (flt (modelE (u.m.getD j default).l u.inp u.cl j)):=by
 have q5:=sm.l
 have oz0:=(s_ (0≤(↑j:Int)))
 have oz1:=(map_at (mdlC) (default) (l:=u.m) (i:=j) hj)
 rcases bft (((K_ blcC (u.m.getD j default).l).length:Int)==0) with hc0|hc0
 ·have gc0:((K_ blcC (u.m.getD j default).l).length:Int)=0:=bet hc0
  exact (cR_ [r_,.r [] [.row (sO oz1)],r_,b_,r_] (AV.agg [i64 12,i64 (↑j:Int),i64 (-1),i64 (-1)]) Tryz.func48 (.d3 oz0 oz1 hc0)).weak (A_ _) (AD_ (.cons (M_ (by (unfold modelE;(try simp only[Q_] at *);(repeat first|rw[i_ (by omega)]|rw[j_ (by omega)])))) (.cons (M_ (by (unfold modelE;(try simp only[Q_] at *);(repeat first|rw[i_ (by omega)]|rw[j_ (by omega)])))) (.cons (M_ (by (unfold modelE;(try simp only[Q_] at *);(repeat first|rw[i_ (by omega)]|rw[j_ (by omega)])))) (.cons (M_ (by (unfold modelE;(try simp only[Q_] at *);(repeat first|rw[i_ (by omega)]|rw[j_ (by omega)])))) .nil)))))
 ·have gc0:¬((K_ blcC (u.m.getD j default).l).length:Int)=0:=bef hc0
  exact (cR_ [r_,.r [] [.row (sO oz1)],r_,d_,r_,b_,r_] (AV.agg [i64 4,i64 (↑j:Int),i64 (-1),i64 (-1)]) Tryz.func48 (.d4 oz0 oz1 hc0 (show decide (((K_ blcC (u.m.getD j default).l).length:Int)>6)=true by (simp only[E_,F_,I_,J_,ne_eq,H_,G_,U_,T_,AH_,BM_,AJ_,Classical.not_not,BI_,CZ_,O_,P_,W_,R_,B_,BU_,BO_,AG_,BY_,BN_,eqNums,Q_,AW_,AO_,AS_,BA_,AB_,BT_,BX_,BV_,AF_,BR_,BQ_] at *;(first|done|with_reducible assumption|omega|contradiction))))).weak (A_ _) (AD_ (.cons (M_ (by (unfold modelE;(try simp only[Q_] at *);(repeat first|rw[i_ (by omega)]|rw[j_ (by omega)])))) (.cons (M_ (by (unfold modelE;(try simp only[Q_] at *);(repeat first|rw[i_ (by omega)]|rw[j_ (by omega)])))) (.cons (M_ (by (unfold modelE;(try simp only[Q_] at *);(repeat first|rw[i_ (by omega)]|rw[j_ (by omega)])))) (.cons (M_ (by (unfold modelE;(try simp only[Q_] at *);(repeat first|rw[i_ (by omega)]|rw[j_ (by omega)])))) .nil)))))
theorem vmodel_v (u:Bun) (j:Nat) (ok:u.Ok) (sm:u.Sm) (hj:j<u.m.length):VC N_ 48 [bun u,i64 j] (flt (modelE (u.m.getD j default).l u.inp u.cl j)):=by
 rcases modelE_cases (u.m.getD j default).l u.inp u.cl with ⟨h0,h6,h⟩|h|⟨h6,m,h1,h2,h3⟩
 ·rw[modelE_y h0 h6 h];exact vmodel_y u j ok sm hj h0 h6 h
 ·exact vmodel_a u j sm hj h
 ·rw[modelE_m h6 h1 h2 h3];exact vmodel_m u j m ok sm hj h6 h1 h2 h3
theorem modelE_z {l:List Blc} {a:Shp} {cl j:Int} (h:(modelE l a cl j).w=0):modelE l a cl j=⟨0,0,0,0⟩:=by
 rcases modelE_cases l a cl with ⟨h0,h6,g⟩|g|⟨h6,m,h1,h2,h3⟩
 ·exact modelE_y h0 h6 g
 ·exfalso
  revert h
  unfold modelE
  by_cases c:l.length=0
  ·rw[i_ c];dsimp only;decide
  ·rw[j_ c,i_ (by omega)];dsimp only;decide
 ·rw[modelE_m h6 h1 h2 h3] at h;exact absurd h h2
abbrev intsC (l:List Int):List AV:=[ints .i64 l]
def rowK (l:List Blc) (a:Shp) (cl:Int):Nat→List Int
 | 0=>[]
 | k+1=>rowK l a cl k++[blockC (l.getD k default) (inS l a k) cl]
def tabK (u:Bun):Nat→List (List Int)
 | 0=>[]
 | k+1=>tabK u k++[rowK (u.m.getD k default).l u.inp u.cl (u.m.getD k default).l.length]
theorem rowK_len (l:List Blc) (a:Shp) (cl:Int):∀ k,(rowK l a cl k).length=k
 | 0=>rfl
 | k+1=>by rw[rowK,AW_,rowK_len l a cl k];rfl
theorem tabK_len (u:Bun):∀ k,(tabK u k).length=k
 | 0=>rfl
 | k+1=>by rw[tabK,AW_,tabK_len u k];rfl
def MOK (l:List Blc) (a:Shp):Prop:=∀ k,k<l.length→SOK (l.getD k default).n (inS l a k)
noncomputable def ctab_iy_I (u:Bun) (i:Nat) (l:List Blc) (a:Shp) (k:Nat):VS:=stt 52 [(1,.ptr 1 0 0),(4,.own 900),(7,.clo 75 [.ptr 901 0 0,.ptr 902 0 0]),(8,.own 903),(14,.sl 1 (u.m.map mdlC)),(15,i64 u.m.length),(16,i64 i),(26,.sl 5 (l.map blcC)),(27,i64 l.length),(28,i64 k)] [(1,.var (bunC u)),(900,.slc 72 1 ((tabK u i).map intsC)),(901,.var (shpC (inS l a k))),(902,.var [i64 u.cl]),(903,.slc 3 1 ((rowK l a u.cl k).map (row1 .i64)))]
noncomputable def ctab_iy_Z (u:Bun) (i:Nat) (l:List Blc) (a:Shp):VS:=ctab_iy_I u i l a (l.length)
theorem ctab_iy_s (u:Bun) (i:Nat) (l:List Blc) (a:Shp) (ok:∀ d∈l,d.Ok) (sm:∀ d∈l,d.Sm) (oka:a.Ok) (hl:l.length≤8) (h:MOK l a) (k:Nat) (hk:k<l.length):VT N_ (fnC Tryz.f30 [1,1,0,1,0,0,1,1,0,0,1,1,1,0,1,0,0]) (ctab_iy_I u i l a k) .normal (ctab_iy_I u i l a (k+1)):=by
 have q:=h k hk
 have q2:=getD_in ok hk
 have q3:=(getD_in sm hk).s
 have q4:=inS_ok (l:=l) oka k
 have q5:=rowK_len l a u.cl k
 have oz2:=(map_at (blcC) (default) (l:=l) (i:=k) hk)
 have oz3:=@metered_y (l.getD k default) (inS l a k) (u.cl) q2 q3 q
 exact tR_ [r_,b_,.r [] [.row (sO oz2)],.r [] [.callm [(901,100000),(902,100001)] [] (rM oz3) (oM oz3)],r_,d_,r_,.r [] [.n ((↑k:Int)+1)]] [.any (rg [(10,3),(29,11),(41,5)]),.drop [10,43],.ren 44 903,.weak 28 (i64 (↑(k+1):Int)),.blk 901 (Blk.var [i64 (inS l a (k+1)).h,i64 (inS l a (k+1)).x,i64 (inS l a (k+1)).c]),.blk 903 (Blk.slc 3 1 (K_ (row1 .i64) (rowK l a u.cl (k+1)))),.sort] (.c8 (decide_eq_true (p:=((↑k:Int)<(l.length:Int))) (by omega)) (s_ (0≤(↑k:Int))) oz2 oz3 z1_ (show ((K_ (row1 .i64) (rowK l a u.cl k)).length+1)*8≤140737488355328 by (simp;omega)) (show (K_ (row1 .i64) (rowK l a u.cl k)).length+1≤9223372036854775807 by (simp;omega)) (i6n ((↑k:Int)+1) (by omega))<|.d3 (wS_ k) (show BlkW (Blk.var [i64 (lastS (l.getD k default).n (inS l a k)).h,i64 (lastS (l.getD k default).n (inS l a k)).x,i64 (lastS (l.getD k default).n (inS l a k)).c]) (Blk.var [i64 (inS l a (k+1)).h,i64 (inS l a (k+1)).x,i64 (inS l a (k+1)).c]) from (BlkW.var (m:=[i64 (inS l a (k+1)).h,i64 (inS l a (k+1)).x,i64 (inS l a (k+1)).c]) (.cons (M_ (by rfl)) (.cons (M_ (by rfl)) (.cons (M_ (by rfl)) .nil))))) (show BlkW (Blk.slc 3 1 (K_ (row1 .i64) (rowK l a u.cl k)++[[i64 (blockC (l.getD k default) (inS l a k) u.cl)]])) (Blk.slc 3 1 (K_ (row1 .i64) (rowK l a u.cl (k+1)))) from (BZ_ (e:=3) (z:=1) (rows_to (row1 .i64) (r:=K_ (row1 .i64) (rowK l a u.cl k)++[[i64 (blockC (l.getD k default) (inS l a k) u.cl)]]) (l:=rowK l a u.cl k++[blockC (l.getD k default) (inS l a k) u.cl]) (m:=rowK l a u.cl (k+1)) (by first|(simp only[X_,Z_,AL_,AM_,V_,D_,AK_];done)|rfl|(simp only[X_,Z_,AL_,AM_,V_,D_,AK_];rfl)) (show (rowK l a u.cl k++[blockC (l.getD k default) (inS l a k) u.cl])=(rowK l a u.cl (k+1)) from (by rfl))))))
theorem ctab_iy_e (u:Bun) (i:Nat) (l:List Blc) (a:Shp) (ok:∀ d∈l,d.Ok) (sm:∀ d∈l,d.Sm) (oka:a.Ok) (hl:l.length≤8) (h:MOK l a):VT N_ (fnC Tryz.f30 [1,1,0,1,0,0,1,1,0,0,1,1,1,0,1,0,0]) (ctab_iy_I u i l a (l.length)) (.exit 2) (ctab_iy_Z u i l a):=by
 exact tR_ [r_,d_] [.any [29],.sort] (.d (decide_eq_false (p:=((l.length:Int)<(l.length:Int))) (by omega)))
theorem ctab_iy (u:Bun) (i:Nat) (l:List Blc) (a:Shp) (ok:∀ d∈l,d.Ok) (sm:∀ d∈l,d.Sm) (oka:a.Ok) (hl:l.length≤8) (h:MOK l a):VT N_ (fnC Tryz.f30 [1,1,0,1,0,0,1,1,0,0,1,1,1,0,1,0]) (ctab_iy_I u i l a 0) (.exit 2) (ctab_iy_Z u i l a) :=
 VT.loop (fun k=>ctab_iy_I u i l a k) (l.length) (fun k hk=>ctab_iy_s u i l a ok sm oka hl h k hk) (ctab_iy_e u i l a ok sm oka hl h) (by intro h;cases h)
noncomputable def ctab_oy_I (u:Bun) (k:Nat):VS:=stt 52 [(1,.ptr 1 0 0),(4,.own 900),(14,.sl 1 (u.m.map mdlC)),(15,i64 u.m.length),(16,i64 k)] [(1,.var (bunC u)),(900,.slc 72 1 ((tabK u k).map intsC))]
noncomputable def ctab_oy_Z (u:Bun):VS:=ctab_oy_I u (u.m.length)
theorem ctab_oy_s (u:Bun) (ok:u.Ok) (sm:u.Sm) (h:∀ j,j<u.m.length→MOK (u.m.getD j default).l u.inp) (k:Nat) (hk:k<u.m.length):VT N_ (fnC Tryz.f30 [1,1,0,1,0,0]) (ctab_oy_I u k) .normal (ctab_oy_I u (k+1)):=by
 have q1:=h k hk
 have q2:=(getD_in ok.m hk).l
 have q3:=(getD_in sm.m hk).2
 have q4:=(getD_in sm.m hk).1
 have q5:=sm.l
 have q6:u.inp.Ok:=⟨ok.h,ok.x,ok.c⟩
 have q7:=tabK_len u k
 have oz2:=(map_at (mdlC) (default) (l:=u.m) (i:=k) hk)
 have oz3:=@meter_v (Shp.mk u.h u.x u.c) (u.cl)
 have oz4:=(M_ (k:=.i64) (show ((((K_ blcC (u.m.getD k default).l).length:Int)):Int)=((↑(u.m.getD k default).l.length:Int)) from (by (simp;done))))
 have oz6:=@ctab_iy (u) (k) ((u.m.getD k default).l) (Shp.mk u.1 u.2 u.3) q2 q3 q6 q4 q1
 exact tR_ [r_,b_,.r [] [.row (sO oz2)],.r [] [.callm [] [(950,20000),(951,20001)] (rM oz3) (oM oz3)],r_,r_,.code [.any (rg [(6,1),(17,9)]),.drop [6],.ren 20001 902,.ren 20000 901,.weak 27 (wO oz4),.weak 28 (i64 (↑0:Int)),.nils 8 903 3 1,.sort] (AI_ 2) (zO oz6),.r [.frz 903] [],.r [] [.n ((↑k:Int)+1)]] [.any (rg [(7,2),(26,3),(46,5)]),.drop [901,902,48],.ren 49 900,.weak 16 (i64 (↑(k+1):Int)),.blk 900 (Blk.slc 72 1 (K_ intsC (tabK u (k+1)))),.sort] (.c8 (decide_eq_true (p:=((↑k:Int)<(u.m.length:Int))) (by omega)) (s_ (0≤(↑k:Int))) oz2 oz3 oz4 w0_ oz6 (show ((K_ intsC (tabK u k)).length+1)*24≤140737488355328 by (simp;omega))<|.d4 (show (K_ intsC (tabK u k)).length+1≤9223372036854775807 by (simp;omega)) (i6n ((↑k:Int)+1) (by omega)) (wS_ k) (show BlkW (Blk.slc 72 1 (K_ intsC (tabK u k)++[[AV.sl 1 (K_ (row1 .i64) (rowK (u.m.getD k default).l (Shp.mk u.1 u.2 u.3) u.cl (u.m.getD k default).l.length))]])) (Blk.slc 72 1 (K_ intsC (tabK u (k+1)))) from (BZ_ (e:=72) (z:=1) (rows_to (intsC) (r:=K_ intsC (tabK u k)++[[AV.sl 1 (K_ (row1 .i64) (rowK (u.m.getD k default).l (Shp.mk u.1 u.2 u.3) u.cl (u.m.getD k default).l.length))]]) (l:=tabK u k++[rowK (u.m.getD k default).l (Shp.mk u.1 u.2 u.3) u.cl (u.m.getD k default).l.length]) (m:=tabK u (k+1)) (by first|(simp only[X_,Z_,AL_,AM_,V_,D_,AK_];done)|rfl|(simp only[X_,Z_,AL_,AM_,V_,D_,AK_];rfl)|(simp only[X_,Z_,AL_,AM_,V_,D_,AK_,intsC,ints];done)) (show (tabK u k++[rowK (u.m.getD k default).l (Shp.mk u.1 u.2 u.3) u.cl (u.m.getD k default).l.length])=(tabK u (k+1)) from (by rfl))))))
theorem ctab_oy_e (u:Bun) (ok:u.Ok) (sm:u.Sm) (h:∀ j,j<u.m.length→MOK (u.m.getD j default).l u.inp):VT N_ (fnC Tryz.f30 [1,1,0,1,0,0]) (ctab_oy_I u (u.m.length)) (.exit 0) (ctab_oy_Z u):=by
 exact tR_ [r_,d_] [.any [17],.sort] (.d (decide_eq_false (p:=((u.m.length:Int)<(u.m.length:Int))) (by omega)))
theorem ctab_oy (u:Bun) (ok:u.Ok) (sm:u.Sm) (h:∀ j,j<u.m.length→MOK (u.m.getD j default).l u.inp):VT N_ (fnC Tryz.f30 [1,1,0,1,0]) (ctab_oy_I u 0) (.exit 0) (ctab_oy_Z u) :=
 VT.loop (fun k=>ctab_oy_I u k) (u.m.length) (fun k hk=>ctab_oy_s u ok sm h k hk) (ctab_oy_e u ok sm h) (by intro h;cases h)
theorem ctab_y (u:Bun) (ok:u.Ok) (sm:u.Sm) (h:∀ j,j<u.m.length→MOK (u.m.getD j default).l u.inp):VC N_ 30 ([bun u]) (.tup [.sl 1 ((tabK u u.m.length).map intsC),i64 0]):=by
 have q5:=sm.l
 have oz2:=@ctab_oy (u) ok sm h
 exact cR_ [r_,r_,r_,.code [.any [0,2,3,13],.weak 15 (i64 (u.m.length:Int)),.weak 16 (i64 (↑0:Int)),.nils 4 900 72 1,.sort] (AI_ 0) (zO oz2),r_] _ Tryz.func30 (.d3 (M_ (k:=.i64) (show ((((K_ mdlC u.m).length:Int)):Int)=((u.m.length:Int)) from (by (simp;done)))) w0_ oz2)
noncomputable def rtab_iy_I (u:Bun) (i:Nat) (l:List Blc) (a:Shp) (k:Nat):VS:=stt 59 [(1,.ptr 1 0 0),(4,.own 900),(5,i64 i),(6,.own 903),(7,.ptr 7 0 0),(8,.sl 5 (l.map blcC)),(9,i64 k)] [(1,.var (bunC u)),(7,.var (shpC (inS l a k))),(900,.slc 72 1 ((tabK u i).map intsC)),(903,.slc 3 1 ((rowK l a u.cl k).map (row1 .i64)))]
noncomputable def rtab_iy_Z (u:Bun) (i:Nat) (l:List Blc) (a:Shp):VS:=rtab_iy_I u i l a (l.length)
theorem rtab_iy_s (u:Bun) (i:Nat) (l:List Blc) (a:Shp) (ok:∀ d∈l,d.Ok) (sm:∀ d∈l,d.Sm) (oka:a.Ok) (hl:l.length≤8) (h:MOK l a) (k:Nat) (hk:k<l.length):VT N_ (fnC Tryz.f21 [1,1,0,1,0,0,1,0,0,1,1,1,0,1,0,0]) (rtab_iy_I u i l a k) .normal (rtab_iy_I u i l a (k+1)):=by
 have q:=h k hk
 have q2:=getD_in ok hk
 have q3:=(getD_in sm hk).s
 have q4:=inS_ok (l:=l) oka k
 have q5:=rowK_len l a u.cl k
 have oz2:=(map_at (blcC) (default) (l:=l) (i:=k) hk)
 have oz3:=@rcblock_y (l.getD k default) (inS l a k) (u.cl) q2 q3 q
 exact tR_ [r_,b_,.r [] [.row (sO oz2),cr oz3],r_,d_,r_,r_,.r [] [.n ((↑k:Int)+1)]] [.any (rg [(10,3),(28,20),(49,5)]),.drop [11,51],.ren 52 903,.weak 9 (i64 (↑(k+1):Int)),.blk 7 (Blk.var [i64 (inS l a (k+1)).h,i64 (inS l a (k+1)).x,i64 (inS l a (k+1)).c]),.blk 903 (Blk.slc 3 1 (K_ (row1 .i64) (rowK l a u.cl (k+1)))),.sort] (.c8 (show decide ((↑k:Int)<((K_ blcC l).length:Int))=true by (simp;omega)) (s_ (0≤(↑k:Int))) oz2 oz3 z1_ (show ((K_ (row1 .i64) (rowK l a u.cl k)).length+1)*8≤140737488355328 by (simp;omega)) (show (K_ (row1 .i64) (rowK l a u.cl k)).length+1≤9223372036854775807 by (simp;omega)) (i6n ((↑k:Int)+1) (by omega))<|.d3 (wS_ k) (show BlkW (Blk.var [i64 (lastS (l.getD k default).n (inS l a k)).h,i64 (lastS (l.getD k default).n (inS l a k)).x,i64 (lastS (l.getD k default).n (inS l a k)).c]) (Blk.var [i64 (inS l a (k+1)).h,i64 (inS l a (k+1)).x,i64 (inS l a (k+1)).c]) from (BlkW.var (m:=[i64 (inS l a (k+1)).h,i64 (inS l a (k+1)).x,i64 (inS l a (k+1)).c]) (.cons (M_ (by rfl)) (.cons (M_ (by rfl)) (.cons (M_ (by rfl)) .nil))))) (show BlkW (Blk.slc 3 1 (K_ (row1 .i64) (rowK l a u.cl k)++[[i64 (blockC (l.getD k default) (inS l a k) u.cl)]])) (Blk.slc 3 1 (K_ (row1 .i64) (rowK l a u.cl (k+1)))) from (BZ_ (e:=3) (z:=1) (rows_to (row1 .i64) (r:=K_ (row1 .i64) (rowK l a u.cl k)++[[i64 (blockC (l.getD k default) (inS l a k) u.cl)]]) (l:=rowK l a u.cl k++[blockC (l.getD k default) (inS l a k) u.cl]) (m:=rowK l a u.cl (k+1)) (by first|(simp only[X_,Z_,AL_,AM_,V_,D_,AK_];done)|rfl|(simp only[X_,Z_,AL_,AM_,V_,D_,AK_];rfl)) (show (rowK l a u.cl k++[blockC (l.getD k default) (inS l a k) u.cl])=(rowK l a u.cl (k+1)) from (by rfl))))))
theorem rtab_iy_e (u:Bun) (i:Nat) (l:List Blc) (a:Shp) (ok:∀ d∈l,d.Ok) (sm:∀ d∈l,d.Sm) (oka:a.Ok) (hl:l.length≤8) (h:MOK l a):VT N_ (fnC Tryz.f21 [1,1,0,1,0,0,1,0,0,1,1,1,0,1,0,0]) (rtab_iy_I u i l a (l.length)) (.exit 2) (rtab_iy_Z u i l a):=by
 exact tR_ [r_,d_] [.any (rg [(28,4)]),.sort] (.d (show decide ((l.length:Int)<((K_ blcC l).length:Int))=false by (simp;done)))
theorem rtab_iy (u:Bun) (i:Nat) (l:List Blc) (a:Shp) (ok:∀ d∈l,d.Ok) (sm:∀ d∈l,d.Sm) (oka:a.Ok) (hl:l.length≤8) (h:MOK l a):VT N_ (fnC Tryz.f21 [1,1,0,1,0,0,1,0,0,1,1,1,0,1,0]) (rtab_iy_I u i l a 0) (.exit 2) (rtab_iy_Z u i l a) :=
 VT.loop (fun k=>rtab_iy_I u i l a k) (l.length) (fun k hk=>rtab_iy_s u i l a ok sm oka hl h k hk) (rtab_iy_e u i l a ok sm oka hl h) (by intro h;cases h)
noncomputable def rtab_oy_I (u:Bun) (k:Nat):VS:=stt 59 [(1,.ptr 1 0 0),(4,.own 900),(5,i64 k)] [(1,.var (bunC u)),(900,.slc 72 1 ((tabK u k).map intsC))]
noncomputable def rtab_oy_Z (u:Bun):VS:=rtab_oy_I u (u.m.length)
theorem rtab_oy_s (u:Bun) (ok:u.Ok) (sm:u.Sm) (h:∀ j,j<u.m.length→MOK (u.m.getD j default).l u.inp) (k:Nat) (hk:k<u.m.length):VT N_ (fnC Tryz.f21 [1,1,0,1,0,0]) (rtab_oy_I u k) .normal (rtab_oy_I u (k+1)):=by
 have q1:=h k hk
 have q2:=(getD_in ok.m hk).l
 have q3:=(getD_in sm.m hk).2
 have q4:=(getD_in sm.m hk).1
 have q5:=sm.l
 have q6:u.inp.Ok:=⟨ok.h,ok.x,ok.c⟩
 have q7:=tabK_len u k
 have oz2:=(map_at (mdlC) (default) (l:=u.m) (i:=k) hk)
 have oz4:=@rtab_iy (u) (k) ((u.m.getD k default).l) (Shp.mk u.1 u.2 u.3) q2 q3 q6 q4 q1
 exact tR_ [r_,b_,r_,r_,.r [] [.row (sO oz2)],r_,.code [.any (rg [(13,5),(20,8)]),.weak 9 (i64 (↑0:Int)),.nils 6 903 3 1,.sort] (AI_ 2) (zO oz4),.r [.frz 903] [],.r [] [.n ((↑k:Int)+1)]] [.any (rg [(6,4),(18,2),(54,4)]),.drop [7,56],.ren 57 900,.weak 5 (i64 (↑(k+1):Int)),.blk 900 (Blk.slc 72 1 (K_ intsC (tabK u (k+1)))),.sort] (.c8 (show decide ((↑k:Int)<((K_ mdlC u.m).length:Int))=true by (simp;omega)) (s_ (0≤(↑k:Int))) oz2 w0_ oz4 (show ((K_ intsC (tabK u k)).length+1)*24≤140737488355328 by (simp;omega)) (show (K_ intsC (tabK u k)).length+1≤9223372036854775807 by (simp;omega)) (i6n ((↑k:Int)+1) (by omega))<|.d2 (wS_ k) (show BlkW (Blk.slc 72 1 (K_ intsC (tabK u k)++[[AV.sl 1 (K_ (row1 .i64) (rowK (u.m.getD k default).l (Shp.mk u.1 u.2 u.3) u.cl (u.m.getD k default).l.length))]])) (Blk.slc 72 1 (K_ intsC (tabK u (k+1)))) from (BZ_ (e:=72) (z:=1) (rows_to (intsC) (r:=K_ intsC (tabK u k)++[[AV.sl 1 (K_ (row1 .i64) (rowK (u.m.getD k default).l (Shp.mk u.1 u.2 u.3) u.cl (u.m.getD k default).l.length))]]) (l:=tabK u k++[rowK (u.m.getD k default).l (Shp.mk u.1 u.2 u.3) u.cl (u.m.getD k default).l.length]) (m:=tabK u (k+1)) (by first|(simp only[X_,Z_,AL_,AM_,V_,D_,AK_];done)|rfl|(simp only[X_,Z_,AL_,AM_,V_,D_,AK_];rfl)|(simp only[X_,Z_,AL_,AM_,V_,D_,AK_,intsC,ints];done)) (show (tabK u k++[rowK (u.m.getD k default).l (Shp.mk u.1 u.2 u.3) u.cl (u.m.getD k default).l.length])=(tabK u (k+1)) from (by rfl))))))
theorem rtab_oy_e (u:Bun) (ok:u.Ok) (sm:u.Sm) (h:∀ j,j<u.m.length→MOK (u.m.getD j default).l u.inp):VT N_ (fnC Tryz.f21 [1,1,0,1,0,0]) (rtab_oy_I u (u.m.length)) (.exit 0) (rtab_oy_Z u):=by
 exact tR_ [r_,d_] [.any (rg [(13,5)]),.sort] (.d (show decide ((u.m.length:Int)<((K_ mdlC u.m).length:Int))=false by (simp;done)))
theorem rtab_oy (u:Bun) (ok:u.Ok) (sm:u.Sm) (h:∀ j,j<u.m.length→MOK (u.m.getD j default).l u.inp):VT N_ (fnC Tryz.f21 [1,1,0,1,0]) (rtab_oy_I u 0) (.exit 0) (rtab_oy_Z u) :=
 VT.loop (fun k=>rtab_oy_I u k) (u.m.length) (fun k hk=>rtab_oy_s u ok sm h k hk) (rtab_oy_e u ok sm h) (by intro h;cases h)
theorem rtab_y (u:Bun) (ok:u.Ok) (sm:u.Sm) (h:∀ j,j<u.m.length→MOK (u.m.getD j default).l u.inp):VC N_ 21 ([bun u]) (.tup [.sl 1 ((tabK u u.m.length).map intsC),i64 0]):=by
 have q5:=sm.l
 have oz1:=@rtab_oy (u) ok sm h
 exact cR_ [r_,r_,r_,.code [.any [0,2,3],.weak 5 (i64 (↑0:Int)),.nils 4 900 72 1,.sort] (AI_ 0) (zO oz1),r_] _ Tryz.func21 (.d2 w0_ oz1)
structure EndS where
 lo:Int
 hi:Int
 al:Int
 c:Nat
def stepN (s:EndS) (v:Int):EndS:=⟨if s.c=0 then v else min s.lo v,if s.c=0 then v else max s.hi v,s.al+v,s.c+1⟩
def endK (s:EndS) (l:List Int):Nat→EndS
 | 0=>s
 | k+1=>stepN (endK s l k) (l.getD k 0)
def endT (T:List (List Int)):Nat→EndS
 | 0=>⟨0,0,0,0⟩
 | k+1=>endK (endT T k) (T.getD k default) (T.getD k default).length
theorem endK_bd {s:EndS} {l:List Int} (h:∀ v∈l,In32 v):∀ k,s.al-2147483648*k≤(endK s l k).al∧(endK s l k).al≤s.al+2147483648*k
 | 0=>by simp[endK]
 | k+1=>by
  have ih:=endK_bd (s:=s) h k
  have q:=gt32 h k
  simp only[endK,stepN]
  omega
theorem endT_bd {T:List (List Int)} (h:∀ l∈T,l.length≤50∧∀ v∈l,In32 v):∀ k,k≤T.length → -(107374182400*(k:Int))≤(endT T k).al∧(endT T k).al≤107374182400*k
 | 0,_=>by simp[endT]
 | k+1,hk=>by
  have ih:=endT_bd h k (by omega)
  have q:=getD_in h (s_ (k<T.length))
  have q2:=endK_bd (s:=endT T k) q.2 (T.getD k default).length
  rw[endT]
  omega
noncomputable def ends_i_I (T:List (List Int)) (i:Nat) (s:EndS) (l:List Int) (k:Nat):VS:=stt 47 [(4,i64 (endK s l k).al),(5,.ptr 5 0 0),(6,bv (decide ((endK s l k).c=0))),(12,.sl 1 (T.map intsC)),(13,i64 T.length),(14,i64 i),(18,ints .i64 l),(19,i64 l.length),(20,i64 k)] [(5,.slc 127 1 [[i64 (endK s l k).lo],[i64 (endK s l k).hi]])]
noncomputable def ends_i_Z (T:List (List Int)) (i:Nat) (s:EndS) (l:List Int):VS:=ends_i_I T i s l (l.length)
theorem z4_:(0:Int)<(↑(2:Nat):Int):=by omega
theorem z5_:(0:Int)≤(1:Int):=by omega
theorem z6_:(1:Int)<(↑(2:Nat):Int):=by omega
theorem ends_i_s (T:List (List Int)) (i:Nat) (s:EndS) (l:List Int) (hl:l.length≤50) (h:∀ v∈l,In32 v) (hs : -10000000000000≤s.al∧s.al≤10000000000000) (k:Nat) (hk:k<l.length):VT N_ (fnC Tryz.f33 [1,1,1,0,1,0,0,1,1,0,0,1,1,0,0]) (ends_i_I T i s l k) .normal (ends_i_I T i s l (k+1)):=by
 have q1:=gt32 h k
 have q2:=endK_bd (s:=s) h k
 have oz0:=(decide_eq_true (p:=((↑k:Int)<(l.length:Int))) (by omega))
 have oz1:=(s_ (0≤(↑k:Int)))
 have oz2:=(map_at (row1 .i64) (0) (l:=l) (i:=k) hk)
 rcases bft (decide ((endK s l k).c=0)) with hc0|hc0
 ·have gc0:=of_decide_eq_true hc0
  exact tR_ [r_,b_,.r [] [.row (sO oz2)],r_,b_,r_,.r [] [.row (sO oz2),.row (sO oz2)],.r [] [.n ((endK s l k).al+l.getD k 0)],.r [] [.n ((↑k:Int)+1)]] [.any (rg [(10,1),(21,20)]),.weak 4 (i64 (endK s l (k+1)).al),.weak 6 (bv (decide ((endK s l (k+1)).c=0))),.weak 20 (i64 (↑(k+1):Int)),.blk 5 (Blk.slc 127 1 [[i64 (endK s l (k+1)).lo],[i64 (endK s l (k+1)).hi]]),.sort] (.c8 oz0 oz1 oz2 hc0 z3_ z4_ (show [[i64 (l.getD k 0)],[i64 (l.getD k 0)]][0]? = some [i64 (l.getD k 0)] from rfl) z5_<|.d8 z6_ (show [[i64 (l.getD k 0)],[i64 (l.getD k 0)]][1]? = some [i64 (l.getD k 0)] from rfl) (i6n ((endK s l k).al+l.getD k 0) (by omega)) (i6n ((↑k:Int)+1) (by omega)) (M_ (k:=.i64) (show (((endK s l k).al+l.getD k 0):Int)=((endK s l (k+1)).al) from (by rfl))) (show Weak (bv false) (bv (decide ((endK s l (k+1)).c=0))) from (Weak.bool (show ((false):Bool)=(decide ((endK s l (k+1)).c=0)) from (by rfl)))) (wS_ k) (show BlkW (Blk.slc 127 1 [[i64 (if l.getD k 0<l.getD k 0 then l.getD k 0 else l.getD k 0)],[i64 (if l.getD k 0>l.getD k 0 then l.getD k 0 else l.getD k 0)]]) (Blk.slc 127 1 [[i64 (endK s l (k+1)).lo],[i64 (endK s l (k+1)).hi]]) from (BZ_ (e:=127) (z:=1) (show ([[i64 (if l.getD k 0<l.getD k 0 then l.getD k 0 else l.getD k 0)],[i64 (if l.getD k 0>l.getD k 0 then l.getD k 0 else l.getD k 0)]])=([[i64 (endK s l (k+1)).lo],[i64 (endK s l (k+1)).hi]]) from (by (rw[endK,stepN];simp only[i_ (show (endK s l k).c=0 by assumption),ite_self];done))))))
 ·have gc0:=of_decide_eq_false hc0
  exact tR_ [r_,b_,.r [] [.row (sO oz2)],r_,d_,.r [] [.row [i64 (endK s l k).lo],.row [i64 (endK s l k).hi]],.r [] [.n ((endK s l k).al+l.getD k 0)],.r [] [.n ((↑k:Int)+1)]] [.any (rg [(10,1),(21,4),(28,13)]),.weak 4 (i64 (endK s l (k+1)).al),.weak 6 (bv (decide ((endK s l (k+1)).c=0))),.weak 20 (i64 (↑(k+1):Int)),.blk 5 (Blk.slc 127 1 [[i64 (endK s l (k+1)).lo],[i64 (endK s l (k+1)).hi]]),.sort] (.c8 oz0 oz1 oz2 hc0 z3_ z4_ (show [[i64 (endK s l k).lo],[i64 (endK s l k).hi]][0]? = some [i64 (endK s l k).lo] from rfl) z5_<|.d8 z6_ (show [[i64 (endK s l k).lo],[i64 (endK s l k).hi]][1]? = some [i64 (endK s l k).hi] from rfl) (i6n ((endK s l k).al+l.getD k 0) (by omega)) (i6n ((↑k:Int)+1) (by omega)) (M_ (k:=.i64) (show (((endK s l k).al+l.getD k 0):Int)=((endK s l (k+1)).al) from (by rfl))) (show Weak (bv (decide ((endK s l k).c=0))) (bv (decide ((endK s l (k+1)).c=0))) from (Weak.bool (show ((decide ((endK s l k).c=0)):Bool)=(decide ((endK s l (k+1)).c=0)) from (by (refine decide_eq_false ?_;omega))))) (wS_ k) (show BlkW (Blk.slc 127 1 [[i64 (if l.getD k 0<(endK s l k).lo then l.getD k 0 else (endK s l k).lo)],[i64 (if l.getD k 0>(endK s l k).hi then l.getD k 0 else (endK s l k).hi)]]) (Blk.slc 127 1 [[i64 (endK s l (k+1)).lo],[i64 (endK s l (k+1)).hi]]) from (BZ_ (e:=127) (z:=1) (show ([[i64 (if l.getD k 0<(endK s l k).lo then l.getD k 0 else (endK s l k).lo)],[i64 (if l.getD k 0>(endK s l k).hi then l.getD k 0 else (endK s l k).hi)]])=([[i64 (endK s l (k+1)).lo],[i64 (endK s l (k+1)).hi]]) from (by (rw[endK,stepN];simp only[j_ (show ¬ (endK s l k).c=0 by assumption)];rw[min_if,max_if]))))))
theorem ends_i_e (T:List (List Int)) (i:Nat) (s:EndS) (l:List Int) (hl:l.length≤50) (h:∀ v∈l,In32 v) (hs : -10000000000000≤s.al∧s.al≤10000000000000):VT N_ (fnC Tryz.f33 [1,1,1,0,1,0,0,1,1,0,0,1,1,0,0]) (ends_i_I T i s l (l.length)) (.exit 2) (ends_i_Z T i s l):=by
 exact tR_ [r_,d_] [.any [21],.sort] (.d (decide_eq_false (p:=((l.length:Int)<(l.length:Int))) (by omega)))
theorem ends_i (T:List (List Int)) (i:Nat) (s:EndS) (l:List Int) (hl:l.length≤50) (h:∀ v∈l,In32 v) (hs : -10000000000000≤s.al∧s.al≤10000000000000):VT N_ (fnC Tryz.f33 [1,1,1,0,1,0,0,1,1,0,0,1,1,0]) (ends_i_I T i s l 0) (.exit 2) (ends_i_Z T i s l) :=
 VT.loop (fun k=>ends_i_I T i s l k) (l.length) (fun k hk=>ends_i_s T i s l hl h hs k hk) (ends_i_e T i s l hl h hs) (by intro h;cases h)
noncomputable def ends_o_I (T:List (List Int)) (k:Nat):VS:=stt 47 [(4,i64 (endT T k).al),(5,.ptr 5 0 0),(6,bv (decide ((endT T k).c=0))),(12,.sl 1 (T.map intsC)),(13,i64 T.length),(14,i64 k)] [(5,.slc 127 1 [[i64 (endT T k).lo],[i64 (endT T k).hi]])]
noncomputable def ends_o_Z (T:List (List Int)):VS:=ends_o_I T (T.length)
theorem ends_o_s (T:List (List Int)) (hl:T.length≤20) (h:∀ l∈T,l.length≤50∧∀ v∈l,In32 v) (k:Nat) (hk:k<T.length):VT N_ (fnC Tryz.f33 [1,1,1,0,1,0,0]) (ends_o_I T k) .normal (ends_o_I T (k+1)):=by
 obtain ⟨q1,q2⟩:=getD_in h hk
 have q3:=endT_bd h k (by omega)
 have oz2:=(map_at (intsC) (default) (l:=T) (i:=k) hk)
 have oz4:=(M_ (k:=.i64) (show ((((K_ (row1 .i64) (T.getD k default)).length:Int)):Int)=(((T.getD k default).length:Int)) from (by (simp;done))))
 have oz7:=@ends_i (T) (k) (endT T k) (T.getD k default) q1 q2 (by omega)
 have oz9:=(M_ (k:=.i64) (show (((endK (endT T k) (T.getD k default) (T.getD k default).length).al):Int)=((endT T (k+1)).al) from (by rfl)))
 exact tR_ [r_,b_,.r [] [.row (sO oz2)],r_,.code [.any [8,15,16,17],.weak 6 (bv (decide ((endK (endT T k) (T.getD k default) 0).c=0))),.weak 19 (wO oz4),.weak 20 (i64 (↑0:Int)),.blk 5 (Blk.slc 127 1 [[i64 (endK (endT T k) (T.getD k default) 0).lo],[i64 (endK (endT T k) (T.getD k default) 0).hi]]),.sort] (AI_ 2) (zO oz7),.r [] [.n ((↑k:Int)+1)]] [.any [18,19,20,41],.weak 4 (wO oz9),.weak 6 (bv (decide ((endT T (k+1)).c=0))),.weak 14 (i64 (↑(k+1):Int)),.blk 5 (Blk.slc 127 1 [[i64 (endT T (k+1)).lo],[i64 (endT T (k+1)).hi]]),.sort] (.c8 (decide_eq_true (p:=((↑k:Int)<(T.length:Int))) (by omega)) (s_ (0≤(↑k:Int))) oz2 (show Weak (bv (decide ((endT T k).c=0))) (bv (decide ((endK (endT T k) (T.getD k default) 0).c=0))) from (Weak.bool (show ((decide ((endT T k).c=0)):Bool)=(decide ((endK (endT T k) (T.getD k default) 0).c=0)) from (by rfl)))) oz4 w0_ (show BlkW (Blk.slc 127 1 [[i64 (endT T k).lo],[i64 (endT T k).hi]]) (Blk.slc 127 1 [[i64 (endK (endT T k) (T.getD k default) 0).lo],[i64 (endK (endT T k) (T.getD k default) 0).hi]]) from (BZ_ (e:=127) (z:=1) (show ([[i64 (endT T k).lo],[i64 (endT T k).hi]])=([[i64 (endK (EndS.mk (endT T k).lo (endT T k).hi (endT T k).al (endT T k).c) (T.getD k default) 0).lo],[i64 (endK (EndS.mk (endT T k).lo (endT T k).hi (endT T k).al (endT T k).c) (T.getD k default) 0).hi]]) from (by rfl)))) oz7<|.d5 (i6n ((↑k:Int)+1) (by omega)) oz9 (show Weak (bv (decide ((endK (endT T k) (T.getD k default) (T.getD k default).length).c=0))) (bv (decide ((endT T (k+1)).c=0))) from (Weak.bool (show ((decide ((endK (endT T k) (T.getD k default) (T.getD k default).length).c=0)):Bool)=(decide ((endT T (k+1)).c=0)) from (by rfl)))) (wS_ k) (show BlkW (Blk.slc 127 1 [[i64 (endK (endT T k) (T.getD k default) (T.getD k default).length).lo],[i64 (endK (endT T k) (T.getD k default) (T.getD k default).length).hi]]) (Blk.slc 127 1 [[i64 (endT T (k+1)).lo],[i64 (endT T (k+1)).hi]]) from (BZ_ (e:=127) (z:=1) (show ([[i64 (endK (endT T k) (T.getD k default) (T.getD k default).length).lo],[i64 (endK (endT T k) (T.getD k default) (T.getD k default).length).hi]])=([[i64 (endT T (k+1)).lo],[i64 (endT T (k+1)).hi]]) from (by rfl)))))
theorem ends_o_e (T:List (List Int)) (hl:T.length≤20) (h:∀ l∈T,l.length≤50∧∀ v∈l,In32 v):VT N_ (fnC Tryz.f33 [1,1,1,0,1,0,0]) (ends_o_I T (T.length)) (.exit 0) (ends_o_Z T):=by
 exact tR_ [r_,d_] [.any [15],.sort] (.d (decide_eq_false (p:=((T.length:Int)<(T.length:Int))) (by omega)))
theorem ends_o (T:List (List Int)) (hl:T.length≤20) (h:∀ l∈T,l.length≤50∧∀ v∈l,In32 v):VT N_ (fnC Tryz.f33 [1,1,1,0,1,0]) (ends_o_I T 0) (.exit 0) (ends_o_Z T) :=
 VT.loop (fun k=>ends_o_I T k) (T.length) (fun k hk=>ends_o_s T hl h k hk) (ends_o_e T hl h) (by intro h;cases h)
theorem ends_v (T:List (List Int)) (hl:T.length≤20) (h:∀ l∈T,l.length≤50∧∀ v∈l,In32 v):VC N_ 33 ([.sl 1 (T.map intsC)]) (.tup [i64 (endT T T.length).lo,i64 (endT T T.length).hi,i64 (endT T T.length).al]):=by
 have oz5:=@ends_o (T) hl h
 have oz8:=(show [[i64 (endT T T.length).lo],[i64 (endT T T.length).hi]][0]? = some [i64 (endT T T.length).lo] from rfl)
 have oz11:=(show [[i64 (endT T T.length).lo],[i64 (endT T T.length).hi]][1]? = some [i64 (endT T T.length).hi] from rfl)
 exact cR_ [r_,r_,r_,r_,.code [.any [0,2,3,11],.weak 4 (i64 (endT T 0).al),.weak 6 (bv (decide ((endT T 0).c=0))),.weak 13 (i64 (T.length:Int)),.weak 14 (i64 (↑0:Int)),.blk 5 (Blk.slc 127 1 [[i64 (endT T 0).lo],[i64 (endT T 0).hi]]),.sort] (AI_ 0) (zO oz5),.r [] [.row (sO oz8),.row (sO oz11)]] _ Tryz.func33 (.c8 (M_ (k:=.i64) (show ((0):Int)=((endT T 0).al) from (by rfl))) (show Weak (bv true) (bv (decide ((endT T 0).c=0))) from (Weak.bool (show ((true):Bool)=(decide ((endT T 0).c=0)) from (by rfl)))) (M_ (k:=.i64) (show ((((K_ intsC T).length:Int)):Int)=((T.length:Int)) from (by (simp;done)))) w0_ (show BlkW (Blk.slc 127 1 [[i64 0],[i64 0]]) (Blk.slc 127 1 [[i64 (endT T 0).lo],[i64 (endT T 0).hi]]) from (BZ_ (e:=127) (z:=1) (show ([[i64 0],[i64 0]])=([[i64 (endT T 0).lo],[i64 (endT T 0).hi]]) from (by rfl)))) oz5 z3_ z4_<|.d4 oz8 z5_ z6_ oz11)
abbrev mE (u:Bun) (j:Nat):Flt:=modelE (u.m.getD j default).l u.inp u.cl j
noncomputable def vbundle_ly_I (u:Bun) (k:Nat):VS:=stt 27 [(1,.ptr 1 0 0),(2,.ptr 2 0 0),(14,i64 u.m.length),(15,i64 k)] [(1,.var (bunC u)),(2,.var [i64 0,i64 0,i64 0,i64 0])]
noncomputable def vbundle_ly_Z (u:Bun):VS:=vbundle_ly_I u (u.m.length)
theorem vbundle_ly_s (u:Bun) (ok:u.Ok) (sm:u.Sm) (h:∀ j,j<u.m.length→mE u j=⟨0,0,0,0⟩) (k:Nat) (hk:k<u.m.length):VT N_ (fnC Tryz.f28 [1,1,0,1,0,0]) (vbundle_ly_I u k) .normal (vbundle_ly_I u (k+1)):=by
 have q:modelE (u.m.getD k default).l u.inp u.cl k=⟨0,0,0,0⟩:=h k hk
 have q5:=sm.l
 have oz1:=@vmodel_v (u) (k) ok sm hk
 exact tR_ [r_,b_,r_,.r [] [cr oz1],.r [] [.v (CO_ !eqNums [(S_,(modelE (u.m.getD k default).l u.inp u.cl (↑k:Int)).w,0),(S_,(modelE (u.m.getD k default).l u.inp u.cl (↑k:Int)).m,0),(S_,(modelE (u.m.getD k default).l u.inp u.cl (↑k:Int)).b,0),(S_,(modelE (u.m.getD k default).l u.inp u.cl (↑k:Int)).n,0)])],d_,.r [] [.n ((↑k:Int)+1)]] [.any (rg [(4,2),(16,8),(25,1)]),.drop [5],.weak 15 (i64 (↑(k+1):Int)),.sort] (.d6 (decide_eq_true (p:=((↑k:Int)<(u.m.length:Int))) (by omega)) oz1 (show BinTo N_ BinOp.neq 79 (Operand.tmp 21) (Operand.tmp 22) (Value.agg #[AY_ S_ (modelE (u.m.getD k default).l u.inp u.cl (↑k:Int)).w,AY_ S_ (modelE (u.m.getD k default).l u.inp u.cl (↑k:Int)).m,AY_ S_ (modelE (u.m.getD k default).l u.inp u.cl (↑k:Int)).b,AY_ S_ (modelE (u.m.getD k default).l u.inp u.cl (↑k:Int)).n]) (Value.agg #[AY_ S_ 0,AY_ S_ 0,AY_ S_ 0,AY_ S_ 0]) (CO_ !eqNums [(S_,(modelE (u.m.getD k default).l u.inp u.cl (↑k:Int)).w,0),(S_,(modelE (u.m.getD k default).l u.inp u.cl (↑k:Int)).m,0),(S_,(modelE (u.m.getD k default).l u.inp u.cl (↑k:Int)).b,0),(S_,(modelE (u.m.getD k default).l u.inp u.cl (↑k:Int)).n,0)]) from ((bin_nums (l:=[(S_,(modelE (u.m.getD k default).l u.inp u.cl (↑k:Int)).w,0),(S_,(modelE (u.m.getD k default).l u.inp u.cl (↑k:Int)).m,0),(S_,(modelE (u.m.getD k default).l u.inp u.cl (↑k:Int)).b,0),(S_,(modelE (u.m.getD k default).l u.inp u.cl (↑k:Int)).n,0)]) (by kernel_rfl) (by kernel_rfl) (by kernel_rfl) (by kernel_rfl) _ _).2)) (show (!eqNums [(S_,(modelE (u.m.getD k default).l u.inp u.cl (↑k:Int)).w,0),(S_,(modelE (u.m.getD k default).l u.inp u.cl (↑k:Int)).m,0),(S_,(modelE (u.m.getD k default).l u.inp u.cl (↑k:Int)).b,0),(S_,(modelE (u.m.getD k default).l u.inp u.cl (↑k:Int)).n,0)])=false by (rw[q];rfl)) (i6n ((↑k:Int)+1) (by omega)) (wS_ k))
theorem vbundle_ly_e (u:Bun) (ok:u.Ok) (sm:u.Sm) (h:∀ j,j<u.m.length→mE u j=⟨0,0,0,0⟩):VT N_ (fnC Tryz.f28 [1,1,0,1,0,0]) (vbundle_ly_I u (u.m.length)) (.exit 0) (vbundle_ly_Z u):=by
 exact tR_ [r_,d_] [.any [16],.sort] (.d (decide_eq_false (p:=((u.m.length:Int)<(u.m.length:Int))) (by omega)))
theorem vbundle_ly (u:Bun) (ok:u.Ok) (sm:u.Sm) (h:∀ j,j<u.m.length→mE u j=⟨0,0,0,0⟩):VT N_ (fnC Tryz.f28 [1,1,0,1,0]) (vbundle_ly_I u 0) (.exit 0) (vbundle_ly_Z u) :=
 VT.loop (fun k=>vbundle_ly_I u k) (u.m.length) (fun k hk=>vbundle_ly_s u ok sm h k hk) (vbundle_ly_e u ok sm h) (by intro h;cases h)
noncomputable def vbundle_ln_I (u:Bun) (m:Nat) (k:Nat):VS:=stt 27 [(1,.ptr 1 0 0),(2,.ptr 2 0 0),(14,i64 u.m.length),(15,i64 k)] [(1,.var (bunC u)),(2,.var [i64 0,i64 0,i64 0,i64 0])]
noncomputable def vbundle_ln_Z (u:Bun) (m:Nat):VS:=stt 27 [(2,.ptr 2 0 0)] [(2,.var (fltC (mE u m)))]
theorem vbundle_ln_s (u:Bun) (m:Nat) (ok:u.Ok) (sm:u.Sm) (hm:m<u.m.length) (hf:(mE u m).w≠0) (h:∀ j,j<m→mE u j=⟨0,0,0,0⟩) (k:Nat) (hk:k<m):VT N_ (fnC Tryz.f28 [1,1,0,1,0,0]) (vbundle_ln_I u m k) .normal (vbundle_ln_I u m (k+1)):=by
 have q:modelE (u.m.getD k default).l u.inp u.cl k=⟨0,0,0,0⟩:=h k hk
 have q5:=sm.l
 have oz1:=@vmodel_v (u) (k) ok sm (by omega)
 exact tR_ [r_,b_,r_,.r [] [cr oz1],.r [] [.v (CO_ !eqNums [(S_,(modelE (u.m.getD k default).l u.inp u.cl (↑k:Int)).w,0),(S_,(modelE (u.m.getD k default).l u.inp u.cl (↑k:Int)).m,0),(S_,(modelE (u.m.getD k default).l u.inp u.cl (↑k:Int)).b,0),(S_,(modelE (u.m.getD k default).l u.inp u.cl (↑k:Int)).n,0)])],d_,.r [] [.n ((↑k:Int)+1)]] [.any (rg [(4,2),(16,8),(25,1)]),.drop [5],.weak 15 (i64 (↑(k+1):Int)),.sort] (.d6 (decide_eq_true (p:=((↑k:Int)<(u.m.length:Int))) (by omega)) oz1 (show BinTo N_ BinOp.neq 79 (Operand.tmp 21) (Operand.tmp 22) (Value.agg #[AY_ S_ (modelE (u.m.getD k default).l u.inp u.cl (↑k:Int)).w,AY_ S_ (modelE (u.m.getD k default).l u.inp u.cl (↑k:Int)).m,AY_ S_ (modelE (u.m.getD k default).l u.inp u.cl (↑k:Int)).b,AY_ S_ (modelE (u.m.getD k default).l u.inp u.cl (↑k:Int)).n]) (Value.agg #[AY_ S_ 0,AY_ S_ 0,AY_ S_ 0,AY_ S_ 0]) (CO_ !eqNums [(S_,(modelE (u.m.getD k default).l u.inp u.cl (↑k:Int)).w,0),(S_,(modelE (u.m.getD k default).l u.inp u.cl (↑k:Int)).m,0),(S_,(modelE (u.m.getD k default).l u.inp u.cl (↑k:Int)).b,0),(S_,(modelE (u.m.getD k default).l u.inp u.cl (↑k:Int)).n,0)]) from ((bin_nums (l:=[(S_,(modelE (u.m.getD k default).l u.inp u.cl (↑k:Int)).w,0),(S_,(modelE (u.m.getD k default).l u.inp u.cl (↑k:Int)).m,0),(S_,(modelE (u.m.getD k default).l u.inp u.cl (↑k:Int)).b,0),(S_,(modelE (u.m.getD k default).l u.inp u.cl (↑k:Int)).n,0)]) (by kernel_rfl) (by kernel_rfl) (by kernel_rfl) (by kernel_rfl) _ _).2)) (show (!eqNums [(S_,(modelE (u.m.getD k default).l u.inp u.cl (↑k:Int)).w,0),(S_,(modelE (u.m.getD k default).l u.inp u.cl (↑k:Int)).m,0),(S_,(modelE (u.m.getD k default).l u.inp u.cl (↑k:Int)).b,0),(S_,(modelE (u.m.getD k default).l u.inp u.cl (↑k:Int)).n,0)])=false by (rw[q];rfl)) (i6n ((↑k:Int)+1) (by omega)) (wS_ k))
theorem vbundle_ln_e (u:Bun) (m:Nat) (ok:u.Ok) (sm:u.Sm) (hm:m<u.m.length) (hf:(mE u m).w≠0) (h:∀ j,j<m→mE u j=⟨0,0,0,0⟩):VT N_ (fnC Tryz.f28 [1,1,0,1,0,0]) (vbundle_ln_I u m (m)) (.ret) (vbundle_ln_Z u m):=by
 have q5:=sm.l
 have hg:¬ (modelE (u.m.getD m default).l u.inp u.cl m).w=0:=hf
 have oz1:=@vmodel_v (u) (m) ok sm hm
 exact tR_ [r_,b_,r_,.r [] [cr oz1],.r [] [.v (CO_ !eqNums [(S_,(modelE (u.m.getD m default).l u.inp u.cl (↑m:Int)).w,0),(S_,(modelE (u.m.getD m default).l u.inp u.cl (↑m:Int)).m,0),(S_,(modelE (u.m.getD m default).l u.inp u.cl (↑m:Int)).b,0),(S_,(modelE (u.m.getD m default).l u.inp u.cl (↑m:Int)).n,0)])],b_,r_] [.any (rg [(1,1),(4,2),(14,11)]),.drop [1,5],.sort] (.d4 (decide_eq_true (p:=((↑m:Int)<(u.m.length:Int))) (by omega)) oz1 (show BinTo N_ BinOp.neq 79 (Operand.tmp 21) (Operand.tmp 22) (Value.agg #[AY_ S_ (modelE (u.m.getD m default).l u.inp u.cl (↑m:Int)).w,AY_ S_ (modelE (u.m.getD m default).l u.inp u.cl (↑m:Int)).m,AY_ S_ (modelE (u.m.getD m default).l u.inp u.cl (↑m:Int)).b,AY_ S_ (modelE (u.m.getD m default).l u.inp u.cl (↑m:Int)).n]) (Value.agg #[AY_ S_ 0,AY_ S_ 0,AY_ S_ 0,AY_ S_ 0]) (CO_ !eqNums [(S_,(modelE (u.m.getD m default).l u.inp u.cl (↑m:Int)).w,0),(S_,(modelE (u.m.getD m default).l u.inp u.cl (↑m:Int)).m,0),(S_,(modelE (u.m.getD m default).l u.inp u.cl (↑m:Int)).b,0),(S_,(modelE (u.m.getD m default).l u.inp u.cl (↑m:Int)).n,0)]) from ((bin_nums (l:=[(S_,(modelE (u.m.getD m default).l u.inp u.cl (↑m:Int)).w,0),(S_,(modelE (u.m.getD m default).l u.inp u.cl (↑m:Int)).m,0),(S_,(modelE (u.m.getD m default).l u.inp u.cl (↑m:Int)).b,0),(S_,(modelE (u.m.getD m default).l u.inp u.cl (↑m:Int)).n,0)]) (by kernel_rfl) (by kernel_rfl) (by kernel_rfl) (by kernel_rfl) _ _).2)) (show (!eqNums [(S_,(modelE (u.m.getD m default).l u.inp u.cl (↑m:Int)).w,0),(S_,(modelE (u.m.getD m default).l u.inp u.cl (↑m:Int)).m,0),(S_,(modelE (u.m.getD m default).l u.inp u.cl (↑m:Int)).b,0),(S_,(modelE (u.m.getD m default).l u.inp u.cl (↑m:Int)).n,0)])=true by (simp only[eqNums];rw[beq_eq_false_iff_ne.2 hg];rfl)))
theorem vbundle_ln (u:Bun) (m:Nat) (ok:u.Ok) (sm:u.Sm) (hm:m<u.m.length) (hf:(mE u m).w≠0) (h:∀ j,j<m→mE u j=⟨0,0,0,0⟩):VT N_ (fnC Tryz.f28 [1,1,0,1,0]) (vbundle_ln_I u m 0) (.ret) (vbundle_ln_Z u m) :=
 VT.loop (fun k=>vbundle_ln_I u m k) (m) (fun k hk=>vbundle_ln_s u m ok sm hm hf h k hk) (vbundle_ln_e u m ok sm hm hf h) (by intro h;cases h)
def bunE (u:Bun):Flt:=if wholeE u≠0 then ⟨wholeE u,-1,-1,-1⟩ else if firstBad (fun j=>(mE u j).w==0) u.m.length<u.m.length then mE u (firstBad (fun j=>(mE u j).w==0) u.m.length) else ⟨0,0,0,0⟩
theorem bunE_y {u:Bun} (w:wholeE u=0) (h:∀ j,j<u.m.length→mE u j=⟨0,0,0,0⟩):bunE u=⟨0,0,0,0⟩:=by
 unfold bunE
 rw[j_ (by simp[w]),firstBad_all fun j hj=>by rw[h j hj];rfl,j_ (by omega)]
theorem bunE_m {u:Bun} {m:Nat} (w:wholeE u=0) (hm:m<u.m.length) (hf:(mE u m).w≠0) (h:∀ j,j<m→mE u j=⟨0,0,0,0⟩):bunE u=mE u m:=by
 have e:=firstBad_at (p:=fun j=>(mE u j).w==0) (m:=m) (by simpa using hf) (fun j hj=>by rw[h j hj];rfl) hm
 unfold bunE
 rw[j_ (by simp[w]),e,i_ hm]
theorem bunE_cases (u:Bun):wholeE u≠0∨(wholeE u=0∧∀ j,j<u.m.length→mE u j=⟨0,0,0,0⟩)∨(wholeE u=0∧∃ m,m<u.m.length∧(mE u m).w≠0∧∀ j,j<m→mE u j=⟨0,0,0,0⟩):=by
 by_cases w:wholeE u=0
 ·rcases all_or (fun j=>(mE u j).w==0) u.m.length with h|⟨m,h1,h2,h3⟩
  ·exact .inr (.inl ⟨w,fun j hj=>modelE_z (beq_iff_eq.1 (h j hj))⟩)
  ·exact .inr (.inr ⟨w,m,h1,by simpa using h2,fun j hj=>modelE_z (beq_iff_eq.1 (h3 j hj))⟩)
 ·exact .inl w
theorem vbundle_a (u:Bun) (ok:u.Ok) (sm:u.Sm) (h:wholeE u≠0):VC N_ 28 ([bun u]) (flt (bunE u)):=by
 have q5:=sm.l
 have oz0:=@vwhole_v (u) ok (by omega)
 exact (cR_ [r_,.r [] [cr oz0],r_,b_,r_] (AV.agg [i64 (wholeE u),i64 (-1),i64 (-1),i64 (-1)]) Tryz.func28 (.d2 oz0 (show (wholeE u != 0)=true by (simp;omega)))).weak (A_ _) (AD_ (.cons (M_ (by (unfold bunE;rw[i_ h]))) (.cons (M_ (by (unfold bunE;rw[i_ h]))) (.cons (M_ (by (unfold bunE;rw[i_ h]))) (.cons (M_ (by (unfold bunE;rw[i_ h]))) .nil)))))
theorem vbundle_y (u:Bun) (ok:u.Ok) (sm:u.Sm) (w:wholeE u=0) (h:∀ j,j<u.m.length→mE u j=⟨0,0,0,0⟩):VC N_ 28 ([bun u]) (flt ⟨0,0,0,0⟩):=by
 have q5:=sm.l
 have oz0:=@vwhole_v (u) ok (by omega)
 have oz4:=@vbundle_ly (u) ok sm h
 exact cR_ [r_,.r [] [cr oz0],r_,d_,r_,.code [.any [0,3,6,7,8,9,12,13],.weak 14 (i64 (u.m.length:Int)),.weak 15 (i64 (↑0:Int)),.sort] (AI_ 0) (zO oz4),r_] _ Tryz.func28 (.d5 oz0 (show (wholeE u != 0)=false by (rw[w];rfl)) (M_ (k:=.i64) (show ((((K_ mdlC u.m).length:Int)):Int)=((u.m.length:Int)) from (by (simp;done)))) w0_ oz4)
theorem vbundle_m (u:Bun) (m:Nat) (ok:u.Ok) (sm:u.Sm) (w:wholeE u=0) (hm:m<u.m.length) (hf:(mE u m).w≠0) (h:∀ j,j<m→mE u j=⟨0,0,0,0⟩):VC N_ 28 ([bun u]) (flt (mE u m)):=by
 have q5:=sm.l
 have oz0:=@vwhole_v (u) ok (by omega)
 have oz4:=@vbundle_ln (u) (m) ok sm hm hf h
 exact cR_ [r_,.r [] [cr oz0],r_,d_,r_,.code [.any [0,3,6,7,8,9,12,13],.weak 14 (i64 (u.m.length:Int)),.weak 15 (i64 (↑0:Int)),.sort] (Exit.ret) (zO oz4)] _ Tryz.func28 (.d5 oz0 (show (wholeE u != 0)=false by (rw[w];rfl)) (M_ (k:=.i64) (show ((((K_ mdlC u.m).length:Int)):Int)=((u.m.length:Int)) from (by (simp;done)))) w0_ oz4)
theorem vbundle_v (u:Bun) (ok:u.Ok) (sm:u.Sm):VC N_ 28 [bun u] (flt (bunE u)):=by
 rcases bunE_cases u with h|⟨w,h⟩|⟨w,m,h1,h2,h3⟩
 ·exact vbundle_a u ok sm h
 ·rw[bunE_y w h];exact vbundle_y u ok sm w h
 ·rw[bunE_m w h1 h2 h3];exact vbundle_m u m ok sm w h1 h2 h3
noncomputable def rvm_iy_I (u:Bun) (l:List Blc) (a:Shp) (j:Int) (k:Nat):VS:=stt 108 [(1,.ptr 1 0 0),(2,.ptr 2 0 0),(3,i64 j),(4,.sl 5 (l.map blcC)),(5,.ptr 5 0 0),(6,i64 k)] [(1,.var (bunC u)),(2,.var [i64 0,i64 0,i64 0,i64 0]),(5,.var (shpC (inS l a k)))]
noncomputable def rvm_iy_Z (u:Bun) (l:List Blc) (a:Shp) (j:Int):VS:=rvm_iy_I u l a j (l.length)
theorem rvm_iy_s (u:Bun) (l:List Blc) (a:Shp) (j:Int) (ok:∀ d∈l,d.Ok) (sm:∀ d∈l,d.Sm) (oka:a.Ok) (hl:l.length≤6) (h:∀ k,k<l.length→(vB l a u.cl k).2=0) (k:Nat) (hk:k<l.length):VT N_ (fnC Tryz.f20 [1,1,1,1,1,0,1,0,0,1,0,0,1,1,1,1,1,0,0]) (rvm_iy_I u l a j k) .normal (rvm_iy_I u l a j (k+1)):=by
 have q:=h k hk
 have q1:=validE_ok q
 have q2:=getD_in ok hk
 have q3:=getD_in sm hk
 have q4:=inS_ok (l:=l) oka k
 have lb:(K_ blcC l).length=l.length:=Q_ _
 have q5:=q2.n
 have q6:=q3.s
 have q7:=q3.l
 have l1:=growL_len nextE (l.getD k default).n (inS l a k) (l.getD k default).n.length
 have l3:(K_ shpC (growL nextE (l.getD k default).n (inS l a k) (l.getD k default).n.length)).length=(growL nextE (l.getD k default).n (inS l a k) (l.getD k default).n.length).length:=Q_ _
 have i1:(((K_ shpC (growL nextE (l.getD k default).n (inS l a k) (l.getD k default).n.length)).length:Int)-1).toNat=(l.getD k default).n.length:=by omega
 have oz1:=(s_ (0≤(↑k:Int)))
 have oz2:=(map_at (blcC) (default) (l:=l) (i:=k) hk)
 have oz3:=(i6n (((K_ blcC l).length:Int)-1) (by omega))
 have oz4:=@rvblock_v (l.getD k default) (inS l a k) (u.cl) ((↑k:Int)==((K_ blcC l).length:Int)-1) q2 q4 q3
 have oz8:=@rshapes_y ((l.getD k default).n) (inS l a k) q5 q6 q1
 have oz9:=(i6n (((K_ shpC (growL nextE (l.getD k default).n (inS l a k) (l.getD k default).n.length)).length:Int)-1) (by omega))
 have oz11:=(map_at (shpC) (default) (l:=growL nextE (l.getD k default).n (inS l a k) (l.getD k default).n.length) (i:=(((K_ shpC (growL nextE (l.getD k default).n (inS l a k) (l.getD k default).n.length)).length:Int)-1).toNat) (by omega))
 exact tR_ [r_,b_,.r [] [.row (sO oz2),.n (nO oz3),cr oz4],r_,d_,.r [] [.row (sO oz2),cr oz8],.r [] [.n (nO oz9),.row (sO oz11)],.r [] [.n ((↑k:Int)+1)]] [.any (rg [(7,5),(61,24),(90,17)]),.weak 6 (i64 (↑(k+1):Int)),.blk 5 (Blk.var [i64 (inS l a (k+1)).h,i64 (inS l a (k+1)).x,i64 (inS l a (k+1)).c]),.sort] (.c8 (decide_eq_true (p:=((↑k:Int)<((K_ blcC l).length:Int))) (by omega)) oz1 oz2 oz3 oz4 (show ((validE (l.getD k default) (inS l a k) u.cl ((↑k:Int)==((K_ blcC l).length:Int)-1)).snd != 0)=false by (rw[q];rfl)) oz1 oz2<|.d7 oz8 oz9 (s_ (0≤((K_ shpC (growL nextE (l.getD k default).n (inS l a k) (l.getD k default).n.length)).length:Int)-1)) oz11 (i6n ((↑k:Int)+1) (by omega)) (wS_ k) (show BlkW (Blk.var [i64 ((growL nextE (l.getD k default).n (inS l a k) (l.getD k default).n.length).getD (((K_ shpC (growL nextE (l.getD k default).n (inS l a k) (l.getD k default).n.length)).length:Int)-1).toNat default).h,i64 ((growL nextE (l.getD k default).n (inS l a k) (l.getD k default).n.length).getD (((K_ shpC (growL nextE (l.getD k default).n (inS l a k) (l.getD k default).n.length)).length:Int)-1).toNat default).x,i64 ((growL nextE (l.getD k default).n (inS l a k) (l.getD k default).n.length).getD (((K_ shpC (growL nextE (l.getD k default).n (inS l a k) (l.getD k default).n.length)).length:Int)-1).toNat default).c]) (Blk.var [i64 (inS l a (k+1)).h,i64 (inS l a (k+1)).x,i64 (inS l a (k+1)).c]) from (BlkW.var (m:=[i64 (inS l a (k+1)).h,i64 (inS l a (k+1)).x,i64 (inS l a (k+1)).c]) (.cons (M_ (by (rw[i1]<;>rfl))) (.cons (M_ (by (rw[i1]<;>rfl))) (.cons (M_ (by (rw[i1]<;>rfl))) .nil))))))
theorem rvm_iy_e (u:Bun) (l:List Blc) (a:Shp) (j:Int) (ok:∀ d∈l,d.Ok) (sm:∀ d∈l,d.Sm) (oka:a.Ok) (hl:l.length≤6) (h:∀ k,k<l.length→(vB l a u.cl k).2=0):VT N_ (fnC Tryz.f20 [1,1,1,1,1,0,1,0,0,1,0,0,1,1,1,1,1,0,0]) (rvm_iy_I u l a j (l.length)) (.exit 2) (rvm_iy_Z u l a j):=by
 exact tR_ [r_,d_] [.any (rg [(61,4)]),.sort] (.d (show decide ((l.length:Int)<((K_ blcC l).length:Int))=false by (simp;done)))
theorem rvm_iy (u:Bun) (l:List Blc) (a:Shp) (j:Int) (ok:∀ d∈l,d.Ok) (sm:∀ d∈l,d.Sm) (oka:a.Ok) (hl:l.length≤6) (h:∀ k,k<l.length→(vB l a u.cl k).2=0):VT N_ (fnC Tryz.f20 [1,1,1,1,1,0,1,0,0,1,0,0,1,1,1,1,1,0]) (rvm_iy_I u l a j 0) (.exit 2) (rvm_iy_Z u l a j) :=
 VT.loop (fun k=>rvm_iy_I u l a j k) (l.length) (fun k hk=>rvm_iy_s u l a j ok sm oka hl h k hk) (rvm_iy_e u l a j ok sm oka hl h) (by intro h;cases h)
noncomputable def rvm_in_I (u:Bun) (l:List Blc) (a:Shp) (j:Int) (m:Nat) (k:Nat):VS:=stt 108 [(1,.ptr 1 0 0),(2,.ptr 2 0 0),(3,i64 j),(4,.sl 5 (l.map blcC)),(5,.ptr 5 0 0),(6,i64 k)] [(1,.var (bunC u)),(2,.var [i64 0,i64 0,i64 0,i64 0]),(5,.var (shpC (inS l a k)))]
noncomputable def rvm_in_Z (u:Bun) (l:List Blc) (a:Shp) (j:Int) (m:Nat):VS:=stt 108 [(2,.ptr 2 0 0)] [(2,.var [i64 (vB l a u.cl m).2,i64 j,i64 m,i64 (vB l a u.cl m).1])]
theorem rvm_in_s (u:Bun) (l:List Blc) (a:Shp) (j:Int) (m:Nat) (ok:∀ d∈l,d.Ok) (sm:∀ d∈l,d.Sm) (oka:a.Ok) (hl:l.length≤6) (hm:m<l.length) (hf:(vB l a u.cl m).2≠0) (h:∀ k,k<m→(vB l a u.cl k).2=0) (k:Nat) (hk:k<m):VT N_ (fnC Tryz.f20 [1,1,1,1,1,0,1,0,0,1,0,0,1,1,1,1,1,0,0]) (rvm_in_I u l a j m k) .normal (rvm_in_I u l a j m (k+1)):=by
 have q:=h k hk
 have q1:=validE_ok q
 have q2:=getD_in ok (s_ (k<l.length))
 have q3:=getD_in sm (s_ (k<l.length))
 have q4:=inS_ok (l:=l) oka k
 have lb:(K_ blcC l).length=l.length:=Q_ _
 have q5:=q2.n
 have q6:=q3.s
 have q7:=q3.l
 have l1:=growL_len nextE (l.getD k default).n (inS l a k) (l.getD k default).n.length
 have l3:(K_ shpC (growL nextE (l.getD k default).n (inS l a k) (l.getD k default).n.length)).length=(growL nextE (l.getD k default).n (inS l a k) (l.getD k default).n.length).length:=Q_ _
 have i1:(((K_ shpC (growL nextE (l.getD k default).n (inS l a k) (l.getD k default).n.length)).length:Int)-1).toNat=(l.getD k default).n.length:=by omega
 have oz1:=(s_ (0≤(↑k:Int)))
 have oz2:=(map_at (blcC) (default) (l:=l) (i:=k) (by omega))
 have oz3:=(i6n (((K_ blcC l).length:Int)-1) (by omega))
 have oz4:=@rvblock_v (l.getD k default) (inS l a k) (u.cl) ((↑k:Int)==((K_ blcC l).length:Int)-1) q2 q4 q3
 have oz8:=@rshapes_y ((l.getD k default).n) (inS l a k) q5 q6 q1
 have oz9:=(i6n (((K_ shpC (growL nextE (l.getD k default).n (inS l a k) (l.getD k default).n.length)).length:Int)-1) (by omega))
 have oz11:=(map_at (shpC) (default) (l:=growL nextE (l.getD k default).n (inS l a k) (l.getD k default).n.length) (i:=(((K_ shpC (growL nextE (l.getD k default).n (inS l a k) (l.getD k default).n.length)).length:Int)-1).toNat) (by omega))
 exact tR_ [r_,b_,.r [] [.row (sO oz2),.n (nO oz3),cr oz4],r_,d_,.r [] [.row (sO oz2),cr oz8],.r [] [.n (nO oz9),.row (sO oz11)],.r [] [.n ((↑k:Int)+1)]] [.any (rg [(7,5),(61,24),(90,17)]),.weak 6 (i64 (↑(k+1):Int)),.blk 5 (Blk.var [i64 (inS l a (k+1)).h,i64 (inS l a (k+1)).x,i64 (inS l a (k+1)).c]),.sort] (.c8 (decide_eq_true (p:=((↑k:Int)<((K_ blcC l).length:Int))) (by omega)) oz1 oz2 oz3 oz4 (show ((validE (l.getD k default) (inS l a k) u.cl ((↑k:Int)==((K_ blcC l).length:Int)-1)).snd != 0)=false by (rw[q];rfl)) oz1 oz2<|.d7 oz8 oz9 (s_ (0≤((K_ shpC (growL nextE (l.getD k default).n (inS l a k) (l.getD k default).n.length)).length:Int)-1)) oz11 (i6n ((↑k:Int)+1) (by omega)) (wS_ k) (show BlkW (Blk.var [i64 ((growL nextE (l.getD k default).n (inS l a k) (l.getD k default).n.length).getD (((K_ shpC (growL nextE (l.getD k default).n (inS l a k) (l.getD k default).n.length)).length:Int)-1).toNat default).h,i64 ((growL nextE (l.getD k default).n (inS l a k) (l.getD k default).n.length).getD (((K_ shpC (growL nextE (l.getD k default).n (inS l a k) (l.getD k default).n.length)).length:Int)-1).toNat default).x,i64 ((growL nextE (l.getD k default).n (inS l a k) (l.getD k default).n.length).getD (((K_ shpC (growL nextE (l.getD k default).n (inS l a k) (l.getD k default).n.length)).length:Int)-1).toNat default).c]) (Blk.var [i64 (inS l a (k+1)).h,i64 (inS l a (k+1)).x,i64 (inS l a (k+1)).c]) from (BlkW.var (m:=[i64 (inS l a (k+1)).h,i64 (inS l a (k+1)).x,i64 (inS l a (k+1)).c]) (.cons (M_ (by (rw[i1]<;>rfl))) (.cons (M_ (by (rw[i1]<;>rfl))) (.cons (M_ (by (rw[i1]<;>rfl))) .nil))))))
theorem rvm_in_e (u:Bun) (l:List Blc) (a:Shp) (j:Int) (m:Nat) (ok:∀ d∈l,d.Ok) (sm:∀ d∈l,d.Sm) (oka:a.Ok) (hl:l.length≤6) (hm:m<l.length) (hf:(vB l a u.cl m).2≠0) (h:∀ k,k<m→(vB l a u.cl k).2=0):VT N_ (fnC Tryz.f20 [1,1,1,1,1,0,1,0,0,1,0,0,1,1,1,1,1,0,0]) (rvm_in_I u l a j m (m)) (.ret) (rvm_in_Z u l a j m):=by
 have q2:=getD_in ok hm
 have q3:=getD_in sm hm
 have q4:=inS_ok (l:=l) oka m
 have lb:(K_ blcC l).length=l.length:=Q_ _
 have oz2:=(map_at (blcC) (default) (l:=l) (i:=m) hm)
 have oz3:=(i6n (((K_ blcC l).length:Int)-1) (by omega))
 have oz4:=@rvblock_v (l.getD m default) (inS l a m) (u.cl) ((↑m:Int)==((K_ blcC l).length:Int)-1) q2 q4 q3
 exact tR_ [r_,b_,.r [] [.row (sO oz2),.n (nO oz3),cr oz4],r_,b_,r_] [.any (rg [(1,1),(3,6),(61,4),(67,23)]),.drop [1,5],.sort] (.d6 (decide_eq_true (p:=((↑m:Int)<((K_ blcC l).length:Int))) (by omega)) (s_ (0≤(↑m:Int))) oz2 oz3 oz4 (show ((validE (l.getD m default) (inS l a m) u.cl ((↑m:Int)==((K_ blcC l).length:Int)-1)).snd != 0)=true by (rw[J_];exact hf)))
theorem rvm_in (u:Bun) (l:List Blc) (a:Shp) (j:Int) (m:Nat) (ok:∀ d∈l,d.Ok) (sm:∀ d∈l,d.Sm) (oka:a.Ok) (hl:l.length≤6) (hm:m<l.length) (hf:(vB l a u.cl m).2≠0) (h:∀ k,k<m→(vB l a u.cl k).2=0):VT N_ (fnC Tryz.f20 [1,1,1,1,1,0,1,0,0,1,0,0,1,1,1,1,1,0]) (rvm_in_I u l a j m 0) (.ret) (rvm_in_Z u l a j m) :=
 VT.loop (fun k=>rvm_in_I u l a j m k) (m) (fun k hk=>rvm_in_s u l a j m ok sm oka hl hm hf h k hk) (rvm_in_e u l a j m ok sm oka hl hm hf h) (by intro h;cases h)
theorem modelE_ok {l:List Blc} {a:Shp} {cl j:Int} (h:modelE l a cl j=⟨0,0,0,0⟩):¬ l.length=0∧l.length≤6∧∀ k,k<l.length→(vB l a cl k).2=0:=by
 rcases modelE_cases l a cl with g|g|⟨h6,m,h1,h2,h3⟩
 ·exact g
 ·exfalso
  revert h
  unfold modelE
  by_cases c:l.length=0
  ·rw[i_ c];intro h;injection h with h;revert h;decide
  ·rw[j_ c,i_ (by omega)];intro h;injection h with h;revert h;decide
 ·rw[modelE_m h6 h1 h2 h3] at h;injection h with h;exact absurd h h2
noncomputable def rvb_oy_I (u:Bun) (k:Nat):VS:=stt 108 [(1,.ptr 1 0 0),(2,.ptr 2 0 0),(3,i64 k)] [(1,.var (bunC u)),(2,.var [i64 0,i64 0,i64 0,i64 0])]
noncomputable def rvb_oy_Z (u:Bun):VS:=rvb_oy_I u (u.m.length)
theorem rvb_oy_s (u:Bun) (ok:u.Ok) (sm:u.Sm) (h:∀ j,j<u.m.length→mE u j=⟨0,0,0,0⟩) (k:Nat) (hk:k<u.m.length):VT N_ (fnC Tryz.f20 [1,1,1,1,1,0,1,0,0]) (rvb_oy_I u k) .normal (rvb_oy_I u (k+1)):=by
 obtain ⟨q1,q2,q3⟩:=modelE_ok (h k hk)
 have q4:=sm.l
 have q5:u.inp.Ok:=⟨ok.h,ok.x,ok.c⟩
 have q6:=(getD_in ok.m hk).l
 have q7:=(getD_in sm.m hk).2
 have oz2:=(map_at (mdlC) (default) (l:=u.m) (i:=k) hk)
 have oz6:=@rvm_iy (u) ((u.m.getD k default).l) (Shp.mk u.1 u.2 u.3) ((↑k:Int)) q6 q7 q5 q2 q3
 exact tR_ [r_,b_,.r [] [.row (sO oz2)],r_,d_,r_,d_,r_,r_,.code [.any (rg [(36,5),(43,9),(54,3),(59,2)]),.weak 6 (i64 (↑0:Int)),.sort] (AI_ 2) (zO oz6),.r [] [.n ((↑k:Int)+1)]] [.any [4,5,6,41,42],.drop [5],.weak 3 (i64 (↑(k+1):Int)),.sort] (.c8 (show decide ((↑k:Int)<((K_ mdlC u.m).length:Int))=true by (simp;omega)) (s_ (0≤(↑k:Int))) oz2 (show (((K_ blcC (u.m.getD k default).l).length:Int)==0)=false by (simp at *;omega)) (show decide (((K_ blcC (u.m.getD k default).l).length:Int)>6)=false by (simp at *;omega)) w0_ oz6 (i6n ((↑k:Int)+1) (by omega))<|.d (wS_ k))
theorem rvb_oy_e (u:Bun) (ok:u.Ok) (sm:u.Sm) (h:∀ j,j<u.m.length→mE u j=⟨0,0,0,0⟩):VT N_ (fnC Tryz.f20 [1,1,1,1,1,0,1,0,0]) (rvb_oy_I u (u.m.length)) (.exit 0) (rvb_oy_Z u):=by
 exact tR_ [r_,d_] [.any (rg [(36,5)]),.sort] (.d (show decide ((u.m.length:Int)<((K_ mdlC u.m).length:Int))=false by (simp;done)))
theorem rvb_oy (u:Bun) (ok:u.Ok) (sm:u.Sm) (h:∀ j,j<u.m.length→mE u j=⟨0,0,0,0⟩):VT N_ (fnC Tryz.f20 [1,1,1,1,1,0,1,0]) (rvb_oy_I u 0) (.exit 0) (rvb_oy_Z u) :=
 VT.loop (fun k=>rvb_oy_I u k) (u.m.length) (fun k hk=>rvb_oy_s u ok sm h k hk) (rvb_oy_e u ok sm h) (by intro h;cases h)
noncomputable def rvb_oa_I (u:Bun) (m:Nat) (k:Nat):VS:=stt 108 [(1,.ptr 1 0 0),(2,.ptr 2 0 0),(3,i64 k)] [(1,.var (bunC u)),(2,.var [i64 0,i64 0,i64 0,i64 0])]
noncomputable def rvb_oa_Z (u:Bun) (m:Nat):VS:=stt 108 [(2,.ptr 2 0 0)] [(2,.var (fltC (mE u m)))]
theorem rvb_oa_s (u:Bun) (m:Nat) (ok:u.Ok) (sm:u.Sm) (hm:m<u.m.length) (hf:(u.m.getD m default).l.length=0∨6<(u.m.getD m default).l.length) (h:∀ j,j<m→mE u j=⟨0,0,0,0⟩) (k:Nat) (hk:k<m):VT N_ (fnC Tryz.f20 [1,1,1,1,1,0,1,0,0]) (rvb_oa_I u m k) .normal (rvb_oa_I u m (k+1)):=by
 obtain ⟨q1,q2,q3⟩:=modelE_ok (h k hk)
 have q4:=sm.l
 have q5:u.inp.Ok:=⟨ok.h,ok.x,ok.c⟩
 have q6:=(getD_in ok.m (s_ (k<u.m.length))).l
 have q7:=(getD_in sm.m (s_ (k<u.m.length))).2
 have oz2:=(map_at (mdlC) (default) (l:=u.m) (i:=k) (by omega))
 have oz6:=@rvm_iy (u) ((u.m.getD k default).l) (Shp.mk u.1 u.2 u.3) ((↑k:Int)) q6 q7 q5 q2 q3
 exact tR_ [r_,b_,.r [] [.row (sO oz2)],r_,d_,r_,d_,r_,r_,.code [.any (rg [(36,5),(43,9),(54,3),(59,2)]),.weak 6 (i64 (↑0:Int)),.sort] (AI_ 2) (zO oz6),.r [] [.n ((↑k:Int)+1)]] [.any [4,5,6,41,42],.drop [5],.weak 3 (i64 (↑(k+1):Int)),.sort] (.c8 (show decide ((↑k:Int)<((K_ mdlC u.m).length:Int))=true by (simp;omega)) (s_ (0≤(↑k:Int))) oz2 (show (((K_ blcC (u.m.getD k default).l).length:Int)==0)=false by (simp at *;omega)) (show decide (((K_ blcC (u.m.getD k default).l).length:Int)>6)=false by (simp at *;omega)) w0_ oz6 (i6n ((↑k:Int)+1) (by omega))<|.d (wS_ k))
theorem rvb_oa_e (u:Bun) (m:Nat) (ok:u.Ok) (sm:u.Sm) (hm:m<u.m.length) (hf:(u.m.getD m default).l.length=0∨6<(u.m.getD m default).l.length) (h:∀ j,j<m→mE u j=⟨0,0,0,0⟩):VT N_ (fnC Tryz.f20 [1,1,1,1,1,0,1,0,0]) (rvb_oa_I u m (m)) (.ret) (rvb_oa_Z u m):=by
 have q4:=sm.l
 have oz0:=(show decide ((↑m:Int)<((K_ mdlC u.m).length:Int))=true by (simp;omega))
 have oz1:=(s_ (0≤(↑m:Int)))
 have oz2:=(map_at (mdlC) (default) (l:=u.m) (i:=m) hm)
 rcases bft (((K_ blcC (u.m.getD m default).l).length:Int)==0) with hc0|hc0
 ·have gc0:((K_ blcC (u.m.getD m default).l).length:Int)=0:=bet hc0
  exact tR_ [r_,b_,.r [] [.row (sO oz2)],r_,b_,r_] [.any (rg [(1,1),(3,2),(36,5),(43,11)]),.drop [1],.blk 2 (Blk.var [i64 (mE u m).w,i64 (mE u m).m,i64 (mE u m).b,i64 (mE u m).n]),.sort] (.d5 oz0 oz1 oz2 hc0 (show BlkW (Blk.var [i64 12,i64 (↑m:Int),i64 (-1),i64 (-1)]) (Blk.var [i64 (mE u m).w,i64 (mE u m).m,i64 (mE u m).b,i64 (mE u m).n]) from (BlkW.var (m:=[i64 (mE u m).w,i64 (mE u m).m,i64 (mE u m).b,i64 (mE u m).n]) (.cons (M_ (by (unfold mE modelE;(try simp only[Q_] at *);(repeat first|rw[i_ (by omega)]|rw[j_ (by omega)])))) (.cons (M_ (by (unfold mE modelE;(try simp only[Q_] at *);(repeat first|rw[i_ (by omega)]|rw[j_ (by omega)])))) (.cons (M_ (by (unfold mE modelE;(try simp only[Q_] at *);(repeat first|rw[i_ (by omega)]|rw[j_ (by omega)])))) (.cons (M_ (by (unfold mE modelE;(try simp only[Q_] at *);(repeat first|rw[i_ (by omega)]|rw[j_ (by omega)])))) .nil)))))))
 ·have gc0:¬((K_ blcC (u.m.getD m default).l).length:Int)=0:=bef hc0
  exact tR_ [r_,b_,.r [] [.row (sO oz2)],r_,d_,r_,b_,r_] [.any (rg [(1,1),(3,2),(36,5),(43,9),(54,5)]),.drop [1],.blk 2 (Blk.var [i64 (mE u m).w,i64 (mE u m).m,i64 (mE u m).b,i64 (mE u m).n]),.sort] (.d6 oz0 oz1 oz2 hc0 (show decide (((K_ blcC (u.m.getD m default).l).length:Int)>6)=true by (simp only[E_,F_,I_,J_,ne_eq,H_,G_,U_,T_,AH_,BM_,AJ_,Classical.not_not,BI_,CZ_,O_,P_,W_,R_,B_,BU_,BO_,AG_,BY_,BN_,eqNums,Q_,AW_,AO_,AS_,BA_,AB_,BT_,BX_,BV_,AF_,BR_,BQ_] at *;(first|done|with_reducible assumption|omega|contradiction))) (show BlkW (Blk.var [i64 4,i64 (↑m:Int),i64 (-1),i64 (-1)]) (Blk.var [i64 (mE u m).w,i64 (mE u m).m,i64 (mE u m).b,i64 (mE u m).n]) from (BlkW.var (m:=[i64 (mE u m).w,i64 (mE u m).m,i64 (mE u m).b,i64 (mE u m).n]) (.cons (M_ (by (unfold mE modelE;(try simp only[Q_] at *);(repeat first|rw[i_ (by omega)]|rw[j_ (by omega)])))) (.cons (M_ (by (unfold mE modelE;(try simp only[Q_] at *);(repeat first|rw[i_ (by omega)]|rw[j_ (by omega)])))) (.cons (M_ (by (unfold mE modelE;(try simp only[Q_] at *);(repeat first|rw[i_ (by omega)]|rw[j_ (by omega)])))) (.cons (M_ (by (unfold mE modelE;(try simp only[Q_] at *);(repeat first|rw[i_ (by omega)]|rw[j_ (by omega)])))) .nil)))))))
theorem rvb_oa (u:Bun) (m:Nat) (ok:u.Ok) (sm:u.Sm) (hm:m<u.m.length) (hf:(u.m.getD m default).l.length=0∨6<(u.m.getD m default).l.length) (h:∀ j,j<m→mE u j=⟨0,0,0,0⟩):VT N_ (fnC Tryz.f20 [1,1,1,1,1,0,1,0]) (rvb_oa_I u m 0) (.ret) (rvb_oa_Z u m) :=
 VT.loop (fun k=>rvb_oa_I u m k) (m) (fun k hk=>rvb_oa_s u m ok sm hm hf h k hk) (rvb_oa_e u m ok sm hm hf h) (by intro h;cases h)
noncomputable def rvb_ob_I (u:Bun) (m i:Nat) (k:Nat):VS:=stt 108 [(1,.ptr 1 0 0),(2,.ptr 2 0 0),(3,i64 k)] [(1,.var (bunC u)),(2,.var [i64 0,i64 0,i64 0,i64 0])]
noncomputable def rvb_ob_Z (u:Bun) (m i:Nat):VS:=stt 108 [(2,.ptr 2 0 0)] [(2,.var [i64 (vB (u.m.getD m default).l u.inp u.cl i).2,i64 m,i64 i,i64 (vB (u.m.getD m default).l u.inp u.cl i).1])]
theorem rvb_ob_s (u:Bun) (m i:Nat) (ok:u.Ok) (sm:u.Sm) (hm:m<u.m.length) (h6:(u.m.getD m default).l.length≤6) (hi:i<(u.m.getD m default).l.length) (hf:(vB (u.m.getD m default).l u.inp u.cl i).2≠0) (hb:∀ k,k<i→(vB (u.m.getD m default).l u.inp u.cl k).2=0) (h:∀ j,j<m→mE u j=⟨0,0,0,0⟩) (k:Nat) (hk:k<m):VT N_ (fnC Tryz.f20 [1,1,1,1,1,0,1,0,0]) (rvb_ob_I u m i k) .normal (rvb_ob_I u m i (k+1)):=by
 obtain ⟨q1,q2,q3⟩:=modelE_ok (h k hk)
 have q4:=sm.l
 have q5:u.inp.Ok:=⟨ok.h,ok.x,ok.c⟩
 have q6:=(getD_in ok.m (s_ (k<u.m.length))).l
 have q7:=(getD_in sm.m (s_ (k<u.m.length))).2
 have oz2:=(map_at (mdlC) (default) (l:=u.m) (i:=k) (by omega))
 have oz6:=@rvm_iy (u) ((u.m.getD k default).l) (Shp.mk u.1 u.2 u.3) ((↑k:Int)) q6 q7 q5 q2 q3
 exact tR_ [r_,b_,.r [] [.row (sO oz2)],r_,d_,r_,d_,r_,r_,.code [.any (rg [(36,5),(43,9),(54,3),(59,2)]),.weak 6 (i64 (↑0:Int)),.sort] (AI_ 2) (zO oz6),.r [] [.n ((↑k:Int)+1)]] [.any [4,5,6,41,42],.drop [5],.weak 3 (i64 (↑(k+1):Int)),.sort] (.c8 (show decide ((↑k:Int)<((K_ mdlC u.m).length:Int))=true by (simp;omega)) (s_ (0≤(↑k:Int))) oz2 (show (((K_ blcC (u.m.getD k default).l).length:Int)==0)=false by (simp at *;omega)) (show decide (((K_ blcC (u.m.getD k default).l).length:Int)>6)=false by (simp at *;omega)) w0_ oz6 (i6n ((↑k:Int)+1) (by omega))<|.d (wS_ k))
theorem rvb_ob_e (u:Bun) (m i:Nat) (ok:u.Ok) (sm:u.Sm) (hm:m<u.m.length) (h6:(u.m.getD m default).l.length≤6) (hi:i<(u.m.getD m default).l.length) (hf:(vB (u.m.getD m default).l u.inp u.cl i).2≠0) (hb:∀ k,k<i→(vB (u.m.getD m default).l u.inp u.cl k).2=0) (h:∀ j,j<m→mE u j=⟨0,0,0,0⟩):VT N_ (fnC Tryz.f20 [1,1,1,1,1,0,1,0,0]) (rvb_ob_I u m i (m)) (.ret) (rvb_ob_Z u m i):=by
 have q4:=sm.l
 have q5:u.inp.Ok:=⟨ok.h,ok.x,ok.c⟩
 have q6:=(getD_in ok.m hm).l
 have q7:=(getD_in sm.m hm).2
 have oz2:=(map_at (mdlC) (default) (l:=u.m) (i:=m) hm)
 have oz6:=@rvm_in (u) ((u.m.getD m default).l) (Shp.mk u.1 u.2 u.3) ((↑m:Int)) (i) q6 q7 q5 h6 hi hf hb
 exact tR_ [r_,b_,.r [] [.row (sO oz2)],r_,d_,r_,d_,r_,r_,.code [.any (rg [(36,5),(43,9),(54,3),(59,2)]),.weak 6 (i64 (↑0:Int)),.sort] (Exit.ret) (zO oz6)] [.sort] (.d7 (show decide ((↑m:Int)<((K_ mdlC u.m).length:Int))=true by (simp;omega)) (s_ (0≤(↑m:Int))) oz2 (show (((K_ blcC (u.m.getD m default).l).length:Int)==0)=false by (simp only[E_,F_,I_,J_,ne_eq,H_,G_,U_,T_,AH_,BM_,AJ_,Classical.not_not,BI_,CZ_,O_,P_,W_,R_,B_,BU_,BO_,AG_,BY_,BN_,eqNums,Q_,AW_,AO_,AS_,BA_,AB_,BT_,BX_,BV_,AF_,BR_,BQ_];(first|done|with_reducible assumption|omega|contradiction))) (show decide (((K_ blcC (u.m.getD m default).l).length:Int)>6)=false by (simp at *;omega)) w0_ oz6)
theorem rvb_ob (u:Bun) (m i:Nat) (ok:u.Ok) (sm:u.Sm) (hm:m<u.m.length) (h6:(u.m.getD m default).l.length≤6) (hi:i<(u.m.getD m default).l.length) (hf:(vB (u.m.getD m default).l u.inp u.cl i).2≠0) (hb:∀ k,k<i→(vB (u.m.getD m default).l u.inp u.cl k).2=0) (h:∀ j,j<m→mE u j=⟨0,0,0,0⟩):VT N_ (fnC Tryz.f20 [1,1,1,1,1,0,1,0]) (rvb_ob_I u m i 0) (.ret) (rvb_ob_Z u m i) :=
 VT.loop (fun k=>rvb_ob_I u m i k) (m) (fun k hk=>rvb_ob_s u m i ok sm hm h6 hi hf hb h k hk) (rvb_ob_e u m i ok sm hm h6 hi hf hb h) (by intro h;cases h)
theorem wholeE_0 {u:Bun} (h:wholeE u=0):0<elems u.h u.x u.c∧2≤u.cl∧u.cl≤16∧0<u.m.length∧u.m.length≤3:=by
 unfold wholeE at h
 by_cases c1:¬ 0<elems u.h u.x u.c
 ·rw[i_ c1] at h;cases h
 ·rw[j_ c1] at h
  by_cases c2:u.cl<2∨u.cl>16
  ·rw[i_ c2] at h;cases h
  ·rw[j_ c2] at h
   by_cases c3:u.m.length=0
   ·rw[i_ c3] at h;cases h
   ·rw[j_ c3] at h
    by_cases c4:3<u.m.length
    ·rw[i_ c4] at h;cases h
    ·exact ⟨by omega,by omega,by omega,by omega,by omega⟩
theorem wholeE_n {u:Bun} (h:wholeE u≠0):¬ 0<elems u.h u.x u.c∨u.cl<2∨u.cl>16∨u.m.length=0∨3<u.m.length:=by
 apply cbc
 intro c
 apply h
 unfold wholeE
 rw[j_ (by omega),j_ (by omega),j_ (by omega),j_ (by omega)]
theorem rvbundle_a (u:Bun) (ok:u.Ok) (sm:u.Sm) (h:wholeE u≠0):VC N_ 20 ([bun u]) (flt (bunE u)):=by
 have q5:=sm.l
 have q1:=elems_in u.h u.x u.c
 obtain ⟨q2,q3,q4⟩:In64 u.h∧In64 u.x∧In64 u.c:=⟨ok.h,ok.x,ok.c⟩
 have e:bunE u=⟨wholeE u,-1,-1,-1⟩:=i_ h
 have w:=wholeE_n h
 have lm:(K_ mdlC u.m).length=u.m.length:=Q_ _
 have oz0:=@refElems_v (u.h) (u.x) (u.c) q2 q3 q4
 rcases bft (elems u.h u.x u.c==0) with hc0|hc0
 ·have gc0:elems u.h u.x u.c=0:=bet hc0
  exact (cR_ [r_,.r [] [cr oz0],b_,r_] (AV.agg [i64 5,i64 (-1),i64 (-1),i64 (-1)]) Tryz.func20 (.d2 oz0 hc0)).weak (A_ _) (AD_ (.cons (M_ (by (rw[e];unfold wholeE;(try simp only[Q_] at *);(repeat first|rw[i_ (by omega)]|rw[j_ (by omega)])))) (.cons (M_ (by (simp_all;done))) (.cons (M_ (by (simp_all;done))) (.cons (M_ (by (simp_all;done))) .nil)))))
 ·have gc0:¬elems u.h u.x u.c=0:=bef hc0
  rcases bft (decide (u.cl<2) || decide (u.cl>16)) with hc1|hc1
  ·have gc1:u.cl<2∨u.cl>16:=gc0_ hc1
   exact (cR_ [r_,.r [] [cr oz0],d_,.r [] [o_,o_,o_,.sel 1],b_,r_] (AV.agg [i64 2,i64 (-1),i64 (-1),i64 (-1)]) Tryz.func20 (.d3 oz0 hc0 hc1)).weak (A_ _) (AD_ (.cons (M_ (by (rw[e];unfold wholeE;(try simp only[Q_] at *);(repeat first|rw[i_ (by omega)]|rw[j_ (by omega)])))) (.cons (M_ (by (simp_all;done))) (.cons (M_ (by (simp_all;done))) (.cons (M_ (by (simp_all;done))) .nil)))))
  ·have gc1:¬u.cl<2∧¬u.cl>16:=gc0_ hc1
   rcases bft (((K_ mdlC u.m).length:Int)==0) with hc2|hc2
   ·have gc2:((K_ mdlC u.m).length:Int)=0:=bet hc2
    exact (cR_ [r_,.r [] [cr oz0],d_,.r [] [o_,o_,o_,.sel 1],d_,r_,b_,r_] (AV.agg [i64 12,i64 (-1),i64 (-1),i64 (-1)]) Tryz.func20 (.d4 oz0 hc0 hc1 hc2)).weak (A_ _) (AD_ (.cons (M_ (by (rw[e];unfold wholeE;(try simp only[Q_] at *);(repeat first|rw[i_ (by omega)]|rw[j_ (by omega)])))) (.cons (M_ (by (simp_all;done))) (.cons (M_ (by (simp_all;done))) (.cons (M_ (by (simp_all;done))) .nil)))))
   ·have gc2:¬((K_ mdlC u.m).length:Int)=0:=bef hc2
    exact (cR_ [r_,.r [] [cr oz0],d_,.r [] [o_,o_,o_,.sel 1],d_,r_,d_,r_,b_,r_] (AV.agg [i64 4,i64 (-1),i64 (-1),i64 (-1)]) Tryz.func20 (.d5 oz0 hc0 hc1 hc2 (decide_eq_true (p:=(((K_ mdlC u.m).length:Int)>3)) (by omega)))).weak (A_ _) (AD_ (.cons (M_ (by (rw[e];unfold wholeE;(try simp only[Q_] at *);(repeat first|rw[i_ (by omega)]|rw[j_ (by omega)])))) (.cons (M_ (by (simp_all;done))) (.cons (M_ (by (simp_all;done))) (.cons (M_ (by (simp_all;done))) .nil)))))
theorem rvbundle_y (u:Bun) (ok:u.Ok) (sm:u.Sm) (w:wholeE u=0) (h:∀ j,j<u.m.length→mE u j=⟨0,0,0,0⟩):VC N_ 20 ([bun u]) (flt ⟨0,0,0,0⟩):=by
 have q5:=sm.l
 obtain ⟨w1,w2,w3,w4,w5⟩:=wholeE_0 w
 obtain ⟨w6,w7,w8⟩:In64 u.h∧In64 u.x∧In64 u.c:=⟨ok.h,ok.x,ok.c⟩
 have oz0:=@refElems_v (u.h) (u.x) (u.c) w6 w7 w8
 have oz2:=(decide_eq_false (p:=(u.cl<2)) (by omega))
 have oz10:=@rvb_oy (u) ok sm h
 exact cR_ [r_,.r [] [cr oz0],d_,.r [] [e_,e_,e_,f_],d_,r_,d_,r_,d_,r_,.code [.any (rg [(0,1),(12,4),(17,8),(26,4),(31,4)]),.weak 3 (i64 (↑0:Int)),.sort] (AI_ 0) (zO oz10),r_] _ Tryz.func20 (.c8 oz0 (show (elems u.h u.x u.c==0)=false by (refine decide_eq_false ?_;omega)) oz2 oz2 oz2 oz2 (decide_eq_false (p:=(u.cl>16)) (by omega)) (show (((K_ mdlC u.m).length:Int)==0)=false by (simp only[E_,F_,I_,J_,ne_eq,H_,G_,U_,T_,AH_,BM_,AJ_,Classical.not_not,BI_,CZ_,O_,P_,W_,R_,B_,BU_,BO_,AG_,BY_,BN_,eqNums,Q_,AW_,AO_,AS_,BA_,AB_,BT_,BX_,BV_,AF_,BR_,BQ_];(first|done|with_reducible assumption|omega|contradiction)))<|.d3 (show decide (((K_ mdlC u.m).length:Int)>3)=false by (simp;omega)) w0_ oz10)
theorem rvbundle_na (u:Bun) (m:Nat) (ok:u.Ok) (sm:u.Sm) (w:wholeE u=0) (hm:m<u.m.length) (hf:(u.m.getD m default).l.length=0∨6<(u.m.getD m default).l.length) (h:∀ j,j<m→mE u j=⟨0,0,0,0⟩):VC N_ 20 ([bun u]) (flt (mE u m)):=by
 have q5:=sm.l
 obtain ⟨w1,w2,w3,w4,w5⟩:=wholeE_0 w
 obtain ⟨w6,w7,w8⟩:In64 u.h∧In64 u.x∧In64 u.c:=⟨ok.h,ok.x,ok.c⟩
 have oz0:=@refElems_v (u.h) (u.x) (u.c) w6 w7 w8
 have oz2:=(decide_eq_false (p:=(u.cl<2)) (by omega))
 have oz10:=@rvb_oa (u) (m) ok sm hm hf h
 exact cR_ [r_,.r [] [cr oz0],d_,.r [] [e_,e_,e_,f_],d_,r_,d_,r_,d_,r_,.code [.any (rg [(0,1),(12,4),(17,8),(26,4),(31,4)]),.weak 3 (i64 (↑0:Int)),.sort] (Exit.ret) (zO oz10)] _ Tryz.func20 (.c8 oz0 (show (elems u.h u.x u.c==0)=false by (refine decide_eq_false ?_;omega)) oz2 oz2 oz2 oz2 (decide_eq_false (p:=(u.cl>16)) (by omega)) (show (((K_ mdlC u.m).length:Int)==0)=false by (simp only[E_,F_,I_,J_,ne_eq,H_,G_,U_,T_,AH_,BM_,AJ_,Classical.not_not,BI_,CZ_,O_,P_,W_,R_,B_,BU_,BO_,AG_,BY_,BN_,eqNums,Q_,AW_,AO_,AS_,BA_,AB_,BT_,BX_,BV_,AF_,BR_,BQ_];(first|done|with_reducible assumption|omega|contradiction)))<|.d3 (show decide (((K_ mdlC u.m).length:Int)>3)=false by (simp;omega)) w0_ oz10)
theorem rvbundle_nb (u:Bun) (m i:Nat) (ok:u.Ok) (sm:u.Sm) (w:wholeE u=0) (hm:m<u.m.length) (h6:(u.m.getD m default).l.length≤6) (hi:i<(u.m.getD m default).l.length) (hf:(vB (u.m.getD m default).l u.inp u.cl i).2≠0) (hb:∀ k,k<i→(vB (u.m.getD m default).l u.inp u.cl k).2=0) (h:∀ j,j<m→mE u j=⟨0,0,0,0⟩):VC N_ 20 ([bun u]) (flt ⟨(vB (u.m.getD m default).l u.inp u.cl i).2,m,i,(vB (u.m.getD m default).l u.inp u.cl i).1⟩):=by
 have q5:=sm.l
 obtain ⟨w1,w2,w3,w4,w5⟩:=wholeE_0 w
 obtain ⟨w6,w7,w8⟩:In64 u.h∧In64 u.x∧In64 u.c:=⟨ok.h,ok.x,ok.c⟩
 have oz0:=@refElems_v (u.h) (u.x) (u.c) w6 w7 w8
 have oz2:=(decide_eq_false (p:=(u.cl<2)) (by omega))
 have oz10:=@rvb_ob (u) (m) (i) ok sm hm h6 hi hf hb h
 exact cR_ [r_,.r [] [cr oz0],d_,.r [] [e_,e_,e_,f_],d_,r_,d_,r_,d_,r_,.code [.any (rg [(0,1),(12,4),(17,8),(26,4),(31,4)]),.weak 3 (i64 (↑0:Int)),.sort] (Exit.ret) (zO oz10)] _ Tryz.func20 (.c8 oz0 (show (elems u.h u.x u.c==0)=false by (refine decide_eq_false ?_;omega)) oz2 oz2 oz2 oz2 (decide_eq_false (p:=(u.cl>16)) (by omega)) (show (((K_ mdlC u.m).length:Int)==0)=false by (simp only[E_,F_,I_,J_,ne_eq,H_,G_,U_,T_,AH_,BM_,AJ_,Classical.not_not,BI_,CZ_,O_,P_,W_,R_,B_,BU_,BO_,AG_,BY_,BN_,eqNums,Q_,AW_,AO_,AS_,BA_,AB_,BT_,BX_,BV_,AF_,BR_,BQ_];(first|done|with_reducible assumption|omega|contradiction)))<|.d3 (show decide (((K_ mdlC u.m).length:Int)>3)=false by (simp;omega)) w0_ oz10)
theorem rvbundle_v (u:Bun) (ok:u.Ok) (sm:u.Sm):VC N_ 20 [bun u] (flt (bunE u)):=by
 rcases bunE_cases u with h|⟨w,h⟩|⟨w,m,h1,h2,h3⟩
 ·exact rvbundle_a u ok sm h
 ·rw[bunE_y w h];exact rvbundle_y u ok sm w h
 ·rw[bunE_m w h1 h2 h3]
  rcases modelE_cases (u.m.getD m default).l u.inp u.cl with ⟨g0,g6,g⟩|g|⟨g6,i,g1,g2,g3⟩
  ·exact absurd (by rw[show mE u m=⟨0,0,0,0⟩ from modelE_y g0 g6 g]) h2
  ·exact rvbundle_na u m ok sm w h1 g h3
  ·rw[show mE u m=_ from modelE_m g6 g1 g2 g3];exact rvbundle_nb u m i ok sm w h1 g6 g1 g2 g3 h3
end Go.Proofs.YtdmkhinckljddaaGreatDoor
