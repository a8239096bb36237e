/- A part of this claim. No condition. -/
import Derived.Test.YtdmkhinckljddaaGreatDoorReportCountsG3
set_option maxRecDepth 100000
set_option maxHeartbeats 2000000
set_option linter.unusedVariables false
set_option linter.unusedSimpArgs false
set_option linter.unnecessarySimpa false
namespace Go.Proofs.YtdmkhinckljddaaGreatDoor
open Go.RowKit
open BlkW renaming rows→BB_
open Bool renaming and_eq_true→M_,and_eq_false_iff→P_,or_eq_false_iff→R_,not_eq_false'→V_,not_eq_true'→W_,or_eq_true→A_,and_true→AM_,false_and→AI_,not_true→BN_,false_or→BO_,not_false→BQ_,and_false→BR_,true_and→BV_,or_false→BA_,not_eq_eq_eq_not→BE_
open Exit renaming exit→BM_
open Int renaming toNat_natCast→BU_,not_lt→CW_
open IntKind renaming i64→O_
open List renaming map→K_,getElem?_eq_getElem→S_,length_map→T_,map_replicate→U_,map_append→X_,map_cons→Z_,map_take→AK_,map_drop→AL_,getD_eq_getElem?_getD→AN_,map_nil→AP_,map_set→AR_,eq_nil_of_length_eq_zero→AX_,length_cons→AY_,length_append→AZ_,mem_of_getElem?→AE_,length_nil→BK_,length_replicate→BX_,length_take→BF_,append_assoc→BH_,map_eq_nil_iff→CN_,length_drop→CO_,length_range→CP_,length_set→CU_
open Nat renaming le_refl→AU_,zero_add→BP_
open Tryz renaming prog→L_
open Value renaming string→Q_,int→AV_,slice→AC_
open Weak renaming int→N_,tup→AJ_,agg→BL_
open WeakL renaming refl→D_
def depthE (t:Shp) (n:Nod):Shp×Int :=
 if (slideE t n.nk n.ns n.np t.c).2≠0 then (⟨0,0,0⟩,(slideE t n.nk n.ns n.np t.c).2)
 else if (n.w.length:Int)≠t.c*n.nk*n.nk∨16384<(n.w.length:Int)∨(n.b.length:Int)≠t.c then (⟨0,0,0⟩,9) else ((slideE t n.nk n.ns n.np t.c).1,0)
theorem depthShape_v (t:Shp) (n:Nod) (ok:t.Ok) (okn:n.Ok):VC L_ 114 ([shp t,nod n]) (.tup [shp (depthE t n).1,i64 (depthE t n).2]):=by
 have q2:=ok.c
 have q3:=fun h=>wts_bd (t:=t) (k:=n.nk) (s:=n.ns) (p:=n.np) (o:=t.c) h
 have oz0:=@slide_v (t) (n.nk) (n.ns) (n.np) (t.c) ok q2
 rcases bft ((slideE t n.nk n.ns n.np t.c).snd != 0) with hc0|hc0
 ·have gc0:¬(slideE t n.nk n.ns n.np t.c).snd=0:=bdt hc0
  exact (cR_ [r_,.r [] [cr oz0],r_,b_,r_] (AV.tup [AV.agg [i64 0,i64 0,i64 0],i64 (slideE t n.nk n.ns n.np t.c).snd]) Tryz.func114 (.d2 oz0 hc0)).to (by (simp only[depthE];rw[i_ (by omega)]))
 ·have gc0:(slideE t n.nk n.ns n.np t.c).snd=0:=bdf hc0
  have oz2:=(i6n (t.c*n.nk) (by omega))
  have oz3:=(i6n (t.c*n.nk*n.nk) (by omega))
  rcases bft (((K_ (row1 .i8) n.w).length:Int) != t.c*n.nk*n.nk || decide (((K_ (row1 .i8) n.w).length:Int)>16384) || ((K_ (row1 .i32) n.b).length:Int) != t.c) with hc1|hc1
  ·have gc1:(¬((K_ (row1 .i8) n.w).length:Int)=t.c*n.nk*n.nk∨((K_ (row1 .i8) n.w).length:Int)>16384)∨¬((K_ (row1 .i32) n.b).length:Int)=t.c:=gc0_ hc1
   exact (cR_ [r_,.r [] [cr oz0],r_,d_,.r [] [.n (nO oz2),.n (nO oz3),o_,o_,o_,o_,.sel 1,o_,o_,o_,o_,o_,o_,.sel 1],b_,r_] (AV.tup [AV.agg [i64 0,i64 0,i64 0],i64 9]) Tryz.func114 (.d5 oz0 hc0 oz2 oz3 hc1)).to (by (simp only[depthE,T_] at *;rw[j_ (by omega),i_ (by omega)]))
  ·have gc1:(((K_ (row1 .i8) n.w).length:Int)=t.c*n.nk*n.nk∧¬((K_ (row1 .i8) n.w).length:Int)>16384)∧((K_ (row1 .i32) n.b).length:Int)=t.c:=gc0_ hc1
   exact (cR_ [r_,.r [] [cr oz0],r_,d_,.r [] [.n (nO oz2),.n (nO oz3),o_,o_,o_,o_,.sel 1,o_,o_,o_,o_,o_,o_,.sel 1],d_,r_] (AV.tup [AV.agg [i64 (slideE t n.nk n.ns n.np t.c).fst.h,i64 (slideE t n.nk n.ns n.np t.c).fst.x,i64 (slideE t n.nk n.ns n.np t.c).fst.c],i64 0]) Tryz.func114 (.d5 oz0 hc0 oz2 oz3 hc1)).to (by (simp only[depthE,T_] at *;rw[j_ (by omega),j_ (by omega)]))
theorem elems_in (h x c:Int):0≤elems h x c∧elems h x c≤1024:=by
 unfold elems;split
 ·rename_i g
  have:=Int.mul_nonneg (Int.mul_nonneg (s_ (0≤h)) (s_ (0≤x))) (s_ (0≤c))
  omega
 ·omega
def denseE (t:Shp) (n:Nod):Shp×Int :=
 if elems t.h t.x t.c=0∨elems 1 1 n.no=0 then (⟨0,0,0⟩,5)
 else if (n.w.length:Int)≠n.no*elems t.h t.x t.c∨16384<(n.w.length:Int)∨(n.b.length:Int)≠n.no then (⟨0,0,0⟩,9) else (⟨1,1,n.no⟩,0)
theorem denseShape_v (t:Shp) (n:Nod) (ok:t.Ok) (okn:n.Ok):VC L_ 115 ([shp t,nod n]) (.tup [shp (denseE t n).1,i64 (denseE t n).2]):=by
 obtain ⟨p1,p2,p3⟩:=id ok
 have q2:=elems_in t.h t.x t.c
 have q3:=elems_in 1 1 n.no
 have q4:0<elems 1 1 n.no→1≤n.no∧n.no≤1024:=fun h=>by have:=elems_ok h;omega
 have q5:0<elems 1 1 n.no→0≤n.no*elems t.h t.x t.c∧n.no*elems t.h t.x t.c≤1024*1024:=fun h=>mul_bd (by have:=q4 h;omega) (q4 h).2 q2.1 q2.2
 have oz0:=@sRight_v (t) ok
 have oz1:=@sRight_v (Shp.mk 1 1 n.no) (by (exact Shp.mk_ok ⟨by decide,by decide⟩ ⟨by decide,by decide⟩ okn.no))
 rcases bft (!decide (0<elems t.h t.x t.c) || !decide (0<elems 1 1 n.no)) with hc0|hc0
 ·have gc0:¬0<elems t.h t.x t.c∨¬0<elems 1 1 n.no:=gc0_ hc0
  exact (cR_ [r_,r_,.r [] [cr oz0,o_,o_,cr oz1,o_,.sel 1],b_,r_] (AV.tup [AV.agg [i64 0,i64 0,i64 0],i64 5]) Tryz.func115 (.d3 oz0 oz1 hc0)).to (by (simp only[denseE];rw[i_ (by omega)]))
 ·have gc0:0<elems t.h t.x t.c∧0<elems 1 1 n.no:=gc0_ hc0
  have oz3:=@elems_v (t.h) (t.x) (t.c) p1 p2 p3
  have oz4:=(i6n (n.no*elems t.h t.x t.c) (by omega))
  rcases bft (((K_ (row1 .i8) n.w).length:Int) != n.no*elems t.h t.x t.c || decide (((K_ (row1 .i8) n.w).length:Int)>16384) || ((K_ (row1 .i32) n.b).length:Int) != n.no) with hc1|hc1
  ·have gc1:(¬((K_ (row1 .i8) n.w).length:Int)=n.no*elems t.h t.x t.c∨((K_ (row1 .i8) n.w).length:Int)>16384)∨¬((K_ (row1 .i32) n.b).length:Int)=n.no:=gc0_ hc1
   exact (cR_ [r_,r_,.r [] [cr oz0,o_,o_,cr oz1,o_,.sel 1],d_,.r [] [cr oz3,.n (nO oz4),o_,o_,o_,o_,.sel 1,o_,o_,o_,o_,o_,o_,.sel 1],b_,r_] (AV.tup [AV.agg [i64 0,i64 0,i64 0],i64 9]) Tryz.func115 (.d6 oz0 oz1 hc0 oz3 oz4 hc1)).to (by (simp only[denseE,T_] at *;rw[j_ (by omega),i_ (by omega)]))
  ·have gc1:(((K_ (row1 .i8) n.w).length:Int)=n.no*elems t.h t.x t.c∧¬((K_ (row1 .i8) n.w).length:Int)>16384)∧((K_ (row1 .i32) n.b).length:Int)=n.no:=gc0_ hc1
   exact (cR_ [r_,r_,.r [] [cr oz0,o_,o_,cr oz1,o_,.sel 1],d_,.r [] [cr oz3,.n (nO oz4),o_,o_,o_,o_,.sel 1,o_,o_,o_,o_,o_,o_,.sel 1],d_,r_] (AV.tup [AV.agg [i64 1,i64 1,i64 n.no],i64 0]) Tryz.func115 (.d6 oz0 oz1 hc0 oz3 oz4 hc1)).to (by (simp only[denseE,T_] at *;rw[j_ (by omega),j_ (by omega)]))
def aroundE (a:Shp) (p:Int):Shp×Int:=if p<0∨4<p then (⟨0,0,0⟩,2) else if elems (a.h+2*p) (a.x+2*p) a.c=0 then (⟨0,0,0⟩,5) else (⟨a.h+2*p,a.x+2*p,a.c⟩,0)
def shapeE (n:Nod) (a b:Shp):Shp×Int :=
 if n.kd=1 then convE a n else if n.kd=2 then depthE a n else if n.kd=3 then denseE a n else if n.kd=4∨n.kd=5 then slideE a n.nk n.ns n.np a.c
 else if n.kd<1∨9<n.kd then (⟨0,0,0⟩,6) else if elems a.h a.x a.c=0∨(n.kd=6∧¬(a.h=b.h∧a.x=b.x∧a.c=b.c)) then (⟨0,0,0⟩,5)
 else if n.kd=9 then (⟨1,1,elems a.h a.x a.c⟩,0) else if n.kd=8 then
  aroundE a n.np else (a,0)
theorem around_v (a:Shp) (p:Int) (ok:a.Ok) (h0:0<elems a.h a.x a.c):VC L_ 135 ([shp a,i64 p]) (.tup [shp (aroundE a p).1,i64 (aroundE a p).2]):=by
 have q:=elems_ok h0
 have q2:=elems_in (a.h+2*p) (a.x+2*p) a.c
 have q3:=ok.c
 rcases bft (decide (p<0) || decide (p>4)) with hc0|hc0
 ·have gc0:p<0∨p>4:=gc0_ hc0
  exact (cR_ [r_,.r [] [o_,o_,.sel 1],b_,r_] (AV.tup [AV.agg [i64 0,i64 0,i64 0],i64 2]) Tryz.func135 (.d hc0)).weak (D_ _) (AJ_ (.cons (BL_ (.cons (N_ (by (unfold aroundE;(repeat first|rw[i_ (by omega)]|rw[j_ (by omega)])))) (.cons (N_ (by (unfold aroundE;(repeat first|rw[i_ (by omega)]|rw[j_ (by omega)])))) (.cons (N_ (by (unfold aroundE;(repeat first|rw[i_ (by omega)]|rw[j_ (by omega)])))) .nil)))) (.cons (N_ (by (unfold aroundE;(repeat first|rw[i_ (by omega)]|rw[j_ (by omega)])))) .nil)))
 ·have gc0:¬p<0∧¬p>4:=gc0_ hc0
  have oz1:=(i6n (2*p) (by omega))
  have oz2:=(i6n (a.h+2*p) (by omega))
  have oz4:=(i6n (a.x+2*p) (by omega))
  have oz5:=@sRight_v (Shp.mk (a.h+2*p) (a.x+2*p) a.c) (by (exact Shp.mk_ok ⟨by omega,by omega⟩ ⟨by omega,by omega⟩ q3))
  rcases bft (!decide (0<elems (a.h+2*p) (a.x+2*p) a.c)) with hc1|hc1
  ·have gc1:=bnt hc1
   exact (cR_ [r_,.r [] [o_,o_,.sel 1],d_,.r [] [.n (nO oz1),.n (nO oz2),.n (nO oz1),.n (nO oz4)],.r [] [cr oz5],b_,r_] (AV.tup [AV.agg [i64 0,i64 0,i64 0],i64 5]) Tryz.func135 (.d7 hc0 oz1 oz2 oz1 oz4 oz5 hc1)).weak (D_ _) (AJ_ (.cons (BL_ (.cons (N_ (by (unfold aroundE;(repeat first|rw[i_ (by omega)]|rw[j_ (by omega)])))) (.cons (N_ (by (unfold aroundE;(repeat first|rw[i_ (by omega)]|rw[j_ (by omega)])))) (.cons (N_ (by (unfold aroundE;(repeat first|rw[i_ (by omega)]|rw[j_ (by omega)])))) .nil)))) (.cons (N_ (by (unfold aroundE;(repeat first|rw[i_ (by omega)]|rw[j_ (by omega)])))) .nil)))
  ·have gc1:=bnf hc1
   exact (cR_ [r_,.r [] [o_,o_,.sel 1],d_,.r [] [.n (nO oz1),.n (nO oz2),.n (nO oz1),.n (nO oz4)],.r [] [cr oz5],d_,r_] (AV.tup [AV.agg [i64 (a.h+2*p),i64 (a.x+2*p),i64 a.c],i64 0]) Tryz.func135 (.d7 hc0 oz1 oz2 oz1 oz4 oz5 hc1)).weak (D_ _) (AJ_ (.cons (BL_ (.cons (N_ (by (unfold aroundE;(repeat first|rw[i_ (by omega)]|rw[j_ (by omega)])))) (.cons (N_ (by (unfold aroundE;(repeat first|rw[i_ (by omega)]|rw[j_ (by omega)])))) (.cons (N_ (by (unfold aroundE;(repeat first|rw[i_ (by omega)]|rw[j_ (by omega)])))) .nil)))) (.cons (N_ (by (unfold aroundE;(repeat first|rw[i_ (by omega)]|rw[j_ (by omega)])))) .nil)))
theorem plainShape_v (n:Nod) (a b:Shp) (ok:a.Ok) (okb:b.Ok) (hk:6≤n.kd) (hk9:n.kd≤9):VC L_ 117 ([nod n,shp a,shp b]) (.tup [shp (shapeE n a b).1,i64 (shapeE n a b).2]):=by
 obtain ⟨p1,p2,p3⟩:=id ok
 have q2:=elems_in a.h a.x a.c
 have oz0:=@sRight_v (a) ok
 rcases bft (!decide (0<elems a.h a.x a.c)) with hc0|hc0
 ·have gc0:=bnt hc0
  exact (cR_ [r_,.r [] [cr oz0],b_,r_] (AV.tup [AV.agg [i64 0,i64 0,i64 0],i64 5]) Tryz.func117 (.d2 oz0 hc0)).weak (D_ _) (AJ_ (.cons (BL_ (.cons (N_ (by (unfold shapeE;(repeat first|rw[i_ (by omega)]|rw[j_ (by omega)])))) (.cons (N_ (by (unfold shapeE;(repeat first|rw[i_ (by omega)]|rw[j_ (by omega)])))) (.cons (N_ (by (unfold shapeE;(repeat first|rw[i_ (by omega)]|rw[j_ (by omega)])))) .nil)))) (.cons (N_ (by (unfold shapeE;(repeat first|rw[i_ (by omega)]|rw[j_ (by omega)])))) .nil)))
 ·have gc0:=bnf hc0
  rcases bft (n.kd==6) with hc1|hc1
  ·have gc1:n.kd=6:=bet hc1
   have oz3:=(show BinTo L_ BinOp.neq 23 (Operand.tmp 16) (Operand.tmp 17) (Value.agg #[AV_ O_ a.h,AV_ O_ a.x,AV_ O_ a.c]) (Value.agg #[AV_ O_ b.h,AV_ O_ b.x,AV_ O_ b.c]) (Value.bool !eqNums [(O_,a.h,b.h),(O_,a.x,b.x),(O_,a.c,b.c)]) from ((bin_nums (l:=[(O_,a.h,b.h),(O_,a.x,b.x),(O_,a.c,b.c)]) (by kernel_rfl) (by kernel_rfl) (by kernel_rfl) (by kernel_rfl) _ _).2))
   rcases bft (!eqNums [(O_,a.h,b.h),(O_,a.x,b.x),(O_,a.c,b.c)]) with hc2|hc2
   ·have gc2:¬(a.h=b.h∧a.x=b.x∧a.c=b.c):=gc0_ hc2
    exact (cR_ [r_,.r [] [cr oz0],d_,r_,r_,b_,.r [] [.v (Value.bool !eqNums [(O_,a.h,b.h),(O_,a.x,b.x),(O_,a.c,b.c)])],b_,r_] (AV.tup [AV.agg [i64 0,i64 0,i64 0],i64 5]) Tryz.func117 (.d5 oz0 hc0 hc1 oz3 hc2)).weak (D_ _) (AJ_ (.cons (BL_ (.cons (N_ (by (unfold shapeE;(repeat first|rw[i_ (by omega)]|rw[j_ (by omega)])))) (.cons (N_ (by (unfold shapeE;(repeat first|rw[i_ (by omega)]|rw[j_ (by omega)])))) (.cons (N_ (by (unfold shapeE;(repeat first|rw[i_ (by omega)]|rw[j_ (by omega)])))) .nil)))) (.cons (N_ (by (unfold shapeE;(repeat first|rw[i_ (by omega)]|rw[j_ (by omega)])))) .nil)))
   ·have gc2:a.h=b.h∧a.x=b.x∧a.c=b.c:=gc0_ hc2
    exact (cR_ [r_,.r [] [cr oz0],d_,r_,r_,b_,.r [] [.v (Value.bool !eqNums [(O_,a.h,b.h),(O_,a.x,b.x),(O_,a.c,b.c)])],d_,r_] (AV.tup [AV.agg [i64 a.h,i64 a.x,i64 a.c],i64 0]) Tryz.func117 (.d5 oz0 hc0 hc1 oz3 hc2)).weak (D_ _) (AJ_ (.cons (BL_ (.cons (N_ (by (unfold shapeE;(repeat first|rw[i_ (by omega)]|rw[j_ (by omega)])))) (.cons (N_ (by (unfold shapeE;(repeat first|rw[i_ (by omega)]|rw[j_ (by omega)])))) (.cons (N_ (by (unfold shapeE;(repeat first|rw[i_ (by omega)]|rw[j_ (by omega)])))) .nil)))) (.cons (N_ (by (unfold shapeE;(repeat first|rw[i_ (by omega)]|rw[j_ (by omega)])))) .nil)))
  ·have gc1:¬n.kd=6:=bef hc1
   rcases bft (n.kd==8) with hc2|hc2
   ·have gc2:n.kd=8:=bet hc2
    have oz4:=@around_v (a) (n.np) ok gc0
    exact (cR_ [r_,.r [] [cr oz0],d_,r_,r_,d_,r_,b_,.r [] [cr oz4]] (AV.tup [AV.agg [i64 (aroundE a n.np).fst.h,i64 (aroundE a n.np).fst.x,i64 (aroundE a n.np).fst.c],i64 (aroundE a n.np).snd]) Tryz.func117 (.d5 oz0 hc0 hc1 hc2 oz4)).weak (D_ _) (AJ_ (.cons (BL_ (.cons (N_ (by (unfold shapeE;(repeat first|rw[i_ (by omega)]|rw[j_ (by omega)])))) (.cons (N_ (by (unfold shapeE;(repeat first|rw[i_ (by omega)]|rw[j_ (by omega)])))) (.cons (N_ (by (unfold shapeE;(repeat first|rw[i_ (by omega)]|rw[j_ (by omega)])))) .nil)))) (.cons (N_ (by (unfold shapeE;(repeat first|rw[i_ (by omega)]|rw[j_ (by omega)])))) .nil)))
   ·have gc2:¬n.kd=8:=bef hc2
    rcases bft (n.kd==9) with hc3|hc3
    ·have gc3:n.kd=9:=bet hc3
     have oz5:=@elems_v (a.h) (a.x) (a.c) p1 p2 p3
     exact (cR_ [r_,.r [] [cr oz0],d_,r_,r_,d_,r_,d_,r_,b_,.r [] [cr oz5]] (AV.tup [AV.agg [i64 1,i64 1,i64 (elems a.h a.x a.c)],i64 0]) Tryz.func117 (.d6 oz0 hc0 hc1 hc2 hc3 oz5)).weak (D_ _) (AJ_ (.cons (BL_ (.cons (N_ (by (unfold shapeE;(repeat first|rw[i_ (by omega)]|rw[j_ (by omega)])))) (.cons (N_ (by (unfold shapeE;(repeat first|rw[i_ (by omega)]|rw[j_ (by omega)])))) (.cons (N_ (by (unfold shapeE;(repeat first|rw[i_ (by omega)]|rw[j_ (by omega)])))) .nil)))) (.cons (N_ (by (unfold shapeE;(repeat first|rw[i_ (by omega)]|rw[j_ (by omega)])))) .nil)))
    ·have gc3:¬n.kd=9:=bef hc3
     exact (cR_ [r_,.r [] [cr oz0],d_,r_,r_,d_,r_,d_,r_,d_,r_] (AV.tup [AV.agg [i64 a.h,i64 a.x,i64 a.c],i64 0]) Tryz.func117 (.d5 oz0 hc0 hc1 hc2 hc3)).weak (D_ _) (AJ_ (.cons (BL_ (.cons (N_ (by (unfold shapeE;(repeat first|rw[i_ (by omega)]|rw[j_ (by omega)])))) (.cons (N_ (by (unfold shapeE;(repeat first|rw[i_ (by omega)]|rw[j_ (by omega)])))) (.cons (N_ (by (unfold shapeE;(repeat first|rw[i_ (by omega)]|rw[j_ (by omega)])))) .nil)))) (.cons (N_ (by (unfold shapeE;(repeat first|rw[i_ (by omega)]|rw[j_ (by omega)])))) .nil)))
theorem kshape_v (n:Nod) (a b:Shp) (ok:a.Ok) (okb:b.Ok) (okn:n.Ok):VC L_ 91 ([nod n,shp a,shp b]) (.tup [shp (shapeE n a b).1,i64 (shapeE n a b).2]):=by
 obtain ⟨p1,p2,p3⟩:=id ok
 rcases bft (n.kd==1) with hc0|hc0
 ·have gc0:n.kd=1:=bet hc0
  have oz1:=@convShape_v (a) (n) ok okn
  exact (cR_ [r_,r_,r_,b_,.r [] [cr oz1]] (AV.tup [AV.agg [i64 (convE a n).fst.h,i64 (convE a n).fst.x,i64 (convE a n).fst.c],i64 (convE a n).snd]) Tryz.func91 (.d2 hc0 oz1)).weak (D_ _) (AJ_ (.cons (BL_ (.cons (N_ (by (unfold shapeE;(repeat first|rw[i_ (by omega)]|rw[j_ (by omega)])))) (.cons (N_ (by (unfold shapeE;(repeat first|rw[i_ (by omega)]|rw[j_ (by omega)])))) (.cons (N_ (by (unfold shapeE;(repeat first|rw[i_ (by omega)]|rw[j_ (by omega)])))) .nil)))) (.cons (N_ (by (unfold shapeE;(repeat first|rw[i_ (by omega)]|rw[j_ (by omega)])))) .nil)))
 ·have gc0:¬n.kd=1:=bef hc0
  rcases bft (n.kd==2) with hc1|hc1
  ·have gc1:n.kd=2:=bet hc1
   have oz2:=@depthShape_v (a) (n) ok okn
   exact (cR_ [r_,r_,r_,d_,r_,b_,.r [] [cr oz2]] (AV.tup [AV.agg [i64 (depthE a n).fst.h,i64 (depthE a n).fst.x,i64 (depthE a n).fst.c],i64 (depthE a n).snd]) Tryz.func91 (.d3 hc0 hc1 oz2)).weak (D_ _) (AJ_ (.cons (BL_ (.cons (N_ (by (unfold shapeE;(repeat first|rw[i_ (by omega)]|rw[j_ (by omega)])))) (.cons (N_ (by (unfold shapeE;(repeat first|rw[i_ (by omega)]|rw[j_ (by omega)])))) (.cons (N_ (by (unfold shapeE;(repeat first|rw[i_ (by omega)]|rw[j_ (by omega)])))) .nil)))) (.cons (N_ (by (unfold shapeE;(repeat first|rw[i_ (by omega)]|rw[j_ (by omega)])))) .nil)))
  ·have gc1:¬n.kd=2:=bef hc1
   rcases bft (n.kd==3) with hc2|hc2
   ·have gc2:n.kd=3:=bet hc2
    have oz3:=@denseShape_v (a) (n) ok okn
    exact (cR_ [r_,r_,r_,d_,r_,d_,r_,b_,.r [] [cr oz3]] (AV.tup [AV.agg [i64 (denseE a n).fst.h,i64 (denseE a n).fst.x,i64 (denseE a n).fst.c],i64 (denseE a n).snd]) Tryz.func91 (.d4 hc0 hc1 hc2 oz3)).weak (D_ _) (AJ_ (.cons (BL_ (.cons (N_ (by (unfold shapeE;(repeat first|rw[i_ (by omega)]|rw[j_ (by omega)])))) (.cons (N_ (by (unfold shapeE;(repeat first|rw[i_ (by omega)]|rw[j_ (by omega)])))) (.cons (N_ (by (unfold shapeE;(repeat first|rw[i_ (by omega)]|rw[j_ (by omega)])))) .nil)))) (.cons (N_ (by (unfold shapeE;(repeat first|rw[i_ (by omega)]|rw[j_ (by omega)])))) .nil)))
   ·have gc2:¬n.kd=3:=bef hc2
    rcases bft (n.kd==4) with hc3|hc3
    ·have gc3:n.kd=4:=bet hc3
     have oz5:=@slide_v (a) (n.nk) (n.ns) (n.np) (a.c) ok p3
     exact (cR_ [r_,r_,r_,d_,r_,d_,r_,d_,r_,b_,b_,.r [] [cr oz5]] (AV.tup [AV.agg [i64 (slideE a n.nk n.ns n.np a.c).fst.h,i64 (slideE a n.nk n.ns n.np a.c).fst.x,i64 (slideE a n.nk n.ns n.np a.c).fst.c],i64 (slideE a n.nk n.ns n.np a.c).snd]) Tryz.func91 (.d6 hc0 hc1 hc2 hc3 hc3 oz5)).weak (D_ _) (AJ_ (.cons (BL_ (.cons (N_ (by (unfold shapeE;(repeat first|rw[i_ (by omega)]|rw[j_ (by omega)])))) (.cons (N_ (by (unfold shapeE;(repeat first|rw[i_ (by omega)]|rw[j_ (by omega)])))) (.cons (N_ (by (unfold shapeE;(repeat first|rw[i_ (by omega)]|rw[j_ (by omega)])))) .nil)))) (.cons (N_ (by (unfold shapeE;(repeat first|rw[i_ (by omega)]|rw[j_ (by omega)])))) .nil)))
    ·have gc3:¬n.kd=4:=bef hc3
     rcases bft (n.kd==5) with hc4|hc4
     ·have gc4:n.kd=5:=bet hc4
      have oz5:=@slide_v (a) (n.nk) (n.ns) (n.np) (a.c) ok p3
      exact (cR_ [r_,r_,r_,d_,r_,d_,r_,d_,r_,d_,r_,b_,.r [] [cr oz5]] (AV.tup [AV.agg [i64 (slideE a n.nk n.ns n.np a.c).fst.h,i64 (slideE a n.nk n.ns n.np a.c).fst.x,i64 (slideE a n.nk n.ns n.np a.c).fst.c],i64 (slideE a n.nk n.ns n.np a.c).snd]) Tryz.func91 (.d6 hc0 hc1 hc2 hc3 hc4 oz5)).weak (D_ _) (AJ_ (.cons (BL_ (.cons (N_ (by (unfold shapeE;(repeat first|rw[i_ (by omega)]|rw[j_ (by omega)])))) (.cons (N_ (by (unfold shapeE;(repeat first|rw[i_ (by omega)]|rw[j_ (by omega)])))) (.cons (N_ (by (unfold shapeE;(repeat first|rw[i_ (by omega)]|rw[j_ (by omega)])))) .nil)))) (.cons (N_ (by (unfold shapeE;(repeat first|rw[i_ (by omega)]|rw[j_ (by omega)])))) .nil)))
     ·have gc4:¬n.kd=5:=bef hc4
      rcases bft (n.kd==6) with hc5|hc5
      ·have gc5:n.kd=6:=bet hc5
       have oz7:=@plainShape_v (n) (a) (b) ok okb (by omega) (by omega)
       exact cR_ [r_,r_,r_,d_,r_,d_,r_,d_,r_,d_,r_,d_,r_,b_,b_,.r [] [cr oz7]] _ Tryz.func91 (.d8 hc0 hc1 hc2 hc3 hc4 hc5 hc5 oz7)
      ·have gc5:¬n.kd=6:=bef hc5
       rcases bft (n.kd==7) with hc6|hc6
       ·have gc6:n.kd=7:=bet hc6
        have oz8:=@plainShape_v (n) (a) (b) ok okb (by omega) (by omega)
        exact cR_ [r_,r_,r_,d_,r_,d_,r_,d_,r_,d_,r_,d_,r_,d_,r_,b_,b_,.r [] [cr oz8]] _ Tryz.func91 (.c8 hc0 hc1 hc2 hc3 hc4 hc5 hc6 hc6<|.d oz8)
       ·have gc6:¬n.kd=7:=bef hc6
        rcases bft (n.kd==8) with hc7|hc7
        ·have gc7:n.kd=8:=bet hc7
         have oz9:=@plainShape_v (n) (a) (b) ok okb (by omega) (by omega)
         exact cR_ [r_,r_,r_,d_,r_,d_,r_,d_,r_,d_,r_,d_,r_,d_,r_,d_,r_,b_,b_,.r [] [cr oz9]] _ Tryz.func91 (.c8 hc0 hc1 hc2 hc3 hc4 hc5 hc6 hc7<|.d2 hc7 oz9)
        ·have gc7:¬n.kd=8:=bef hc7
         rcases bft (n.kd==9) with hc8|hc8
         ·have gc8:n.kd=9:=bet hc8
          have oz9:=@plainShape_v (n) (a) (b) ok okb (by omega) (by omega)
          exact cR_ [r_,r_,r_,d_,r_,d_,r_,d_,r_,d_,r_,d_,r_,d_,r_,d_,r_,d_,r_,b_,.r [] [cr oz9]] _ Tryz.func91 (.c8 hc0 hc1 hc2 hc3 hc4 hc5 hc6 hc7<|.d2 hc8 oz9)
         ·have gc8:¬n.kd=9:=bef hc8
          exact (cR_ [r_,r_,r_,d_,r_,d_,r_,d_,r_,d_,r_,d_,r_,d_,r_,d_,r_,d_,r_,d_,r_] (AV.tup [AV.agg [i64 0,i64 0,i64 0],i64 6]) Tryz.func91 (.c8 hc0 hc1 hc2 hc3 hc4 hc5 hc6 hc7<|.d hc8)).weak (D_ _) (AJ_ (.cons (BL_ (.cons (N_ (by (unfold shapeE;(repeat first|rw[i_ (by omega)]|rw[j_ (by omega)])))) (.cons (N_ (by (unfold shapeE;(repeat first|rw[i_ (by omega)]|rw[j_ (by omega)])))) (.cons (N_ (by (unfold shapeE;(repeat first|rw[i_ (by omega)]|rw[j_ (by omega)])))) .nil)))) (.cons (N_ (by (unfold shapeE;(repeat first|rw[i_ (by omega)]|rw[j_ (by omega)])))) .nil)))
instance:Inhabited Nod:=⟨⟨0,0,0,0,0,0,0,0,0,[],[],0,0,0,0,0,0,0,0⟩⟩
instance:Inhabited Shp:=⟨⟨0,0,0⟩⟩
abbrev shpC (s:Shp):List AV:=[i64 s.h,i64 s.x,i64 s.c]
def firstBad (p:Nat→Bool):Nat→Nat
 | 0=>0
 | n+1=>if firstBad p n<n then firstBad p n else if p n=true then n+1 else n
theorem firstBad_all {p:Nat→Bool}:∀ {n},(∀ k,k<n→p k=true)→firstBad p n=n
 | 0,_=>rfl
 | n+1,h=>by rw[firstBad,firstBad_all fun k hk=>h k (by omega),j_ (by omega),i_ (h n (by omega))]
theorem firstBad_at {p:Nat→Bool} {m:Nat} (hp:p m=false) (h:∀ k,k<m→p k=true):∀ {n},m<n→firstBad p n=m
 | n+1,hm=>by
  by_cases e:m=n
  ·subst e;rw[firstBad,firstBad_all h,j_ (by omega),j_ (by simp[hp])]
  ·rw[firstBad,firstBad_at hp h (s_ (m<n)),i_ (by omega)]
theorem firstBad_le {p:Nat→Bool}:∀ n,firstBad p n≤n
 | 0=>AU_ _
 | n+1=>by have:=firstBad_le (p:=p) n;rw[firstBad];split<;>(try split)<;>omega
def growL {α:Type} (f:Nod→List α→α×Int) (l:List Nod) (x:α):Nat→List α
 | 0=>[x]
 | k+1=>growL f l x k++[(f (l.getD k default) (growL f l x k)).1]
def errL {α:Type} (f:Nod→List α→α×Int) (l:List Nod) (x:α) (k:Nat):Int:=(f (l.getD k default) (growL f l x k)).2
theorem growL_len {α:Type} (f:Nod→List α→α×Int) (l:List Nod) (x:α):∀ k,(growL f l x k).length=k+1
 | 0=>rfl
 | k+1=>by rw[growL,AZ_,growL_len f l x k];rfl
theorem growL_all {α:Type} {f:Nod→List α→α×Int} {l:List Nod} {x:α} {p:α→Prop} (h0:p x) {n:Nat} (h:∀ k,k<n→(∀ y∈growL f l x k,p y)→p (f (l.getD k default) (growL f l x k)).1):∀ k,k≤n→∀ y∈growL f l x k,p y
 | 0,_=>by intro y hy;simp only[growL,List.mem_singleton] at hy;subst hy;exact h0
 | k+1,hk=>by
  have ih:=growL_all h0 h k (by omega)
  intro y hy
  rw[growL,List.mem_append,List.mem_singleton] at hy
  rcases hy with hy|rfl
  ·exact ih y hy
  ·exact h k (by omega) ih
theorem getD_in {α:Type} [Inhabited α] {l:List α} {p:α→Prop} (h:∀ y∈l,p y) {i:Nat} (hi:i<l.length):p (l.getD i default):=by
 rw[AN_,S_ hi];exact h _ (List.getElem_mem hi)
def takesL (n:Nod):List Int:=if n.kd=6 then [n.na,n.nb] else [n.na]
def secN (n:Nod):Int:=if n.kd=6 then n.nb else n.na
def thereB (n:Nod) (m:Int):Bool:=decide (0≤n.na)&&decide (n.na<m)&&decide (0≤secN n)&&decide (secN n<m)
theorem takes_v (n:Nod)  : VC L_ 112 ([nod n]) (ints .i64 (takesL n)):=by
 rcases bft (n.kd==6) with hc0|hc0
 ·have gc0:n.kd=6:=bet hc0
  exact (cR_ [r_,r_,b_,r_] (AV.sl 1 [[i64 n.na],[i64 n.nb]]) Tryz.func112 (.d hc0)).weak (D_ _) (Weak.rows (rows_to (row1 .i64) (r:=[[i64 n.na],[i64 n.nb]]) (l:=[n.na,n.nb]) (m:=takesL n) (by first|(simp only[X_,Z_,AP_,AR_,U_,AK_,AL_];done)|rfl|(simp only[X_,Z_,AP_,AR_,U_,AK_,AL_];rfl)) (show ([n.na,n.nb])=(takesL n) from (by (unfold takesL;rw[i_ (by simp_all)])))))
 ·have gc0:¬n.kd=6:=bef hc0
  exact (cR_ [r_,r_,d_,r_] (AV.sl 1 [[i64 n.na]]) Tryz.func112 (.d hc0)).weak (D_ _) (Weak.rows (rows_to (row1 .i64) (r:=[[i64 n.na]]) (l:=[n.na]) (m:=takesL n) (by first|(simp only[X_,Z_,AP_,AR_,U_,AK_,AL_];done)|rfl|(simp only[X_,Z_,AP_,AR_,U_,AK_,AL_];rfl)) (show ([n.na])=(takesL n) from (by (unfold takesL;rw[j_ (by simp_all)])))))
theorem takes_len (n:Nod):1≤(takesL n).length∧(takesL n).length≤2:=by unfold takesL;split<;>simp
theorem takes_last (n:Nod) {i:Nat} (hi:i=(takesL n).length-1):(takesL n).getD i 0=secN n:=by subst hi;unfold takesL secN;split<;>rfl
theorem takes_there (n:Nod) (m:Int):(∀ k,k<(takesL n).length→decide (0≤(takesL n).getD k 0∧(takesL n).getD k 0<m)=true)↔thereB n m=true:=by
 unfold takesL thereB secN
 split
 ·simp only[AY_,BK_,M_,E_]
  constructor
  ·intro h
   have h0:=h 0 (by omega);have h1:=h 1 (by omega)
   simp only[List.getD_cons_zero,List.getD_cons_succ] at h0 h1
   omega
  ·intro h k hk
   match k,hk with
   | 0,_=>simp only[List.getD_cons_zero];omega
   | 1,_=>simp only[List.getD_cons_zero,List.getD_cons_succ];omega
   | k+2,hk=>omega
 ·simp only[AY_,BK_,M_,E_]
  constructor
  ·intro h
   have h0:=h 0 (by omega)
   simp only[List.getD_cons_zero] at h0
   omega
  ·intro h k hk
   have:k=0:=by omega
   subst this
   simp only[List.getD_cons_zero];omega
noncomputable def there_ly_I (l:List Int) (m:Int) (k:Nat):VS:=stt 22 [(1,i64 m),(8,ints .i64 l),(9,i64 l.length),(10,i64 k)] []
noncomputable def there_ly_Z (l:List Int) (m:Int):VS:=there_ly_I l m (l.length)
theorem there_ly_s (l:List Int) (m:Int) (hl:l.length≤1000) (h:∀ k,k<l.length→0≤l.getD k 0∧l.getD k 0<m) (k:Nat) (hk:k<l.length):VT L_ (fnC Tryz.f90 [1,0,1,0,0]) (there_ly_I l m k) .normal (there_ly_I l m (k+1)):=by
 have q:=h k hk
 have oz3:=(decide_eq_false (p:=(l.getD k 0<0)) (by omega))
 exact tR_ [r_,b_,.r [] [.row [i64 (l.getD k 0)]],.r [] [e_,e_,e_,f_],d_,.r [] [.n ((↑k:Int)+1)]] [.any (rg [(6,1),(11,11)]),.weak 10 (i64 (↑(k+1):Int)),.sort] (.c8 (decide_eq_true (p:=((↑k:Int)<(l.length:Int))) (by omega)) (s_ (0≤(↑k:Int))) (map_at (row1 .i64) (0) (l:=l) (i:=k) hk) oz3 oz3 oz3 oz3 (decide_eq_false (p:=(l.getD k 0≥m)) (by omega))<|.d2 (i6n ((↑k:Int)+1) (by omega)) (wS_ k))
theorem there_ly_e (l:List Int) (m:Int) (hl:l.length≤1000) (h:∀ k,k<l.length→0≤l.getD k 0∧l.getD k 0<m):VT L_ (fnC Tryz.f90 [1,0,1,0,0]) (there_ly_I l m (l.length)) (.exit 0) (there_ly_Z l m):=by
 exact tR_ [r_,d_] [.any [11],.sort] (.d (decide_eq_false (p:=((l.length:Int)<(l.length:Int))) (by omega)))
theorem there_ly (l:List Int) (m:Int) (hl:l.length≤1000) (h:∀ k,k<l.length→0≤l.getD k 0∧l.getD k 0<m):VT L_ (fnC Tryz.f90 [1,0,1,0]) (there_ly_I l m 0) (.exit 0) (there_ly_Z l m) :=
 VT.loop (fun k=>there_ly_I l m k) (l.length) (fun k hk=>there_ly_s l m hl h k hk) (there_ly_e l m hl h) (by intro h;cases h)
noncomputable def there_ln_I (l:List Int) (m:Int) (j:Nat) (k:Nat):VS:=stt 22 [(1,i64 m),(8,ints .i64 l),(9,i64 l.length),(10,i64 k)] []
noncomputable def there_ln_Z (l:List Int) (m:Int) (j:Nat):VS:=stt 22 [(4,bv false)] []
theorem there_ln_s (l:List Int) (m:Int) (j:Nat) (hl:l.length≤1000) (hj:j<l.length) (hf:¬ (0≤l.getD j 0∧l.getD j 0<m)) (h:∀ k,k<j→0≤l.getD k 0∧l.getD k 0<m) (k:Nat) (hk:k<j):VT L_ (fnC Tryz.f90 [1,0,1,0,0]) (there_ln_I l m j k) .normal (there_ln_I l m j (k+1)):=by
 have q:=h k hk
 have oz3:=(decide_eq_false (p:=(l.getD k 0<0)) (by omega))
 exact tR_ [r_,b_,.r [] [.row [i64 (l.getD k 0)]],.r [] [e_,e_,e_,f_],d_,.r [] [.n ((↑k:Int)+1)]] [.any (rg [(6,1),(11,11)]),.weak 10 (i64 (↑(k+1):Int)),.sort] (.c8 (decide_eq_true (p:=((↑k:Int)<(l.length:Int))) (by omega)) (s_ (0≤(↑k:Int))) (map_at (row1 .i64) (0) (l:=l) (i:=k) (by omega)) oz3 oz3 oz3 oz3 (decide_eq_false (p:=(l.getD k 0≥m)) (by omega))<|.d2 (i6n ((↑k:Int)+1) (by omega)) (wS_ k))
theorem there_ln_e (l:List Int) (m:Int) (j:Nat) (hl:l.length≤1000) (hj:j<l.length) (hf:¬ (0≤l.getD j 0∧l.getD j 0<m)) (h:∀ k,k<j→0≤l.getD k 0∧l.getD k 0<m):VT L_ (fnC Tryz.f90 [1,0,1,0,0]) (there_ln_I l m j (j)) (.ret) (there_ln_Z l m j):=by
 exact tR_ [r_,b_,.r [] [.row [i64 (l.getD j 0)]],.r [] [o_,o_,o_,.sel 1],b_,r_] [.any (rg [(1,1),(6,1),(8,9),(20,1)]),.sort] (.d4 (decide_eq_true (p:=((↑j:Int)<(l.length:Int))) (by omega)) (s_ (0≤(↑j:Int))) (map_at (row1 .i64) (0) (l:=l) (i:=j) hj) (show (decide (l.getD j 0<0) || decide (l.getD j 0≥m))=true by (simp at *;omega)))
theorem there_ln (l:List Int) (m:Int) (j:Nat) (hl:l.length≤1000) (hj:j<l.length) (hf:¬ (0≤l.getD j 0∧l.getD j 0<m)) (h:∀ k,k<j→0≤l.getD k 0∧l.getD k 0<m):VT L_ (fnC Tryz.f90 [1,0,1,0]) (there_ln_I l m j 0) (.ret) (there_ln_Z l m j) :=
 VT.loop (fun k=>there_ln_I l m j k) (j) (fun k hk=>there_ln_s l m j hl hj hf h k hk) (there_ln_e l m j hl hj hf h) (by intro h;cases h)
theorem there_y (n:Nod) (m:Int) (h:∀ k,k<(takesL n).length→0≤(takesL n).getD k 0∧(takesL n).getD k 0<m):VC L_ 90 ([nod n,i64 m]) (bv true):=by
 have q:=takes_len n
 have oz0:=@takes_v (n)
 have oz1:=(N_ (k:=.i64) (show ((((K_ (row1 .i64) (takesL n)).length:Int)):Int)=(((takesL n).length:Int)) from (by (simp;done))))
 have oz3:=@there_ly (takesL n) (m) (by omega) h
 exact cR_ [r_,.r [] [cr oz0],.code [.any [0,2,4,7],.drop [2],.weak 9 (wO oz1),.weak 10 (i64 (↑0:Int)),.sort] (BM_ 0) (zO oz3),r_] _ Tryz.func90 (.d4 oz0 oz1 w0_ oz3)
theorem there_n (n:Nod) (m:Int) (j:Nat) (hj:j<(takesL n).length) (hf:¬ (0≤(takesL n).getD j 0∧(takesL n).getD j 0<m)) (h:∀ k,k<j→0≤(takesL n).getD k 0∧(takesL n).getD k 0<m):VC L_ 90 ([nod n,i64 m]) (bv false):=by
 have q:=takes_len n
 have oz0:=@takes_v (n)
 have oz1:=(N_ (k:=.i64) (show ((((K_ (row1 .i64) (takesL n)).length:Int)):Int)=(((takesL n).length:Int)) from (by (simp;done))))
 have oz3:=@there_ln (takesL n) (m) (j) (by omega) hj hf h
 exact cR_ [r_,.r [] [cr oz0],.code [.any [0,2,4,7],.drop [2],.weak 9 (wO oz1),.weak 10 (i64 (↑0:Int)),.sort] (Exit.ret) (zO oz3)] _ Tryz.func90 (.d4 oz0 oz1 w0_ oz3)
theorem there_v (n:Nod) (m:Int):VC L_ 90 [nod n,i64 m] (bv (thereB n m)):=by
 rcases all_or (fun k=>decide (0≤(takesL n).getD k 0∧(takesL n).getD k 0<m)) (takesL n).length with h|⟨j,h1,h2,h3⟩
 ·rw[(takes_there n m).1 h];exact there_y n m fun k hk=>of_decide_eq_true (h k hk)
 ·have:thereB n m=false:=by
   cases e:thereB n m with
   | false=>rfl
   | true=>have:=(takes_there n m).2 e j h1;rw[h2] at this;cases this
  rw[this];exact there_n n m j h1 (of_decide_eq_false h2) fun k hk=>of_decide_eq_true (h3 k hk)
theorem gof_v (n:Nod)  : VC L_ 92 ([nod n]) (i64 (secN n)):=by
 have q:=takes_len n
 have q2:(K_ (row1 .i64) (takesL n)).length=(takesL n).length:=T_ _
 have oz0:=@takes_v (n)
 have oz1:=(i6n (((K_ (row1 .i64) (takesL n)).length:Int)-1) (by omega))
 have oz3:=(map_at (row1 .i64) (0) (l:=takesL n) (i:=(((K_ (row1 .i64) (takesL n)).length:Int)-1).toNat) (by omega))
 exact (cR_ [r_,.r [] [cr oz0],.r [] [.n (nO oz1),.row (sO oz3)]] (i64 ((takesL n).getD (((K_ (row1 .i64) (takesL n)).length:Int)-1).toNat 0)) Tryz.func92 (.d4 oz0 oz1 (s_ (0≤((K_ (row1 .i64) (takesL n)).length:Int)-1)) oz3)).weak (D_ _) (N_ (by (exact takes_last n (by omega))))
def nextE (n:Nod) (L:List Shp):Shp×Int:=if checkE n≠0 then (⟨0,0,0⟩,checkE n) else if thereB n L.length=true then shapeE n (L.getD n.na.toNat default) (L.getD (secN n).toNat default) else (⟨0,0,0⟩,8)
theorem there_iff {n:Nod} {m:Int}:thereB n m=true↔0≤n.na∧n.na<m∧0≤secN n∧secN n<m:=by
 unfold thereB;simp only[M_,E_];omega
theorem next_v (n:Nod) (L:List Shp) (ok:n.Ok) (okL:∀ s∈L,s.Ok) (hL:L.length≤100) (wl:n.w.length≤100000) (bl:n.b.length≤100000):VC L_ 77 ([nod n,.sl 3 (L.map shpC)]) (.tup [shp (nextE n L).1,i64 (nextE n L).2]):=by
 have q1:=@there_iff n L.length
 have q2:=ok.kd
 have q3:=fun (h:n.na.toNat<L.length)=>getD_in okL h
 have q4:=fun (h:(secN n).toNat<L.length)=>getD_in okL h
 have oz0:=@check_v (n) wl bl q2
 rcases bft (checkE n != 0) with hc0|hc0
 ·have gc0:¬checkE n=0:=bdt hc0
  exact (cR_ [r_,.r [] [cr oz0],r_,b_,r_] (AV.tup [AV.agg [i64 0,i64 0,i64 0],i64 (checkE n)]) Tryz.func77 (.d2 oz0 hc0)).weak (D_ _) (AJ_ (.cons (BL_ (.cons (N_ (by (unfold nextE;rw[i_ (by simp_all)]))) (.cons (N_ (by (unfold nextE;rw[i_ (by simp_all)]))) (.cons (N_ (by (unfold nextE;rw[i_ (by simp_all)]))) .nil)))) (.cons (N_ (by (unfold nextE;rw[i_ (by simp_all)]))) .nil)))
 ·have gc0:checkE n=0:=bdf hc0
  have oz2:=@there_v (n) (((K_ shpC L).length:Int))
  rcases bft (!thereB n ((K_ shpC L).length:Int)) with hc1|hc1
  ·have gc1:thereB n ((K_ shpC L).length:Int)=false:=by first|exact hc1|exact of_decide_eq_true hc1|exact of_decide_eq_false hc1|simpa [eqNums] using hc1|(simp[eqNums] at hc1 ⊢;first|done|assumption|omega)
   exact (cR_ [r_,.r [] [cr oz0],r_,d_,.r [] [cr oz2],b_,r_] (AV.tup [AV.agg [i64 0,i64 0,i64 0],i64 8]) Tryz.func77 (.d4 oz0 hc0 oz2 hc1)).weak (D_ _) (AJ_ (.cons (BL_ (.cons (N_ (by (unfold nextE;rw[j_ (by simp_all),j_ (by simp_all)]))) (.cons (N_ (by (unfold nextE;rw[j_ (by simp_all),j_ (by simp_all)]))) (.cons (N_ (by (unfold nextE;rw[j_ (by simp_all),j_ (by simp_all)]))) .nil)))) (.cons (N_ (by (unfold nextE;rw[j_ (by simp_all),j_ (by simp_all)]))) .nil)))
  ·have gc1:thereB n ((K_ shpC L).length:Int)=true:=by first|exact hc1|exact of_decide_eq_true hc1|exact of_decide_eq_false hc1|simpa [eqNums] using hc1|(simp[eqNums] at hc1 ⊢;first|done|assumption|omega)
   have oz5:=(map_at (shpC) (default) (l:=L) (i:=n.na.toNat) (by (have:=q1.1 (by simp_all);omega)))
   have oz6:=@gof_v (n)
   have oz8:=(map_at (shpC) (default) (l:=L) (i:=(secN n).toNat) (by (have:=q1.1 (by simp_all);omega)))
   have oz9:=@kshape_v (n) (L.getD n.na.toNat default) (L.getD (secN n).toNat default) (by (exact q3 (by have:=q1.1 (by simp_all);omega))) (by (exact q4 (by have:=q1.1 (by simp_all);omega))) ok
   exact (cR_ [r_,.r [] [cr oz0],r_,d_,.r [] [cr oz2],d_,.r [] [.row (sO oz5),cr oz6,.row (sO oz8),cr oz9]] (AV.tup [AV.agg [i64 (shapeE n (L.getD n.na.toNat default) (L.getD (secN n).toNat default)).fst.h,i64 (shapeE n (L.getD n.na.toNat default) (L.getD (secN n).toNat default)).fst.x,i64 (shapeE n (L.getD n.na.toNat default) (L.getD (secN n).toNat default)).fst.c],i64 (shapeE n (L.getD n.na.toNat default) (L.getD (secN n).toNat default)).snd]) Tryz.func77 (.c8 oz0 hc0 oz2 hc1 (show 0≤n.na by (have:=q1.1 (by simp_all);omega)) oz5 oz6 (show 0≤secN n by (have:=q1.1 (by simp_all);omega))<|.d2 oz8 oz9)).weak (D_ _) (AJ_ (.cons (BL_ (.cons (N_ (by (unfold nextE;rw[j_ (by simp_all),i_ (by simp_all)]))) (.cons (N_ (by (unfold nextE;rw[j_ (by simp_all),i_ (by simp_all)]))) (.cons (N_ (by (unfold nextE;rw[j_ (by simp_all),i_ (by simp_all)]))) .nil)))) (.cons (N_ (by (unfold nextE;rw[j_ (by simp_all),i_ (by simp_all)]))) .nil)))
theorem bext {a b:ByteArray} (h:a.data.toList=b.data.toList):a=b:=by
 obtain ⟨⟨a⟩⟩:=a;obtain ⟨⟨b⟩⟩:=b
 have:a=b:=h
 rw[this]
theorem bapp (a b:ByteArray):(a++b).data.toList=a.data.toList++b.data.toList:=by rw[ByteArray.data_append,Array.toList_append]
theorem bapp_size (a b:ByteArray):(a++b).size=a.size+b.size:=by show (a++b).data.size=_;rw[ByteArray.data_append,Array.size_append];rfl
theorem joinB_one (a s:ByteArray):joinB [a] s=a:=bext (by show Lib.join [a.data.toList] s.data.toList=_;rw[Lib.join_one])
theorem joinB_two (a b:ByteArray) (l:List ByteArray) (s:ByteArray):joinB (a::b::l) s=a++(s++joinB (b::l) s):=bext (by
 rw[bapp,bapp]
 show Lib.join (a.data.toList::b.data.toList::l.map (·.data.toList)) s.data.toList=a.data.toList++(s.data.toList++Lib.join (b.data.toList::l.map (·.data.toList)) s.data.toList)
 rw[Lib.join_cons,Lib.join_cons]
 unfold Lib.joinTail
 rw[Z_,List.flatten_cons,BH_])
theorem dd_len {u:Nat} (h:u<18446744073709551616):(Lib.decDigits u).length≤20:=by
 rw[Lib.decDigits_length]
 have key:∀ (k u:Nat),u<10 ^ (k+1)→Lib.nDigits u≤k+1:=by
  intro k
  induction k with
  | zero=>intro u hu;rw[Lib.nDigits_small (by simpa using hu)];exact AU_ _
  | succ k ih =>
   intro u hu
   by_cases h10:u<10
   ·rw[Lib.nDigits_small h10];omega
   ·rw[Lib.nDigits_big h10]
    have:=ih (u/10) (by rw[Nat.div_lt_iff_lt_mul (by decide)];rw[Nat.pow_succ] at hu;exact hu)
    omega
 exact key 19 u (Nat.lt_of_lt_of_le h (by decide))
theorem dg_size {n:Int} (h:In64 n):(dg n).size≤21:=by
 have e:(dg n).size=(Lib.itoa n).length:=by simp[dg,ByteArray.size]
 rw[e]
 unfold Lib.itoa
 split
 ·have:=dd_len (u:=n.natAbs) (by omega)
  simp only[AY_];omega
 ·have:=dd_len (u:=n.toNat) (by omega)
  omega
theorem digits_v (n:Int) (h:In64 n):VC L_ 24 ([i64 n]) (st (dg n)):=by
 have oz0:=@itoa_v (n) h
 exact cR_ [r_,.r [] [cr oz0]] _ Tryz.func24 (.d oz0)
def wh (n:Int):ByteArray:=⟨(Lib.decDigits n.toNat).toArray⟩
theorem dg_pos {n:Int} (h:0≤n):dg n=wh n:=by unfold dg wh Lib.itoa;rw[j_ (by omega)]
theorem lit_size (l:List UInt8):(ByteArray.mk (List.toArray l)).size=l.length:=rfl
def shS (a:Shp):ByteArray:=dg a.h++⟨#[120]⟩++dg a.x++⟨#[120]⟩++dg a.c
structure ShB (a:Shp):Prop where
 h:(dg a.h).size≤21
 x:(dg a.x).size≤21
 c:(dg a.c).size≤21
 l:(ByteArray.mk #[120]).size=1
theorem shB {a:Shp} (h:a.Ok):ShB a:=⟨dg_size h.h,dg_size h.x,dg_size h.c,rfl⟩
theorem shS_size {a:Shp} (h:a.Ok):(shS a).size≤65:=by
 have q:=shB h
 have:=q.h;have:=q.x;have:=q.c;have:=q.l
 simp only[shS,bapp_size];omega
theorem shape50_v (a:Shp) (h:a.Ok):VC L_ 11 ([shp a]) (st (shS a)):=by
 have q:=shB h
 have q1:=q.h
 have q2:=q.x
 have q3:=q.c
 have q4:=q.l
 have q5:=h.h
 have q6:=h.x
 have q7:=h.c
 have oz0:=@digits_v (a.h) q5
 have oz2:=@digits_v (a.x) q6
 have oz5:=@digits_v (a.c) q7
 exact (cR_ [r_,.r [] [cr oz0,.v (Q_ (dg a.h++ByteArray.mk #[120])),cr oz2,.v (Q_ (dg a.h++ByteArray.mk #[120]++dg a.x)),.v (Q_ (dg a.h++ByteArray.mk #[120]++dg a.x++ByteArray.mk #[120])),cr oz5,.v (Q_ (dg a.h++ByteArray.mk #[120]++dg a.x++ByteArray.mk #[120]++dg a.c))]] (AV.lit (Q_ (dg a.h++ByteArray.mk #[120]++dg a.x++ByteArray.mk #[120]++dg a.c))) Tryz.func11 (.d7 oz0 (show BinTo L_ BinOp.add 9 (Operand.tmp 5) (Operand.const (Q_ (ByteArray.mk #[120]))) (Q_ (dg a.h)) (Q_ (ByteArray.mk #[120])) (Q_ (dg a.h++ByteArray.mk #[120])) from (bin_add (by omega))) oz2 (show BinTo L_ BinOp.add 9 (Operand.tmp 6) (Operand.tmp 9) (Q_ (dg a.h++ByteArray.mk #[120])) (Q_ (dg a.x)) (Q_ (dg a.h++ByteArray.mk #[120]++dg a.x)) from (bin_add (by (simp only[bapp_size];omega)))) (show BinTo L_ BinOp.add 9 (Operand.tmp 10) (Operand.const (Q_ (ByteArray.mk #[120]))) (Q_ (dg a.h++ByteArray.mk #[120]++dg a.x)) (Q_ (ByteArray.mk #[120])) (Q_ (dg a.h++ByteArray.mk #[120]++dg a.x++ByteArray.mk #[120])) from (bin_add (by (simp only[bapp_size];omega)))) oz5 (show BinTo L_ BinOp.add 9 (Operand.tmp 11) (Operand.tmp 14) (Q_ (dg a.h++ByteArray.mk #[120]++dg a.x++ByteArray.mk #[120])) (Q_ (dg a.c)) (Q_ (dg a.h++ByteArray.mk #[120]++dg a.x++ByteArray.mk #[120]++dg a.c)) from (bin_add (by (simp only[bapp_size];omega)))))).weak (D_ _) (Weak.str (show ((dg a.h++ByteArray.mk #[120]++dg a.x++ByteArray.mk #[120]++dg a.c):ByteArray)=(shS a) from (by rfl)))
def smallB (n:Nod):Bool:=decide (n.w.length≤1000)&&decide (n.b.length≤100)
def fewB (l:List Nod) (d:Nat):Bool:=decide (l.length≤12)&&decide (d≤300)&&l.all smallB
noncomputable def few_ly_I (l:List Nod) (k:Nat):VS:=stt 37 [(0,.sl 19 (l.map nodC)),(5,i64 k)] []
noncomputable def few_ly_Z (l:List Nod):VS:=few_ly_I l (l.length)
theorem few_ly_s (l:List Nod) (hl:l.length≤12) (h:∀ k,k<l.length→smallB (l.getD k default)=true) (k:Nat) (hk:k<l.length):VT L_ (fnC Tryz.f15 [1,1,0,1,0,0]) (few_ly_I l k) .normal (few_ly_I l (k+1)):=by
 have q:=h k hk
 simp only[smallB,M_,E_] at q
 obtain ⟨q1,q2⟩:=q
 have oz1:=(s_ (0≤(↑k:Int)))
 have oz2:=(map_at (nodC) (default) (l:=l) (i:=k) hk)
 exact tR_ [r_,b_,.r [] [.row (sO oz2),o_,o_,o_,.row (sO oz2),o_,o_,o_,o_,.sel 1],d_,.r [] [.n ((↑k:Int)+1)]] [.any (rg [(15,14),(36,1)]),.weak 5 (i64 (↑(k+1):Int)),.sort] (.d8 (show decide ((↑k:Int)<((K_ nodC l).length:Int))=true by (simp;omega)) oz1 oz2 oz1 oz2 (show (decide (((K_ (row1 .i8) (l.getD k default).w).length:Int)>1000) || decide (((K_ (row1 .i32) (l.getD k default).b).length:Int)>100))=false by (simp at *;omega)) (i6n ((↑k:Int)+1) (by omega)) (wS_ k))
theorem few_ly_e (l:List Nod) (hl:l.length≤12) (h:∀ k,k<l.length→smallB (l.getD k default)=true):VT L_ (fnC Tryz.f15 [1,1,0,1,0,0]) (few_ly_I l (l.length)) (.exit 0) (few_ly_Z l):=by
 exact tR_ [r_,d_] [.any (rg [(15,4)]),.sort] (.d (show decide ((l.length:Int)<((K_ nodC l).length:Int))=false by (simp;done)))
theorem few_ly (l:List Nod) (hl:l.length≤12) (h:∀ k,k<l.length→smallB (l.getD k default)=true):VT L_ (fnC Tryz.f15 [1,1,0,1,0]) (few_ly_I l 0) (.exit 0) (few_ly_Z l) :=
 VT.loop (fun k=>few_ly_I l k) (l.length) (fun k hk=>few_ly_s l hl h k hk) (few_ly_e l hl h) (by intro h;cases h)
noncomputable def few_ln_I (l:List Nod) (m:Nat) (k:Nat):VS:=stt 37 [(0,.sl 19 (l.map nodC)),(5,i64 k)] []
noncomputable def few_ln_Z (l:List Nod) (m:Nat):VS:=stt 37 [(4,bv false)] []
theorem few_ln_s (l:List Nod) (m:Nat) (hl:l.length≤12) (hm:m<l.length) (hf:smallB (l.getD m default)=false) (h:∀ k,k<m→smallB (l.getD k default)=true) (k:Nat) (hk:k<m):VT L_ (fnC Tryz.f15 [1,1,0,1,0,0]) (few_ln_I l m k) .normal (few_ln_I l m (k+1)):=by
 have q:=h k hk
 simp only[smallB,M_,E_] at q
 obtain ⟨q1,q2⟩:=q
 have oz1:=(s_ (0≤(↑k:Int)))
 have oz2:=(map_at (nodC) (default) (l:=l) (i:=k) (by omega))
 exact tR_ [r_,b_,.r [] [.row (sO oz2),o_,o_,o_,.row (sO oz2),o_,o_,o_,o_,.sel 1],d_,.r [] [.n ((↑k:Int)+1)]] [.any (rg [(15,14),(36,1)]),.weak 5 (i64 (↑(k+1):Int)),.sort] (.d8 (show decide ((↑k:Int)<((K_ nodC l).length:Int))=true by (simp;omega)) oz1 oz2 oz1 oz2 (show (decide (((K_ (row1 .i8) (l.getD k default).w).length:Int)>1000) || decide (((K_ (row1 .i32) (l.getD k default).b).length:Int)>100))=false by (simp at *;omega)) (i6n ((↑k:Int)+1) (by omega)) (wS_ k))
theorem few_ln_e (l:List Nod) (m:Nat) (hl:l.length≤12) (hm:m<l.length) (hf:smallB (l.getD m default)=false) (h:∀ k,k<m→smallB (l.getD k default)=true):VT L_ (fnC Tryz.f15 [1,1,0,1,0,0]) (few_ln_I l m (m)) (.ret) (few_ln_Z l m):=by
 simp only[smallB,P_,F_] at hf
 have oz1:=(s_ (0≤(↑m:Int)))
 have oz2:=(map_at (nodC) (default) (l:=l) (i:=m) hm)
 exact tR_ [r_,b_,.r [] [.row (sO oz2),o_,o_,o_,.row (sO oz2),o_,o_,o_,o_,.sel 1],b_,r_] [.any (rg [(0,1),(5,1),(15,4),(21,8),(36,1)]),.sort] (.d6 (show decide ((↑m:Int)<((K_ nodC l).length:Int))=true by (simp;omega)) oz1 oz2 oz1 oz2 (show (decide (((K_ (row1 .i8) (l.getD m default).w).length:Int)>1000) || decide (((K_ (row1 .i32) (l.getD m default).b).length:Int)>100))=true by (simp at *;omega)))
theorem few_ln (l:List Nod) (m:Nat) (hl:l.length≤12) (hm:m<l.length) (hf:smallB (l.getD m default)=false) (h:∀ k,k<m→smallB (l.getD k default)=true):VT L_ (fnC Tryz.f15 [1,1,0,1,0]) (few_ln_I l m 0) (.ret) (few_ln_Z l m) :=
 VT.loop (fun k=>few_ln_I l m k) (m) (fun k hk=>few_ln_s l m hl hm hf h k hk) (few_ln_e l m hl hm hf h) (by intro h;cases h)
theorem few_a (l:List Nod) (T:Ten) (h:12<l.length∨300<T.d.length):VC L_ 15 ([.sl 19 (l.map nodC),ten .i8 T]) (bv false):=by
 exact cR_ [r_,.r [] [o_,o_,o_,o_,.sel 1],b_,r_] _ Tryz.func15 (.d (show (decide (((K_ nodC l).length:Int)>12) || decide (((K_ (row1 .i8) T.d).length:Int)>300))=true by (simp;omega)))
theorem few_y (l:List Nod) (T:Ten) (hl:l.length≤12) (hd:T.d.length≤300) (h:∀ k,k<l.length→smallB (l.getD k default)=true):VC L_ 15 ([.sl 19 (l.map nodC),ten .i8 T]) (bv true):=by
 have oz2:=@few_ly (l) hl h
 exact cR_ [r_,.r [] [o_,o_,o_,o_,.sel 1],d_,r_,.code [.any [1,3,4,6,7,8,9,14],.drop [3],.weak 5 (i64 (↑0:Int)),.sort] (BM_ 0) (zO oz2),r_] _ Tryz.func15 (.d3 (show (decide (((K_ nodC l).length:Int)>12) || decide (((K_ (row1 .i8) T.d).length:Int)>300))=false by (simp;omega)) w0_ oz2)
theorem few_n (l:List Nod) (T:Ten) (m:Nat) (hl:l.length≤12) (hd:T.d.length≤300) (hm:m<l.length) (hf:smallB (l.getD m default)=false) (h:∀ k,k<m→smallB (l.getD k default)=true):VC L_ 15 ([.sl 19 (l.map nodC),ten .i8 T]) (bv false):=by
 have oz2:=@few_ln (l) (m) hl hm hf h
 exact cR_ [r_,.r [] [o_,o_,o_,o_,.sel 1],d_,r_,.code [.any [1,3,4,6,7,8,9,14],.drop [3],.weak 5 (i64 (↑0:Int)),.sort] (Exit.ret) (zO oz2)] _ Tryz.func15 (.d3 (show (decide (((K_ nodC l).length:Int)>12) || decide (((K_ (row1 .i8) T.d).length:Int)>300))=false by (simp;omega)) w0_ oz2)
theorem few_v (l:List Nod) (T:Ten):VC L_ 15 [.sl 19 (l.map nodC),ten .i8 T] (bv (fewB l T.d.length)):=by
 unfold fewB
 by_cases h1:l.length≤12
 ·by_cases h2:T.d.length≤300
  ·rw[decide_eq_true h1,decide_eq_true h2]
   rcases all_or (fun k=>smallB (l.getD k default)) l.length with h|⟨m,g1,g2,g3⟩
   ·rw[all_getD.2 h];exact few_y l T h1 h2 h
   ·have:l.all smallB=false:=by
     cases e:l.all smallB with
     | false=>rfl
     | true=>have:=all_getD.1 e m g1;exact absurd (this.symm.trans g2) (by simp)
    rw[this];exact few_n l T m h1 h2 g1 g2 g3
  ·rw[decide_eq_false h2,BR_,AI_];exact few_a l T (.inr (by omega))
 ·rw[decide_eq_false h1,AI_,AI_];exact few_a l T (.inl (by omega))
theorem few_0 (l:List Nod):VC L_ 15 [.sl 19 (l.map nodC),.agg [i64 0,i64 0,i64 0,.sl 1 []]] (bv (fewB l 0)):=few_v l ⟨0,0,0,[]⟩
theorem few_facts {l:List Nod} {d:Nat} (h:fewB l d=true):l.length≤12∧d≤300∧∀ n∈l,n.w.length≤1000∧n.b.length≤100:=by
 simp only[fewB,M_,E_,List.all_eq_true,smallB] at h
 exact ⟨h.1.1,h.1.2,fun n hn=>h.2 n hn⟩
theorem few_wide {l:List Nod} {d:Nat} (h:fewB l d=true):∀ n∈l,n.w.length≤100000∧n.b.length≤100000:=fun n hn=>by
 have:=(few_facts h).2.2 n hn;omega
structure Blc where
 n:List Nod
 ex:Bool
 w:List Int
 b:List Int
 nd:Int
abbrev blcC (x:Blc):List AV:=[.sl 19 (x.n.map nodC),bv x.ex,ints .i8 x.w,ints .i32 x.b,i32 x.nd]
structure Blc.Ok (x:Blc):Prop where
 n:∀ d∈x.n,Nod.Ok d
 w:∀ v∈x.w,In8 v
 b:∀ v∈x.b,In32 v
 nd:In32 x.nd
instance:Inhabited Blc:=⟨⟨[],false,[],[],0⟩⟩
structure Mdl where
 l:List Blc
abbrev mdlC (m:Mdl):List AV:=[.sl 5 (m.l.map blcC)]
structure Mdl.Ok (m:Mdl):Prop where
 l:∀ d∈m.l,Blc.Ok d
instance:Inhabited Mdl:=⟨⟨[]⟩⟩
structure Bun where
 h:Int
 x:Int
 c:Int
 cl:Int
 m:List Mdl
abbrev bunC (u:Bun):List AV:=[i64 u.h,i64 u.x,i64 u.c,i64 u.cl,.sl 1 (u.m.map mdlC)]
structure Bun.Ok (u:Bun):Prop where
 h:In64 u.h
 x:In64 u.x
 c:In64 u.c
 cl:In64 u.cl
 m:∀ d∈u.m,Mdl.Ok d
abbrev Bun.inp (u:Bun):Shp:=⟨u.h,u.x,u.c⟩
abbrev blc (x:Blc):AV:=.agg (blcC x)
abbrev bun (u:Bun):AV:=.agg (bunC u)
def blcS (x:Blc):Bool:=fewB x.n 0&&decide (x.w.length≤4000)&&decide (x.b.length≤100)
def mdlS (m:Mdl):Bool:=decide (m.l.length≤8)&&m.l.all blcS
def bunS (u:Bun):Bool:=decide (u.m.length≤4)&&u.m.all mdlS
theorem blcS_iff {x:Blc}:blcS x=true↔fewB x.n 0=true∧x.w.length≤4000∧x.b.length≤100:=by
 simp only[blcS,M_,E_,and_assoc]
theorem mdlS_iff {m:Mdl}:mdlS m=true↔m.l.length≤8∧∀ k,k<m.l.length→blcS (m.l.getD k default)=true:=by
 simp only[mdlS,M_,E_,all_getD]
noncomputable def few31_iy_I (u:Bun) (K:Int) (l:List Blc) (k:Nat):VS:=stt 60 [(1,.ptr 1 0 0),(3,i64 K),(4,.sl 5 (l.map blcC)),(5,i64 k)] [(1,.var (bunC u))]
noncomputable def few31_iy_Z (u:Bun) (K:Int) (l:List Blc):VS:=few31_iy_I u K l (l.length)
theorem few31_iy_s (u:Bun) (K:Int) (l:List Blc) (hl:l.length≤8) (h:∀ k,k<l.length→blcS (l.getD k default)=true) (k:Nat) (hk:k<l.length):VT L_ (fnC Tryz.f6 [1,1,0,1,0,0,1,0,0,1,1,1,0,0]) (few31_iy_I u K l k) .normal (few31_iy_I u K l (k+1)):=by
 have q:=blcS_iff.1 (h k hk)
 obtain ⟨q1,q2,q3⟩:=q
 have oz1:=(s_ (0≤(↑k:Int)))
 have oz2:=(map_at (blcC) (default) (l:=l) (i:=k) hk)
 have oz4:=@few_0 ((l.getD k default).n)
 exact tR_ [r_,b_,.r [] [.row (sO oz2),ca oz4,o_,o_,o_,.row (sO oz2),o_,o_,o_,o_,o_,.sel 1,o_,o_,o_,.row (sO oz2),o_,o_,o_,o_,o_,.sel 1],d_,.r [] [.n ((↑k:Int)+1)]] [.any (rg [(26,15),(49,2),(59,1)]),.weak 5 (i64 (↑(k+1):Int)),.sort] (.c8 (show decide ((↑k:Int)<((K_ blcC l).length:Int))=true by (simp;omega)) oz1 oz2 (show WeakL [AV.sl 19 (K_ nodC (l.getD k default).n),AV.agg [i64 0,i64 0,i64 0,AV.lit (AC_ none 0 0)]] [AV.sl 19 (K_ nodC (l.getD k default).n),AV.agg [i64 0,i64 0,i64 0,AV.sl 1 []]] from (.cons (.refl _) (.cons (BL_ (.cons (.refl _) (.cons (.refl _) (.cons (.refl _) (.cons (Weak.nil _) .nil))))) .nil))) oz4 oz1 oz2 oz1<|.d4 oz2 (show (!fewB (l.getD k default).n 0 || decide (((K_ (row1 .i8) (l.getD k default).w).length:Int)>4000) || decide (((K_ (row1 .i32) (l.getD k default).b).length:Int)>100))=false by (rw[q1];simp only[BN_,BO_,R_,F_,T_];omega)) (i6n ((↑k:Int)+1) (by omega)) (wS_ k))
theorem few31_iy_e (u:Bun) (K:Int) (l:List Blc) (hl:l.length≤8) (h:∀ k,k<l.length→blcS (l.getD k default)=true):VT L_ (fnC Tryz.f6 [1,1,0,1,0,0,1,0,0,1,1,1,0,0]) (few31_iy_I u K l (l.length)) (.exit 2) (few31_iy_Z u K l):=by
 exact tR_ [r_,d_] [.any (rg [(26,4)]),.sort] (.d (show decide ((l.length:Int)<((K_ blcC l).length:Int))=false by (simp;done)))
theorem few31_iy (u:Bun) (K:Int) (l:List Blc) (hl:l.length≤8) (h:∀ k,k<l.length→blcS (l.getD k default)=true):VT L_ (fnC Tryz.f6 [1,1,0,1,0,0,1,0,0,1,1,1,0]) (few31_iy_I u K l 0) (.exit 2) (few31_iy_Z u K l) :=
 VT.loop (fun k=>few31_iy_I u K l k) (l.length) (fun k hk=>few31_iy_s u K l hl h k hk) (few31_iy_e u K l hl h) (by intro h;cases h)
noncomputable def few31_in_I (u:Bun) (K:Int) (l:List Blc) (m:Nat) (k:Nat):VS:=stt 60 [(1,.ptr 1 0 0),(3,i64 K),(4,.sl 5 (l.map blcC)),(5,i64 k)] [(1,.var (bunC u))]
noncomputable def few31_in_Z (u:Bun) (K:Int) (l:List Blc) (m:Nat):VS:=stt 60 [(2,bv false)] []
theorem few31_in_s (u:Bun) (K:Int) (l:List Blc) (m:Nat) (hl:l.length≤8) (hm:m<l.length) (hf:blcS (l.getD m default)=false) (h:∀ k,k<m→blcS (l.getD k default)=true) (k:Nat) (hk:k<m):VT L_ (fnC Tryz.f6 [1,1,0,1,0,0,1,0,0,1,1,1,0,0]) (few31_in_I u K l m k) .normal (few31_in_I u K l m (k+1)):=by
 have q:=blcS_iff.1 (h k hk)
 obtain ⟨q1,q2,q3⟩:=q
 have oz1:=(s_ (0≤(↑k:Int)))
 have oz2:=(map_at (blcC) (default) (l:=l) (i:=k) (by omega))
 have oz4:=@few_0 ((l.getD k default).n)
 exact tR_ [r_,b_,.r [] [.row (sO oz2),ca oz4,o_,o_,o_,.row (sO oz2),o_,o_,o_,o_,o_,.sel 1,o_,o_,o_,.row (sO oz2),o_,o_,o_,o_,o_,.sel 1],d_,.r [] [.n ((↑k:Int)+1)]] [.any (rg [(26,15),(49,2),(59,1)]),.weak 5 (i64 (↑(k+1):Int)),.sort] (.c8 (show decide ((↑k:Int)<((K_ blcC l).length:Int))=true by (simp;omega)) oz1 oz2 (show WeakL [AV.sl 19 (K_ nodC (l.getD k default).n),AV.agg [i64 0,i64 0,i64 0,AV.lit (AC_ none 0 0)]] [AV.sl 19 (K_ nodC (l.getD k default).n),AV.agg [i64 0,i64 0,i64 0,AV.sl 1 []]] from (.cons (.refl _) (.cons (BL_ (.cons (.refl _) (.cons (.refl _) (.cons (.refl _) (.cons (Weak.nil _) .nil))))) .nil))) oz4 oz1 oz2 oz1<|.d4 oz2 (show (!fewB (l.getD k default).n 0 || decide (((K_ (row1 .i8) (l.getD k default).w).length:Int)>4000) || decide (((K_ (row1 .i32) (l.getD k default).b).length:Int)>100))=false by (rw[q1];simp only[BN_,BO_,R_,F_,T_];omega)) (i6n ((↑k:Int)+1) (by omega)) (wS_ k))
theorem few31_in_e (u:Bun) (K:Int) (l:List Blc) (m:Nat) (hl:l.length≤8) (hm:m<l.length) (hf:blcS (l.getD m default)=false) (h:∀ k,k<m→blcS (l.getD k default)=true):VT L_ (fnC Tryz.f6 [1,1,0,1,0,0,1,0,0,1,1,1,0,0]) (few31_in_I u K l m (m)) (.ret) (few31_in_Z u K l m):=by
 have q0:fewB (l.getD m default).n 0=true→¬ ((l.getD m default).w.length≤4000∧(l.getD m default).b.length≤100):=fun c d=>by rw[blcS_iff.2 ⟨c,d⟩] at hf;cases hf
 have oz1:=(s_ (0≤(↑m:Int)))
 have oz2:=(map_at (blcC) (default) (l:=l) (i:=m) hm)
 have oz4:=@few_0 ((l.getD m default).n)
 exact tR_ [r_,b_,.r [] [.row (sO oz2),ca oz4,o_,o_,o_,.row (sO oz2),o_,o_,o_,o_,o_,.sel 1,o_,o_,o_,.row (sO oz2),o_,o_,o_,o_,o_,.sel 1],b_,r_] [.any (rg [(1,1),(3,3),(26,4),(32,9),(49,2),(59,1)]),.drop [1],.sort] (.c8 (show decide ((↑m:Int)<((K_ blcC l).length:Int))=true by (simp;omega)) oz1 oz2 (show WeakL [AV.sl 19 (K_ nodC (l.getD m default).n),AV.agg [i64 0,i64 0,i64 0,AV.lit (AC_ none 0 0)]] [AV.sl 19 (K_ nodC (l.getD m default).n),AV.agg [i64 0,i64 0,i64 0,AV.sl 1 []]] from (.cons (.refl _) (.cons (BL_ (.cons (.refl _) (.cons (.refl _) (.cons (.refl _) (.cons (Weak.nil _) .nil))))) .nil))) oz4 oz1 oz2 oz1<|.d2 oz2 (show (!fewB (l.getD m default).n 0 || decide (((K_ (row1 .i8) (l.getD m default).w).length:Int)>4000) || decide (((K_ (row1 .i32) (l.getD m default).b).length:Int)>100))=true by (cases ef:fewB (l.getD m default).n 0 with|false=>rfl|true=>(have q9:=q0 ef;simp only[BN_,BO_,A_,E_,T_];omega))))
theorem few31_in (u:Bun) (K:Int) (l:List Blc) (m:Nat) (hl:l.length≤8) (hm:m<l.length) (hf:blcS (l.getD m default)=false) (h:∀ k,k<m→blcS (l.getD k default)=true):VT L_ (fnC Tryz.f6 [1,1,0,1,0,0,1,0,0,1,1,1,0]) (few31_in_I u K l m 0) (.ret) (few31_in_Z u K l m) :=
 VT.loop (fun k=>few31_in_I u K l m k) (m) (fun k hk=>few31_in_s u K l m hl hm hf h k hk) (few31_in_e u K l m hl hm hf h) (by intro h;cases h)
noncomputable def few31_oy_I (u:Bun) (k:Nat):VS:=stt 60 [(1,.ptr 1 0 0),(3,i64 k)] [(1,.var (bunC u))]
noncomputable def few31_oy_Z (u:Bun):VS:=few31_oy_I u (u.m.length)
theorem few31_oy_s (u:Bun) (hl:u.m.length≤4) (h:∀ k,k<u.m.length→mdlS (u.m.getD k default)=true) (k:Nat) (hk:k<u.m.length):VT L_ (fnC Tryz.f6 [1,1,0,1,0,0]) (few31_oy_I u k) .normal (few31_oy_I u (k+1)):=by
 have q:=mdlS_iff.1 (h k hk)
 obtain ⟨q1,q2⟩:=q
 have oz2:=(map_at (mdlC) (default) (l:=u.m) (i:=k) hk)
 have oz5:=@few31_iy (u) ((↑k:Int)) ((u.m.getD k default).l) q1 q2
 exact tR_ [r_,b_,.r [] [.row (sO oz2)],r_,d_,r_,.code [.any (rg [(10,5),(17,9)]),.weak 5 (i64 (↑0:Int)),.sort] (BM_ 2) (zO oz5),.r [] [.n ((↑k:Int)+1)]] [.any [4,5,15,16],.weak 3 (i64 (↑(k+1):Int)),.sort] (.d8 (show decide ((↑k:Int)<((K_ mdlC u.m).length:Int))=true by (simp;omega)) (s_ (0≤(↑k:Int))) oz2 (show decide (((K_ blcC (u.m.getD k default).l).length:Int)>8)=false by (simp at *;omega)) w0_ oz5 (i6n ((↑k:Int)+1) (by omega)) (wS_ k))
theorem few31_oy_e (u:Bun) (hl:u.m.length≤4) (h:∀ k,k<u.m.length→mdlS (u.m.getD k default)=true):VT L_ (fnC Tryz.f6 [1,1,0,1,0,0]) (few31_oy_I u (u.m.length)) (.exit 0) (few31_oy_Z u):=by
 exact tR_ [r_,d_] [.any (rg [(10,5)]),.sort] (.d (show decide ((u.m.length:Int)<((K_ mdlC u.m).length:Int))=false by (simp;done)))
theorem few31_oy (u:Bun) (hl:u.m.length≤4) (h:∀ k,k<u.m.length→mdlS (u.m.getD k default)=true):VT L_ (fnC Tryz.f6 [1,1,0,1,0]) (few31_oy_I u 0) (.exit 0) (few31_oy_Z u) :=
 VT.loop (fun k=>few31_oy_I u k) (u.m.length) (fun k hk=>few31_oy_s u hl h k hk) (few31_oy_e u hl h) (by intro h;cases h)
noncomputable def few31_oa_I (u:Bun) (m:Nat) (k:Nat):VS:=stt 60 [(1,.ptr 1 0 0),(3,i64 k)] [(1,.var (bunC u))]
noncomputable def few31_oa_Z (u:Bun) (m:Nat):VS:=stt 60 [(2,bv false)] []
theorem few31_oa_s (u:Bun) (m:Nat) (hl:u.m.length≤4) (hm:m<u.m.length) (hf:8<(u.m.getD m default).l.length) (h:∀ k,k<m→mdlS (u.m.getD k default)=true) (k:Nat) (hk:k<m):VT L_ (fnC Tryz.f6 [1,1,0,1,0,0]) (few31_oa_I u m k) .normal (few31_oa_I u m (k+1)):=by
 have q:=mdlS_iff.1 (h k hk)
 obtain ⟨q1,q2⟩:=q
 have oz2:=(map_at (mdlC) (default) (l:=u.m) (i:=k) (by omega))
 have oz5:=@few31_iy (u) ((↑k:Int)) ((u.m.getD k default).l) q1 q2
 exact tR_ [r_,b_,.r [] [.row (sO oz2)],r_,d_,r_,.code [.any (rg [(10,5),(17,9)]),.weak 5 (i64 (↑0:Int)),.sort] (BM_ 2) (zO oz5),.r [] [.n ((↑k:Int)+1)]] [.any [4,5,15,16],.weak 3 (i64 (↑(k+1):Int)),.sort] (.d8 (show decide ((↑k:Int)<((K_ mdlC u.m).length:Int))=true by (simp;omega)) (s_ (0≤(↑k:Int))) oz2 (show decide (((K_ blcC (u.m.getD k default).l).length:Int)>8)=false by (simp at *;omega)) w0_ oz5 (i6n ((↑k:Int)+1) (by omega)) (wS_ k))
theorem few31_oa_e (u:Bun) (m:Nat) (hl:u.m.length≤4) (hm:m<u.m.length) (hf:8<(u.m.getD m default).l.length) (h:∀ k,k<m→mdlS (u.m.getD k default)=true):VT L_ (fnC Tryz.f6 [1,1,0,1,0,0]) (few31_oa_I u m (m)) (.ret) (few31_oa_Z u m):=by
 have oz2:=(map_at (mdlC) (default) (l:=u.m) (i:=m) hm)
 exact tR_ [r_,b_,.r [] [.row (sO oz2)],r_,b_,r_] [.any (rg [(1,1),(3,2),(10,5),(17,9)]),.drop [1],.sort] (.d4 (show decide ((↑m:Int)<((K_ mdlC u.m).length:Int))=true by (simp;omega)) (s_ (0≤(↑m:Int))) oz2 (show decide (((K_ blcC (u.m.getD m default).l).length:Int)>8)=true by (simp at *;omega)))
theorem few31_oa (u:Bun) (m:Nat) (hl:u.m.length≤4) (hm:m<u.m.length) (hf:8<(u.m.getD m default).l.length) (h:∀ k,k<m→mdlS (u.m.getD k default)=true):VT L_ (fnC Tryz.f6 [1,1,0,1,0]) (few31_oa_I u m 0) (.ret) (few31_oa_Z u m) :=
 VT.loop (fun k=>few31_oa_I u m k) (m) (fun k hk=>few31_oa_s u m hl hm hf h k hk) (few31_oa_e u m hl hm hf h) (by intro h;cases h)
noncomputable def few31_ob_I (u:Bun) (m j:Nat) (k:Nat):VS:=stt 60 [(1,.ptr 1 0 0),(3,i64 k)] [(1,.var (bunC u))]
noncomputable def few31_ob_Z (u:Bun) (m j:Nat):VS:=stt 60 [(2,bv false)] []
theorem few31_ob_s (u:Bun) (m j:Nat) (hl:u.m.length≤4) (hm:m<u.m.length) (hs:(u.m.getD m default).l.length≤8) (hj:j<(u.m.getD m default).l.length) (hf:blcS ((u.m.getD m default).l.getD j default)=false) (hb:∀ k,k<j→blcS ((u.m.getD m default).l.getD k default)=true) (h:∀ k,k<m→mdlS (u.m.getD k default)=true) (k:Nat) (hk:k<m):VT L_ (fnC Tryz.f6 [1,1,0,1,0,0]) (few31_ob_I u m j k) .normal (few31_ob_I u m j (k+1)):=by
 have q:=mdlS_iff.1 (h k hk)
 obtain ⟨q1,q2⟩:=q
 have oz2:=(map_at (mdlC) (default) (l:=u.m) (i:=k) (by omega))
 have oz5:=@few31_iy (u) ((↑k:Int)) ((u.m.getD k default).l) q1 q2
 exact tR_ [r_,b_,.r [] [.row (sO oz2)],r_,d_,r_,.code [.any (rg [(10,5),(17,9)]),.weak 5 (i64 (↑0:Int)),.sort] (BM_ 2) (zO oz5),.r [] [.n ((↑k:Int)+1)]] [.any [4,5,15,16],.weak 3 (i64 (↑(k+1):Int)),.sort] (.d8 (show decide ((↑k:Int)<((K_ mdlC u.m).length:Int))=true by (simp;omega)) (s_ (0≤(↑k:Int))) oz2 (show decide (((K_ blcC (u.m.getD k default).l).length:Int)>8)=false by (simp at *;omega)) w0_ oz5 (i6n ((↑k:Int)+1) (by omega)) (wS_ k))
theorem few31_ob_e (u:Bun) (m j:Nat) (hl:u.m.length≤4) (hm:m<u.m.length) (hs:(u.m.getD m default).l.length≤8) (hj:j<(u.m.getD m default).l.length) (hf:blcS ((u.m.getD m default).l.getD j default)=false) (hb:∀ k,k<j→blcS ((u.m.getD m default).l.getD k default)=true) (h:∀ k,k<m→mdlS (u.m.getD k default)=true):VT L_ (fnC Tryz.f6 [1,1,0,1,0,0]) (few31_ob_I u m j (m)) (.ret) (few31_ob_Z u m j):=by
 have oz2:=(map_at (mdlC) (default) (l:=u.m) (i:=m) hm)
 have oz5:=@few31_in (u) ((↑m:Int)) ((u.m.getD m default).l) (j) hs hj hf hb
 exact tR_ [r_,b_,.r [] [.row (sO oz2)],r_,d_,r_,.code [.any (rg [(10,5),(17,9)]),.weak 5 (i64 (↑0:Int)),.sort] (Exit.ret) (zO oz5)] [.sort] (.d6 (show decide ((↑m:Int)<((K_ mdlC u.m).length:Int))=true by (simp;omega)) (s_ (0≤(↑m:Int))) oz2 (show decide (((K_ blcC (u.m.getD m default).l).length:Int)>8)=false by (simp at *;omega)) w0_ oz5)
theorem few31_ob (u:Bun) (m j:Nat) (hl:u.m.length≤4) (hm:m<u.m.length) (hs:(u.m.getD m default).l.length≤8) (hj:j<(u.m.getD m default).l.length) (hf:blcS ((u.m.getD m default).l.getD j default)=false) (hb:∀ k,k<j→blcS ((u.m.getD m default).l.getD k default)=true) (h:∀ k,k<m→mdlS (u.m.getD k default)=true):VT L_ (fnC Tryz.f6 [1,1,0,1,0]) (few31_ob_I u m j 0) (.ret) (few31_ob_Z u m j) :=
 VT.loop (fun k=>few31_ob_I u m j k) (m) (fun k hk=>few31_ob_s u m j hl hm hs hj hf hb h k hk) (few31_ob_e u m j hl hm hs hj hf hb h) (by intro h;cases h)
theorem few31_a (u:Bun) (h:4<u.m.length):VC L_ 6 ([bun u]) (bv false):=by
 exact cR_ [r_,r_,b_,r_] _ Tryz.func6 (.d (show decide (((K_ mdlC u.m).length:Int)>4)=true by (simp;omega)))
theorem few31_y (u:Bun) (hl:u.m.length≤4) (h:∀ k,k<u.m.length→mdlS (u.m.getD k default)=true):VC L_ 6 ([bun u]) (bv true):=by
 have oz2:=@few31_oy (u) hl h
 exact cR_ [r_,r_,d_,r_,.code [.any [0,2,6,7,8,9],.weak 3 (i64 (↑0:Int)),.sort] (BM_ 0) (zO oz2),r_] _ Tryz.func6 (.d3 (show decide (((K_ mdlC u.m).length:Int)>4)=false by (simp;omega)) w0_ oz2)
theorem few31_na (u:Bun) (m:Nat) (hl:u.m.length≤4) (hm:m<u.m.length) (hf:8<(u.m.getD m default).l.length) (h:∀ k,k<m→mdlS (u.m.getD k default)=true):VC L_ 6 ([bun u]) (bv false):=by
 have oz2:=@few31_oa (u) (m) hl hm hf h
 exact cR_ [r_,r_,d_,r_,.code [.any [0,2,6,7,8,9],.weak 3 (i64 (↑0:Int)),.sort] (Exit.ret) (zO oz2)] _ Tryz.func6 (.d3 (show decide (((K_ mdlC u.m).length:Int)>4)=false by (simp;omega)) w0_ oz2)
theorem few31_nb (u:Bun) (m j:Nat) (hl:u.m.length≤4) (hm:m<u.m.length) (hs:(u.m.getD m default).l.length≤8) (hj:j<(u.m.getD m default).l.length) (hf:blcS ((u.m.getD m default).l.getD j default)=false) (hb:∀ k,k<j→blcS ((u.m.getD m default).l.getD k default)=true) (h:∀ k,k<m→mdlS (u.m.getD k default)=true):VC L_ 6 ([bun u]) (bv false):=by
 have oz2:=@few31_ob (u) (m) (j) hl hm hs hj hf hb h
 exact cR_ [r_,r_,d_,r_,.code [.any [0,2,6,7,8,9],.weak 3 (i64 (↑0:Int)),.sort] (Exit.ret) (zO oz2)] _ Tryz.func6 (.d3 (show decide (((K_ mdlC u.m).length:Int)>4)=false by (simp;omega)) w0_ oz2)
theorem few31_v (u:Bun):VC L_ 6 [bun u] (bv (bunS u)):=by
 unfold bunS
 by_cases h1:u.m.length≤4
 ·rw[decide_eq_true h1,BV_]
  rcases all_or (fun k=>mdlS (u.m.getD k default)) u.m.length with h|⟨m,g1,g2,g3⟩
  ·rw[all_getD.2 h];exact few31_y u h1 h
  ·have:u.m.all mdlS=false:=by
    cases e:u.m.all mdlS with
    | false=>rfl
    | true=>have:=all_getD.1 e m g1;exact absurd (this.symm.trans g2) (by simp)
   rw[this]
   by_cases h2:8<(u.m.getD m default).l.length
   ·exact few31_na u m h1 g1 h2 g3
   ·rcases all_or (fun k=>blcS ((u.m.getD m default).l.getD k default)) (u.m.getD m default).l.length with h|⟨j,j1,j2,j3⟩
    ·exfalso
     have:mdlS (u.m.getD m default)=true:=mdlS_iff.2 ⟨by omega,h⟩
     exact absurd (this.symm.trans g2) (by simp)
    ·exact few31_nb u m j h1 g1 (by omega) j1 j2 j3 g3
 ·rw[decide_eq_false h1,AI_];exact few31_a u (by omega)
theorem blc_facts {x:Blc} (h:blcS x=true):x.n.length≤12∧(∀ n∈x.n,n.w.length≤1000∧n.b.length≤100)∧(∀ n∈x.n,n.w.length≤100000∧n.b.length≤100000)∧x.w.length≤4000∧x.b.length≤100:=by
 have h:=blcS_iff.1 h
 exact ⟨(few_facts h.1).1,(few_facts h.1).2.2,few_wide h.1,h.2.1,h.2.2⟩
abbrev joinS (l:List ByteArray):ByteArray:=joinB l ⟨#[32]⟩
theorem joined_v (l:List ByteArray) (h:(joinS l).size≤140737488355328) (hn:l.length≤100000):VC L_ 26 ([strs l]) (st (joinS l)):=by
 have oz0:=@join_v (l) (ByteArray.mk #[32]) h hn
 exact cR_ [r_,.r [] [cr oz0]] _ Tryz.func26 (.d oz0)
theorem nameS_size (k:Int):(nameS k).size≤7:=by
 have key:∀ s∈kindNames,s.size≤7:=by decide
 unfold nameS
 rw[AN_]
 cases h:kindNames[k.toNat]? with
 | none=>decide
 | some s=>exact key s (AE_ h)
def nodeS (n:Nod) (a:Shp):ByteArray:=if n.kd=6 then ⟨#[32,32]⟩++nameS n.kd++⟨#[32]⟩++dg n.na++⟨#[32]⟩++dg n.nb++⟨#[32,116,111,32]⟩++shS a else ⟨#[32,32]⟩++nameS n.kd++⟨#[32]⟩++dg n.na++⟨#[32,116,111,32]⟩++shS a
structure NdB (n:Nod) (a:Shp):Prop where
 hk:(nameS n.kd).size≤7
 ha:(dg n.na).size≤21
 hb:(dg n.nb).size≤21
 hs:(shS a).size≤65
 l1:(ByteArray.mk #[32]).size=1
 l2:(ByteArray.mk #[32,32]).size=2
 l3:(ByteArray.mk #[116,111]).size=2
 l4:(ByteArray.mk #[32,116,111,32]).size=4
theorem ndB {n:Nod} {a:Shp} (h:n.Ok) (g:a.Ok):NdB n a:=⟨nameS_size _,dg_size h.na,dg_size h.nb,shS_size g,rfl,rfl,rfl,rfl⟩
theorem nodeS_size {n:Nod} {a:Shp} (h:n.Ok) (g:a.Ok):(nodeS n a).size≤200:=by
 obtain ⟨q1,q2,q3,q4,q5,q6,q7,q8⟩:=ndB h g
 unfold nodeS
 split<;>simp only[bapp_size]<;>omega
theorem joinS_6 (n:Nod) (a:Shp) (h:n.kd=6):joinS [⟨#[32]⟩,nameS n.kd,dg n.na,dg n.nb,⟨#[116,111]⟩,shS a]=nodeS n a:=by
 unfold joinS nodeS
 rw[i_ h]
 refine bext ?_
 simp only[joinB_two,joinB_one,bapp,BH_];rfl
theorem joinS_n (n:Nod) (a:Shp) (h:n.kd≠6):joinS [⟨#[32]⟩,nameS n.kd,dg n.na,⟨#[116,111]⟩,shS a]=nodeS n a:=by
 unfold joinS nodeS
 rw[j_ h]
 refine bext ?_
 simp only[joinB_two,joinB_one,bapp,BH_];rfl
theorem node50_6 (n:Nod) (a:Shp) (ok:n.Ok) (oka:a.Ok) (h:n.kd=6):VC L_ 13 ([nod n,shp a]) (st (joinS [⟨#[32]⟩,nameS n.kd,dg n.na,dg n.nb,⟨#[116,111]⟩,shS a])):=by
 have q0:=nodeS_size ok oka
 rw[←joinS_6 n a h] at q0
 have e1:=ok.kd
 have e2:=ok.na
 have e3:=ok.nb
 have oz0:=@name_v (n.kd) e1
 have oz1:=@digits_v (n.na) e2
 have oz3:=@digits_v (n.nb) e3
 have oz6:=@shape50_v (a) oka
 have oz10:=@joined_v ([ByteArray.mk #[32],nameS n.kd,dg n.na,dg n.nb,ByteArray.mk #[116,111],shS a]) (by omega) (by (simp;done))
 exact cR_ [r_,.r [] [cr oz0,cr oz1],r_,b_,.r [] [cr oz3],.r [] [cr oz6,ca oz10]] _ Tryz.func13 (.c8 oz0 oz1 (show (n.kd==6)=true by (refine decide_eq_true ?_;omega)) oz3 (s_ ((3+1)*16≤140737488355328)) (s_ (3+1≤9223372036854775807)) oz6 (s_ ((4+2)*16≤140737488355328))<|.d3 (s_ (4+2≤9223372036854775807)) (show WeakL [AV.sl 1 [[AV.lit (Q_ (ByteArray.mk #[32]))],[AV.lit (Q_ (nameS n.kd))],[AV.lit (Q_ (dg n.na))],[AV.lit (Q_ (dg n.nb))],[AV.lit (Q_ (ByteArray.mk #[116,111]))],[AV.lit (Q_ (shS a))]]] [AV.sl 1 [[AV.lit (Q_ (ByteArray.mk #[32]))],[AV.lit (Q_ (nameS n.kd))],[AV.lit (Q_ (dg n.na))],[AV.lit (Q_ (dg n.nb))],[AV.lit (Q_ (ByteArray.mk #[116,111]))],[AV.lit (Q_ (shS a))]]] from (.cons (Weak.rows (rows_to (rowS) (r:=[[AV.lit (Q_ (ByteArray.mk #[32]))],[AV.lit (Q_ (nameS n.kd))],[AV.lit (Q_ (dg n.na))],[AV.lit (Q_ (dg n.nb))],[AV.lit (Q_ (ByteArray.mk #[116,111]))],[AV.lit (Q_ (shS a))]]) (l:=[ByteArray.mk #[32],nameS n.kd,dg n.na,dg n.nb,ByteArray.mk #[116,111],shS a]) (m:=[ByteArray.mk #[32],nameS n.kd,dg n.na,dg n.nb,ByteArray.mk #[116,111],shS a]) (by first|(simp only[X_,Z_,AP_,AR_,U_,AK_,AL_];done)|rfl|(simp only[X_,Z_,AP_,AR_,U_,AK_,AL_];rfl)|(simp only[X_,Z_,AP_,AR_,U_,AK_,AL_,rowS,ints];done)) rfl)) .nil)) oz10)
theorem node50_n (n:Nod) (a:Shp) (ok:n.Ok) (oka:a.Ok) (h:n.kd≠6):VC L_ 13 ([nod n,shp a]) (st (joinS [⟨#[32]⟩,nameS n.kd,dg n.na,⟨#[116,111]⟩,shS a])):=by
 have q0:=nodeS_size ok oka
 rw[←joinS_n n a h] at q0
 have e1:=ok.kd
 have e2:=ok.na
 have oz0:=@name_v (n.kd) e1
 have oz1:=@digits_v (n.na) e2
 have oz3:=@shape50_v (a) oka
 have oz7:=@joined_v ([ByteArray.mk #[32],nameS n.kd,dg n.na,ByteArray.mk #[116,111],shS a]) (by omega) (by (simp;done))
 exact cR_ [r_,.r [] [cr oz0,cr oz1],r_,d_,.r [] [cr oz3,ca oz7]] _ Tryz.func13 (.d8 oz0 oz1 (show (n.kd==6)=false by (refine decide_eq_false ?_;omega)) oz3 (s_ ((3+2)*16≤140737488355328)) (s_ (3+2≤9223372036854775807)) (show WeakL [AV.sl 1 [[AV.lit (Q_ (ByteArray.mk #[32]))],[AV.lit (Q_ (nameS n.kd))],[AV.lit (Q_ (dg n.na))],[AV.lit (Q_ (ByteArray.mk #[116,111]))],[AV.lit (Q_ (shS a))]]] [AV.sl 1 [[AV.lit (Q_ (ByteArray.mk #[32]))],[AV.lit (Q_ (nameS n.kd))],[AV.lit (Q_ (dg n.na))],[AV.lit (Q_ (ByteArray.mk #[116,111]))],[AV.lit (Q_ (shS a))]]] from (.cons (Weak.rows (rows_to (rowS) (r:=[[AV.lit (Q_ (ByteArray.mk #[32]))],[AV.lit (Q_ (nameS n.kd))],[AV.lit (Q_ (dg n.na))],[AV.lit (Q_ (ByteArray.mk #[116,111]))],[AV.lit (Q_ (shS a))]]) (l:=[ByteArray.mk #[32],nameS n.kd,dg n.na,ByteArray.mk #[116,111],shS a]) (m:=[ByteArray.mk #[32],nameS n.kd,dg n.na,ByteArray.mk #[116,111],shS a]) (by first|(simp only[X_,Z_,AP_,AR_,U_,AK_,AL_];done)|rfl|(simp only[X_,Z_,AP_,AR_,U_,AK_,AL_];rfl)|(simp only[X_,Z_,AP_,AR_,U_,AK_,AL_,rowS,ints];done)) rfl)) .nil)) oz7)
theorem node50_v (n:Nod) (a:Shp) (ok:n.Ok) (oka:a.Ok):VC L_ 13 [nod n,shp a] (st (nodeS n a)):=by
 by_cases h:n.kd=6
 ·rw[←joinS_6 n a h];exact node50_6 n a ok oka h
 ·rw[←joinS_n n a h];exact node50_n n a ok oka h
abbrev bun0:AV:=.agg [i64 0,i64 0,i64 0,i64 0,nilv]
abbrev nilp:AV:=.lit (.pointer none)
theorem whole0   : VC L_ 47 ([bun0]) (i64 5):=by
 have e5:(Shp.mk 0 0 0).Ok:=⟨⟨by decide,by decide⟩,⟨by decide,by decide⟩,⟨by decide,by decide⟩⟩
 have oz0:=@sRight_v (Shp.mk 0 0 0) e5
 exact cR_ [r_,.r [] [cr oz0],b_,r_] _ Tryz.func47 (.d2 oz0 z0_)
theorem vbun0   : VC L_ 28 ([bun0]) (.agg [i64 5,i64 (-1),i64 (-1),i64 (-1)]):=by
 have oz0:=@whole0
 exact cR_ [r_,.r [] [cr oz0],r_,b_,r_] _ Tryz.func28 (.d2 oz0 z0_)
theorem new0   : VC L_ 16 ([bun0]) (.tup [nilp,i64 5]):=by
 have oz0:=@vbun0
 exact cR_ [r_,.r [] [cr oz0],r_,b_,r_] _ Tryz.func16 (.d2 oz0 z0_)
theorem lines0   : VC L_ 8 ([bun0]) (.tup [nilv,i64 5]):=by
 have oz0:=@new0
 exact cR_ [r_,.r [] [cr oz0],r_,b_,r_] _ Tryz.func8 (.d2 oz0 z0_)
theorem text0   : VC L_ 9 ([bun0]) (.tup [st ⟨#[]⟩,i64 5]):=by
 have oz0:=@lines0
 exact cR_ [r_,.r [] [cr oz0],r_,b_,r_] _ Tryz.func9 (.d2 oz0 z0_)
theorem dg_one (i:Nat) (h:i<10):dg i=⟨#[UInt8.ofNat (48+i)]⟩:=by
 rw[dg_pos (by omega)]
 unfold wh
 rw[BU_,Lib.decDigits_one h]
theorem sh123:shS ⟨1,2,3⟩=⟨#[49,120,50,120,51]⟩:=by
 unfold shS
 rw[show dg (Shp.mk 1 2 3).h=_ from dg_one 1 (by decide),show dg (Shp.mk 1 2 3).x=_ from dg_one 2 (by decide),show dg (Shp.mk 1 2 3).c=_ from dg_one 3 (by decide)];rfl
abbrev ndJ:Nod:=⟨6,1,2,0,0,0,0,0,0,[],[],0,0,0,0,0,0,0,0⟩
theorem nd12:nodeS ndJ ⟨0,0,0⟩=⟨#[32,32,106,111,105,110,32,49,32,50,32,116,111,32,48,120,48,120,48]⟩:=by
 unfold nodeS
 rw[i_ rfl]
 unfold shS
 rw[show dg ndJ.na=_ from dg_one 1 (by decide),show dg ndJ.nb=_ from dg_one 2 (by decide),show dg (Shp.mk 0 0 0).h=_ from dg_one 0 (by decide)];rfl
theorem eq123:((shS ⟨1,2,3⟩).toList==(ByteArray.mk #[49,120,50,120,51]).toList)=true:=by rw[sh123];exact beq_self_eq_true _
theorem eq12:((nodeS ndJ ⟨0,0,0⟩).toList==(ByteArray.mk #[32,32,106,111,105,110,32,49,32,50,32,116,111,32,48,120,48,120,48]).toList)=true:=by rw[nd12];exact beq_self_eq_true _
theorem ndJ_ok:ndJ.Ok:=by constructor<;>first|(intro v hv;cases hv;done)|(refine ⟨?_,?_⟩<;>decide)
theorem shp_ok3 (a b c:Int) (h:0≤a∧a≤9∧0≤b∧b≤9∧0≤c∧c≤9):(Shp.mk a b c).Ok:=⟨⟨by dsimp only;omega,by dsimp only;omega⟩,⟨by dsimp only;omega,by dsimp only;omega⟩,⟨by dsimp only;omega,by dsimp only;omega⟩⟩
theorem known50_v   : VC L_ 7 ([]) (bv true):=by
 have e1:=eq123
 have e2:=eq12
 have e3:=ndJ_ok
 have e4:=shp_ok3 1 2 3 (by omega)
 have e5:=shp_ok3 0 0 0 (by omega)
 have oz0:=@text0
 have oz1:=@shape50_v (Shp.mk 1 2 3) e4
 have oz2:=z0_
 have oz9:=@node50_6 (Nod.mk 6 1 2 0 0 0 0 0 0 [] [] 0 0 0 0 0 0 0 0) (Shp.mk 0 0 0) e3 e5 (by with_reducible rfl)
 exact cR_ [r_,.r [] [cr oz0],.r [] [cr oz1,e_,e_,e_,e_,e_,e_,ca oz9,e_,e_]] _ Tryz.func7 (.c8 oz0 oz1 oz2 oz2 oz2 oz2 oz2 oz2<|.d4 (show WeakL [AV.agg [i64 6,i64 1,i64 2,i64 0,i64 0,i64 0,i64 0,i8 0,i8 0,AV.lit (AC_ none 0 0),AV.lit (AC_ none 0 0),i32 0,i64 0,i8 0,i32 0,i64 0,i8 0,i8 0,i8 0],AV.agg [i64 0,i64 0,i64 0]] [AV.agg [i64 (Nod.mk 6 1 2 0 0 0 0 0 0 [] [] 0 0 0 0 0 0 0 0).kd,i64 (Nod.mk 6 1 2 0 0 0 0 0 0 [] [] 0 0 0 0 0 0 0 0).na,i64 (Nod.mk 6 1 2 0 0 0 0 0 0 [] [] 0 0 0 0 0 0 0 0).nb,i64 (Nod.mk 6 1 2 0 0 0 0 0 0 [] [] 0 0 0 0 0 0 0 0).nk,i64 (Nod.mk 6 1 2 0 0 0 0 0 0 [] [] 0 0 0 0 0 0 0 0).ns,i64 (Nod.mk 6 1 2 0 0 0 0 0 0 [] [] 0 0 0 0 0 0 0 0).np,i64 (Nod.mk 6 1 2 0 0 0 0 0 0 [] [] 0 0 0 0 0 0 0 0).no,i8 (Nod.mk 6 1 2 0 0 0 0 0 0 [] [] 0 0 0 0 0 0 0 0).za,i8 (Nod.mk 6 1 2 0 0 0 0 0 0 [] [] 0 0 0 0 0 0 0 0).zb,AV.sl 1 [],AV.sl 1 [],i32 (Nod.mk 6 1 2 0 0 0 0 0 0 [] [] 0 0 0 0 0 0 0 0).qm,i64 (Nod.mk 6 1 2 0 0 0 0 0 0 [] [] 0 0 0 0 0 0 0 0).qs,i8 (Nod.mk 6 1 2 0 0 0 0 0 0 [] [] 0 0 0 0 0 0 0 0).qz,i32 (Nod.mk 6 1 2 0 0 0 0 0 0 [] [] 0 0 0 0 0 0 0 0).rm,i64 (Nod.mk 6 1 2 0 0 0 0 0 0 [] [] 0 0 0 0 0 0 0 0).rs,i8 (Nod.mk 6 1 2 0 0 0 0 0 0 [] [] 0 0 0 0 0 0 0 0).rz,i8 (Nod.mk 6 1 2 0 0 0 0 0 0 [] [] 0 0 0 0 0 0 0 0).lo,i8 (Nod.mk 6 1 2 0 0 0 0 0 0 [] [] 0 0 0 0 0 0 0 0).hi],AV.agg [i64 (Shp.mk 0 0 0).h,i64 (Shp.mk 0 0 0).x,i64 (Shp.mk 0 0 0).c]] from (.cons (BL_ (.cons (.refl _) (.cons (.refl _) (.cons (.refl _) (.cons (.refl _) (.cons (.refl _) (.cons (.refl _) (.cons (.refl _) (.cons (.refl _) (.cons (.refl _) (.cons (Weak.nil _) (.cons (Weak.nil _) (.cons (.refl _) (.cons (.refl _) (.cons (.refl _) (.cons (.refl _) (.cons (.refl _) (.cons (.refl _) (.cons (.refl _) (.cons (.refl _) .nil)))))))))))))))))))) (.cons (.refl _) .nil))) oz9 oz2 oz2)
structure Blc.Sz (x:Blc):Prop where
 l:x.n.length≤1000
 n:∀ n∈x.n,n.w.length≤100000∧n.b.length≤100000
 w:x.w.length≤100000
 b:x.b.length≤100000
structure Mdl.Sz (m:Mdl):Prop where
 l:m.l.length≤1000
 b:∀ x∈m.l,x.Sz
structure Bun.Sz (u:Bun):Prop where
 l:u.m.length≤1000
 b:∀ x∈u.m,x.Sz
theorem set_same {α:Type} [Inhabited α] {l:List α} {k:Nat} (h:k<l.length):l.set k (l.getD k default)=l:=by
 apply List.ext_getElem (by simp)
 intro i h1 h2
 rw[List.getElem_set]
 split
 ·rename_i e;subst e;rw[AN_,S_ h];rfl
 ·rfl
theorem set_same2 {α:Type} [Inhabited α] {l:List α} {k:Nat} (h:k<l.length):(l.set (k:Int).toNat (l.getD k default)).set (k:Int).toNat (l.getD k default)=l:=by
 rw[BU_,set_same h,set_same h]
theorem chead_v (w b:List Int) (nd:Int) (wl:w.length≤100000) (bl:b.length≤100000):VC L_ 74 ([.agg [ints .i8 w,ints .i32 b,i32 nd]]) (.agg [ints .i8 w,ints .i32 b,i32 nd]):=by
 have oz0:=@clone8_v (w) (by omega)
 have oz1:=@clone32_v (b) (by omega)
 exact cR_ [r_,.r [] [cr oz0,cr oz1],r_] _ Tryz.func74 (.d2 oz0 oz1)
theorem cloneN_a   : VC L_ 71 ([nilv]) (.sl 19 []):=by
 exact (cR_ [r_,r_,b_,r_] (AV.lit (AC_ none 0 0)) Tryz.func71 (.d z0_)).weak (D_ _) (Weak.nil _)
theorem cloneN_b (a:Addr) (cap:Nat) (h:cap≤maxLen):VC L_ 71 ([.lit (.slice (some a) 0 cap)]) (.sl 19 []):=by
 exact cR_ [r_,r_,d_,.r [] [.code Exit.normal (VS.mk [AV.sl 19 []] [])]] _ Tryz.func71 (.d4 z1_ (show Weak (AV.lit (AC_ (some a) 0 cap)) (AV.sl 19 []) from (Weak.empty _ _ (by assumption))) (s_ (((0:Nat)+(0:Nat))*(168:Nat)≤(140737488355328:Nat))) z2_)
theorem cloneN_0:VC L_ 71 [.sl 19 []] (.sl 19 []):=VC.empty1 cloneN_a fun a cap h=>cloneN_b a cap h
noncomputable def cblk_l_I (x:Blc) (k:Nat):VS:=stt 38 [(1,.ptr 1 0 0),(2,.ptr 2 0 0),(3,.own 900),(9,.own 900),(10,i64 (x.n.map nodC).length),(11,i64 k)] [(1,.var (blcC x)),(2,.var [.any,.any,.any,.any,.any]),(900,.slc 43 19 (x.n.map nodC))]
noncomputable def cblk_l_Z (x:Blc):VS:=cblk_l_I x (x.n.length)
theorem cblk_l_s (x:Blc) (sm:x.Sz) (k:Nat) (hk:k<x.n.length):VT L_ (fnC Tryz.f51 [1,1,0,1,0,0]) (cblk_l_I x k) .normal (cblk_l_I x (k+1)):=by
 have q:=getD_in sm.n hk
 have q1:=sm.l
 have oz1:=(s_ (0≤(↑k:Int)))
 have oz2:=(show (↑k:Int)<((K_ nodC x.n).length:Int) by (simp;omega))
 have oz3:=(map_at (nodC) (default) (l:=x.n) (i:=k) hk)
 have oz4:=@clone8_v ((x.n.getD k default).w) (by omega)
 have oz5:=@clone32_v ((x.n.getD k default).b) (by omega)
 have oz11:=(show ((K_ nodC x.n).set (↑k:Int).toNat [i64 (x.n.getD k default).kd,i64 (x.n.getD k default).na,i64 (x.n.getD k default).nb,i64 (x.n.getD k default).nk,i64 (x.n.getD k default).ns,i64 (x.n.getD k default).np,i64 (x.n.getD k default).no,i8 (x.n.getD k default).za,i8 (x.n.getD k default).zb,AV.sl 1 (K_ (row1 .i8) (x.n.getD k default).w),AV.sl 1 (K_ (row1 .i32) (x.n.getD k default).b),i32 (x.n.getD k default).qm,i64 (x.n.getD k default).qs,i8 (x.n.getD k default).qz,i32 (x.n.getD k default).rm,i64 (x.n.getD k default).rs,i8 (x.n.getD k default).rz,i8 (x.n.getD k default).lo,i8 (x.n.getD k default).hi])[(↑k:Int).toNat]? = some [i64 (x.n.getD k default).kd,i64 (x.n.getD k default).na,i64 (x.n.getD k default).nb,i64 (x.n.getD k default).nk,i64 (x.n.getD k default).ns,i64 (x.n.getD k default).np,i64 (x.n.getD k default).no,i8 (x.n.getD k default).za,i8 (x.n.getD k default).zb,AV.sl 1 (K_ (row1 .i8) (x.n.getD k default).w),AV.sl 1 (K_ (row1 .i32) (x.n.getD k default).b),i32 (x.n.getD k default).qm,i64 (x.n.getD k default).qs,i8 (x.n.getD k default).qz,i32 (x.n.getD k default).rm,i64 (x.n.getD k default).rs,i8 (x.n.getD k default).rz,i8 (x.n.getD k default).lo,i8 (x.n.getD k default).hi] from (get_set (by omega) (by (simp;omega))))
 exact tR_ [r_,b_,.r [] [.row (sO oz3)],.r [] [cr oz4,cr oz5,.row (sO oz3),.row (sO oz3)],.r [] [.n ((↑k:Int)+1)]] [.any (rg [(4,2),(12,19)]),.drop [5],.weak 11 (i64 (↑(k+1):Int)),.blk 900 (Blk.slc 43 19 (K_ nodC x.n)),.sort] (.c8 (show decide ((↑k:Int)<((K_ nodC x.n).length:Int))=true by (simp;omega)) oz1 oz2 oz3 oz4 oz5 oz1 oz2<|.d7 oz3 oz1 (show (↑k:Int)<(↑((K_ nodC x.n).set (↑k:Int).toNat [i64 (x.n.getD k default).kd,i64 (x.n.getD k default).na,i64 (x.n.getD k default).nb,i64 (x.n.getD k default).nk,i64 (x.n.getD k default).ns,i64 (x.n.getD k default).np,i64 (x.n.getD k default).no,i8 (x.n.getD k default).za,i8 (x.n.getD k default).zb,AV.sl 1 (K_ (row1 .i8) (x.n.getD k default).w),AV.sl 1 (K_ (row1 .i32) (x.n.getD k default).b),i32 (x.n.getD k default).qm,i64 (x.n.getD k default).qs,i8 (x.n.getD k default).qz,i32 (x.n.getD k default).rm,i64 (x.n.getD k default).rs,i8 (x.n.getD k default).rz,i8 (x.n.getD k default).lo,i8 (x.n.getD k default).hi]).length:Int) by (simp;omega)) oz11 (i6n ((↑k:Int)+1) (by (try dsimp only)<;>omega)) (N_ (k:=.i64) (show (((↑k:Int)+1):Int)=((↑(k+1):Int)) from (by (try dsimp only)<;>omega))) (show BlkW (Blk.slc 43 19 (((K_ nodC x.n).set (↑k:Int).toNat [i64 (x.n.getD k default).kd,i64 (x.n.getD k default).na,i64 (x.n.getD k default).nb,i64 (x.n.getD k default).nk,i64 (x.n.getD k default).ns,i64 (x.n.getD k default).np,i64 (x.n.getD k default).no,i8 (x.n.getD k default).za,i8 (x.n.getD k default).zb,AV.sl 1 (K_ (row1 .i8) (x.n.getD k default).w),AV.sl 1 (K_ (row1 .i32) (x.n.getD k default).b),i32 (x.n.getD k default).qm,i64 (x.n.getD k default).qs,i8 (x.n.getD k default).qz,i32 (x.n.getD k default).rm,i64 (x.n.getD k default).rs,i8 (x.n.getD k default).rz,i8 (x.n.getD k default).lo,i8 (x.n.getD k default).hi]).set (↑k:Int).toNat [i64 (x.n.getD k default).kd,i64 (x.n.getD k default).na,i64 (x.n.getD k default).nb,i64 (x.n.getD k default).nk,i64 (x.n.getD k default).ns,i64 (x.n.getD k default).np,i64 (x.n.getD k default).no,i8 (x.n.getD k default).za,i8 (x.n.getD k default).zb,AV.sl 1 (K_ (row1 .i8) (x.n.getD k default).w),AV.sl 1 (K_ (row1 .i32) (x.n.getD k default).b),i32 (x.n.getD k default).qm,i64 (x.n.getD k default).qs,i8 (x.n.getD k default).qz,i32 (x.n.getD k default).rm,i64 (x.n.getD k default).rs,i8 (x.n.getD k default).rz,i8 (x.n.getD k default).lo,i8 (x.n.getD k default).hi])) (Blk.slc 43 19 (K_ nodC x.n)) from (BB_ (e:=43) (z:=19) (rows_to (nodC) (r:=((K_ nodC x.n).set (↑k:Int).toNat [i64 (x.n.getD k default).kd,i64 (x.n.getD k default).na,i64 (x.n.getD k default).nb,i64 (x.n.getD k default).nk,i64 (x.n.getD k default).ns,i64 (x.n.getD k default).np,i64 (x.n.getD k default).no,i8 (x.n.getD k default).za,i8 (x.n.getD k default).zb,AV.sl 1 (K_ (row1 .i8) (x.n.getD k default).w),AV.sl 1 (K_ (row1 .i32) (x.n.getD k default).b),i32 (x.n.getD k default).qm,i64 (x.n.getD k default).qs,i8 (x.n.getD k default).qz,i32 (x.n.getD k default).rm,i64 (x.n.getD k default).rs,i8 (x.n.getD k default).rz,i8 (x.n.getD k default).lo,i8 (x.n.getD k default).hi]).set (↑k:Int).toNat [i64 (x.n.getD k default).kd,i64 (x.n.getD k default).na,i64 (x.n.getD k default).nb,i64 (x.n.getD k default).nk,i64 (x.n.getD k default).ns,i64 (x.n.getD k default).np,i64 (x.n.getD k default).no,i8 (x.n.getD k default).za,i8 (x.n.getD k default).zb,AV.sl 1 (K_ (row1 .i8) (x.n.getD k default).w),AV.sl 1 (K_ (row1 .i32) (x.n.getD k default).b),i32 (x.n.getD k default).qm,i64 (x.n.getD k default).qs,i8 (x.n.getD k default).qz,i32 (x.n.getD k default).rm,i64 (x.n.getD k default).rs,i8 (x.n.getD k default).rz,i8 (x.n.getD k default).lo,i8 (x.n.getD k default).hi]) (l:=(x.n.set (↑k:Int).toNat (Nod.mk (x.n.getD k default).kd (x.n.getD k default).na (x.n.getD k default).nb (x.n.getD k default).nk (x.n.getD k default).ns (x.n.getD k default).np (x.n.getD k default).no (x.n.getD k default).za (x.n.getD k default).zb (x.n.getD k default).w (x.n.getD k default).b (x.n.getD k default).qm (x.n.getD k default).qs (x.n.getD k default).qz (x.n.getD k default).rm (x.n.getD k default).rs (x.n.getD k default).rz (x.n.getD k default).lo (x.n.getD k default).hi)).set (↑k:Int).toNat (Nod.mk (x.n.getD k default).kd (x.n.getD k default).na (x.n.getD k default).nb (x.n.getD k default).nk (x.n.getD k default).ns (x.n.getD k default).np (x.n.getD k default).no (x.n.getD k default).za (x.n.getD k default).zb (x.n.getD k default).w (x.n.getD k default).b (x.n.getD k default).qm (x.n.getD k default).qs (x.n.getD k default).qz (x.n.getD k default).rm (x.n.getD k default).rs (x.n.getD k default).rz (x.n.getD k default).lo (x.n.getD k default).hi)) (m:=x.n) (by first|(simp only[X_,Z_,AP_,AR_,U_,AK_,AL_];done)|rfl|(simp only[X_,Z_,AP_,AR_,U_,AK_,AL_];rfl)|(simp only[X_,Z_,AP_,AR_,U_,AK_,AL_,nodC,ints];done)) (show ((x.n.set (↑k:Int).toNat (Nod.mk (x.n.getD k default).kd (x.n.getD k default).na (x.n.getD k default).nb (x.n.getD k default).nk (x.n.getD k default).ns (x.n.getD k default).np (x.n.getD k default).no (x.n.getD k default).za (x.n.getD k default).zb (x.n.getD k default).w (x.n.getD k default).b (x.n.getD k default).qm (x.n.getD k default).qs (x.n.getD k default).qz (x.n.getD k default).rm (x.n.getD k default).rs (x.n.getD k default).rz (x.n.getD k default).lo (x.n.getD k default).hi)).set (↑k:Int).toNat (Nod.mk (x.n.getD k default).kd (x.n.getD k default).na (x.n.getD k default).nb (x.n.getD k default).nk (x.n.getD k default).ns (x.n.getD k default).np (x.n.getD k default).no (x.n.getD k default).za (x.n.getD k default).zb (x.n.getD k default).w (x.n.getD k default).b (x.n.getD k default).qm (x.n.getD k default).qs (x.n.getD k default).qz (x.n.getD k default).rm (x.n.getD k default).rs (x.n.getD k default).rz (x.n.getD k default).lo (x.n.getD k default).hi))=(x.n) from (by (exact set_same2 hk)))))))
theorem cblk_l_e (x:Blc) (sm:x.Sz):VT L_ (fnC Tryz.f51 [1,1,0,1,0,0]) (cblk_l_I x (x.n.length)) (.exit 0) (cblk_l_Z x):=by
 have q1:=sm.l
 exact tR_ [r_,d_] [.any [12],.sort] (.d (show decide ((x.n.length:Int)<((K_ nodC x.n).length:Int))=false by (simp;done)))
theorem cblk_l (x:Blc) (sm:x.Sz):VT L_ (fnC Tryz.f51 [1,1,0,1,0]) (cblk_l_I x 0) (.exit 0) (cblk_l_Z x) :=
 VT.loop (fun k=>cblk_l_I x k) (x.n.length) (fun k hk=>cblk_l_s x sm k hk) (cblk_l_e x sm) (by intro h;cases h)
theorem cblk_y (x:Blc) (sm:x.Sz) (h:x.n≠[]):VC L_ 51 ([blc x]) (blc x):=by
 obtain ⟨q1,q2,q3,q4⟩:=id sm
 have q5:K_ nodC x.n≠[]:=by simpa using h
 have oz0:=(show VM L_ 71 [AV.sl 19 (K_ nodC x.n)] [] (AV.own 7) [(7,Blk.slc 43 19 ([]++K_ nodC x.n))] from (show VM L_ 71 ([AV.sl 19 (K_ nodC x.n)]) ([]) (AV.own 7) ([(7,Blk.slc 43 19 ([]++K_ nodC x.n))]) from mR_ [r_,r_,d_,r_] [GI.sort] _ Tryz.func71 (.d4 (show K_ nodC x.n≠[] from q5) (show false=false from (by with_reducible rfl)) (show (0+(K_ nodC x.n).length)*168≤140737488355328 from (by (simp;omega))) (show 0+(K_ nodC x.n).length≤9223372036854775807 from (by (simp;omega))))))
 have oz1:=(N_ (k:=.i64) (show (((([]++K_ nodC x.n).length:Int)):Int)=(((K_ nodC x.n).length:Int)) from (by (simp;done))))
 have oz5:=@cblk_l (x) sm
 have oz6:=@chead_v (x.w) (x.b) (x.nd) q3 q4
 exact cR_ [r_,.r [] [.callm [] [(7,20000)] (rM oz0) (oM oz0)],r_,.code [.any [0,6,7,8],.ren 20000 900,.weak 10 (wO oz1),.weak 11 (i64 (↑0:Int)),.blk 2 (Blk.var [AV.any,AV.any,AV.any,AV.any,AV.any]),.blk 900 (Blk.slc 43 19 (K_ nodC x.n)),.sort] (BM_ 0) (zO oz5),.r [] [cr oz6]] _ Tryz.func51 (.d7 oz0 oz1 w0_ (show BlkW (Blk.var [AV.lit (AC_ none (0:Nat) (0:Nat)),bv false,AV.lit (AC_ none (0:Nat) (0:Nat)),AV.lit (AC_ none (0:Nat) (0:Nat)),i32 (0:Int)]) (Blk.var [AV.any,AV.any,AV.any,AV.any,AV.any]) from (BlkW.var (m:=[AV.any,AV.any,AV.any,AV.any,AV.any]) (.cons (Weak.any _) (.cons (Weak.any _) (.cons (Weak.any _) (.cons (Weak.any _) (.cons (Weak.any _) .nil))))))) (show BlkW (Blk.slc 43 19 ([]++K_ nodC x.n)) (Blk.slc 43 19 (K_ nodC x.n)) from (BB_ (e:=43) (z:=19) (rows_to (nodC) (r:=[]++K_ nodC x.n) (l:=[]++x.n) (m:=x.n) (by first|(simp only[X_,Z_,AP_,AR_,U_,AK_,AL_];done)|rfl|(simp only[X_,Z_,AP_,AR_,U_,AK_,AL_];rfl)|(simp only[X_,Z_,AP_,AR_,U_,AK_,AL_,nodC,ints];done)) (show ([]++x.n)=(x.n) from (by (simp;done)))))) oz5 oz6)
noncomputable def cblk_z_I (ex:Bool) (w b:List Int) (nd:Int) (k:Nat):VS:=stt 38 [(1,.ptr 1 0 0),(2,.ptr 2 0 0),(3,.sl 19 []),(9,.sl 19 []),(10,i64 (0:Nat)),(11,i64 k)] [(1,.var [.sl 19 [],bv ex,ints .i8 w,ints .i32 b,i32 nd]),(2,.var [.any,.any,.any,.any,.any])]
noncomputable def cblk_z_Z (ex:Bool) (w b:List Int) (nd:Int):VS:=cblk_z_I ex w b nd (0)
theorem cblk_z_e (ex:Bool) (w b:List Int) (nd:Int)  : VT L_ (fnC Tryz.f51 [1,1,0,1,0,0]) (cblk_z_I ex w b nd (0)) (.exit 0) (cblk_z_Z ex w b nd):=by
 exact tR_ [r_,d_] [.any [12],.sort] (.d z1_)
theorem cblk_z (ex:Bool) (w b:List Int) (nd:Int)  : VT L_ (fnC Tryz.f51 [1,1,0,1,0]) (cblk_z_I ex w b nd 0) (.exit 0) (cblk_z_Z ex w b nd) :=
 VT.loop (fun k=>cblk_z_I ex w b nd k) (0) (fun k hk=>absurd hk (Nat.not_lt_zero k)) (cblk_z_e ex w b nd ) (by intro h;cases h)
theorem cblk_0 (ex:Bool) (w b:List Int) (nd:Int) (wl:w.length≤100000) (bl:b.length≤100000):VC L_ 51 ([.agg [.sl 19 [],bv ex,ints .i8 w,ints .i32 b,i32 nd]]) (.agg [.sl 19 [],bv ex,ints .i8 w,ints .i32 b,i32 nd]):=by
 have oz0:=@cloneN_0
 have oz4:=@cblk_z (ex) (w) (b) (nd)
 have oz5:=@chead_v (w) (b) (nd) wl bl
 exact cR_ [r_,.r [] [cr oz0],r_,.code [.any [0,6,7,8],.weak 10 (i64 (↑0:Int)),.weak 11 (i64 (↑0:Int)),.blk 2 (Blk.var [AV.any,AV.any,AV.any,AV.any,AV.any]),.sort] (BM_ 0) (zO oz4),.r [] [cr oz5]] _ Tryz.func51 (.d6 oz0 (N_ (k:=.i64) (show (((↑0:Int)):Int)=((↑0:Int)) from (by (simp;done)))) w0_ (show BlkW (Blk.var [AV.lit (AC_ none (0:Nat) (0:Nat)),bv false,AV.lit (AC_ none (0:Nat) (0:Nat)),AV.lit (AC_ none (0:Nat) (0:Nat)),i32 (0:Int)]) (Blk.var [AV.any,AV.any,AV.any,AV.any,AV.any]) from (BlkW.var (m:=[AV.any,AV.any,AV.any,AV.any,AV.any]) (.cons (Weak.any _) (.cons (Weak.any _) (.cons (Weak.any _) (.cons (Weak.any _) (.cons (Weak.any _) .nil))))))) oz4 oz5)
theorem cblk_v (x:Blc) (sm:x.Sz):VC L_ 51 [blc x] (blc x):=by
 by_cases h:x.n=[]
 ·obtain ⟨n,ex,w,b,nd⟩:=x
  dsimp only at h;subst h
  exact cblk_0 ex w b nd sm.w sm.b
 ·exact cblk_y x sm h
noncomputable def copy_i_I (u:Bun) (I:Int) (l:List Blc) (k:Nat):VS:=stt 47 [(1,.ptr 1 0 0),(2,.ptr 2 0 0),(3,.own 900),(4,i64 I),(5,.ptr 5 0 0),(11,.own 900),(12,i64 (u.m.map mdlC).length),(13,i64 I),(26,.sl 5 (l.map blcC)),(27,i64 (l.map blcC).length),(28,i64 k)] [(1,.var (bunC u)),(2,.var [.any,.any,.any,.any,.any]),(5,.var [.any]),(900,.foc 49 1 (u.m.map mdlC) I.toNat [.own 901]),(901,.slc 54 5 (l.map blcC))]
noncomputable def copy_i_Z (u:Bun) (I:Int) (l:List Blc):VS:=copy_i_I u I l (l.length)
theorem copy_i_s (u:Bun) (I:Int) (l:List Blc) (sz:∀ x∈l,x.Sz) (hl:l.length≤1000) (h0:0≤I) (h1:I<u.m.length) (k:Nat) (hk:k<l.length):VT L_ (fnC Tryz.f29 [1,1,0,1,0,0,1,1,0,0,1,1,1,0,0]) (copy_i_I u I l k) .normal (copy_i_I u I l (k+1)):=by
 have q1:=getD_in sz hk
 have oz1:=(s_ (0≤(↑k:Int)))
 have oz2:=(map_at (blcC) (default) (l:=l) (i:=k) hk)
 have oz6:=@cblk_v (l.getD k default) q1
 exact tR_ [r_,b_,.r [] [.row (sO oz2)],.r [] [cr oz6,.nat 0],.r [] [.n ((↑k:Int)+1)]] [.any (rg [(6,2),(29,14)]),.drop [7],.weak 28 (i64 (↑(k+1):Int)),.blk 901 (Blk.slc 54 5 (K_ blcC l)),.sort] (.c8 (show decide ((↑k:Int)<((K_ blcC l).length:Int))=true by (simp;omega)) oz1 oz2 h0 (show I<((K_ mdlC u.m).length:Int) by (simp;omega)) (show I.toNat=I.toNat by with_reducible rfl) oz6 oz1<|.d5 (show (↑k:Int)<((K_ blcC l).length:Int) by (simp;omega)) (show (↑k:Int).toNat<(K_ blcC l).length by (simp;omega)) (i6n ((↑k:Int)+1) (by (try dsimp only)<;>omega)) (N_ (k:=.i64) (show (((↑k:Int)+1):Int)=((↑(k+1):Int)) from (by (try dsimp only)<;>omega))) (show BlkW (Blk.slc 54 5 ((K_ blcC l).set (↑k:Int).toNat [AV.sl 19 (K_ nodC (l.getD k default).n),bv (l.getD k default).ex,AV.sl 1 (K_ (row1 .i8) (l.getD k default).w),AV.sl 1 (K_ (row1 .i32) (l.getD k default).b),i32 (l.getD k default).nd])) (Blk.slc 54 5 (K_ blcC l)) from (BB_ (e:=54) (z:=5) (rows_to (blcC) (r:=(K_ blcC l).set (↑k:Int).toNat [AV.sl 19 (K_ nodC (l.getD k default).n),bv (l.getD k default).ex,AV.sl 1 (K_ (row1 .i8) (l.getD k default).w),AV.sl 1 (K_ (row1 .i32) (l.getD k default).b),i32 (l.getD k default).nd]) (l:=l.set (↑k:Int).toNat (Blc.mk (l.getD k default).n (l.getD k default).ex (l.getD k default).w (l.getD k default).b (l.getD k default).nd)) (m:=l) (by first|(simp only[X_,Z_,AP_,AR_,U_,AK_,AL_];done)|rfl|(simp only[X_,Z_,AP_,AR_,U_,AK_,AL_];rfl)|(simp only[X_,Z_,AP_,AR_,U_,AK_,AL_,blcC,ints];done)) (show (l.set (↑k:Int).toNat (Blc.mk (l.getD k default).n (l.getD k default).ex (l.getD k default).w (l.getD k default).b (l.getD k default).nd))=(l) from (by (exact set_same hk)))))))
theorem copy_i_e (u:Bun) (I:Int) (l:List Blc) (sz:∀ x∈l,x.Sz) (hl:l.length≤1000) (h0:0≤I) (h1:I<u.m.length):VT L_ (fnC Tryz.f29 [1,1,0,1,0,0,1,1,0,0,1,1,1,0,0]) (copy_i_I u I l (l.length)) (.exit 2) (copy_i_Z u I l):=by
 exact tR_ [r_,d_] [.any [29],.sort] (.d (show decide ((l.length:Int)<((K_ blcC l).length:Int))=false by (simp;done)))
theorem copy_i (u:Bun) (I:Int) (l:List Blc) (sz:∀ x∈l,x.Sz) (hl:l.length≤1000) (h0:0≤I) (h1:I<u.m.length):VT L_ (fnC Tryz.f29 [1,1,0,1,0,0,1,1,0,0,1,1,1,0]) (copy_i_I u I l 0) (.exit 2) (copy_i_Z u I l) :=
 VT.loop (fun k=>copy_i_I u I l k) (l.length) (fun k hk=>copy_i_s u I l sz hl h0 h1 k hk) (copy_i_e u I l sz hl h0 h1) (by intro h;cases h)
theorem set_mdl {l:List Mdl} {k:Nat} (h:k<l.length):l.set (k:Int).toNat ⟨(l.getD k default).l⟩=l:=by rw[BU_];exact set_same h
noncomputable def copy_o_I (u:Bun) (k:Nat):VS:=stt 47 [(1,.ptr 1 0 0),(2,.ptr 2 0 0),(3,.own 900),(11,.own 900),(12,i64 (u.m.map mdlC).length),(13,i64 k)] [(1,.var (bunC u)),(2,.var [.any,.any,.any,.any,.any]),(900,.slc 49 1 (u.m.map mdlC))]
noncomputable def copy_o_Z (u:Bun):VS:=copy_o_I u (u.m.length)
theorem copy_o_s (u:Bun) (sz:u.Sz) (hne:∀ m∈u.m,m.l≠[]) (k:Nat) (hk:k<u.m.length):VT L_ (fnC Tryz.f29 [1,1,0,1,0,0]) (copy_o_I u k) .normal (copy_o_I u (k+1)):=by
 have q1:=sz.l
 have q2:=(getD_in sz.b hk).l
 have q3:=(getD_in sz.b hk).b
 have q4:K_ blcC (u.m.getD k default).l≠[]:=by simpa using getD_in hne hk
 have oz1:=(s_ (0≤(↑k:Int)))
 have oz2:=(show (↑k:Int)<((K_ mdlC u.m).length:Int) by (simp;omega))
 have oz3:=(map_at (mdlC) (default) (l:=u.m) (i:=k) hk)
 have oz4:=(show VM L_ 50 [AV.sl 5 (K_ blcC (u.m.getD k default).l)] [] (AV.own 7) [(7,Blk.slc 54 5 ([]++K_ blcC (u.m.getD k default).l))] from (show VM L_ 50 ([AV.sl 5 (K_ blcC (u.m.getD k default).l)]) ([]) (AV.own 7) ([(7,Blk.slc 54 5 ([]++K_ blcC (u.m.getD k default).l))]) from mR_ [r_,r_,d_,r_] [GI.sort] _ Tryz.func50 (.d4 (show K_ blcC (u.m.getD k default).l≠[] from q4) (show false=false from (by with_reducible rfl)) (show (0+(K_ blcC (u.m.getD k default).l).length)*88≤140737488355328 from (by (simp only[T_] at *;omega))) (show 0+(K_ blcC (u.m.getD k default).l).length≤9223372036854775807 from (by (simp only[T_] at *;omega))))))
 have oz11:=@copy_i (u) ((↑k:Int)) ((u.m.getD k default).l) q3 q2 (by omega) (by omega)
 exact tR_ [r_,b_,.r [] [.row (sO oz3)],.r [] [.callm [] [(7,20000)] (rM oz4) (oM oz4),.nat 0],r_,.code [.any (rg [(14,12)]),.ren 20000 901,.weak 28 (i64 (↑0:Int)),.blk 5 (Blk.var [AV.any]),.blk 901 (Blk.slc 54 5 (K_ blcC (u.m.getD k default).l)),.sort] (BM_ 2) (zO oz11),.r [] [.n ((↑k:Int)+1)]] [.frz 901,.unf 900,.any [4,5,26,27,28,43],.drop [5],.weak 13 (i64 (↑(k+1):Int)),.blk 900 (Blk.slc 49 1 (K_ mdlC u.m)),.sort] (.c8 (show decide ((↑k:Int)<((K_ mdlC u.m).length:Int))=true by (simp;omega)) oz1 oz2 oz3 oz4 oz1 oz2 (show (↑k:Int).toNat<(K_ mdlC u.m).length by (simp;omega))<|.d7 (N_ (k:=.i64) (show ((0):Int)=((↑0:Int)) from (by (try dsimp only)<;>omega))) (show BlkW (Blk.var [AV.sl 5 (K_ blcC (u.m.getD k default).l)]) (Blk.var [AV.any]) from (BlkW.var (m:=[AV.any]) (.cons (Weak.any _) .nil))) (show BlkW (Blk.slc 54 5 ([]++K_ blcC (u.m.getD k default).l)) (Blk.slc 54 5 (K_ blcC (u.m.getD k default).l)) from (BB_ (e:=54) (z:=5) (rows_to (blcC) (r:=[]++K_ blcC (u.m.getD k default).l) (l:=[]++(u.m.getD k default).l) (m:=(u.m.getD k default).l) (by first|(simp only[X_,Z_,AP_,AR_,U_,AK_,AL_];done)|rfl|(simp only[X_,Z_,AP_,AR_,U_,AK_,AL_];rfl)|(simp only[X_,Z_,AP_,AR_,U_,AK_,AL_,blcC,ints];done)) (show ([]++(u.m.getD k default).l)=((u.m.getD k default).l) from (by (simp;done)))))) oz11 (i6n ((↑k:Int)+1) (by (try dsimp only)<;>omega)) (N_ (k:=.i64) (show (((↑k:Int)+1):Int)=((↑(k+1):Int)) from (by (try dsimp only)<;>omega))) (show BlkW (Blk.slc 49 1 ((K_ mdlC u.m).set (↑k:Int).toNat [AV.sl 5 (K_ blcC (u.m.getD k default).l)])) (Blk.slc 49 1 (K_ mdlC u.m)) from (BB_ (e:=49) (z:=1) (rows_to (mdlC) (r:=(K_ mdlC u.m).set (↑k:Int).toNat [AV.sl 5 (K_ blcC (u.m.getD k default).l)]) (l:=u.m.set (↑k:Int).toNat (Mdl.mk (u.m.getD k default).l)) (m:=u.m) (by first|(simp only[X_,Z_,AP_,AR_,U_,AK_,AL_];done)|rfl|(simp only[X_,Z_,AP_,AR_,U_,AK_,AL_];rfl)|(simp only[X_,Z_,AP_,AR_,U_,AK_,AL_,mdlC,ints];done)) (show (u.m.set (↑k:Int).toNat (Mdl.mk (u.m.getD k default).l))=(u.m) from (by (exact set_mdl hk)))))))
theorem copy_o_e (u:Bun) (sz:u.Sz) (hne:∀ m∈u.m,m.l≠[]):VT L_ (fnC Tryz.f29 [1,1,0,1,0,0]) (copy_o_I u (u.m.length)) (.exit 0) (copy_o_Z u):=by
 exact tR_ [r_,d_] [.any [14],.sort] (.d (show decide ((u.m.length:Int)<((K_ mdlC u.m).length:Int))=false by (simp;done)))
theorem copy_o (u:Bun) (sz:u.Sz) (hne:∀ m∈u.m,m.l≠[]):VT L_ (fnC Tryz.f29 [1,1,0,1,0]) (copy_o_I u 0) (.exit 0) (copy_o_Z u) :=
 VT.loop (fun k=>copy_o_I u k) (u.m.length) (fun k hk=>copy_o_s u sz hne k hk) (copy_o_e u sz hne) (by intro h;cases h)
theorem copy_y (u:Bun) (sz:u.Sz) (hne:∀ m∈u.m,m.l≠[]) (hm:u.m≠[]):VC L_ 29 ([bun u]) (bun u):=by
 have q1:=sz.l
 have q2:K_ mdlC u.m≠[]:=by simpa using hm
 have oz0:=(show VM L_ 49 [AV.sl 1 (K_ mdlC u.m)] [] (AV.own 7) [(7,Blk.slc 49 1 ([]++K_ mdlC u.m))] from (show VM L_ 49 ([AV.sl 1 (K_ mdlC u.m)]) ([]) (AV.own 7) ([(7,Blk.slc 49 1 ([]++K_ mdlC u.m))]) from mR_ [r_,r_,d_,r_] [GI.sort] _ Tryz.func49 (.d4 (show K_ mdlC u.m≠[] from q2) (show false=false from (by with_reducible rfl)) (show (0+(K_ mdlC u.m).length)*24≤140737488355328 from (by (simp;omega))) (show 0+(K_ mdlC u.m).length≤9223372036854775807 from (by (simp;omega))))))
 have oz1:=(N_ (k:=.i64) (show (((([]++K_ mdlC u.m).length:Int)):Int)=(((K_ mdlC u.m).length:Int)) from (by (simp;done))))
 have oz5:=@copy_o (u) sz hne
 exact cR_ [r_,.r [] [.callm [] [(7,20000)] (rM oz0) (oM oz0)],r_,.code [.any [0,8,9,10],.ren 20000 900,.weak 12 (wO oz1),.weak 13 (i64 (↑0:Int)),.blk 2 (Blk.var [AV.any,AV.any,AV.any,AV.any,AV.any]),.blk 900 (Blk.slc 49 1 (K_ mdlC u.m)),.sort] (BM_ 0) (zO oz5),r_,r_] _ Tryz.func29 (.d6 oz0 oz1 w0_ (show BlkW (Blk.var [i64 (0:Int),i64 (0:Int),i64 (0:Int),i64 (0:Int),AV.lit (AC_ none (0:Nat) (0:Nat))]) (Blk.var [AV.any,AV.any,AV.any,AV.any,AV.any]) from (BlkW.var (m:=[AV.any,AV.any,AV.any,AV.any,AV.any]) (.cons (Weak.any _) (.cons (Weak.any _) (.cons (Weak.any _) (.cons (Weak.any _) (.cons (Weak.any _) .nil))))))) (show BlkW (Blk.slc 49 1 ([]++K_ mdlC u.m)) (Blk.slc 49 1 (K_ mdlC u.m)) from (BB_ (e:=49) (z:=1) (rows_to (mdlC) (r:=[]++K_ mdlC u.m) (l:=[]++u.m) (m:=u.m) (by first|(simp only[X_,Z_,AP_,AR_,U_,AK_,AL_];done)|rfl|(simp only[X_,Z_,AP_,AR_,U_,AK_,AL_];rfl)|(simp only[X_,Z_,AP_,AR_,U_,AK_,AL_,mdlC,ints];done)) (show ([]++u.m)=(u.m) from (by (simp;done)))))) oz5)
def Shp.Rt (s:Shp):Prop:=0<elems s.h s.x s.c
abbrev zsh:Shp:=⟨0,0,0⟩
theorem zsh_ok:zsh.Ok:=by constructor<;>exact ⟨by decide,by decide⟩
theorem Shp.Rt.ok {s:Shp} (h:s.Rt):s.Ok:=by
 have:=elems_ok h
 exact ⟨⟨by omega,by omega⟩,⟨by omega,by omega⟩,⟨by omega,by omega⟩⟩
def Told (r:Shp×Int):Prop:=(r.2=0∧r.1.Rt)∨(r.2≠0∧r.1=zsh)
theorem slideE_told (t:Shp) (k s p o:Int):Told (slideE t k s p o):=by
 unfold slideE
 split
 ·exact .inr ⟨by dsimp only;decide,rfl⟩
 ·split
  ·exact .inr ⟨by assumption,rfl⟩
  ·split
   ·exact .inr ⟨by assumption,rfl⟩
   ·split
    ·exact .inr ⟨by dsimp only;decide,rfl⟩
    ·rename_i h;exact .inl ⟨rfl,Classical.not_not.1 h⟩
theorem convE_told (t:Shp) (n:Nod):Told (convE t n):=by
 have q:=slideE_told t n.nk n.ns n.np n.no
 unfold convE
 split
 ·exact .inr ⟨by assumption,rfl⟩
 ·split
  ·exact .inr ⟨by dsimp only;decide,rfl⟩
  ·rcases q with q|q
   ·exact .inl ⟨rfl,q.2⟩
   ·exact absurd q.1 (by assumption)
theorem depthE_told (t:Shp) (n:Nod):Told (depthE t n):=by
 have q:=slideE_told t n.nk n.ns n.np t.c
 unfold depthE
 split
 ·exact .inr ⟨by assumption,rfl⟩
 ·split
  ·exact .inr ⟨by dsimp only;decide,rfl⟩
  ·rcases q with q|q
   ·exact .inl ⟨rfl,q.2⟩
   ·exact absurd q.1 (by assumption)
theorem denseE_told (t:Shp) (n:Nod):Told (denseE t n):=by
 unfold denseE
 split
 ·exact .inr ⟨by dsimp only;decide,rfl⟩
 ·split
  ·exact .inr ⟨by dsimp only;decide,rfl⟩
  ·rename_i h _
   have:=elems_in 1 1 n.no
   exact .inl ⟨rfl,by unfold Shp.Rt;dsimp only;omega⟩
theorem aroundE_told (a:Shp) (p:Int):Told (aroundE a p):=by
 unfold aroundE
 split
 ·exact .inr ⟨by dsimp only;decide,rfl⟩
 ·split
  ·exact .inr ⟨by dsimp only;decide,rfl⟩
  ·have:=elems_in (a.h+2*p) (a.x+2*p) a.c
   exact .inl ⟨rfl,by unfold Shp.Rt;dsimp only;omega⟩
theorem flat_rt {n:Int} (h0:0<n) (h:n≤1024):0<elems 1 1 n:=by
 unfold elems;rw[i_ (by omega)];omega
theorem shapeE_told (n:Nod) (a b:Shp):Told (shapeE n a b):=by
 unfold shapeE
 split
 ·exact convE_told a n
 ·split
  ·exact depthE_told a n
  ·split
   ·exact denseE_told a n
   ·split
    ·exact slideE_told a n.nk n.ns n.np a.c
    ·split
     ·exact .inr ⟨by dsimp only;decide,rfl⟩
     ·split
      ·exact .inr ⟨by dsimp only;decide,rfl⟩
      ·rename_i h
       have q:=elems_in a.h a.x a.c
       split
       ·exact (.inl ⟨rfl,show 0<elems 1 1 (elems a.h a.x a.c) from flat_rt (by omega) q.2⟩)
       ·split
        ·exact aroundE_told a n.np
        ·exact .inl ⟨rfl,by unfold Shp.Rt;dsimp only;omega⟩
theorem nextE_told (n:Nod) (L:List Shp):Told (nextE n L):=by
 unfold nextE
 split
 ·exact .inr ⟨by assumption,rfl⟩
 ·split
  ·exact shapeE_told _ _ _
  ·exact .inr ⟨by dsimp only;decide,rfl⟩
theorem Told.ok {r:Shp×Int} (h:Told r):r.1.Ok:=by
 rcases h with h|h
 ·exact h.2.ok
 ·rw[h.2];exact zsh_ok
structure SOK (l:List Nod) (a:Shp):Prop where
 i:a.Rt
 e:0<l.length
 f:l.length≤8
 k:∀ k,k<l.length→errL nextE l a k=0
def shapesB (l:List Nod) (a:Shp):Nat→Bool:=fun k=>errL nextE l a k==0
def shapesE (l:List Nod) (a:Shp):Int×Int :=
 if ¬ 0<elems a.h a.x a.c then (-1,5) else if l.length=0 then (-1,12) else if 8<l.length then (-1,4)
 else if firstBad (shapesB l a) l.length<l.length then (firstBad (shapesB l a) l.length,errL nextE l a (firstBad (shapesB l a) l.length)) else (l.length,0)
theorem shapesE_y {l:List Nod} {a:Shp} (h:SOK l a):shapesE l a=((l.length:Int),0):=by
 have h0:=h.i
 unfold Shp.Rt at h0
 have h1:=h.e
 have h2:=h.f
 unfold shapesE
 rw[j_ (by omega),j_ (by omega),j_ (by omega),firstBad_all fun k hk=>by simpa [shapesB] using h.k k hk,j_ (by omega)]
theorem shapesE_at {l:List Nod} {a:Shp} {m:Nat} (i:a.Rt) (e:0<l.length) (f:l.length≤8) (hm:m<l.length) (hf:errL nextE l a m≠0) (h:∀ k,k<m→errL nextE l a k=0):shapesE l a=((m:Int),errL nextE l a m):=by
 unfold Shp.Rt at i
 have:=firstBad_at (p:=shapesB l a) (m:=m) (by simpa [shapesB] using hf) (fun k hk=>by simpa [shapesB] using h k hk) hm
 unfold shapesE
 rw[j_ (by omega),j_ (by omega),j_ (by omega),this,i_ hm]
theorem SOK.cases (l:List Nod) (a:Shp):SOK l a∨¬ a.Rt∨l.length=0∨8<l.length∨(a.Rt∧0<l.length∧l.length≤8∧∃ m,m<l.length∧errL nextE l a m≠0∧∀ k,k<m→errL nextE l a k=0):=by
 by_cases i:a.Rt
 ·by_cases e:0<l.length
  ·by_cases f:l.length≤8
   ·rcases all_or (shapesB l a) l.length with h|⟨m,h1,h2,h3⟩
    ·exact .inl ⟨i,e,f,fun k hk=>by simpa [shapesB] using h k hk⟩
    ·exact .inr (.inr (.inr (.inr ⟨i,e,f,m,h1,by simpa [shapesB] using h2,fun k hk=>by simpa [shapesB] using h3 k hk⟩)))
   ·exact .inr (.inr (.inr (.inl (by omega))))
  ·exact .inr (.inr (.inl (by omega)))
 ·exact .inr (.inl i)
theorem shapesE_n {l:List Nod} {a:Shp} (h:¬ SOK l a):(shapesE l a).2≠0:=by
 rcases SOK.cases l a with q|q|q|q|⟨i,e,f,m,h1,h2,h3⟩
 ·exact absurd q h
 ·have e:shapesE l a=(-1,5):=by unfold shapesE;exact i_ q
  rw[e];decide
 ·unfold shapesE
  by_cases c1:¬ 0<elems a.h a.x a.c
  ·rw[i_ c1];dsimp only;decide
  ·rw[j_ c1,i_ q];dsimp only;decide
 ·unfold shapesE
  by_cases c1:¬ 0<elems a.h a.x a.c
  ·rw[i_ c1];dsimp only;decide
  ·rw[j_ c1,j_ (by omega),i_ q];dsimp only;decide
 ·rw[shapesE_at i e f h1 h2 h3];exact h2
theorem grow_ok {l:List Nod} {a:Shp} (i:a.Ok) (k:Nat):∀ s∈growL nextE l a k,s.Ok :=
 growL_all (n:=k) i (fun j _ _=>(nextE_told _ _).ok) k (AU_ _)
noncomputable def shapes_ly_I (l:List Nod) (a:Shp) (k:Nat):VS:=stt 51 [(0,.sl 19 (l.map nodC)),(7,.own 900),(26,.sl 19 (l.map nodC)),(27,i64 l.length),(28,i64 k)] [(900,.slc 23 3 ((growL nextE l a k).map shpC))]
noncomputable def shapes_ly_Z (l:List Nod) (a:Shp):VS:=shapes_ly_I l a (l.length)
theorem shapes_ly_s (l:List Nod) (a:Shp) (okl:∀ n∈l,n.Ok) (wl:∀ n∈l,n.w.length≤100000∧n.b.length≤100000) (i:a.Ok) (f8:l.length≤8) (h:∀ k,k<l.length→errL nextE l a k=0) (k:Nat) (hk:k<l.length):VT L_ (fnC Tryz.f53 [1,1,1,0,1,0,0]) (shapes_ly_I l a k) .normal (shapes_ly_I l a (k+1)):=by
 have q:=h k hk
 have q1:=growL_len nextE l a k
 have q2:=grow_ok (l:=l) i k
 have q3:=getD_in okl hk
 have q4:=getD_in wl hk
 obtain ⟨q5,q6⟩:=q4
 unfold errL at q
 have oz2:=(map_at (nodC) (default) (l:=l) (i:=k) hk)
 have oz3:=@next_v (l.getD k default) (growL nextE l a k) q3 q2 (by omega) q5 q6
 exact tR_ [r_,b_,.r [] [.row (sO oz2)],.r [] [cr oz3],r_,d_,r_,.r [] [.n ((↑k:Int)+1)]] [.any (rg [(8,4),(29,12),(43,5)]),.drop [9,10,45],.ren 46 900,.weak 28 (i64 (↑(k+1):Int)),.blk 900 (Blk.slc 23 3 (K_ shpC (growL nextE l a (k+1)))),.sort] (.c8 (decide_eq_true (p:=((↑k:Int)<(l.length:Int))) (by omega)) (s_ (0≤(↑k:Int))) oz2 oz3 (show ((nextE (l.getD k default) (growL nextE l a k)).snd != 0)=false by (simp at *;omega)) (show ((K_ shpC (growL nextE l a k)).length+1)*24≤140737488355328 by (simp;omega)) (show (K_ shpC (growL nextE l a k)).length+1≤9223372036854775807 by (simp;omega)) (i6n ((↑k:Int)+1) (by omega))<|.d2 (wS_ k) (show BlkW (Blk.slc 23 3 (K_ shpC (growL nextE l a k)++[[i64 (nextE (l.getD k default) (growL nextE l a k)).fst.h,i64 (nextE (l.getD k default) (growL nextE l a k)).fst.x,i64 (nextE (l.getD k default) (growL nextE l a k)).fst.c]])) (Blk.slc 23 3 (K_ shpC (growL nextE l a (k+1)))) from (BB_ (e:=23) (z:=3) (rows_to (shpC) (r:=K_ shpC (growL nextE l a k)++[[i64 (nextE (l.getD k default) (growL nextE l a k)).fst.h,i64 (nextE (l.getD k default) (growL nextE l a k)).fst.x,i64 (nextE (l.getD k default) (growL nextE l a k)).fst.c]]) (l:=growL nextE l a k++[Shp.mk (nextE (l.getD k default) (growL nextE l a k)).fst.h (nextE (l.getD k default) (growL nextE l a k)).fst.x (nextE (l.getD k default) (growL nextE l a k)).fst.c]) (m:=growL nextE l a (k+1)) (by first|(simp only[X_,Z_,AP_,AR_,U_,AK_,AL_];done)|rfl|(simp only[X_,Z_,AP_,AR_,U_,AK_,AL_];rfl)|(simp only[X_,Z_,AP_,AR_,U_,AK_,AL_,shpC,ints];done)) (show (growL nextE l a k++[Shp.mk (nextE (l.getD k default) (growL nextE l a k)).fst.h (nextE (l.getD k default) (growL nextE l a k)).fst.x (nextE (l.getD k default) (growL nextE l a k)).fst.c])=(growL nextE l a (k+1)) from (by rfl))))))
theorem shapes_ly_e (l:List Nod) (a:Shp) (okl:∀ n∈l,n.Ok) (wl:∀ n∈l,n.w.length≤100000∧n.b.length≤100000) (i:a.Ok) (f8:l.length≤8) (h:∀ k,k<l.length→errL nextE l a k=0):VT L_ (fnC Tryz.f53 [1,1,1,0,1,0,0]) (shapes_ly_I l a (l.length)) (.exit 1) (shapes_ly_Z l a):=by
 exact tR_ [r_,d_] [.any [29],.sort] (.d (decide_eq_false (p:=((l.length:Int)<(l.length:Int))) (by omega)))
theorem shapes_ly (l:List Nod) (a:Shp) (okl:∀ n∈l,n.Ok) (wl:∀ n∈l,n.w.length≤100000∧n.b.length≤100000) (i:a.Ok) (f8:l.length≤8) (h:∀ k,k<l.length→errL nextE l a k=0):VT L_ (fnC Tryz.f53 [1,1,1,0,1,0]) (shapes_ly_I l a 0) (.exit 1) (shapes_ly_Z l a) :=
 VT.loop (fun k=>shapes_ly_I l a k) (l.length) (fun k hk=>shapes_ly_s l a okl wl i f8 h k hk) (shapes_ly_e l a okl wl i f8 h) (by intro h;cases h)
noncomputable def shapes_ln_I (l:List Nod) (a:Shp) (m:Nat) (k:Nat):VS:=stt 51 [(0,.sl 19 (l.map nodC)),(7,.own 900),(26,.sl 19 (l.map nodC)),(27,i64 l.length),(28,i64 k)] [(900,.slc 23 3 ((growL nextE l a k).map shpC))]
noncomputable def shapes_ln_Z (l:List Nod) (a:Shp) (m:Nat):VS:=stt 51 [(4,nilv),(5,i64 m),(6,i64 (errL nextE l a m))] []
theorem shapes_ln_s (l:List Nod) (a:Shp) (m:Nat) (okl:∀ n∈l,n.Ok) (wl:∀ n∈l,n.w.length≤100000∧n.b.length≤100000) (i:a.Ok) (f8:l.length≤8) (hm:m<l.length) (hf:errL nextE l a m≠0) (h:∀ k,k<m→errL nextE l a k=0) (k:Nat) (hk:k<m):VT L_ (fnC Tryz.f53 [1,1,1,0,1,0,0]) (shapes_ln_I l a m k) .normal (shapes_ln_I l a m (k+1)):=by
 have q:=h k hk
 have q1:=growL_len nextE l a k
 have q2:=grow_ok (l:=l) i k
 have q3:=getD_in okl (s_ (k<l.length))
 have q4:=getD_in wl (s_ (k<l.length))
 obtain ⟨q5,q6⟩:=q4
 unfold errL at q
 have oz2:=(map_at (nodC) (default) (l:=l) (i:=k) (by omega))
 have oz3:=@next_v (l.getD k default) (growL nextE l a k) q3 q2 (by omega) q5 q6
 exact tR_ [r_,b_,.r [] [.row (sO oz2)],.r [] [cr oz3],r_,d_,r_,.r [] [.n ((↑k:Int)+1)]] [.any (rg [(8,4),(29,12),(43,5)]),.drop [9,10,45],.ren 46 900,.weak 28 (i64 (↑(k+1):Int)),.blk 900 (Blk.slc 23 3 (K_ shpC (growL nextE l a (k+1)))),.sort] (.c8 (decide_eq_true (p:=((↑k:Int)<(l.length:Int))) (by omega)) (s_ (0≤(↑k:Int))) oz2 oz3 (show ((nextE (l.getD k default) (growL nextE l a k)).snd != 0)=false by (simp at *;omega)) (show ((K_ shpC (growL nextE l a k)).length+1)*24≤140737488355328 by (simp;omega)) (show (K_ shpC (growL nextE l a k)).length+1≤9223372036854775807 by (simp;omega)) (i6n ((↑k:Int)+1) (by omega))<|.d2 (wS_ k) (show BlkW (Blk.slc 23 3 (K_ shpC (growL nextE l a k)++[[i64 (nextE (l.getD k default) (growL nextE l a k)).fst.h,i64 (nextE (l.getD k default) (growL nextE l a k)).fst.x,i64 (nextE (l.getD k default) (growL nextE l a k)).fst.c]])) (Blk.slc 23 3 (K_ shpC (growL nextE l a (k+1)))) from (BB_ (e:=23) (z:=3) (rows_to (shpC) (r:=K_ shpC (growL nextE l a k)++[[i64 (nextE (l.getD k default) (growL nextE l a k)).fst.h,i64 (nextE (l.getD k default) (growL nextE l a k)).fst.x,i64 (nextE (l.getD k default) (growL nextE l a k)).fst.c]]) (l:=growL nextE l a k++[Shp.mk (nextE (l.getD k default) (growL nextE l a k)).fst.h (nextE (l.getD k default) (growL nextE l a k)).fst.x (nextE (l.getD k default) (growL nextE l a k)).fst.c]) (m:=growL nextE l a (k+1)) (by first|(simp only[X_,Z_,AP_,AR_,U_,AK_,AL_];done)|rfl|(simp only[X_,Z_,AP_,AR_,U_,AK_,AL_];rfl)|(simp only[X_,Z_,AP_,AR_,U_,AK_,AL_,shpC,ints];done)) (show (growL nextE l a k++[Shp.mk (nextE (l.getD k default) (growL nextE l a k)).fst.h (nextE (l.getD k default) (growL nextE l a k)).fst.x (nextE (l.getD k default) (growL nextE l a k)).fst.c])=(growL nextE l a (k+1)) from (by rfl))))))
theorem shapes_ln_e (l:List Nod) (a:Shp) (m:Nat) (okl:∀ n∈l,n.Ok) (wl:∀ n∈l,n.w.length≤100000∧n.b.length≤100000) (i:a.Ok) (f8:l.length≤8) (hm:m<l.length) (hf:errL nextE l a m≠0) (h:∀ k,k<m→errL nextE l a k=0):VT L_ (fnC Tryz.f53 [1,1,1,0,1,0,0]) (shapes_ln_I l a m (m)) (.ret) (shapes_ln_Z l a m):=by
 have q1:=growL_len nextE l a m
 have q2:=grow_ok (l:=l) i m
 have q3:=getD_in okl hm
 have q4:=getD_in wl hm
 obtain ⟨q5,q6⟩:=q4
 unfold errL at hf
 have oz2:=(map_at (nodC) (default) (l:=l) (i:=m) hm)
 have oz3:=@next_v (l.getD m default) (growL nextE l a m) q3 q2 (by omega) q5 q6
 have oz5:=(N_ (k:=.i64) (show (((nextE (l.getD m default) (growL nextE l a m)).snd):Int)=(errL nextE l a m) from (by rfl)))
 exact tR_ [r_,b_,.r [] [.row (sO oz2)],.r [] [cr oz3],r_,b_,r_] [.any (rg [(0,1),(7,5),(26,17)]),.drop [900,9,10],.weak 6 (wO oz5),.sort] (.d6 (decide_eq_true (p:=((↑m:Int)<(l.length:Int))) (by omega)) (s_ (0≤(↑m:Int))) oz2 oz3 (show ((nextE (l.getD m default) (growL nextE l a m)).snd != 0)=true by (simp at *;omega)) oz5)
theorem shapes_ln (l:List Nod) (a:Shp) (m:Nat) (okl:∀ n∈l,n.Ok) (wl:∀ n∈l,n.w.length≤100000∧n.b.length≤100000) (i:a.Ok) (f8:l.length≤8) (hm:m<l.length) (hf:errL nextE l a m≠0) (h:∀ k,k<m→errL nextE l a k=0):VT L_ (fnC Tryz.f53 [1,1,1,0,1,0]) (shapes_ln_I l a m 0) (.ret) (shapes_ln_Z l a m) :=
 VT.loop (fun k=>shapes_ln_I l a m k) (m) (fun k hk=>shapes_ln_s l a m okl wl i f8 hm hf h k hk) (shapes_ln_e l a m okl wl i f8 hm hf h) (by intro h;cases h)
theorem shapes_y (l:List Nod) (a:Shp) (okl:∀ n∈l,n.Ok) (wl:∀ n∈l,n.w.length≤100000∧n.b.length≤100000) (h:SOK l a):VC L_ 53 ([.sl 19 (l.map nodC),shp a]) (.tup [.sl 3 ((growL nextE l a l.length).map shpC),i64 l.length,i64 0]):=by
 have q1:=h.i
 have q2:=h.e
 have q3:=h.f
 have q4:=h.k
 have q5:=q1.ok
 unfold Shp.Rt at q1
 have oz0:=@sRight_v (a) q5
 have oz6:=@shapes_ly (l) (a) okl wl q5 q3 q4
 exact (cR_ [r_,.r [] [cr oz0],d_,r_,d_,r_,d_,r_,r_,.code [.any (rg [(1,1),(3,4),(12,14)]),.drop [3],.ren 25 900,.weak 27 (i64 (l.length:Int)),.weak 28 (i64 (↑0:Int)),.sort] (BM_ 1) (zO oz6),r_] (AV.tup [AV.sl 3 (K_ shpC (growL nextE l a l.length)),i64 ((K_ nodC l).length:Int),i64 0]) Tryz.func53 (.d7 oz0 (show (!decide (0<elems a.h a.x a.c))=false by (simp;omega)) (show (((K_ nodC l).length:Int)==0)=false by (simp only[E_,F_,I_,J_,ne_eq,H_,G_,W_,V_,BE_,BN_,BQ_,Classical.not_not,CW_,Int.not_le,M_,P_,A_,R_,AM_,BV_,BR_,AI_,BA_,BO_,eqNums,T_,AZ_,AY_,BK_,CU_,BX_,BF_,CO_,CP_,BU_,BP_,CN_];(first|done|with_reducible assumption|omega|contradiction))) (show decide (((K_ nodC l).length:Int)>8)=false by (simp;omega)) (N_ (k:=.i64) (show ((((K_ nodC l).length:Int)):Int)=((l.length:Int)) from (by (simp;done)))) w0_ oz6)).weak (D_ _) (AJ_ (.cons (.refl _) (.cons (N_ (by (simp;done))) (.cons (.refl _) .nil))))
theorem shapes_a (l:List Nod) (a:Shp) (i:a.Ok) (hl:l.length≤1000) (h:¬ 0<elems a.h a.x a.c∨l.length=0∨8<l.length):VC L_ 53 ([.sl 19 (l.map nodC),shp a]) (.tup [nilv,i64 (shapesE l a).1,i64 (shapesE l a).2]):=by
 have q:=elems_in a.h a.x a.c
 have oz0:=@sRight_v (a) i
 rcases bft (!decide (0<elems a.h a.x a.c)) with hc0|hc0
 ·have gc0:=bnt hc0
  exact (cR_ [r_,.r [] [cr oz0],b_,r_] (AV.tup [AV.lit (AC_ none 0 0),i64 (-1),i64 5]) Tryz.func53 (.d2 oz0 hc0)).weak (D_ _) (AJ_ (.cons (.refl _) (.cons (N_ (by (unfold shapesE;(try simp only[T_] at *);(repeat first|rw[i_ (by omega)]|rw[j_ (by omega)])))) (.cons (N_ (by (unfold shapesE;(try simp only[T_] at *);(repeat first|rw[i_ (by omega)]|rw[j_ (by omega)])))) .nil))))
 ·have gc0:=bnf hc0
  rcases bft (((K_ nodC l).length:Int)==0) with hc1|hc1
  ·have gc1:((K_ nodC l).length:Int)=0:=bet hc1
   exact (cR_ [r_,.r [] [cr oz0],d_,r_,b_,r_] (AV.tup [AV.lit (AC_ none 0 0),i64 (-1),i64 12]) Tryz.func53 (.d3 oz0 hc0 hc1)).weak (D_ _) (AJ_ (.cons (.refl _) (.cons (N_ (by (unfold shapesE;(try simp only[T_] at *);(repeat first|rw[i_ (by omega)]|rw[j_ (by omega)])))) (.cons (N_ (by (unfold shapesE;(try simp only[T_] at *);(repeat first|rw[i_ (by omega)]|rw[j_ (by omega)])))) .nil))))
  ·have gc1:¬((K_ nodC l).length:Int)=0:=bef hc1
   exact (cR_ [r_,.r [] [cr oz0],d_,r_,d_,r_,b_,r_] (AV.tup [AV.lit (AC_ none 0 0),i64 (-1),i64 4]) Tryz.func53 (.d4 oz0 hc0 hc1 (show decide (((K_ nodC l).length:Int)>8)=true by (simp only[E_,F_,I_,J_,ne_eq,H_,G_,W_,V_,BE_,BN_,BQ_,Classical.not_not,CW_,Int.not_le,M_,P_,A_,R_,AM_,BV_,BR_,AI_,BA_,BO_,eqNums,T_,AZ_,AY_,BK_,CU_,BX_,BF_,CO_,CP_,BU_,BP_,CN_] at *;(first|done|with_reducible assumption|omega|contradiction))))).weak (D_ _) (AJ_ (.cons (.refl _) (.cons (N_ (by (unfold shapesE;(try simp only[T_] at *);(repeat first|rw[i_ (by omega)]|rw[j_ (by omega)])))) (.cons (N_ (by (unfold shapesE;(try simp only[T_] at *);(repeat first|rw[i_ (by omega)]|rw[j_ (by omega)])))) .nil))))
theorem shapes_m (l:List Nod) (a:Shp) (m:Nat) (okl:∀ n∈l,n.Ok) (wl:∀ n∈l,n.w.length≤100000∧n.b.length≤100000) (i:0<elems a.h a.x a.c) (f8:l.length≤8) (hm:m<l.length) (hf:errL nextE l a m≠0) (h:∀ k,k<m→errL nextE l a k=0):VC L_ 53 ([.sl 19 (l.map nodC),shp a]) (.tup [nilv,i64 m,i64 (errL nextE l a m)]):=by
 have q:=Shp.Rt.ok i
 have oz0:=@sRight_v (a) q
 have oz6:=@shapes_ln (l) (a) (m) okl wl q f8 hm hf h
 exact cR_ [r_,.r [] [cr oz0],d_,r_,d_,r_,d_,r_,r_,.code [.any (rg [(1,1),(3,4),(12,14)]),.drop [3],.ren 25 900,.weak 27 (i64 (l.length:Int)),.weak 28 (i64 (↑0:Int)),.sort] (Exit.ret) (zO oz6)] _ Tryz.func53 (.d7 oz0 (show (!decide (0<elems a.h a.x a.c))=false by (simp;omega)) (show (((K_ nodC l).length:Int)==0)=false by (simp only[E_,F_,I_,J_,ne_eq,H_,G_,W_,V_,BE_,BN_,BQ_,Classical.not_not,CW_,Int.not_le,M_,P_,A_,R_,AM_,BV_,BR_,AI_,BA_,BO_,eqNums,T_,AZ_,AY_,BK_,CU_,BX_,BF_,CO_,CP_,BU_,BP_,CN_];(first|done|with_reducible assumption|omega|contradiction))) (show decide (((K_ nodC l).length:Int)>8)=false by (simp;omega)) (N_ (k:=.i64) (show ((((K_ nodC l).length:Int)):Int)=((l.length:Int)) from (by (simp;done)))) w0_ oz6)
theorem shapes_n (l:List Nod) (a:Shp) (okl:∀ n∈l,n.Ok) (wl:∀ n∈l,n.w.length≤100000∧n.b.length≤100000) (i:a.Ok) (hl:l.length≤1000) (h:¬ SOK l a):VC L_ 53 [.sl 19 (l.map nodC),shp a] (.tup [nilv,i64 (shapesE l a).1,i64 (shapesE l a).2]):=by
 rcases SOK.cases l a with q|q|q|q|⟨i',e,f,m,h1,h2,h3⟩
 ·exact absurd q h
 ·exact shapes_a l a i hl (.inl q)
 ·exact shapes_a l a i hl (.inr (.inl q))
 ·exact shapes_a l a i hl (.inr (.inr q))
 ·rw[shapesE_at i' e f h1 h2 h3];exact shapes_m l a m okl wl i' f h1 h2 h3
theorem nextE_c {n:Nod} {L:List Shp} (h:checkE n≠0):nextE n L=(⟨0,0,0⟩,checkE n):=i_ h
theorem nextE_0 {n:Nod} {L:List Shp} (h:checkE n=0) (g:thereB n ((K_ shpC L).length:Int)=false):nextE n L=(⟨0,0,0⟩,8):=by
 rw[T_] at g;unfold nextE;rw[j_ (by simp[h]),j_ (by simp[g])]
theorem nextE_6 {n:Nod} {L:List Shp} (h:checkE n=0) (g:thereB n ((K_ shpC L).length:Int)=true):nextE n L=shapeE n (L.getD n.na.toNat default) (L.getD (secN n).toNat default):=by
 rw[T_] at g;unfold nextE;rw[j_ (by simp[h]),i_ g]
theorem nextE_ok {n:Nod} {L:List Shp} (q:(nextE n L).2=0):checkE n=0∧thereB n ((K_ shpC L).length:Int)=true∧nextE n L=shapeE n (L.getD n.na.toNat default) (L.getD (secN n).toNat default):=by
 by_cases h:checkE n=0
 ·cases g:thereB n ((K_ shpC L).length:Int) with
  | false=>rw[nextE_0 h g] at q;cases q
  | true=>exact ⟨h,rfl,nextE_6 h g⟩
 ·rw[nextE_c h] at q;exact absurd q h
theorem there_at {n:Nod} {L:List Shp} (okL:∀ r∈L,r.Ok) (h:thereB n ((K_ shpC L).length:Int)=true):(0≤n.na∧n.na<L.length∧n.na.toNat<L.length∧0≤secN n∧secN n<L.length∧(secN n).toNat<L.length)∧(L.getD n.na.toNat default).Ok∧(L.getD (secN n).toNat default).Ok:=by
 rw[T_] at h
 have h:=there_iff.1 h
 exact ⟨⟨by omega,by omega,by omega,by omega,by omega,by omega⟩,getD_in okL (by omega),getD_in okL (by omega)⟩
abbrev shpsL (l:List Nod) (a:Shp):List Shp:=growL nextE l a l.length
def lastS (l:List Nod) (a:Shp):Shp:=(shpsL l a).getD l.length default
theorem shpsL_len (l:List Nod) (a:Shp):(shpsL l a).length=l.length+1:=growL_len nextE l a l.length
theorem lastS_ok {l:List Nod} {a:Shp} (h:a.Ok):(lastS l a).Ok:=getD_in (grow_ok (l:=l) h l.length) (show l.length<(shpsL l a).length by rw[shpsL_len];omega)
theorem lastS_i {l:List Nod} {a:Shp} {i:Nat} (hi:i=l.length):(growL nextE l a l.length).getD i default=lastS l a:=by subst hi;rfl
def costE (n:Nod) (a b:Shp):Int :=
 if (shapeE n a b).2≠0 then 0
 else if n.kd=1 then elems (shapeE n a b).1.h (shapeE n a b).1.x (shapeE n a b).1.c*n.nk*n.nk*a.c
 else if n.kd=2∨n.kd=4∨n.kd=5 then elems (shapeE n a b).1.h (shapeE n a b).1.x (shapeE n a b).1.c*n.nk*n.nk
 else if n.kd=3 then elems (shapeE n a b).1.h (shapeE n a b).1.x (shapeE n a b).1.c*elems a.h a.x a.c
 else elems (shapeE n a b).1.h (shapeE n a b).1.x (shapeE n a b).1.c
theorem slide_k {t:Shp} {k s p o:Int} (h:(slideE t k s p o).2=0):1≤k∧k≤5∧1≤t.c∧t.c≤1024:=by
 have h1:=slideE_ok h
 have h2:=elems_ok h1.1
 omega
theorem shapeE_k {n:Nod} {a b:Shp} (h:(shapeE n a b).2=0) (hk:n.kd=1∨n.kd=2∨n.kd=4∨n.kd=5):1≤n.nk∧n.nk≤5∧1≤a.c∧a.c≤1024:=by
 unfold shapeE at h
 split at h
 ·unfold convE at h
  split at h
  ·rename_i c;exact absurd h c
  ·rename_i c;exact slide_k (Classical.not_not.1 c)
 ·split at h
  ·unfold depthE at h
   split at h
   ·rename_i c;exact absurd h c
   ·rename_i c;exact slide_k (Classical.not_not.1 c)
  ·split at h
   ·omega
   ·split at h
    ·exact slide_k h
    ·omega
theorem cost_bd {e k c:Int} (e0:0≤e) (e1:e≤1024) (k0:1≤k) (k1:k≤5) (c0:1≤c) (c1:c≤1024):(0≤e*k∧e*k≤5120)∧(0≤e*k*k∧e*k*k≤25600)∧(0≤e*k*k*c∧e*k*k*c≤26214400):=by
 have a1:=mul_bd (A:=1024) (B:=5) (a:=e) (b:=k) e0 e1 (by omega) k1
 have a2:=mul_bd (A:=5120) (B:=5) (a:=e*k) (b:=k) (by omega) (by omega) (by omega) k1
 have a3:=mul_bd (A:=25600) (B:=1024) (a:=e*k*k) (b:=c) (by omega) (by omega) (by omega) c1
 omega
theorem elems2_bd (a b:Shp):0≤elems a.h a.x a.c*elems b.h b.x b.c∧elems a.h a.x a.c*elems b.h b.x b.c≤1048576:=by
 have h1:=elems_in a.h a.x a.c
 have h2:=elems_in b.h b.x b.c
 have:=mul_bd (A:=1024) (B:=1024) h1.1 h1.2 h2.1 h2.2
 omega
theorem costE_bd (n:Nod) (a b:Shp):0≤costE n a b∧costE n a b≤26214400:=by
 have q1:=elems_in (shapeE n a b).1.h (shapeE n a b).1.x (shapeE n a b).1.c
 have q2:=elems2_bd (shapeE n a b).1 a
 unfold costE
 split
 ·omega
 ·rename_i h
  have h:=Classical.not_not.1 h
  split
  ·have q:=shapeE_k h (by omega)
   have:=cost_bd q1.1 q1.2 q.1 q.2.1 q.2.2.1 q.2.2.2
   omega
  ·split
   ·have q:=shapeE_k h (by omega)
    have:=cost_bd q1.1 q1.2 q.1 q.2.1 q.2.2.1 q.2.2.2
    omega
   ·split<;>omega
theorem work_v (a:Shp) (n:Nod) (ok:a.Ok) (okn:n.Ok) (hk:n.kd=1) (h:(convE a n).2=0):VC L_ 107 ([shp a,nod n]) (i64 (elems (convE a n).1.h (convE a n).1.x (convE a n).1.c*n.nk*n.nk*a.c)):=by
 obtain ⟨p1,p2,p3⟩:=id ok
 have q0:shapeE n a a=convE a n:=i_ hk
 have q1:=elems_in (convE a n).1.h (convE a n).1.x (convE a n).1.c
 have q:=shapeE_k (n:=n) (a:=a) (b:=a) (q0▸h) (.inl hk)
 have q2:=cost_bd q1.1 q1.2 q.1 q.2.1 q.2.2.1 q.2.2.2
 have q3:=(convE_told a n).ok
 obtain ⟨p4,p5,p6⟩:=id q3
 have oz0:=@convShape_v (a) (n) ok okn
 have oz2:=@elems_v ((convE a n).fst.h) ((convE a n).fst.x) ((convE a n).fst.c) p4 p5 p6
 have oz3:=(i6n (elems (convE a n).fst.h (convE a n).fst.x (convE a n).fst.c*n.nk) (by omega))
 have oz4:=(i6n (elems (convE a n).fst.h (convE a n).fst.x (convE a n).fst.c*n.nk*n.nk) (by omega))
 have oz5:=(i6n (elems (convE a n).fst.h (convE a n).fst.x (convE a n).fst.c*n.nk*n.nk*a.c) (by omega))
 exact cR_ [r_,.r [] [cr oz0],r_,d_,.r [] [cr oz2,.n (nO oz3),.n (nO oz4),.n (nO oz5)]] _ Tryz.func107 (.d6 oz0 (show ((convE a n).snd != 0)=false by (simp;omega)) oz2 oz3 oz4 oz5)
theorem costE_1 {n:Nod} {a b:Shp} (h:(shapeE n a b).2=0) (hk:n.kd=1):costE n a b=elems (convE a n).1.h (convE a n).1.x (convE a n).1.c*n.nk*n.nk*a.c:=by
 have e:shapeE n a b=convE a n:=i_ hk
 unfold costE;rw[j_ (by omega),i_ hk,e]
theorem cost_k {n:Nod} {a b:Shp} (h:(shapeE n a b).2=0) (hk:n.kd=1∨n.kd=2∨n.kd=4∨n.kd=5):(0≤elems (shapeE n a b).1.h (shapeE n a b).1.x (shapeE n a b).1.c*n.nk∧elems (shapeE n a b).1.h (shapeE n a b).1.x (shapeE n a b).1.c*n.nk≤5120) ∧
  (0≤elems (shapeE n a b).1.h (shapeE n a b).1.x (shapeE n a b).1.c*n.nk*n.nk∧elems (shapeE n a b).1.h (shapeE n a b).1.x (shapeE n a b).1.c*n.nk*n.nk≤25600) ∧
  (0≤elems (shapeE n a b).1.h (shapeE n a b).1.x (shapeE n a b).1.c*n.nk*n.nk*a.c∧elems (shapeE n a b).1.h (shapeE n a b).1.x (shapeE n a b).1.c*n.nk*n.nk*a.c≤26214400):=by
 have q1:=elems_in (shapeE n a b).1.h (shapeE n a b).1.x (shapeE n a b).1.c
 have q:=shapeE_k h hk
 exact cost_bd q1.1 q1.2 q.1 q.2.1 q.2.2.1 q.2.2.2
theorem costNode_v (n:Nod) (a b:Shp) (okn:n.Ok) (ok:a.Ok) (okb:b.Ok):VC L_ 88 ([nod n,shp a,shp b]) (i64 (costE n a b)):=by
 obtain ⟨p1,p2,p3⟩:=id ok
 have q0:n.kd=1→shapeE n a b=convE a n:=fun h=>i_ h
 have q1:=elems_in (shapeE n a b).1.h (shapeE n a b).1.x (shapeE n a b).1.c
 have q2:=elems2_bd (shapeE n a b).1 a
 have q3:=(shapeE_told n a b).ok
 obtain ⟨p4,p5,p6⟩:=id q3
 have qk:=@cost_k n a b
 have oz0:=@kshape_v (n) (a) (b) ok okb okn
 rcases bft ((shapeE n a b).snd != 0) with hc0|hc0
 ·have gc0:¬(shapeE n a b).snd=0:=bdt hc0
  exact (cR_ [r_,.r [] [cr oz0],r_,b_,r_] (i64 0) Tryz.func88 (.d2 oz0 hc0)).weak (D_ _) (N_ (by (unfold costE;(repeat first|rw[i_ (by omega)]|rw[j_ (by omega)]))))
 ·have gc0:(shapeE n a b).snd=0:=bdf hc0
  have oz2:=@elems_v ((shapeE n a b).fst.h) ((shapeE n a b).fst.x) ((shapeE n a b).fst.c) p4 p5 p6
  rcases bft (n.kd==1) with hc1|hc1
  ·have gc1:n.kd=1:=bet hc1
   have oz4:=@work_v (a) (n) ok okn gc1 (by (rw[←q0 (by omega)];omega))
   exact (cR_ [r_,.r [] [cr oz0],r_,d_,.r [] [cr oz2],r_,r_,b_,.r [] [cr oz4]] (i64 (elems (convE a n).fst.h (convE a n).fst.x (convE a n).fst.c*n.nk*n.nk*a.c)) Tryz.func88 (.d5 oz0 hc0 oz2 hc1 oz4)).weak (D_ _) (N_ (by (exact (costE_1 (by omega) (by omega)).symm)))
  ·have gc1:¬n.kd=1:=bef hc1
   rcases bft (n.kd==2) with hc2|hc2
   ·have gc2:n.kd=2:=bet hc2
    have oz6:=(i6n (elems (shapeE n a b).fst.h (shapeE n a b).fst.x (shapeE n a b).fst.c*n.nk) (by omega))
    have oz7:=(i6n (elems (shapeE n a b).fst.h (shapeE n a b).fst.x (shapeE n a b).fst.c*n.nk*n.nk) (by omega))
    exact (cR_ [r_,.r [] [cr oz0],r_,d_,.r [] [cr oz2],r_,r_,d_,r_,b_,b_,.r [] [.n (nO oz6),.n (nO oz7)]] (i64 (elems (shapeE n a b).fst.h (shapeE n a b).fst.x (shapeE n a b).fst.c*n.nk*n.nk)) Tryz.func88 (.d8 oz0 hc0 oz2 hc1 hc2 hc2 oz6 oz7)).weak (D_ _) (N_ (by (unfold costE;(repeat first|rw[i_ (by omega)]|rw[j_ (by omega)]))))
   ·have gc2:¬n.kd=2:=bef hc2
    rcases bft (n.kd==4) with hc3|hc3
    ·have gc3:n.kd=4:=bet hc3
     have oz7:=(i6n (elems (shapeE n a b).fst.h (shapeE n a b).fst.x (shapeE n a b).fst.c*n.nk) (by omega))
     have oz8:=(i6n (elems (shapeE n a b).fst.h (shapeE n a b).fst.x (shapeE n a b).fst.c*n.nk*n.nk) (by omega))
     exact (cR_ [r_,.r [] [cr oz0],r_,d_,.r [] [cr oz2],r_,r_,d_,r_,d_,r_,b_,b_,.r [] [.n (nO oz7),.n (nO oz8)]] (i64 (elems (shapeE n a b).fst.h (shapeE n a b).fst.x (shapeE n a b).fst.c*n.nk*n.nk)) Tryz.func88 (.c8 oz0 hc0 oz2 hc1 hc2 hc3 hc3 oz7<|.d oz8)).weak (D_ _) (N_ (by (unfold costE;(repeat first|rw[i_ (by omega)]|rw[j_ (by omega)]))))
    ·have gc3:¬n.kd=4:=bef hc3
     rcases bft (n.kd==5) with hc4|hc4
     ·have gc4:n.kd=5:=bet hc4
      have oz7:=(i6n (elems (shapeE n a b).fst.h (shapeE n a b).fst.x (shapeE n a b).fst.c*n.nk) (by omega))
      have oz8:=(i6n (elems (shapeE n a b).fst.h (shapeE n a b).fst.x (shapeE n a b).fst.c*n.nk*n.nk) (by omega))
      exact (cR_ [r_,.r [] [cr oz0],r_,d_,.r [] [cr oz2],r_,r_,d_,r_,d_,r_,d_,r_,b_,.r [] [.n (nO oz7),.n (nO oz8)]] (i64 (elems (shapeE n a b).fst.h (shapeE n a b).fst.x (shapeE n a b).fst.c*n.nk*n.nk)) Tryz.func88 (.c8 oz0 hc0 oz2 hc1 hc2 hc3 hc4 oz7<|.d oz8)).weak (D_ _) (N_ (by (unfold costE;(repeat first|rw[i_ (by omega)]|rw[j_ (by omega)]))))
     ·have gc4:¬n.kd=5:=bef hc4
      rcases bft (n.kd==3) with hc5|hc5
      ·have gc5:n.kd=3:=bet hc5
       have oz8:=@elems_v (a.h) (a.x) (a.c) p1 p2 p3
       have oz9:=(i6n (elems (shapeE n a b).fst.h (shapeE n a b).fst.x (shapeE n a b).fst.c*elems a.h a.x a.c) (by omega))
       exact (cR_ [r_,.r [] [cr oz0],r_,d_,.r [] [cr oz2],r_,r_,d_,r_,d_,r_,d_,r_,d_,r_,b_,.r [] [cr oz8,.n (nO oz9)]] (i64 (elems (shapeE n a b).fst.h (shapeE n a b).fst.x (shapeE n a b).fst.c*elems a.h a.x a.c)) Tryz.func88 (.c8 oz0 hc0 oz2 hc1 hc2 hc3 hc4 hc5<|.d2 oz8 oz9)).weak (D_ _) (N_ (by (unfold costE;(repeat first|rw[i_ (by omega)]|rw[j_ (by omega)]))))
      ·have gc5:¬n.kd=3:=bef hc5
       exact (cR_ [r_,.r [] [cr oz0],r_,d_,.r [] [cr oz2],r_,r_,d_,r_,d_,r_,d_,r_,d_,r_,d_,r_] (i64 (elems (shapeE n a b).fst.h (shapeE n a b).fst.x (shapeE n a b).fst.c)) Tryz.func88 (.d8 oz0 hc0 oz2 hc1 hc2 hc3 hc4 hc5)).weak (D_ _) (N_ (by (unfold costE;(repeat first|rw[i_ (by omega)]|rw[j_ (by omega)]))))
def costL (l:List Nod) (S:List Shp):Nat→Int
 | 0=>1
 | k+1=>costL l S k+costE (l.getD k default) (S.getD (l.getD k default).na.toNat default) (S.getD (secN (l.getD k default)).toNat default)
theorem costL_bd (l:List Nod) (S:List Shp):∀ k,1≤costL l S k∧costL l S k≤1+26214400*k
 | 0=>by simp[costL]
 | k+1=>by
  have h1:=costL_bd l S k
  have h2:=costE_bd (l.getD k default) (S.getD (l.getD k default).na.toNat default) (S.getD (secN (l.getD k default)).toNat default)
  rw[costL];omega
def exitC (x:Blc) (a:Shp) (cl:Int):Int:=if x.ex=true then min (max cl 0) 16*(elems (lastS x.n a).h (lastS x.n a).x (lastS x.n a).c+1) else 0
def blockC (x:Blc) (a:Shp) (cl:Int):Int:=costL x.n (shpsL x.n a) x.n.length+exitC x a cl
theorem shps_at {l:List Nod} {a:Shp} (h:SOK l a) {k:Nat} (hk:k<l.length):(0≤(l.getD k default).na∧(l.getD k default).na.toNat<(shpsL l a).length∧0≤secN (l.getD k default)∧(secN (l.getD k default)).toNat<(shpsL l a).length∧(l.getD k default).na<(shpsL l a).length∧secN (l.getD k default)<(shpsL l a).length)∧((shpsL l a).getD (l.getD k default).na.toNat default).Ok∧((shpsL l a).getD (secN (l.getD k default)).toNat default).Ok:=by
 have q:=h.k k hk
 unfold errL at q
 obtain ⟨_,c2,_⟩:=nextE_ok q
 have q2:=grow_ok (l:=l) h.i.ok k
 obtain ⟨c4,_,_⟩:=there_at q2 c2
 have q1:=growL_len nextE l a k
 have q3:(shpsL l a).length=l.length+1:=growL_len nextE l a l.length
 have q4:=grow_ok (l:=l) h.i.ok l.length
 exact ⟨⟨by omega,by omega,by omega,by omega,by omega,by omega⟩,getD_in q4 (s_ (_<(shpsL l a).length)),getD_in q4 (s_ (_<(shpsL l a).length))⟩
noncomputable def cblock_l_I (x:Blc) (a:Shp) (cl:Int) (k:Nat):VS:=stt 71 [(2,i64 cl),(3,.ptr 3 0 0),(8,.sl 3 ((shpsL x.n a).map shpC)),(11,i64 (costL x.n (shpsL x.n a) k)),(27,.sl 19 (x.n.map nodC)),(28,i64 x.n.length),(29,i64 k)] [(3,.var (blcC x))]
noncomputable def cblock_l_Z (x:Blc) (a:Shp) (cl:Int):VS:=cblock_l_I x a cl (x.n.length)
theorem cblock_l_s (x:Blc) (a:Shp) (cl:Int) (ok:x.Ok) (h:SOK x.n a) (k:Nat) (hk:k<x.n.length):VT L_ (fnC Tryz.f76 [1,1,1,1,0,1,0,0]) (cblock_l_I x a cl k) .normal (cblock_l_I x a cl (k+1)):=by
 have q1:=costL_bd x.n (shpsL x.n a) k
 have q2:=costE_bd (x.n.getD k default) ((shpsL x.n a).getD (x.n.getD k default).na.toNat default) ((shpsL x.n a).getD (secN (x.n.getD k default)).toNat default)
 have q3:=h.f
 obtain ⟨c4,c5,c6⟩:=shps_at h hk
 have q4:=getD_in ok.n hk
 have q5:(K_ shpC (shpsL x.n a)).length=(shpsL x.n a).length:=T_ _
 have q6:(x.n.getD k default).kd=6→secN (x.n.getD k default)=(x.n.getD k default).nb:=fun h=>i_ h
 have q7:¬ (x.n.getD k default).kd=6→secN (x.n.getD k default)=(x.n.getD k default).na:=fun h=>j_ h
 have q8:(x.n.getD k default).kd=6→((shpsL x.n a).getD (x.n.getD k default).nb.toNat default).Ok∧(x.n.getD k default).nb<(shpsL x.n a).length∧costE (x.n.getD k default) ((shpsL x.n a).getD (x.n.getD k default).na.toNat default) ((shpsL x.n a).getD (x.n.getD k default).nb.toNat default)≤26214400∧0≤costE (x.n.getD k default) ((shpsL x.n a).getD (x.n.getD k default).na.toNat default) ((shpsL x.n a).getD (x.n.getD k default).nb.toNat default):=fun h=>by rw[←q6 h];exact ⟨c6,by omega,q2.2,q2.1⟩
 have q9:¬ (x.n.getD k default).kd=6→costE (x.n.getD k default) ((shpsL x.n a).getD (x.n.getD k default).na.toNat default) ((shpsL x.n a).getD (x.n.getD k default).na.toNat default)≤26214400∧0≤costE (x.n.getD k default) ((shpsL x.n a).getD (x.n.getD k default).na.toNat default) ((shpsL x.n a).getD (x.n.getD k default).na.toNat default):=fun h=>by
  have q2:=q2;rw[q7 h] at q2;exact ⟨q2.2,q2.1⟩
 have oz0:=(decide_eq_true (p:=((↑k:Int)<(x.n.length:Int))) (by omega))
 have oz1:=(s_ (0≤(↑k:Int)))
 have oz2:=(map_at (nodC) (default) (l:=x.n) (i:=k) hk)
 rcases bft ((x.n.getD k default).kd==6) with hc0|hc0
 ·have gc0:(x.n.getD k default).kd=6:=bet hc0
  have oz5:=(map_at (shpC) (default) (l:=shpsL x.n a) (i:=(x.n.getD k default).na.toNat) (by omega))
  have oz7:=(map_at (shpC) (default) (l:=shpsL x.n a) (i:=(x.n.getD k default).nb.toNat) (by omega))
  have oz8:=@costNode_v (x.n.getD k default) ((shpsL x.n a).getD (x.n.getD k default).na.toNat default) ((shpsL x.n a).getD (x.n.getD k default).nb.toNat default) q4 c5 (by (exact (q8 (by omega)).1))
  have oz9:=(i6n (costL x.n (shpsL x.n a) k+costE (x.n.getD k default) ((shpsL x.n a).getD (x.n.getD k default).na.toNat default) ((shpsL x.n a).getD (x.n.getD k default).nb.toNat default)) (by omega))
  have oz11:=(N_ (k:=.i64) (show ((costL x.n (shpsL x.n a) k+costE (x.n.getD k default) ((shpsL x.n a).getD (x.n.getD k default).na.toNat default) ((shpsL x.n a).getD (x.n.getD k default).nb.toNat default)):Int)=(costL x.n (shpsL x.n a) (k+1)) from (by (rw[costL,q6 (by omega)]))))
  exact tR_ [r_,b_,.r [] [.row (sO oz2)],r_,r_,b_,r_,.r [] [.row (sO oz5),.row (sO oz7),cr oz8,.n (nO oz9)],.r [] [.n ((↑k:Int)+1)]] [.any (rg [(13,2),(30,24)]),.drop [13],.weak 11 (wO oz11),.weak 29 (i64 (↑(k+1):Int)),.sort] (.c8 oz0 oz1 oz2 hc0 (s_ (0≤(x.n.getD k default).na)) oz5 (s_ (0≤(x.n.getD k default).nb)) oz7<|.d5 oz8 oz9 (i6n ((↑k:Int)+1) (by omega)) oz11 (wS_ k))
 ·have gc0:¬(x.n.getD k default).kd=6:=bef hc0
  have oz4:=(s_ (0≤(x.n.getD k default).na))
  have oz5:=(map_at (shpC) (default) (l:=shpsL x.n a) (i:=(x.n.getD k default).na.toNat) (by omega))
  have oz8:=@costNode_v (x.n.getD k default) ((shpsL x.n a).getD (x.n.getD k default).na.toNat default) ((shpsL x.n a).getD (x.n.getD k default).na.toNat default) q4 c5 c5
  have oz9:=(i6n (costL x.n (shpsL x.n a) k+costE (x.n.getD k default) ((shpsL x.n a).getD (x.n.getD k default).na.toNat default) ((shpsL x.n a).getD (x.n.getD k default).na.toNat default)) (by omega))
  have oz11:=(N_ (k:=.i64) (show ((costL x.n (shpsL x.n a) k+costE (x.n.getD k default) ((shpsL x.n a).getD (x.n.getD k default).na.toNat default) ((shpsL x.n a).getD (x.n.getD k default).na.toNat default)):Int)=(costL x.n (shpsL x.n a) (k+1)) from (by (rw[costL,q7 (by omega)]))))
  exact tR_ [r_,b_,.r [] [.row (sO oz2)],r_,r_,d_,.r [] [.row (sO oz5),.row (sO oz5),cr oz8,.n (nO oz9)],.r [] [.n ((↑k:Int)+1)]] [.any (rg [(13,2),(30,8),(40,14)]),.drop [13],.weak 11 (wO oz11),.weak 29 (i64 (↑(k+1):Int)),.sort] (.c8 oz0 oz1 oz2 hc0 oz4 oz5 oz4 oz5<|.d5 oz8 oz9 (i6n ((↑k:Int)+1) (by omega)) oz11 (wS_ k))
theorem cblock_l_e (x:Blc) (a:Shp) (cl:Int) (ok:x.Ok) (h:SOK x.n a):VT L_ (fnC Tryz.f76 [1,1,1,1,0,1,0,0]) (cblock_l_I x a cl (x.n.length)) (.exit 0) (cblock_l_Z x a cl):=by
 exact tR_ [r_,d_] [.any [30],.sort] (.d (decide_eq_false (p:=((x.n.length:Int)<(x.n.length:Int))) (by omega)))
theorem cblock_l (x:Blc) (a:Shp) (cl:Int) (ok:x.Ok) (h:SOK x.n a):VT L_ (fnC Tryz.f76 [1,1,1,1,0,1,0]) (cblock_l_I x a cl 0) (.exit 0) (cblock_l_Z x a cl) :=
 VT.loop (fun k=>cblock_l_I x a cl k) (x.n.length) (fun k hk=>cblock_l_s x a cl ok h k hk) (cblock_l_e x a cl ok h) (by intro h;cases h)
theorem minmax (c:Int):(if 16<(if 0>c then 0 else c) then 16 else (if 0>c then 0 else c))=min (max c 0) 16:=by omega
theorem exitC_bd (x:Blc) (a:Shp) (cl:Int):0≤exitC x a cl∧exitC x a cl≤16400:=by
 have q:=elems_in (lastS x.n a).h (lastS x.n a).x (lastS x.n a).c
 have:=mul_bd (A:=16) (B:=1025) (a:=min (max cl 0) 16) (b:=elems (lastS x.n a).h (lastS x.n a).x (lastS x.n a).c+1) (by omega) (by omega) (by omega) (by omega)
 unfold exitC;split<;>omega
theorem cblock_e {x:Blc} {a:Shp} {cl:Int} (f8:x.n.length≤8) (h:x.ex=true):IntKind.i64.wrap (costL x.n (shpsL x.n a) x.n.length+IntKind.i64.wrap ((if 16<if 0>cl then 0 else cl then 16 else if 0>cl then 0 else cl) *
  IntKind.i64.wrap (elems (lastS x.n a).h (lastS x.n a).x (lastS x.n a).c+1)))=blockC x a cl:=by
 have q:=elems_in (lastS x.n a).h (lastS x.n a).x (lastS x.n a).c
 have q2:=costL_bd x.n (shpsL x.n a) x.n.length
 have q3:=exitC_bd x a cl
 have e:exitC x a cl=min (max cl 0) 16*(elems (lastS x.n a).h (lastS x.n a).x (lastS x.n a).c+1):=i_ h
 rw[i6n (elems (lastS x.n a).h (lastS x.n a).x (lastS x.n a).c+1) (by omega),minmax,←e,i6n (exitC x a cl) (by omega),i6n (costL x.n (shpsL x.n a) x.n.length+exitC x a cl) (by omega)]
 rfl
theorem blockC_n {x:Blc} {a:Shp} {cl:Int} (h:x.ex=false):costL x.n (shpsL x.n a) x.n.length=blockC x a cl:=by
 unfold blockC exitC;rw[h];simp
theorem cblock_y (x:Blc) (a:Shp) (cl:Int) (ok:x.Ok) (ws:∀ n∈x.n,n.w.length≤100000∧n.b.length≤100000) (h:SOK x.n a):VC L_ 76 ([blc x,shp a,i64 cl]) (.tup [i64 (blockC x a cl),i64 0]):=by
 have q1:=ok.n
 have q2:=costL_bd x.n (shpsL x.n a) x.n.length
 have q3:=h.f
 have l1:=shpsL_len x.n a
 have l3:(K_ shpC (shpsL x.n a)).length=(shpsL x.n a).length:=T_ _
 have ix:(((K_ shpC (shpsL x.n a)).length:Int)-1).toNat=x.n.length:=by omega
 have s3:=lastS_ok (l:=x.n) h.i.ok
 have s4:=@cblock_e x a cl q3
 have oz0:=@shapes_y (x.n) (a) q1 ws h
 have oz1:=z1_
 have oz2:=(N_ (k:=.i64) (show ((1):Int)=(costL x.n (shpsL x.n a) 0) from (by rfl)))
 have oz3:=(N_ (k:=.i64) (show ((((K_ nodC x.n).length:Int)):Int)=((x.n.length:Int)) from (by (simp;done))))
 have oz4:=w0_
 have oz5:=@cblock_l (x) (a) (cl) ok h
 rcases bft (x.ex) with hc0|hc0
 ·have gc0:x.ex=true:=by first|exact hc0|exact of_decide_eq_true hc0|exact of_decide_eq_false hc0|simpa [eqNums] using hc0|(simp[eqNums] at hc0 ⊢;first|done|assumption|omega)
  have oz7:=(i6n (((K_ shpC (shpsL x.n a)).length:Int)-1) (by omega))
  have oz9:=(map_at (shpC) (default) (l:=shpsL x.n a) (i:=(((K_ shpC (shpsL x.n a)).length:Int)-1).toNat) (by omega))
  have oz10:=@elems_v (((shpsL x.n a).getD (((K_ shpC (shpsL x.n a)).length:Int)-1).toNat default).h) (((shpsL x.n a).getD (((K_ shpC (shpsL x.n a)).length:Int)-1).toNat default).x) (((shpsL x.n a).getD (((K_ shpC (shpsL x.n a)).length:Int)-1).toNat default).c) (by (rw[ix];exact s3.h)) (by (rw[ix];exact s3.x)) (by (rw[ix];exact s3.c))
  exact (cR_ [r_,.r [] [cr oz0],r_,d_,r_,r_,.code [.any (rg [(0,2),(4,1),(6,2),(9,2),(15,10),(26,1)]),.drop [4],.weak 11 (wO oz2),.weak 28 (wO oz3),.weak 29 (wO oz4),.sort] (BM_ 0) (zO oz5),r_,b_,.r [] [.n (nO oz7),.row (sO oz9),cr oz10,.w,.w,.w],r_] (AV.tup [i64 (IntKind.i64.wrap (costL x.n (shpsL x.n a) x.n.length+IntKind.i64.wrap ((if 16<if 0>cl then 0 else cl then 16 else if 0>cl then 0 else cl)*IntKind.i64.wrap (elems ((shpsL x.n a).getD (((K_ shpC (shpsL x.n a)).length:Int)-1).toNat default).h ((shpsL x.n a).getD (((K_ shpC (shpsL x.n a)).length:Int)-1).toNat default).x ((shpsL x.n a).getD (((K_ shpC (shpsL x.n a)).length:Int)-1).toNat default).c+1)))),i64 0]) Tryz.func76 (.c8 oz0 oz1 oz2 oz3 oz4 oz5 hc0 oz7<|.d3 (s_ (0≤((K_ shpC (shpsL x.n a)).length:Int)-1)) oz9 oz10)).weak (D_ _) (AJ_ (.cons (N_ (by (rw[ix];exact s4 (by assumption)))) (.cons (.refl _) .nil)))
 ·have gc0:x.ex=false:=by first|exact hc0|exact of_decide_eq_true hc0|exact of_decide_eq_false hc0|simpa [eqNums] using hc0|(simp[eqNums] at hc0 ⊢;first|done|assumption|omega)
  exact (cR_ [r_,.r [] [cr oz0],r_,d_,r_,r_,.code [.any (rg [(0,2),(4,1),(6,2),(9,2),(15,10),(26,1)]),.drop [4],.weak 11 (wO oz2),.weak 28 (wO oz3),.weak 29 (wO oz4),.sort] (BM_ 0) (zO oz5),r_,d_,r_] (AV.tup [i64 (costL x.n (shpsL x.n a) x.n.length),i64 0]) Tryz.func76 (.d7 oz0 oz1 oz2 oz3 oz4 oz5 hc0)).weak (D_ _) (AJ_ (.cons (N_ (by (exact blockC_n (by assumption)))) (.cons (.refl _) .nil)))
theorem cout_y (x:Blc) (a:Shp) (ok:x.Ok) (ws:∀ n∈x.n,n.w.length≤100000∧n.b.length≤100000) (h:SOK x.n a):VC L_ 31 ([blc x,shp a]) (.tup [shp (lastS x.n a),i64 0]):=by
 have q1:=ok.n
 have q3:=h.f
 have l1:=growL_len nextE x.n a x.n.length
 have l3:(K_ shpC (growL nextE x.n a x.n.length)).length=(growL nextE x.n a x.n.length).length:=T_ _
 have ix:(((K_ shpC (growL nextE x.n a x.n.length)).length:Int)-1).toNat=x.n.length:=by omega
 have oz0:=@shapes_y (x.n) (a) q1 ws h
 have oz2:=(i6n (((K_ shpC (growL nextE x.n a x.n.length)).length:Int)-1) (by omega))
 have oz4:=(map_at (shpC) (default) (l:=growL nextE x.n a x.n.length) (i:=(((K_ shpC (growL nextE x.n a x.n.length)).length:Int)-1).toNat) (by omega))
 exact (cR_ [r_,.r [] [cr oz0],r_,d_,.r [] [.n (nO oz2),.row (sO oz4)]] (AV.tup [AV.agg [i64 ((growL nextE x.n a x.n.length).getD (((K_ shpC (growL nextE x.n a x.n.length)).length:Int)-1).toNat default).h,i64 ((growL nextE x.n a x.n.length).getD (((K_ shpC (growL nextE x.n a x.n.length)).length:Int)-1).toNat default).x,i64 ((growL nextE x.n a x.n.length).getD (((K_ shpC (growL nextE x.n a x.n.length)).length:Int)-1).toNat default).c],i64 0]) Tryz.func31 (.d5 oz0 z1_ oz2 (s_ (0≤((K_ shpC (growL nextE x.n a x.n.length)).length:Int)-1)) oz4)).weak (D_ _) (AJ_ (.cons (BL_ (.cons (N_ (by (rw[ix]<;>rfl))) (.cons (N_ (by (rw[ix]<;>rfl))) (.cons (N_ (by (rw[ix]<;>rfl))) .nil)))) (.cons (.refl _) .nil)))
theorem meter_v (a:Shp) (cl:Int)  : VM L_ 52 ([shp a,i64 cl]) ([]) (.clo 75 [.ptr 950 0 0,.ptr 951 0 0]) ([(950,.var (shpC a)),(951,.var [i64 cl])]):=by
 exact mR_ [r_,r_] [.ren 3 951,.ren 2 950,.sort] _ Tryz.func52 (.n)
theorem metered_y (x:Blc) (a:Shp) (cl:Int) (ok:x.Ok) (ws:∀ n∈x.n,n.w.length≤100000∧n.b.length≤100000) (h:SOK x.n a):VM L_ 75 ([blc x,.ptr 100000 0 0,.ptr 100001 0 0]) ([(100000,.var (shpC a)),(100001,.var [i64 cl])]) (.tup [i64 (blockC x a cl),i64 0]) ([(100000,.var (shpC (lastS x.n a))),(100001,.var [i64 cl])]):=by
 have oz0:=@cblock_y (x) (a) (cl) ok ws h
 have oz2:=@cout_y (x) (a) ok ws h
 exact mR_ [r_,.r [] [cr oz0],r_,d_,.r [] [cr oz2],r_] [.drop [3],.sort] _ Tryz.func75 (.d3 oz0 z1_ oz2)
def oneN (v:Int) (n:Nod):Int:=heldQ (v-n.za) n.qm n.qs n.qz n.lo n.hi
theorem actOne_w (v:Int) (n:Nod) (ok:n.Ok) (hv:In8 v):VC L_ 142 ([i8 v,nod n]) (i8 (oneN v n)):=by
 obtain ⟨q1,q2⟩:=id hv
 obtain ⟨q3,q4⟩:=ok.za
 have oz3:=@held_v (v-n.za) (n.qm) (n.qs) (n.qz) (n.lo) (n.hi) (by omega) (by (exact ok.qm)) (by (exact ok.qz)) (by (exact ok.lo)) (by (exact ok.hi))
 exact (cR_ [r_,.r [] [.n v,.n n.za,.n (v-n.za),cr oz3]] (i8 (heldQ (v-n.za) n.qm n.qs n.qz n.lo n.hi)) Tryz.func142 (.d4 (IntWalk.i32_in v (by omega)) (IntWalk.i32_in n.za (by omega)) (IntWalk.i32_in (v-n.za) (by omega)) oz3)).weak (D_ _) (N_ (by rfl))
theorem upside_v (a b:Int)  : VC L_ 102 ([.agg [i8 a,i8 b]]) (bv (decide (a>b))):=by
 exact cR_ [r_,r_] _ Tryz.func102 (.n)
def headE (w b:List Int) (lo hi:Int):Int:=if sharedB w b=true then (if (allR w b lo hi 0 false b.length).all holdB=true then 0 else 10) else 9
abbrev hedC (w b:List Int) (nd:Int):List AV:=[ints .i8 w,ints .i32 b,i32 nd]
theorem hd_ok {w b:List Int} (hw:∀ v∈w,In8 v) (hb:∀ v∈b,In32 v):Nod.Ok ⟨0,0,0,0,0,0,0,0,0,w,b,0,0,0,0,0,0,0,0⟩:=by
 constructor<;>first|assumption|(constructor<;>(dsimp only;decide))
theorem hd_len (w b:List Int) (lo hi:Int):(allR w b lo hi 0 (decide ((0:Int)>0)) (if sharedB w b=true then b.length else 0)).length=if sharedB w b=true then b.length else 0:=by simp[allR]
theorem hd_pos {w b:List Int} (h:sharedB w b=true):0<b.length:=by
 simp only[sharedB,M_,E_] at h;exact h.1
theorem hd_le (w b:List Int) (lo hi:Int) (bl:b.length≤100000):(allR w b lo hi 0 (decide ((0:Int)>0)) (if sharedB w b=true then b.length else 0)).length≤1000000:=by rw[hd_len];split<;>omega
theorem hd_sh {w b:List Int} {lo hi:Int} {x:Bool} (h:(((K_ rngC (allR w b lo hi 0 (decide ((0:Int)>0)) (if sharedB w b=true then b.length else 0))).length:Int)==0)=x):sharedB w b = !x:=by
 rw[T_,hd_len] at h
 cases e:sharedB w b with
 | true =>
  have:=hd_pos e
  rw[e,i_ rfl] at h
  cases x with
  | true=>simp at h;subst h;simp at this
  | false=>rfl
 | false=>rw[e] at h;subst h;rfl
theorem hd9 {w b:List Int} {lo hi:Int} (h:(((K_ rngC (allR w b lo hi 0 (decide ((0:Int)>0)) (if sharedB w b=true then b.length else 0))).length:Int)==0)=true):9=headE w b lo hi:=by
 unfold headE;rw[hd_sh h];rfl
theorem hd10 {w b:List Int} {lo hi:Int} {y:Bool} (h:(((K_ rngC (allR w b lo hi 0 (decide ((0:Int)>0)) (if sharedB w b=true then b.length else 0))).length:Int)==0)=false) (h2:(!(allR w b lo hi 0 (decide ((0:Int)>0)) (if sharedB w b=true then b.length else 0)).all holdB)=y):(if y=true then 10 else 0)=headE w b lo hi:=by
 have e:=hd_sh h
 unfold headE
 rw[e] at h2 ⊢
 simp only[BQ_,if_true] at h2 ⊢
 rw[show (false:Bool)=decide ((0:Int)>0) from rfl]
 cases y with
 | true=>rw[i_ rfl,j_ (by simpa using h2)]
 | false=>rw[j_ (by simp),i_ (by simpa using h2)]
theorem ghead_v (w b:List Int) (nd lo hi:Int) (hw:∀ v∈w,In8 v) (hb:∀ v∈b,In32 v) (wl:w.length≤100000) (bl:b.length≤100000) (h1:In8 lo) (h2:In8 hi):VC L_ 106 ([.agg (hedC w b nd),.agg [i8 lo,i8 hi]]) (i64 (headE w b lo hi)):=by
 have oz0:=@all_v (Nod.mk 0 0 0 0 0 0 0 0 0 w b 0 0 0 0 0 0 0 0) (lo) (hi) (by (exact hd_ok hw hb)) h1 h2 wl bl
 rcases bft ((↑(K_ rngC (allR w b lo hi 0 (decide (0>0)) (if sharedB w b=true then b.length else 0))).length:Int)==0) with hc0|hc0
 ·have gc0:(↑(K_ rngC (allR w b lo hi 0 (decide (0>0)) (if sharedB w b=true then b.length else 0))).length:Int)=0:=by first|exact hc0|exact of_decide_eq_true hc0|exact of_decide_eq_false hc0|simpa [eqNums] using hc0|(simp[eqNums] at hc0 ⊢;first|done|assumption|omega)
  exact (cR_ [r_,.r [] [cr oz0],r_,b_,r_] (i64 9) Tryz.func106 (.d2 oz0 hc0)).weak (D_ _) (N_ (by (exact hd9 (by assumption))))
 ·have gc0:¬(↑(K_ rngC (allR w b lo hi 0 (decide (0>0)) (if sharedB w b=true then b.length else 0))).length:Int)=0:=by first|exact hc0|exact of_decide_eq_true hc0|exact of_decide_eq_false hc0|simpa [eqNums] using hc0|(simp[eqNums] at hc0 ⊢;first|done|assumption|omega)
  have oz2:=@holds_v (allR w b lo hi 0 (decide (0>0)) (if sharedB w b=true then b.length else 0)) (by (exact hd_le w b lo hi bl))
  rcases bft (!(allR w b lo hi 0 (decide (0>0)) (if sharedB w b=true then b.length else 0)).all holdB) with hc1|hc1
  ·have gc1:(allR w b lo hi 0 (decide (0>0)) (if sharedB w b=true then b.length else 0)).all holdB=false:=by first|exact hc1|exact of_decide_eq_true hc1|exact of_decide_eq_false hc1|simpa [eqNums] using hc1|(simp[eqNums] at hc1 ⊢;first|done|assumption|omega)
   exact (cR_ [r_,.r [] [cr oz0],r_,d_,.r [] [cr oz2],b_,r_] (i64 10) Tryz.func106 (.d4 oz0 hc0 oz2 hc1)).weak (D_ _) (N_ (by (exact hd10 (y:=true) (by assumption) (by assumption))))
  ·have gc1:(allR w b lo hi 0 (decide (0>0)) (if sharedB w b=true then b.length else 0)).all holdB=true:=by first|exact hc1|exact of_decide_eq_true hc1|exact of_decide_eq_false hc1|simpa [eqNums] using hc1|(simp[eqNums] at hc1 ⊢;first|done|assumption|omega)
   exact (cR_ [r_,.r [] [cr oz0],r_,d_,.r [] [cr oz2],d_,r_] (i64 0) Tryz.func106 (.d4 oz0 hc0 oz2 hc1)).weak (D_ _) (N_ (by (exact hd10 (y:=false) (by assumption) (by assumption))))
abbrev rchC (r:Rng):List AV:=[i8 r.lo,i8 r.hi]
abbrev rch (r:Rng):AV:=.agg (rchC r)
def bothR (l:List Rng):Nat→Rng
 | 0=>l.getD 0 default
 | k+1=>⟨min (bothR l k).lo (l.getD k default).lo,max (bothR l k).hi (l.getD k default).hi⟩
noncomputable def both_l_I (l:List Rng) (k:Nat):VS:=stt 32 [(2,.ptr 2 0 0),(3,.ptr 3 0 0),(13,.sl 2 (l.map rngC)),(14,i64 l.length),(15,i64 k)] [(2,.var [i64 0,i64 0]),(3,.var (rngC (bothR l k)))]
noncomputable def both_l_Z (l:List Rng):VS:=both_l_I l (l.length)
theorem both_l_s (l:List Rng) (hl:l.length≤1000000) (k:Nat) (hk:k<l.length):VT L_ (fnC Tryz.f147 [1,1,1,0,1,0,0]) (both_l_I l k) .normal (both_l_I l (k+1)):=by
 have oz2:=(map_at (rngC) (default) (l:=l) (i:=k) hk)
 exact tR_ [r_,b_,.r [] [.row (sO oz2)],r_,.r [] [.n ((↑k:Int)+1)]] [.any (rg [(5,1),(16,15)]),.drop [5],.weak 15 (i64 (↑(k+1):Int)),.blk 3 (Blk.var [i64 (bothR l (k+1)).lo,i64 (bothR l (k+1)).hi]),.sort] (.d6 (decide_eq_true (p:=((↑k:Int)<(l.length:Int))) (by omega)) (s_ (0≤(↑k:Int))) oz2 (i6n ((↑k:Int)+1) (by omega)) (wS_ k) (show BlkW (Blk.var [i64 (if (l.getD k default).lo<(bothR l k).lo then (l.getD k default).lo else (bothR l k).lo),i64 (if (l.getD k default).hi>(bothR l k).hi then (l.getD k default).hi else (bothR l k).hi)]) (Blk.var [i64 (bothR l (k+1)).lo,i64 (bothR l (k+1)).hi]) from (BlkW.var (m:=[i64 (bothR l (k+1)).lo,i64 (bothR l (k+1)).hi]) (.cons (N_ (by (simp only[bothR];split<;>omega))) (.cons (N_ (by (simp only[bothR];split<;>omega))) .nil)))))
theorem both_l_e (l:List Rng) (hl:l.length≤1000000):VT L_ (fnC Tryz.f147 [1,1,1,0,1,0,0]) (both_l_I l (l.length)) (.exit 0) (both_l_Z l):=by
 exact tR_ [r_,d_] [.any [16],.sort] (.d (decide_eq_false (p:=((l.length:Int)<(l.length:Int))) (by omega)))
theorem both_l (l:List Rng) (hl:l.length≤1000000):VT L_ (fnC Tryz.f147 [1,1,1,0,1,0]) (both_l_I l 0) (.exit 0) (both_l_Z l) :=
 VT.loop (fun k=>both_l_I l k) (l.length) (fun k hk=>both_l_s l hl k hk) (both_l_e l hl) (by intro h;cases h)
theorem z3_:(0:Int)≤(0:Int):=by omega
theorem both_v (l:List Rng) (hl:l.length≤1000000):VC L_ 147 ([.sl 2 (l.map rngC)]) (rng (bothR l l.length)):=by
 rcases bft (((K_ rngC l).length:Int)==0) with hc0|hc0
 ·have gc0:((K_ rngC l).length:Int)=0:=bet hc0
  exact (cR_ [r_,r_,b_,r_] (AV.agg [i64 0,i64 0]) Tryz.func147 (.d hc0)).weak (D_ _) (BL_ (.cons (N_ (by (have:l=[]:=AX_ (by simp only[T_] at *;omega);subst this;rfl))) (.cons (N_ (by (have:l=[]:=AX_ (by simp only[T_] at *;omega);subst this;rfl))) .nil)))
 ·have gc0:¬((K_ rngC l).length:Int)=0:=bef hc0
  have oz2:=(map_at (rngC) (default) (l:=l) (i:=0) (by (simp only[T_] at *;omega)))
  have oz6:=@both_l (l) hl
  exact cR_ [r_,r_,d_,.r [] [.row (sO oz2)],r_,.code [.any [0,6,7,8,10,11,12],.weak 14 (i64 (l.length:Int)),.weak 15 (i64 (↑0:Int)),.blk 3 (Blk.var [i64 (bothR l 0).lo,i64 (bothR l 0).hi]),.sort] (BM_ 0) (zO oz6),r_] _ Tryz.func147 (.d7 hc0 z3_ oz2 (N_ (k:=.i64) (show ((((K_ rngC l).length:Int)):Int)=((l.length:Int)) from (by (simp;done)))) w0_ (show BlkW (Blk.var [i64 (l.getD 0 default).lo,i64 (l.getD 0 default).hi]) (Blk.var [i64 (bothR l 0).lo,i64 (bothR l 0).hi]) from (BlkW.var (m:=[i64 (bothR l 0).lo,i64 (bothR l 0).hi]) (.cons (N_ (by rfl)) (.cons (N_ (by rfl)) .nil)))) oz6)
def held32 (v:Int):Int:=if 2147483647<if -2147483648>v then -2147483648 else v then 2147483647 else if -2147483648>v then -2147483648 else v
theorem held32_in (v:Int):In32 (held32 v):=by unfold held32 In32;omega
theorem min_if (a b:Int):(if b<a then b else a)=min a b:=by omega
theorem max_if (a b:Int):(if b>a then b else a)=max a b:=by omega
def afterE (r:Rng) (n:Nod):Rng:=⟨min (heldQ (held32 r.lo) n.qm n.qs n.qz n.lo n.hi) (heldQ (held32 r.hi) n.qm n.qs n.qz n.lo n.hi),max (heldQ (held32 r.lo) n.qm n.qs n.qz n.lo n.hi) (heldQ (held32 r.hi) n.qm n.qs n.qz n.lo n.hi)⟩
theorem after_v (r:Rng) (n:Nod) (ok:n.Ok):VC L_ 146 ([rng r,.agg [i32 n.qm,i64 n.qs,i8 n.qz],i8 n.lo,i8 n.hi]) (.tup [i8 (afterE r n).lo,i8 (afterE r n).hi]):=by
 have ok_qm:=ok.qm
 have ok_qz:=ok.qz
 have ok_lo:=ok.lo
 have ok_hi:=ok.hi
 have q1:=held32_in r.lo
 have q2:=held32_in r.hi
 have oz0:=(IntWalk.i32_in (if 2147483647<if -2147483648>r.lo then -2147483648 else r.lo then 2147483647 else if -2147483648>r.lo then -2147483648 else r.lo) (by omega))
 have oz1:=@held_v (if 2147483647<if -2147483648>r.lo then -2147483648 else r.lo then 2147483647 else if -2147483648>r.lo then -2147483648 else r.lo) (n.qm) (n.qs) (n.qz) (n.lo) (n.hi) (by omega) ok_qm ok_qz ok_lo ok_hi
 have oz2:=(IntWalk.i32_in (if 2147483647<if -2147483648>r.hi then -2147483648 else r.hi then 2147483647 else if -2147483648>r.hi then -2147483648 else r.hi) (by omega))
 have oz3:=@held_v (if 2147483647<if -2147483648>r.hi then -2147483648 else r.hi then 2147483647 else if -2147483648>r.hi then -2147483648 else r.hi) (n.qm) (n.qs) (n.qz) (n.lo) (n.hi) (by omega) ok_qm ok_qz ok_lo ok_hi
 exact (cR_ [r_,.r [] [.n (nO oz0),cr oz1],.r [] [.n (nO oz2),cr oz3],r_] (AV.tup [i8 (if heldQ (if 2147483647<if -2147483648>r.hi then -2147483648 else r.hi then 2147483647 else if -2147483648>r.hi then -2147483648 else r.hi) n.qm n.qs n.qz n.lo n.hi<heldQ (if 2147483647<if -2147483648>r.lo then -2147483648 else r.lo then 2147483647 else if -2147483648>r.lo then -2147483648 else r.lo) n.qm n.qs n.qz n.lo n.hi then heldQ (if 2147483647<if -2147483648>r.hi then -2147483648 else r.hi then 2147483647 else if -2147483648>r.hi then -2147483648 else r.hi) n.qm n.qs n.qz n.lo n.hi else heldQ (if 2147483647<if -2147483648>r.lo then -2147483648 else r.lo then 2147483647 else if -2147483648>r.lo then -2147483648 else r.lo) n.qm n.qs n.qz n.lo n.hi),i8 (if heldQ (if 2147483647<if -2147483648>r.hi then -2147483648 else r.hi then 2147483647 else if -2147483648>r.hi then -2147483648 else r.hi) n.qm n.qs n.qz n.lo n.hi>heldQ (if 2147483647<if -2147483648>r.lo then -2147483648 else r.lo then 2147483647 else if -2147483648>r.lo then -2147483648 else r.lo) n.qm n.qs n.qz n.lo n.hi then heldQ (if 2147483647<if -2147483648>r.hi then -2147483648 else r.hi then 2147483647 else if -2147483648>r.hi then -2147483648 else r.hi) n.qm n.qs n.qz n.lo n.hi else heldQ (if 2147483647<if -2147483648>r.lo then -2147483648 else r.lo then 2147483647 else if -2147483648>r.lo then -2147483648 else r.lo) n.qm n.qs n.qz n.lo n.hi)]) Tryz.func146 (.d4 oz0 oz1 oz2 oz3)).weak (D_ _) (AJ_ (.cons (N_ (by (exact min_if _ _))) (.cons (N_ (by (exact max_if _ _))) .nil)))
theorem clamp_in (v:Int) {lo hi:Int} (h1:In8 lo) (h2:In8 hi):In8 (clampI v lo hi):=by
 unfold clampI;split
 ·exact h1
 ·split
  ·exact h2
  ·omega
def joinE (x y:Int) (n:Nod):Int:=if (rightQ n.qm n.qs&&rightQ n.rm n.rs)=true then clampI (rnd ((x-n.za)*n.qm) n.qs+rnd ((y-n.zb)*n.rm) n.rs+n.qz) n.lo n.hi else 0
theorem mul_bd9 (a m:Int) (a0 : -255≤a) (a1:a≤255) (hm:In32 m) : -547608330240≤a*m∧a*m≤547608330240:=by
 obtain ⟨m0,m1⟩:=hm
 have h1:(a.natAbs*m.natAbs:Nat)≤255*2147483648:=Nat.mul_le_mul (by omega) (by omega)
 have:=Int.natAbs_mul a m
 omega
theorem joinP (v z m s:Int) (h1:In8 v) (h2:In8 z) (h3:In32 m):(-547608330240≤(v-z)*m∧(v-z)*m≤547608330240) ∧ -547608330240≤rnd ((v-z)*m) s∧rnd ((v-z)*m) s≤547608330240:=by
 have q:=mul_bd9 (v-z) m (by omega) (by omega) h3
 exact ⟨q,rnd_bd _ s _ q.1 q.2⟩
theorem joinMay_v (n:Nod)  : VC L_ 148 ([nod n]) (bv (rightQ n.qm n.qs&&rightQ n.rm n.rs)):=by
 have oz0:=@right_v (n.qm) (n.qs) (n.qz)
 have oz1:=@right_v (n.rm) (n.rs) (n.rz)
 exact cR_ [r_,.r [] [cr oz0,o_,o_,o_,cr oz1,.sel 2]] _ Tryz.func148 (.d2 oz0 oz1)
theorem joinScaled_v (v z m s z2:Int) (h1:In8 v) (h2:In8 z) (h3:In32 m):VC L_ 150 ([i8 v,i8 z,.agg [i32 m,i64 s,i8 z2]]) (i64 (rnd ((v-z)*m) s)):=by
 have oz3:=@scale_v (v-z) (m) (s) (by omega) h3
 exact cR_ [r_,.r [] [.n v,.n z,.n (v-z),cr oz3]] _ Tryz.func150 (.d4 (IntWalk.i32_in v (by omega)) (IntWalk.i32_in z (by omega)) (IntWalk.i32_in (v-z) (by omega)) oz3)
theorem joinOne_v (x y:Int) (n:Nod) (ok:n.Ok) (hx:In8 x) (hy:In8 y):VC L_ 141 ([i8 x,i8 y,nod n]) (i8 (joinE x y n)):=by
 have ok_za:=ok.za
 have ok_zb:=ok.zb
 have ok_qm:=ok.qm
 have ok_rm:=ok.rm
 have ok_lo:=ok.lo
 have ok_hi:=ok.hi
 have ok_qz:=ok.qz
 have q1:=joinP x n.za n.qm n.qs hx ok.za ok.qm
 have q2:=joinP y n.zb n.rm n.rs hy ok.zb ok.rm
 have oz0:=@joinMay_v (n)
 rcases bft (!(rightQ n.qm n.qs&&rightQ n.rm n.rs)) with hc0|hc0
 ·have gc0:rightQ n.qm n.qs=false∨rightQ n.rm n.rs=false:=gc0_ hc0
  exact (cR_ [r_,.r [] [cr oz0],b_,r_] (i8 0) Tryz.func141 (.d2 oz0 hc0)).weak (D_ _) (N_ (by (unfold joinE;rw[j_ (by intro hh;simp only[M_] at hh;simp_all)])))
 ·have gc0:rightQ n.qm n.qs=true∧rightQ n.rm n.rs=true:=gc0_ hc0
  have oz2:=@joinScaled_v (x) (n.za) (n.qm) (n.qs) (n.qz) hx ok_za ok_qm
  have oz3:=@joinScaled_v (y) (n.zb) (n.rm) (n.rs) (n.rz) hy ok_zb ok_rm
  have oz4:=(i6n (rnd ((x-n.za)*n.qm) n.qs+rnd ((y-n.zb)*n.rm) n.rs) (by omega))
  have oz6:=(i6n (rnd ((x-n.za)*n.qm) n.qs+rnd ((y-n.zb)*n.rm) n.rs+n.qz) (by omega))
  have oz7:=@clamp_v (rnd ((x-n.za)*n.qm) n.qs+rnd ((y-n.zb)*n.rm) n.rs+n.qz) (n.lo) (n.hi) ok_lo ok_hi
  exact (cR_ [r_,.r [] [cr oz0],d_,.r [] [cr oz2,cr oz3,.n (nO oz4),.n n.qz,.n (nO oz6),cr oz7]] (i8 (clampI (rnd ((x-n.za)*n.qm) n.qs+rnd ((y-n.zb)*n.rm) n.rs+n.qz) n.lo n.hi)) Tryz.func141 (.d8 oz0 hc0 oz2 oz3 oz4 (i6n n.qz (by omega)) oz6 oz7)).weak (D_ _) (N_ (by (unfold joinE;rw[i_ (by simp_all)])))
theorem all_le (w b:List Int) (lo hi z:Int) (g:Bool) (bl:b.length≤100000):(allR w b lo hi z g (if sharedB w b=true then b.length else 0)).length≤1000000:=by
 have:(allR w b lo hi z g (if sharedB w b=true then b.length else 0)).length=if sharedB w b=true then b.length else 0:=by simp[allR]
 rw[this];split<;>omega
def spansN (n:Nod) (a:Rng):List Rng:=allR n.w n.b a.lo a.hi n.za (decide (n.np>0)) (if sharedB n.w n.b=true then n.b.length else 0)
def sumG (n:Nod) (a:Rng):Rng×Int:=if (spansN n a).all holdB=true then (afterE (bothR (spansN n a) (spansN n a).length) n,0) else (⟨0,0⟩,10)
theorem sumG_y {n:Nod} {a:Rng} (h:(allR n.w n.b a.lo a.hi n.za (decide (n.np>0)) (if sharedB n.w n.b=true then n.b.length else 0)).all holdB=true):sumG n a=(afterE (bothR (spansN n a) (spansN n a).length) n,0):=i_ h
theorem summed_v (n:Nod) (a:Rng) (ok:n.Ok) (h1:In8 a.lo) (h2:In8 a.hi) (wl:n.w.length≤100000) (bl:n.b.length≤100000):VC L_ 140 ([nod n,rch a]) (.tup [rch (sumG n a).1,i64 (sumG n a).2]):=by
 have q:=all_le n.w n.b a.lo a.hi n.za (decide (n.np>0)) bl
 have oz0:=@all_v (n) (a.lo) (a.hi) ok h1 h2 wl bl
 have oz1:=@holds_v (allR n.w n.b a.lo a.hi n.za (decide (n.np>0)) (if sharedB n.w n.b=true then n.b.length else 0)) q
 rcases bft (!(allR n.w n.b a.lo a.hi n.za (decide (n.np>0)) (if sharedB n.w n.b=true then n.b.length else 0)).all holdB) with hc0|hc0
 ·have gc0:(allR n.w n.b a.lo a.hi n.za (decide (n.np>0)) (if sharedB n.w n.b=true then n.b.length else 0)).all holdB=false:=by first|exact hc0|exact of_decide_eq_true hc0|exact of_decide_eq_false hc0|simpa [eqNums] using hc0|(simp[eqNums] at hc0 ⊢;first|done|assumption|omega)
  exact (cR_ [r_,.r [] [cr oz0],.r [] [cr oz1],b_,r_] (AV.tup [AV.agg [i8 0,i8 0],i64 10]) Tryz.func140 (.d3 oz0 oz1 hc0)).weak (D_ _) (AJ_ (.cons (BL_ (.cons (N_ (by (unfold sumG spansN;rw[j_ (by simp_all)]))) (.cons (N_ (by (unfold sumG spansN;rw[j_ (by simp_all)]))) .nil))) (.cons (N_ (by (unfold sumG spansN;rw[j_ (by simp_all)]))) .nil)))
 ·have gc0:(allR n.w n.b a.lo a.hi n.za (decide (n.np>0)) (if sharedB n.w n.b=true then n.b.length else 0)).all holdB=true:=by first|exact hc0|exact of_decide_eq_true hc0|exact of_decide_eq_false hc0|simpa [eqNums] using hc0|(simp[eqNums] at hc0 ⊢;first|done|assumption|omega)
  have oz3:=@both_v (allR n.w n.b a.lo a.hi n.za (decide (n.np>0)) (if sharedB n.w n.b=true then n.b.length else 0)) q
  have oz4:=@after_v (bothR (allR n.w n.b a.lo a.hi n.za (decide (n.np>0)) (if sharedB n.w n.b=true then n.b.length else 0)) (allR n.w n.b a.lo a.hi n.za (decide (n.np>0)) (if sharedB n.w n.b=true then n.b.length else 0)).length) (n) ok
  exact (cR_ [r_,.r [] [cr oz0],.r [] [cr oz1],d_,.r [] [cr oz3,cr oz4],r_] (AV.tup [AV.agg [i8 (afterE (bothR (allR n.w n.b a.lo a.hi n.za (decide (n.np>0)) (if sharedB n.w n.b=true then n.b.length else 0)) (allR n.w n.b a.lo a.hi n.za (decide (n.np>0)) (if sharedB n.w n.b=true then n.b.length else 0)).length) n).lo,i8 (afterE (bothR (allR n.w n.b a.lo a.hi n.za (decide (n.np>0)) (if sharedB n.w n.b=true then n.b.length else 0)) (allR n.w n.b a.lo a.hi n.za (decide (n.np>0)) (if sharedB n.w n.b=true then n.b.length else 0)).length) n).hi],i64 0]) Tryz.func140 (.d5 oz0 oz1 hc0 oz3 oz4)).weak (D_ _) (AJ_ (.cons (BL_ (.cons (N_ (by (rw[sumG_y (by assumption)]<;>rfl))) (.cons (N_ (by (rw[sumG_y (by assumption)]<;>rfl))) .nil))) (.cons (N_ (by (rw[sumG_y (by assumption)]<;>rfl))) .nil)))
end Go.Proofs.YtdmkhinckljddaaGreatDoor
