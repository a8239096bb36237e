/- A part of this claim. No condition. -/
import Derived.Test.YtdmkhinckljddaaGreatDoorReportCountsG4
set_option maxRecDepth 100000
set_option maxHeartbeats 2000000
set_option linter.unusedVariables false
set_option linter.unusedSimpArgs false
set_option linter.unnecessarySimpa false
namespace Go.Proofs.YtdmkhinckljddaaGreatDoor
open Go.RowKit
open BlkW renaming rows→BB_
open Bool renaming and_eq_true→M_,and_eq_false_iff→P_,or_eq_false_iff→R_,not_eq_false'→V_,not_eq_true'→W_,or_eq_true→A_,and_true→AM_,false_eq_true→AB_,false_and→AI_,not_true→BN_,false_or→BO_,not_false→BQ_,and_false→BR_,true_and→BV_,or_false→BA_,not_eq_eq_eq_not→BE_,true_eq_false→CM_
open Exit renaming exit→BM_
open Int renaming toNat_natCast→BU_,not_lt→CW_
open IntKind renaming i64→O_
open List renaming map→K_,getElem?_eq_getElem→S_,length_map→T_,map_replicate→U_,map_append→X_,map_cons→Z_,map_take→AK_,map_drop→AL_,getD_eq_getElem?_getD→AN_,getElem?_map→AO_,map_nil→AP_,map_set→AR_,length_cons→AY_,length_append→AZ_,getElem?_set→AA_,length_nil→BK_,length_replicate→BX_,getElem?_eq_none→BZ_,length_take→BF_,append_assoc→BH_,getElem?_append→BI_,map_eq_nil_iff→CN_,length_drop→CO_,length_range→CP_,length_set→CU_
open Nat renaming le_refl→AU_,zero_add→BP_
open Option renaming getD_some→BS_
open Tryz renaming prog→L_
open Value renaming string→Q_,int→AV_,slice→AC_
open Weak renaming int→N_,tup→AJ_,agg→BL_
open WeakL renaming refl→D_
def Rng.In8 (a:Rng):Prop:=Go.Proofs.YtdmkhinckljddaaGreatDoor.In8 a.lo∧Go.Proofs.YtdmkhinckljddaaGreatDoor.In8 a.hi
def nodeR (n:Nod) (a b:Rng):Rng×Int :=
 if checkE n≠0 then (⟨0,0⟩,checkE n) else if a.lo>a.hi∨(n.kd=6∧b.lo>b.hi) then (⟨0,0⟩,2)
 else if n.kd=1∨n.kd=2∨n.kd=3 then sumG n a
 else if n.kd=6 then (⟨joinE a.lo b.lo n,joinE a.hi b.hi n⟩,0)
 else if n.kd=7 then (⟨oneN a.lo n,oneN a.hi n⟩,0)
 else if n.kd=8∧n.np>0 then (⟨min a.lo n.za,max a.hi n.za⟩,0) else (a,0)
noncomputable def ends64_l_I (a:Int) (l:List Int) (k:Nat):VS:=stt 27 [(6,i64 (foldR a l k).lo),(7,i64 (foldR a l k).hi),(12,ints .i64 l),(13,i64 l.length),(14,i64 k)] []
noncomputable def ends64_l_Z (a:Int) (l:List Int):VS:=ends64_l_I a l (l.length)
theorem ends64_l_s (a:Int) (l:List Int) (hl:l.length≤1000) (k:Nat) (hk:k<l.length):VT L_ (fnC Tryz.f127 [1,1,0,1,0,0]) (ends64_l_I a l k) .normal (ends64_l_I a l (k+1)):=by
 have oz4:=(N_ (k:=.i64) (show ((if l.getD k 0<(foldR a l k).lo then l.getD k 0 else (foldR a l k).lo):Int)=((foldR a l (k+1)).lo) from (by (simp only[foldR];split<;>omega))))
 have oz5:=(N_ (k:=.i64) (show ((if l.getD k 0>(foldR a l k).hi then l.getD k 0 else (foldR a l k).hi):Int)=((foldR a l (k+1)).hi) from (by (simp only[foldR];split<;>omega))))
 exact tR_ [r_,b_,.r [] [.row [i64 (l.getD k 0)]],r_,.r [] [.n ((↑k:Int)+1)]] [.any (rg [(9,1),(15,10)]),.weak 6 (wO oz4),.weak 7 (wO oz5),.weak 14 (i64 (↑(k+1):Int)),.sort] (.d7 (decide_eq_true (p:=((↑k:Int)<(l.length:Int))) (by omega)) (s_ (0≤(↑k:Int))) (map_at (row1 .i64) (0) (l:=l) (i:=k) hk) (i6n ((↑k:Int)+1) (by omega)) oz4 oz5 (wS_ k))
theorem ends64_l_e (a:Int) (l:List Int) (hl:l.length≤1000):VT L_ (fnC Tryz.f127 [1,1,0,1,0,0]) (ends64_l_I a l (l.length)) (.exit 0) (ends64_l_Z a l):=by
 exact tR_ [r_,d_] [.any [15],.sort] (.d (decide_eq_false (p:=((l.length:Int)<(l.length:Int))) (by omega)))
theorem ends64_l (a:Int) (l:List Int) (hl:l.length≤1000):VT L_ (fnC Tryz.f127 [1,1,0,1,0]) (ends64_l_I a l 0) (.exit 0) (ends64_l_Z a l) :=
 VT.loop (fun k=>ends64_l_I a l k) (l.length) (fun k hk=>ends64_l_s a l hl k hk) (ends64_l_e a l hl) (by intro h;cases h)
theorem ends64_v (a:Int) (l:List Int) (hl:l.length≤1000):VC L_ 127 ([i64 a,ints .i64 l]) (.tup [i64 (foldR a l l.length).lo,i64 (foldR a l l.length).hi]):=by
 have oz1:=(N_ (k:=.i64) (show ((((K_ (row1 .i64) l).length:Int)):Int)=((l.length:Int)) from (by (simp;done))))
 have oz3:=@ends64_l (a) (l) hl
 exact cR_ [r_,r_,r_,.code [.any [0,1,4,5,10,11],.weak 7 (i64 (foldR a l 0).hi),.weak 13 (wO oz1),.weak 14 (i64 (↑0:Int)),.sort] (BM_ 0) (zO oz3),r_] _ Tryz.func127 (.d4 (N_ (k:=.i64) (show ((a):Int)=((foldR a l 0).hi) from (by rfl))) oz1 w0_ oz3)
theorem ends64_1 (a b:Int):VC L_ 127 [i64 a,.sl 1 [[i64 b]]] (.tup [i64 (min a b),i64 (max a b)]):=ends64_v a [b] (by simp)
noncomputable def ends8_l_I (a:Int) (l:List Int) (k:Nat):VS:=stt 27 [(6,i8 (foldR a l k).lo),(7,i8 (foldR a l k).hi),(12,ints .i8 l),(13,i64 l.length),(14,i64 k)] []
noncomputable def ends8_l_Z (a:Int) (l:List Int):VS:=ends8_l_I a l (l.length)
theorem ends8_l_s (a:Int) (l:List Int) (hl:l.length≤1000) (k:Nat) (hk:k<l.length):VT L_ (fnC Tryz.f152 [1,1,0,1,0,0]) (ends8_l_I a l k) .normal (ends8_l_I a l (k+1)):=by
 have oz4:=(N_ (k:=.i8) (show ((if l.getD k 0<(foldR a l k).lo then l.getD k 0 else (foldR a l k).lo):Int)=((foldR a l (k+1)).lo) from (by (simp only[foldR];split<;>omega))))
 have oz5:=(N_ (k:=.i8) (show ((if l.getD k 0>(foldR a l k).hi then l.getD k 0 else (foldR a l k).hi):Int)=((foldR a l (k+1)).hi) from (by (simp only[foldR];split<;>omega))))
 exact tR_ [r_,b_,.r [] [.row [i8 (l.getD k 0)]],r_,.r [] [.n ((↑k:Int)+1)]] [.any (rg [(9,1),(15,10)]),.weak 6 (wO oz4),.weak 7 (wO oz5),.weak 14 (i64 (↑(k+1):Int)),.sort] (.d7 (decide_eq_true (p:=((↑k:Int)<(l.length:Int))) (by omega)) (s_ (0≤(↑k:Int))) (map_at (row1 .i8) (0) (l:=l) (i:=k) hk) (i6n ((↑k:Int)+1) (by omega)) oz4 oz5 (wS_ k))
theorem ends8_l_e (a:Int) (l:List Int) (hl:l.length≤1000):VT L_ (fnC Tryz.f152 [1,1,0,1,0,0]) (ends8_l_I a l (l.length)) (.exit 0) (ends8_l_Z a l):=by
 exact tR_ [r_,d_] [.any [15],.sort] (.d (decide_eq_false (p:=((l.length:Int)<(l.length:Int))) (by omega)))
theorem ends8_l (a:Int) (l:List Int) (hl:l.length≤1000):VT L_ (fnC Tryz.f152 [1,1,0,1,0]) (ends8_l_I a l 0) (.exit 0) (ends8_l_Z a l) :=
 VT.loop (fun k=>ends8_l_I a l k) (l.length) (fun k hk=>ends8_l_s a l hl k hk) (ends8_l_e a l hl) (by intro h;cases h)
theorem ends8_v (a:Int) (l:List Int) (hl:l.length≤1000):VC L_ 152 ([i8 a,ints .i8 l]) (.tup [i8 (foldR a l l.length).lo,i8 (foldR a l l.length).hi]):=by
 have oz1:=(N_ (k:=.i64) (show ((((K_ (row1 .i8) l).length:Int)):Int)=((l.length:Int)) from (by (simp;done))))
 have oz3:=@ends8_l (a) (l) hl
 exact cR_ [r_,r_,r_,.code [.any [0,1,4,5,10,11],.weak 7 (i8 (foldR a l 0).hi),.weak 13 (wO oz1),.weak 14 (i64 (↑0:Int)),.sort] (BM_ 0) (zO oz3),r_] _ Tryz.func152 (.d4 (N_ (k:=.i8) (show ((a):Int)=((foldR a l 0).hi) from (by rfl))) oz1 w0_ oz3)
theorem ends8_2 (a b c:Int):VC L_ 152 [i8 a,.sl 1 [[i8 b],[i8 c]]] (.tup [i8 (min (min a b) c),i8 (max (max a b) c)]):=ends8_v a [b,c] (by simp)
theorem over_v (a b c:Int)  : VC L_ 143 ([i8 a,.sl 1 [[i8 b],[i8 c]]]) (rch ⟨min (min a b) c,max (max a b) c⟩):=by
 have oz0:=@ends8_2 (a) (b) (c)
 exact cR_ [r_,.r [] [cr oz0],r_] _ Tryz.func143 (.d oz0)
theorem gnode_v (n:Nod) (a b:Rng) (ok:n.Ok) (ha:a.In8) (hb:b.In8) (wl:n.w.length≤100000) (bl:n.b.length≤100000):VC L_ 128 ([nod n,rch a,rch b]) (.tup [rch (nodeR n a b).1,i64 (nodeR n a b).2]):=by
 have ok_kd:=ok.kd
 obtain ⟨p1,p2⟩:=id ha
 obtain ⟨p3,p4⟩:=id hb
 have oz0:=@check_v (n) wl bl ok_kd
 rcases bft (checkE n != 0) with hc0|hc0
 ·have gc0:¬checkE n=0:=bdt hc0
  exact (cR_ [r_,.r [] [cr oz0],r_,b_,r_] (AV.tup [AV.agg [i8 0,i8 0],i64 (checkE n)]) Tryz.func128 (.d2 oz0 hc0)).weak (D_ _) (AJ_ (.cons (BL_ (.cons (N_ (by (unfold nodeR;(repeat first|rw[i_ (by omega)]|rw[j_ (by omega)])))) (.cons (N_ (by (unfold nodeR;(repeat first|rw[i_ (by omega)]|rw[j_ (by omega)])))) .nil))) (.cons (N_ (by (unfold nodeR;(repeat first|rw[i_ (by omega)]|rw[j_ (by omega)])))) .nil)))
 ·have gc0:checkE n=0:=bdf hc0
  have oz2:=@upside_v (a.lo) (a.hi)
  have oz3:=@upside_v (b.lo) (b.hi)
  rcases bft (decide (a.lo>a.hi) || n.kd==6&&decide (b.lo>b.hi)) with hc1|hc1
  ·have gc1:a.lo>a.hi∨n.kd=6∧b.lo>b.hi:=gc0_ hc1
   exact (cR_ [r_,.r [] [cr oz0],r_,d_,.r [] [cr oz2,o_,o_,o_,o_,o_,o_,cr oz3,o_,.sel 2,.sel 1],b_,r_] (AV.tup [AV.agg [i8 0,i8 0],i64 2]) Tryz.func128 (.d5 oz0 hc0 oz2 oz3 hc1)).weak (D_ _) (AJ_ (.cons (BL_ (.cons (N_ (by (unfold nodeR;(repeat first|rw[i_ (by omega)]|rw[j_ (by omega)])))) (.cons (N_ (by (unfold nodeR;(repeat first|rw[i_ (by omega)]|rw[j_ (by omega)])))) .nil))) (.cons (N_ (by (unfold nodeR;(repeat first|rw[i_ (by omega)]|rw[j_ (by omega)])))) .nil)))
  ·have gc1:¬a.lo>a.hi∧(¬n.kd=6∨¬b.lo>b.hi):=gc0_ hc1
   have oz5:=@sumsK_v (n.kd)
   rcases bft (n.kd==1 || n.kd==2 || n.kd==3) with hc2|hc2
   ·have gc2:(n.kd=1∨n.kd=2)∨n.kd=3:=gc0_ hc2
    have oz7:=@summed_v (n) (a) ok p1 p2 wl bl
    exact (cR_ [r_,.r [] [cr oz0],r_,d_,.r [] [cr oz2,o_,o_,o_,o_,o_,o_,cr oz3,o_,.sel 2,.sel 1],d_,.r [] [cr oz5],b_,.r [] [cr oz7]] (AV.tup [AV.agg [i8 (sumG n a).fst.lo,i8 (sumG n a).fst.hi],i64 (sumG n a).snd]) Tryz.func128 (.d8 oz0 hc0 oz2 oz3 hc1 oz5 hc2 oz7)).weak (D_ _) (AJ_ (.cons (BL_ (.cons (N_ (by (unfold nodeR;(repeat first|rw[i_ (by omega)]|rw[j_ (by omega)])))) (.cons (N_ (by (unfold nodeR;(repeat first|rw[i_ (by omega)]|rw[j_ (by omega)])))) .nil))) (.cons (N_ (by (unfold nodeR;(repeat first|rw[i_ (by omega)]|rw[j_ (by omega)])))) .nil)))
   ·have gc2:(¬n.kd=1∧¬n.kd=2)∧¬n.kd=3:=gc0_ hc2
    rcases bft (n.kd==6) with hc3|hc3
    ·have gc3:n.kd=6:=bet hc3
     have oz8:=@joinOne_v (a.lo) (b.lo) (n) ok p1 p3
     have oz9:=@joinOne_v (a.hi) (b.hi) (n) ok p2 p4
     exact (cR_ [r_,.r [] [cr oz0],r_,d_,.r [] [cr oz2,o_,o_,o_,o_,o_,o_,cr oz3,o_,.sel 2,.sel 1],d_,.r [] [cr oz5],d_,r_,b_,.r [] [cr oz8,cr oz9]] (AV.tup [AV.agg [i8 (joinE a.lo b.lo n),i8 (joinE a.hi b.hi n)],i64 0]) Tryz.func128 (.c8 oz0 hc0 oz2 oz3 hc1 oz5 hc2 hc3<|.d2 oz8 oz9)).weak (D_ _) (AJ_ (.cons (BL_ (.cons (N_ (by (unfold nodeR;(repeat first|rw[i_ (by omega)]|rw[j_ (by omega)])))) (.cons (N_ (by (unfold nodeR;(repeat first|rw[i_ (by omega)]|rw[j_ (by omega)])))) .nil))) (.cons (N_ (by (unfold nodeR;(repeat first|rw[i_ (by omega)]|rw[j_ (by omega)])))) .nil)))
    ·have gc3:¬n.kd=6:=bef hc3
     rcases bft (n.kd==7) with hc4|hc4
     ·have gc4:n.kd=7:=bet hc4
      have oz9:=@actOne_w (a.lo) (n) ok p1
      have oz10:=@actOne_w (a.hi) (n) ok p2
      exact (cR_ [r_,.r [] [cr oz0],r_,d_,.r [] [cr oz2,o_,o_,o_,o_,o_,o_,cr oz3,o_,.sel 2,.sel 1],d_,.r [] [cr oz5],d_,r_,d_,r_,b_,.r [] [cr oz9,cr oz10]] (AV.tup [AV.agg [i8 (oneN a.lo n),i8 (oneN a.hi n)],i64 0]) Tryz.func128 (.c8 oz0 hc0 oz2 oz3 hc1 oz5 hc2 hc3<|.d3 hc4 oz9 oz10)).weak (D_ _) (AJ_ (.cons (BL_ (.cons (N_ (by (unfold nodeR;(repeat first|rw[i_ (by omega)]|rw[j_ (by omega)])))) (.cons (N_ (by (unfold nodeR;(repeat first|rw[i_ (by omega)]|rw[j_ (by omega)])))) .nil))) (.cons (N_ (by (unfold nodeR;(repeat first|rw[i_ (by omega)]|rw[j_ (by omega)])))) .nil)))
     ·have gc4:¬n.kd=7:=bef hc4
      rcases bft (n.kd==8&&decide (n.np>0)) with hc5|hc5
      ·have gc5:n.kd=8∧n.np>0:=gc0_ hc5
       have oz10:=@over_v (n.za) (a.lo) (a.hi)
       exact (cR_ [r_,.r [] [cr oz0],r_,d_,.r [] [cr oz2,o_,o_,o_,o_,o_,o_,cr oz3,o_,.sel 2,.sel 1],d_,.r [] [cr oz5],d_,r_,d_,r_,d_,.r [] [o_,o_,o_,.sel 2],b_,.r [] [cr oz10]] (AV.tup [AV.agg [i8 (Rng.mk (min (min n.za a.lo) a.hi) (max (max n.za a.lo) a.hi)).lo,i8 (Rng.mk (min (min n.za a.lo) a.hi) (max (max n.za a.lo) a.hi)).hi],i64 0]) Tryz.func128 (.c8 oz0 hc0 oz2 oz3 hc1 oz5 hc2 hc3<|.d3 hc4 hc5 oz10)).weak (D_ _) (AJ_ (.cons (BL_ (.cons (N_ (by (unfold nodeR;(repeat first|rw[i_ (by omega)]|rw[j_ (by omega)]);dsimp only;omega))) (.cons (N_ (by (unfold nodeR;(repeat first|rw[i_ (by omega)]|rw[j_ (by omega)]);dsimp only;omega))) .nil))) (.cons (N_ (by (unfold nodeR;(repeat first|rw[i_ (by omega)]|rw[j_ (by omega)])))) .nil)))
      ·have gc5:¬n.kd=8∨¬n.np>0:=gc0_ hc5
       exact (cR_ [r_,.r [] [cr oz0],r_,d_,.r [] [cr oz2,o_,o_,o_,o_,o_,o_,cr oz3,o_,.sel 2,.sel 1],d_,.r [] [cr oz5],d_,r_,d_,r_,d_,.r [] [o_,o_,o_,.sel 2],d_,r_] (AV.tup [AV.agg [i8 a.lo,i8 a.hi],i64 0]) Tryz.func128 (.c8 oz0 hc0 oz2 oz3 hc1 oz5 hc2 hc3<|.d2 hc4 hc5)).weak (D_ _) (AJ_ (.cons (BL_ (.cons (N_ (by (unfold nodeR;(repeat first|rw[i_ (by omega)]|rw[j_ (by omega)])))) (.cons (N_ (by (unfold nodeR;(repeat first|rw[i_ (by omega)]|rw[j_ (by omega)])))) .nil))) (.cons (N_ (by (unfold nodeR;(repeat first|rw[i_ (by omega)]|rw[j_ (by omega)])))) .nil)))
def stepR (n:Nod) (L:List Rng):Rng×Int:=if thereB n L.length=true then nodeR n (L.getD n.na.toNat default) (L.getD (secN n).toNat default) else (⟨0,0⟩,8)
theorem gstep_v (n:Nod) (L:List Rng) (ok:n.Ok) (okL:∀ r∈L,r.In8) (hL:L.length≤100) (wl:n.w.length≤100000) (bl:n.b.length≤100000):VC L_ 103 ([nod n,.sl 2 (L.map rchC)]) (.tup [rch (stepR n L).1,i64 (stepR n L).2]):=by
 have q1:=@there_iff n L.length
 have q2:(K_ rchC L).length=L.length:=T_ _
 have q3:=fun (h:n.na.toNat<L.length)=>getD_in okL h
 have q4:=fun (h:(secN n).toNat<L.length)=>getD_in okL h
 have q5:n.kd=6→secN n=n.nb:=fun h=>i_ h
 have q6:¬ n.kd=6→secN n=n.na:=fun h=>j_ h
 rcases bft (n.kd==6) with hc0|hc0
 ·have gc0:n.kd=6:=bet hc0
  have oz1:=@ends64_1 (n.na) (n.nb)
  rcases bft (decide (min n.na n.nb<0) || decide (max n.na n.nb≥((K_ rchC L).length:Int))) with hc1|hc1
  ·have gc1:min n.na n.nb<0∨max n.na n.nb≥((K_ rchC L).length:Int):=gc0_ hc1
   exact (cR_ [r_,r_,r_,b_,r_,.r [] [cr oz1],.r [] [o_,o_,o_,o_,.sel 1],b_,r_] (AV.tup [AV.agg [i8 0,i8 0],i64 8]) Tryz.func103 (.d3 hc0 oz1 hc1)).weak (D_ _) (AJ_ (.cons (BL_ (.cons (N_ (by (unfold stepR;rw[j_ (by rw[q1];omega)]))) (.cons (N_ (by (unfold stepR;rw[j_ (by rw[q1];omega)]))) .nil))) (.cons (N_ (by (unfold stepR;rw[j_ (by rw[q1];omega)]))) .nil)))
  ·have gc1:¬min n.na n.nb<0∧¬max n.na n.nb≥((K_ rchC L).length:Int):=gc0_ hc1
   have oz4:=(map_at (rchC) (default) (l:=L) (i:=n.na.toNat) (by omega))
   have oz6:=(map_at (rchC) (default) (l:=L) (i:=n.nb.toNat) (by omega))
   have oz7:=@gnode_v (n) (L.getD n.na.toNat default) (L.getD n.nb.toNat default) ok (by (exact q3 (by omega))) (by (rw[←q5 (by omega)];exact q4 (by rw[q5 (by omega)];omega))) wl bl
   exact (cR_ [r_,r_,r_,b_,r_,.r [] [cr oz1],.r [] [o_,o_,o_,o_,.sel 1],d_,.r [] [.row (sO oz4),.row (sO oz6),cr oz7]] (AV.tup [AV.agg [i8 (nodeR n (L.getD n.na.toNat default) (L.getD n.nb.toNat default)).fst.lo,i8 (nodeR n (L.getD n.na.toNat default) (L.getD n.nb.toNat default)).fst.hi],i64 (nodeR n (L.getD n.na.toNat default) (L.getD n.nb.toNat default)).snd]) Tryz.func103 (.d8 hc0 oz1 hc1 (s_ (0≤n.na)) oz4 (s_ (0≤n.nb)) oz6 oz7)).weak (D_ _) (AJ_ (.cons (BL_ (.cons (N_ (by (unfold stepR;rw[q5 (by omega),i_ (by rw[q1];omega)]))) (.cons (N_ (by (unfold stepR;rw[q5 (by omega),i_ (by rw[q1];omega)]))) .nil))) (.cons (N_ (by (unfold stepR;rw[q5 (by omega),i_ (by rw[q1];omega)]))) .nil)))
 ·have gc0:¬n.kd=6:=bef hc0
  have oz1:=@ends64_1 (n.na) (n.na)
  rcases bft (decide (min n.na n.na<0) || decide (max n.na n.na≥((K_ rchC L).length:Int))) with hc1|hc1
  ·have gc1:min n.na n.na<0∨max n.na n.na≥((K_ rchC L).length:Int):=gc0_ hc1
   exact (cR_ [r_,r_,r_,d_,.r [] [cr oz1],.r [] [o_,o_,o_,o_,.sel 1],b_,r_] (AV.tup [AV.agg [i8 0,i8 0],i64 8]) Tryz.func103 (.d3 hc0 oz1 hc1)).weak (D_ _) (AJ_ (.cons (BL_ (.cons (N_ (by (unfold stepR;rw[j_ (by rw[q1];omega)]))) (.cons (N_ (by (unfold stepR;rw[j_ (by rw[q1];omega)]))) .nil))) (.cons (N_ (by (unfold stepR;rw[j_ (by rw[q1];omega)]))) .nil)))
  ·have gc1:¬min n.na n.na<0∧¬max n.na n.na≥((K_ rchC L).length:Int):=gc0_ hc1
   have oz3:=(s_ (0≤n.na))
   have oz4:=(map_at (rchC) (default) (l:=L) (i:=n.na.toNat) (by omega))
   have oz7:=@gnode_v (n) (L.getD n.na.toNat default) (L.getD n.na.toNat default) ok (by (exact q3 (by omega))) (by (exact q3 (by omega))) wl bl
   exact (cR_ [r_,r_,r_,d_,.r [] [cr oz1],.r [] [o_,o_,o_,o_,.sel 1],d_,.r [] [.row (sO oz4),.row (sO oz4),cr oz7]] (AV.tup [AV.agg [i8 (nodeR n (L.getD n.na.toNat default) (L.getD n.na.toNat default)).fst.lo,i8 (nodeR n (L.getD n.na.toNat default) (L.getD n.na.toNat default)).fst.hi],i64 (nodeR n (L.getD n.na.toNat default) (L.getD n.na.toNat default)).snd]) Tryz.func103 (.d8 hc0 oz1 hc1 oz3 oz4 oz3 oz4 oz7)).weak (D_ _) (AJ_ (.cons (BL_ (.cons (N_ (by (unfold stepR;rw[q6 (by omega),i_ (by rw[q1];omega)]))) (.cons (N_ (by (unfold stepR;rw[q6 (by omega),i_ (by rw[q1];omega)]))) .nil))) (.cons (N_ (by (unfold stepR;rw[q6 (by omega),i_ (by rw[q1];omega)]))) .nil)))
def FOK (l:List Nod) (a:Rng):Prop:=0<l.length∧l.length≤8∧a.lo≤a.hi∧∀ k,k<l.length→errL stepR l a k=0
theorem nodeR_in {n:Nod} {a b:Rng} (ok:n.Ok) (ha:a.In8) (hb:b.In8):(nodeR n a b).1.In8:=by
 have hz:Rng.In8 ⟨0,0⟩:=⟨⟨by dsimp only;decide,by dsimp only;decide⟩,⟨by dsimp only;decide,by dsimp only;decide⟩⟩
 have held:∀ x m s z,In8 (heldQ x m s z n.lo n.hi):=fun x m s z=>by
  unfold heldQ;split
  ·exact clamp_in _ ok.lo ok.hi
  ·exact ⟨by decide,by decide⟩
 unfold nodeR
 split
 ·exact hz
 ·split
  ·exact hz
  ·split
   ·unfold sumG;split
    ·unfold afterE
     have h1:=held (held32 (bothR (spansN n a) (spansN n a).length).lo) n.qm n.qs n.qz
     have h2:=held (held32 (bothR (spansN n a) (spansN n a).length).hi) n.qm n.qs n.qz
     constructor<;>dsimp only<;>omega
    ·exact hz
   ·split
    ·have hj:∀ x y,In8 (joinE x y n):=fun x y=>by
      unfold joinE;split
      ·exact clamp_in _ ok.lo ok.hi
      ·exact ⟨by decide,by decide⟩
     exact ⟨hj _ _,hj _ _⟩
    ·split
     ·exact ⟨held _ _ _ _,held _ _ _ _⟩
     ·obtain ⟨p1,p2⟩:=ha
      have p3:=ok.za
      split
      ·constructor<;>dsimp only<;>omega
      ·exact ⟨p1,p2⟩
theorem stepR_in {n:Nod} {L:List Rng} (ok:n.Ok) (hL:∀ r∈L,r.In8):(stepR n L).1.In8:=by
 unfold stepR
 split
 ·rename_i h
  have h:=there_iff.1 h
  exact nodeR_in ok (getD_in hL (by omega)) (getD_in hL (by omega))
 ·exact ⟨⟨by dsimp only;decide,by dsimp only;decide⟩,⟨by dsimp only;decide,by dsimp only;decide⟩⟩
theorem flow_in {l:List Nod} {a:Rng} (okl:∀ n∈l,n.Ok) (ha:a.In8) {k:Nat} (hk:k≤l.length):∀ r∈growL stepR l a k,r.In8 :=
 growL_all (n:=k) ha (fun j hj h=>stepR_in (getD_in okl (by omega)) h) k (AU_ _)
noncomputable def flow_ly_I (l:List Nod) (a:Rng) (k:Nat):VS:=stt 50 [(0,.sl 19 (l.map nodC)),(7,.own 900),(25,.sl 19 (l.map nodC)),(26,i64 l.length),(27,i64 k)] [(900,.slc 164 2 ((growL stepR l a k).map rchC))]
noncomputable def flow_ly_Z (l:List Nod) (a:Rng):VS:=flow_ly_I l a (l.length)
theorem flow_ly_s (l:List Nod) (a:Rng) (okl:∀ n∈l,n.Ok) (wl:∀ n∈l,n.w.length≤100000∧n.b.length≤100000) (ha:a.In8) (f8:l.length≤8) (h:∀ k,k<l.length→errL stepR l a k=0) (k:Nat) (hk:k<l.length):VT L_ (fnC Tryz.f86 [1,1,1,0,1,0,0]) (flow_ly_I l a k) .normal (flow_ly_I l a (k+1)):=by
 have q:=h k hk
 have q1:=growL_len stepR l a k
 have q2:=flow_in okl ha (Nat.le_of_lt hk)
 have q3:=getD_in okl hk
 have q4:=getD_in wl hk
 obtain ⟨q5,q6⟩:=q4
 unfold errL at q
 have oz2:=(map_at (nodC) (default) (l:=l) (i:=k) hk)
 have oz3:=@gstep_v (l.getD k default) (growL stepR l a k) q3 q2 (by omega) q5 q6
 exact tR_ [r_,b_,.r [] [.row (sO oz2)],.r [] [cr oz3],r_,d_,r_,.r [] [.n ((↑k:Int)+1)]] [.any (rg [(8,4),(28,12),(42,5)]),.drop [9,10,44],.ren 45 900,.weak 27 (i64 (↑(k+1):Int)),.blk 900 (Blk.slc 164 2 (K_ rchC (growL stepR l a (k+1)))),.sort] (.c8 (decide_eq_true (p:=((↑k:Int)<(l.length:Int))) (by omega)) (s_ (0≤(↑k:Int))) oz2 oz3 (show ((stepR (l.getD k default) (growL stepR l a k)).snd != 0)=false by (simp at *;omega)) (show ((K_ rchC (growL stepR l a k)).length+1)*2≤140737488355328 by (simp;omega)) (show (K_ rchC (growL stepR l a k)).length+1≤9223372036854775807 by (simp;omega)) (i6n ((↑k:Int)+1) (by omega))<|.d2 (wS_ k) (show BlkW (Blk.slc 164 2 (K_ rchC (growL stepR l a k)++[[i8 (stepR (l.getD k default) (growL stepR l a k)).fst.lo,i8 (stepR (l.getD k default) (growL stepR l a k)).fst.hi]])) (Blk.slc 164 2 (K_ rchC (growL stepR l a (k+1)))) from (BB_ (e:=164) (z:=2) (rows_to (rchC) (r:=K_ rchC (growL stepR l a k)++[[i8 (stepR (l.getD k default) (growL stepR l a k)).fst.lo,i8 (stepR (l.getD k default) (growL stepR l a k)).fst.hi]]) (l:=growL stepR l a k++[Rng.mk (stepR (l.getD k default) (growL stepR l a k)).fst.lo (stepR (l.getD k default) (growL stepR l a k)).fst.hi]) (m:=growL stepR l a (k+1)) (by first|(simp only[X_,Z_,AP_,AR_,U_,AK_,AL_];done)|rfl|(simp only[X_,Z_,AP_,AR_,U_,AK_,AL_];rfl)|(simp only[X_,Z_,AP_,AR_,U_,AK_,AL_,rchC,ints];done)) (show (growL stepR l a k++[Rng.mk (stepR (l.getD k default) (growL stepR l a k)).fst.lo (stepR (l.getD k default) (growL stepR l a k)).fst.hi])=(growL stepR l a (k+1)) from (by rfl))))))
theorem flow_ly_e (l:List Nod) (a:Rng) (okl:∀ n∈l,n.Ok) (wl:∀ n∈l,n.w.length≤100000∧n.b.length≤100000) (ha:a.In8) (f8:l.length≤8) (h:∀ k,k<l.length→errL stepR l a k=0):VT L_ (fnC Tryz.f86 [1,1,1,0,1,0,0]) (flow_ly_I l a (l.length)) (.exit 1) (flow_ly_Z l a):=by
 exact tR_ [r_,d_] [.any [28],.sort] (.d (decide_eq_false (p:=((l.length:Int)<(l.length:Int))) (by omega)))
theorem flow_ly (l:List Nod) (a:Rng) (okl:∀ n∈l,n.Ok) (wl:∀ n∈l,n.w.length≤100000∧n.b.length≤100000) (ha:a.In8) (f8:l.length≤8) (h:∀ k,k<l.length→errL stepR l a k=0):VT L_ (fnC Tryz.f86 [1,1,1,0,1,0]) (flow_ly_I l a 0) (.exit 1) (flow_ly_Z l a) :=
 VT.loop (fun k=>flow_ly_I l a k) (l.length) (fun k hk=>flow_ly_s l a okl wl ha f8 h k hk) (flow_ly_e l a okl wl ha f8 h) (by intro h;cases h)
noncomputable def flow_ln_I (l:List Nod) (a:Rng) (m:Nat) (k:Nat):VS:=stt 50 [(0,.sl 19 (l.map nodC)),(7,.own 900),(25,.sl 19 (l.map nodC)),(26,i64 l.length),(27,i64 k)] [(900,.slc 164 2 ((growL stepR l a k).map rchC))]
noncomputable def flow_ln_Z (l:List Nod) (a:Rng) (m:Nat):VS:=stt 50 [(4,nilv),(5,i64 m),(6,i64 (errL stepR l a m))] []
theorem flow_ln_s (l:List Nod) (a:Rng) (m:Nat) (okl:∀ n∈l,n.Ok) (wl:∀ n∈l,n.w.length≤100000∧n.b.length≤100000) (ha:a.In8) (f8:l.length≤8) (hm:m<l.length) (hf:errL stepR l a m≠0) (h:∀ k,k<m→errL stepR l a k=0) (k:Nat) (hk:k<m):VT L_ (fnC Tryz.f86 [1,1,1,0,1,0,0]) (flow_ln_I l a m k) .normal (flow_ln_I l a m (k+1)):=by
 have q:=h k hk
 have q1:=growL_len stepR l a k
 have q2:=flow_in okl ha (s_ (k≤l.length))
 have q3:=getD_in okl (s_ (k<l.length))
 have q4:=getD_in wl (s_ (k<l.length))
 obtain ⟨q5,q6⟩:=q4
 unfold errL at q
 have oz2:=(map_at (nodC) (default) (l:=l) (i:=k) (by omega))
 have oz3:=@gstep_v (l.getD k default) (growL stepR l a k) q3 q2 (by omega) q5 q6
 exact tR_ [r_,b_,.r [] [.row (sO oz2)],.r [] [cr oz3],r_,d_,r_,.r [] [.n ((↑k:Int)+1)]] [.any (rg [(8,4),(28,12),(42,5)]),.drop [9,10,44],.ren 45 900,.weak 27 (i64 (↑(k+1):Int)),.blk 900 (Blk.slc 164 2 (K_ rchC (growL stepR l a (k+1)))),.sort] (.c8 (decide_eq_true (p:=((↑k:Int)<(l.length:Int))) (by omega)) (s_ (0≤(↑k:Int))) oz2 oz3 (show ((stepR (l.getD k default) (growL stepR l a k)).snd != 0)=false by (simp at *;omega)) (show ((K_ rchC (growL stepR l a k)).length+1)*2≤140737488355328 by (simp;omega)) (show (K_ rchC (growL stepR l a k)).length+1≤9223372036854775807 by (simp;omega)) (i6n ((↑k:Int)+1) (by omega))<|.d2 (wS_ k) (show BlkW (Blk.slc 164 2 (K_ rchC (growL stepR l a k)++[[i8 (stepR (l.getD k default) (growL stepR l a k)).fst.lo,i8 (stepR (l.getD k default) (growL stepR l a k)).fst.hi]])) (Blk.slc 164 2 (K_ rchC (growL stepR l a (k+1)))) from (BB_ (e:=164) (z:=2) (rows_to (rchC) (r:=K_ rchC (growL stepR l a k)++[[i8 (stepR (l.getD k default) (growL stepR l a k)).fst.lo,i8 (stepR (l.getD k default) (growL stepR l a k)).fst.hi]]) (l:=growL stepR l a k++[Rng.mk (stepR (l.getD k default) (growL stepR l a k)).fst.lo (stepR (l.getD k default) (growL stepR l a k)).fst.hi]) (m:=growL stepR l a (k+1)) (by first|(simp only[X_,Z_,AP_,AR_,U_,AK_,AL_];done)|rfl|(simp only[X_,Z_,AP_,AR_,U_,AK_,AL_];rfl)|(simp only[X_,Z_,AP_,AR_,U_,AK_,AL_,rchC,ints];done)) (show (growL stepR l a k++[Rng.mk (stepR (l.getD k default) (growL stepR l a k)).fst.lo (stepR (l.getD k default) (growL stepR l a k)).fst.hi])=(growL stepR l a (k+1)) from (by rfl))))))
theorem flow_ln_e (l:List Nod) (a:Rng) (m:Nat) (okl:∀ n∈l,n.Ok) (wl:∀ n∈l,n.w.length≤100000∧n.b.length≤100000) (ha:a.In8) (f8:l.length≤8) (hm:m<l.length) (hf:errL stepR l a m≠0) (h:∀ k,k<m→errL stepR l a k=0):VT L_ (fnC Tryz.f86 [1,1,1,0,1,0,0]) (flow_ln_I l a m (m)) (.ret) (flow_ln_Z l a m):=by
 have q1:=growL_len stepR l a m
 have q2:=flow_in okl ha (Nat.le_of_lt hm)
 have q3:=getD_in okl hm
 have q4:=getD_in wl hm
 obtain ⟨q5,q6⟩:=q4
 unfold errL at hf
 have oz2:=(map_at (nodC) (default) (l:=l) (i:=m) hm)
 have oz3:=@gstep_v (l.getD m default) (growL stepR l a m) q3 q2 (by omega) q5 q6
 have oz5:=(N_ (k:=.i64) (show (((stepR (l.getD m default) (growL stepR l a m)).snd):Int)=(errL stepR l a m) from (by rfl)))
 exact tR_ [r_,b_,.r [] [.row (sO oz2)],.r [] [cr oz3],r_,b_,r_] [.any (rg [(0,1),(7,5),(25,17)]),.drop [900,9,10],.weak 6 (wO oz5),.sort] (.d6 (decide_eq_true (p:=((↑m:Int)<(l.length:Int))) (by omega)) (s_ (0≤(↑m:Int))) oz2 oz3 (show ((stepR (l.getD m default) (growL stepR l a m)).snd != 0)=true by (simp at *;omega)) oz5)
theorem flow_ln (l:List Nod) (a:Rng) (m:Nat) (okl:∀ n∈l,n.Ok) (wl:∀ n∈l,n.w.length≤100000∧n.b.length≤100000) (ha:a.In8) (f8:l.length≤8) (hm:m<l.length) (hf:errL stepR l a m≠0) (h:∀ k,k<m→errL stepR l a k=0):VT L_ (fnC Tryz.f86 [1,1,1,0,1,0]) (flow_ln_I l a m 0) (.ret) (flow_ln_Z l a m) :=
 VT.loop (fun k=>flow_ln_I l a m k) (m) (fun k hk=>flow_ln_s l a m okl wl ha f8 hm hf h k hk) (flow_ln_e l a m okl wl ha f8 hm hf h) (by intro h;cases h)
theorem flow_y (l:List Nod) (a:Rng) (okl:∀ n∈l,n.Ok) (wl:∀ n∈l,n.w.length≤100000∧n.b.length≤100000) (ha:a.In8) (h:FOK l a):VC L_ 86 ([.sl 19 (l.map nodC),rch a]) (.tup [.sl 2 ((growL stepR l a l.length).map rchC),i64 l.length,i64 0]):=by
 obtain ⟨q2,q3,q1,q4⟩:=id h
 have oz2:=@upside_v (a.lo) (a.hi)
 have oz6:=@flow_ly (l) (a) okl wl ha q3 q4
 exact (cR_ [r_,r_,d_,r_,d_,.r [] [cr oz2],d_,r_,r_,.code [.any (rg [(1,1),(3,4),(12,13)]),.drop [3],.ren 24 900,.weak 26 (i64 (l.length:Int)),.weak 27 (i64 (↑0:Int)),.sort] (BM_ 1) (zO oz6),r_] (AV.tup [AV.sl 2 (K_ rchC (growL stepR l a l.length)),i64 ((K_ nodC l).length:Int),i64 0]) Tryz.func86 (.d7 (show (((K_ nodC l).length:Int)==0)=false by (simp only[E_,F_,I_,J_,ne_eq,H_,G_,W_,V_,BE_,BN_,BQ_,Classical.not_not,CW_,Int.not_le,M_,P_,A_,R_,AM_,BV_,BR_,AI_,BA_,BO_,eqNums,T_,AZ_,AY_,BK_,CU_,BX_,BF_,CO_,CP_,BU_,BP_,CN_];(first|done|with_reducible assumption|omega|contradiction))) (show decide (((K_ nodC l).length:Int)>8)=false by (simp;omega)) oz2 (decide_eq_false (p:=(a.lo>a.hi)) (by omega)) (N_ (k:=.i64) (show ((((K_ nodC l).length:Int)):Int)=((l.length:Int)) from (by (simp;done)))) w0_ oz6)).weak (D_ _) (AJ_ (.cons (.refl _) (.cons (N_ (by (simp;done))) (.cons (.refl _) .nil))))
theorem flow_m (l:List Nod) (a:Rng) (m:Nat) (okl:∀ n∈l,n.Ok) (wl:∀ n∈l,n.w.length≤100000∧n.b.length≤100000) (ha:a.In8) (i:a.lo≤a.hi) (f8:l.length≤8) (hm:m<l.length) (hf:errL stepR l a m≠0) (h:∀ k,k<m→errL stepR l a k=0):VC L_ 86 ([.sl 19 (l.map nodC),rch a]) (.tup [nilv,i64 m,i64 (errL stepR l a m)]):=by
 have oz2:=@upside_v (a.lo) (a.hi)
 have oz6:=@flow_ln (l) (a) (m) okl wl ha f8 hm hf h
 exact cR_ [r_,r_,d_,r_,d_,.r [] [cr oz2],d_,r_,r_,.code [.any (rg [(1,1),(3,4),(12,13)]),.drop [3],.ren 24 900,.weak 26 (i64 (l.length:Int)),.weak 27 (i64 (↑0:Int)),.sort] (Exit.ret) (zO oz6)] _ Tryz.func86 (.d7 (show (((K_ nodC l).length:Int)==0)=false by (simp only[E_,F_,I_,J_,ne_eq,H_,G_,W_,V_,BE_,BN_,BQ_,Classical.not_not,CW_,Int.not_le,M_,P_,A_,R_,AM_,BV_,BR_,AI_,BA_,BO_,eqNums,T_,AZ_,AY_,BK_,CU_,BX_,BF_,CO_,CP_,BU_,BP_,CN_];(first|done|with_reducible assumption|omega|contradiction))) (show decide (((K_ nodC l).length:Int)>8)=false by (simp;omega)) oz2 (decide_eq_false (p:=(a.lo>a.hi)) (by omega)) (N_ (k:=.i64) (show ((((K_ nodC l).length:Int)):Int)=((l.length:Int)) from (by (simp;done)))) w0_ oz6)
def flowB (l:List Nod) (a:Rng):Nat→Bool:=fun k=>errL stepR l a k==0
def flowE (l:List Nod) (a:Rng):Int×Int :=
 if l.length=0 then (-1,12) else if 8<l.length then (-1,4) else if a.lo>a.hi then (-1,2)
 else if firstBad (flowB l a) l.length<l.length then (firstBad (flowB l a) l.length,errL stepR l a (firstBad (flowB l a) l.length)) else (l.length,0)
theorem flow_a (l:List Nod) (a:Rng) (hl:l.length≤1000) (h:l.length=0∨8<l.length∨a.lo>a.hi):VC L_ 86 ([.sl 19 (l.map nodC),rch a]) (.tup [nilv,i64 (flowE l a).1,i64 (flowE l a).2]):=by
 rcases bft (((K_ nodC l).length:Int)==0) with hc0|hc0
 ·have gc0:((K_ nodC l).length:Int)=0:=bet hc0
  exact (cR_ [r_,r_,b_,r_] (AV.tup [AV.lit (AC_ none 0 0),i64 (-1),i64 12]) Tryz.func86 (.d hc0)).weak (D_ _) (AJ_ (.cons (.refl _) (.cons (N_ (by (unfold flowE;(try simp only[T_] at *);(repeat first|rw[i_ (by omega)]|rw[j_ (by omega)])))) (.cons (N_ (by (unfold flowE;(try simp only[T_] at *);(repeat first|rw[i_ (by omega)]|rw[j_ (by omega)])))) .nil))))
 ·have gc0:¬((K_ nodC l).length:Int)=0:=bef hc0
  rcases bft (decide (((K_ nodC l).length:Int)>8)) with hc1|hc1
  ·have gc1:=of_decide_eq_true hc1
   exact (cR_ [r_,r_,d_,r_,b_,r_] (AV.tup [AV.lit (AC_ none 0 0),i64 (-1),i64 4]) Tryz.func86 (.d2 hc0 hc1)).weak (D_ _) (AJ_ (.cons (.refl _) (.cons (N_ (by (unfold flowE;(try simp only[T_] at *);(repeat first|rw[i_ (by omega)]|rw[j_ (by omega)])))) (.cons (N_ (by (unfold flowE;(try simp only[T_] at *);(repeat first|rw[i_ (by omega)]|rw[j_ (by omega)])))) .nil))))
  ·have gc1:=of_decide_eq_false hc1
   have oz2:=@upside_v (a.lo) (a.hi)
   exact (cR_ [r_,r_,d_,r_,d_,.r [] [cr oz2],b_,r_] (AV.tup [AV.lit (AC_ none 0 0),i64 (-1),i64 2]) Tryz.func86 (.d4 hc0 hc1 oz2 (show decide (a.lo>a.hi)=true by (simp only[E_,F_,I_,J_,ne_eq,H_,G_,W_,V_,BE_,BN_,BQ_,Classical.not_not,CW_,Int.not_le,M_,P_,A_,R_,AM_,BV_,BR_,AI_,BA_,BO_,eqNums,T_,AZ_,AY_,BK_,CU_,BX_,BF_,CO_,CP_,BU_,BP_,CN_] at *;(first|done|with_reducible assumption|omega|contradiction))))).weak (D_ _) (AJ_ (.cons (.refl _) (.cons (N_ (by (unfold flowE;(try simp only[T_] at *);(repeat first|rw[i_ (by omega)]|rw[j_ (by omega)])))) (.cons (N_ (by (unfold flowE;(try simp only[T_] at *);(repeat first|rw[i_ (by omega)]|rw[j_ (by omega)])))) .nil))))
theorem flowE_y {l:List Nod} {a:Rng} (h:FOK l a):flowE l a=((l.length:Int),0):=by
 obtain ⟨q2,q3,q1,q4⟩:=h
 unfold flowE
 rw[j_ (by omega),j_ (by omega),j_ (by omega),firstBad_all fun k hk=>by simpa [flowB] using q4 k hk,j_ (by omega)]
theorem flowE_at {l:List Nod} {a:Rng} {m:Nat} (i:a.lo≤a.hi) (e:0<l.length) (f:l.length≤8) (hm:m<l.length) (hf:errL stepR l a m≠0) (h:∀ k,k<m→errL stepR l a k=0):flowE l a=((m:Int),errL stepR l a m):=by
 have:=firstBad_at (p:=flowB l a) (m:=m) (by simpa [flowB] using hf) (fun k hk=>by simpa [flowB] using h k hk) hm
 unfold flowE
 rw[j_ (by omega),j_ (by omega),j_ (by omega),this,i_ hm]
theorem FOK.cases (l:List Nod) (a:Rng):FOK l a∨(l.length=0∨8<l.length∨a.lo>a.hi)∨(a.lo≤a.hi∧0<l.length∧l.length≤8∧∃ m,m<l.length∧errL stepR l a m≠0∧∀ k,k<m→errL stepR l a k=0):=by
 by_cases c:l.length=0∨8<l.length∨a.lo>a.hi
 ·exact .inr (.inl c)
 ·rcases all_or (flowB l a) l.length with h|⟨m,h1,h2,h3⟩
  ·exact .inl ⟨by omega,by omega,by omega,fun k hk=>by simpa [flowB] using h k hk⟩
  ·exact .inr (.inr ⟨by omega,by omega,by omega,m,h1,by simpa [flowB] using h2,fun k hk=>by simpa [flowB] using h3 k hk⟩)
theorem flowE_n {l:List Nod} {a:Rng} (h:¬ FOK l a):(flowE l a).2≠0:=by
 rcases FOK.cases l a with q|q|⟨i,e,f,m,h1,h2,h3⟩
 ·exact absurd q h
 ·unfold flowE
  by_cases c1:l.length=0
  ·rw[i_ c1];dsimp only;decide
  ·rw[j_ c1]
   by_cases c2:8<l.length
   ·rw[i_ c2];dsimp only;decide
   ·rw[j_ c2,i_ (by omega)];dsimp only;decide
 ·rw[flowE_at i e f h1 h2 h3];exact h2
theorem flow_n (l:List Nod) (a:Rng) (okl:∀ n∈l,n.Ok) (wl:∀ n∈l,n.w.length≤100000∧n.b.length≤100000) (ha:a.In8) (hl:l.length≤1000) (h:¬ FOK l a):VC L_ 86 [.sl 19 (l.map nodC),rch a] (.tup [nilv,i64 (flowE l a).1,i64 (flowE l a).2]):=by
 rcases FOK.cases l a with q|q|⟨i,e,f,m,h1,h2,h3⟩
 ·exact absurd q h
 ·exact flow_a l a hl q
 ·rw[flowE_at i e f h1 h2 h3];exact flow_m l a m okl wl ha i f h1 h2 h3
abbrev fullR:Rng:=⟨-128,127⟩
theorem fullR_in:fullR.In8:=⟨⟨by decide,by decide⟩,⟨by decide,by decide⟩⟩
abbrev rchsL (l:List Nod):List Rng:=growL stepR l fullR l.length
def lastR (l:List Nod):Rng:=(rchsL l).getD l.length default
theorem rchsL_len (l:List Nod):(rchsL l).length=l.length+1:=growL_len stepR l fullR l.length
theorem lastR_in {l:List Nod} (okl:∀ n∈l,n.Ok):(lastR l).In8:=getD_in (flow_in okl fullR_in (AU_ _)) (show l.length<(rchsL l).length by rw[rchsL_len];omega)
theorem lastR_i {l:List Nod} {i:Nat} (hi:i=l.length):(growL stepR l fullR l.length).getD i default=lastR l:=by subst hi;rfl
def verdE (s:Shp) (w b:List Int) (nd cl:Int):Int :=
 if elems s.h s.x s.c=0 then 5 else if cl<2∨16<cl then 2
 else if (w.length:Int)≠cl*elems s.h s.x s.c∨16384<(w.length:Int)∨(b.length:Int)≠cl then 9 else if nd<0 then 11 else 0
theorem clel_bd {cl:Int} (s:Shp) (h:2≤cl∧cl≤16):0≤cl*elems s.h s.x s.c∧cl*elems s.h s.x s.c≤16384:=by
 have h1:=elems_in s.h s.x s.c
 have:=mul_bd (A:=16) (B:=1024) (a:=cl) (by omega) (by omega) h1.1 h1.2
 omega
theorem vcheck_v (s:Shp) (w b:List Int) (nd cl:Int) (ok:s.Ok) (wl:w.length≤100000) (bl:b.length≤100000):VC L_ 105 ([shp s,.agg (hedC w b nd),i64 cl]) (i64 (verdE s w b nd cl)):=by
 obtain ⟨p1,p2,p3⟩:=id ok
 have q1:=elems_in s.h s.x s.c
 have q2:=@clel_bd cl s
 have oz0:=@elems_v (s.h) (s.x) (s.c) p1 p2 p3
 rcases bft (elems s.h s.x s.c==0) with hc0|hc0
 ·have gc0:elems s.h s.x s.c=0:=bet hc0
  exact (cR_ [r_,.r [] [cr oz0],r_,b_,r_] (i64 5) Tryz.func105 (.d2 oz0 hc0)).weak (D_ _) (N_ (by (unfold verdE;(try simp only[T_] at *);(repeat first|rw[i_ (by omega)]|rw[j_ (by omega)]))))
 ·have gc0:¬elems s.h s.x s.c=0:=bef hc0
  rcases bft (decide (cl<2) || decide (cl>16)) with hc1|hc1
  ·have gc1:cl<2∨cl>16:=gc0_ hc1
   exact (cR_ [r_,.r [] [cr oz0],r_,d_,.r [] [o_,o_,.sel 1],b_,r_] (i64 2) Tryz.func105 (.d3 oz0 hc0 hc1)).weak (D_ _) (N_ (by (unfold verdE;(try simp only[T_] at *);(repeat first|rw[i_ (by omega)]|rw[j_ (by omega)]))))
  ·have gc1:¬cl<2∧¬cl>16:=gc0_ hc1
   have oz3:=(i6n (cl*elems s.h s.x s.c) (by omega))
   rcases bft (((K_ (row1 .i8) w).length:Int) != cl*elems s.h s.x s.c || decide (((K_ (row1 .i8) w).length:Int)>16384) || ((K_ (row1 .i32) b).length:Int) != cl) with hc2|hc2
   ·have gc2:(¬((K_ (row1 .i8) w).length:Int)=cl*elems s.h s.x s.c∨((K_ (row1 .i8) w).length:Int)>16384)∨¬((K_ (row1 .i32) b).length:Int)=cl:=gc0_ hc2
    exact (cR_ [r_,.r [] [cr oz0],r_,d_,.r [] [o_,o_,.sel 1],d_,.r [] [.n (nO oz3),o_,o_,o_,o_,.sel 1,o_,o_,o_,o_,o_,.sel 1],b_,r_] (i64 9) Tryz.func105 (.d5 oz0 hc0 hc1 oz3 hc2)).weak (D_ _) (N_ (by (unfold verdE;(try simp only[T_] at *);(repeat first|rw[i_ (by omega)]|rw[j_ (by omega)]))))
   ·have gc2:(((K_ (row1 .i8) w).length:Int)=cl*elems s.h s.x s.c∧¬((K_ (row1 .i8) w).length:Int)>16384)∧((K_ (row1 .i32) b).length:Int)=cl:=gc0_ hc2
    rcases bft (decide (nd<0)) with hc3|hc3
    ·have gc3:=of_decide_eq_true hc3
     exact (cR_ [r_,.r [] [cr oz0],r_,d_,.r [] [o_,o_,.sel 1],d_,.r [] [.n (nO oz3),o_,o_,o_,o_,.sel 1,o_,o_,o_,o_,o_,.sel 1],d_,r_,b_,r_] (i64 11) Tryz.func105 (.d6 oz0 hc0 hc1 oz3 hc2 hc3)).weak (D_ _) (N_ (by (unfold verdE;(try simp only[T_] at *);(repeat first|rw[i_ (by omega)]|rw[j_ (by omega)]))))
    ·have gc3:=of_decide_eq_false hc3
     exact (cR_ [r_,.r [] [cr oz0],r_,d_,.r [] [o_,o_,.sel 1],d_,.r [] [.n (nO oz3),o_,o_,o_,o_,.sel 1,o_,o_,o_,o_,o_,.sel 1],d_,r_,d_,r_] (i64 0) Tryz.func105 (.d6 oz0 hc0 hc1 oz3 hc2 hc3)).weak (D_ _) (N_ (by (unfold verdE;(try simp only[T_] at *);(repeat first|rw[i_ (by omega)]|rw[j_ (by omega)]))))
theorem bare_v (w b:List Int) (nd:Int) (wl:w.length≤100000) (bl:b.length≤100000):VC L_ 104 ([.agg (hedC w b nd)]) (bv (decide (w.length=0∧b.length=0∧nd=0))):=by
 exact (cR_ [r_,.r [] [o_,o_,o_,o_,.sel 2,o_,o_,o_,.sel 2]] (bv (((K_ (row1 .i8) w).length:Int)==0&&((K_ (row1 .i32) b).length:Int)==0&&nd==0)) Tryz.func104 (.n)).weak (D_ _) (Weak.bool (by (rw[Bool.eq_iff_iff];simp only[E_,F_,I_,J_,ne_eq,H_,G_,W_,V_,BE_,BN_,BQ_,Classical.not_not,CW_,Int.not_le,M_,P_,A_,R_,AM_,BV_,BR_,AI_,BA_,BO_,eqNums,T_,AZ_,AY_,BK_,CU_,BX_,BF_,CO_,CP_,BU_,BP_,CN_,AB_,CM_,false_iff,true_iff,iff_false,iff_true] at *;first|done|omega)))
def exitE (x:Blc) (out:Shp) (r:Rng) (cl:Int) (last:Bool):Int :=
 if x.ex=false∧(last=true∨¬ (x.w.length=0∧x.b.length=0∧x.nd=0)) then 11 else if x.ex=false then 0
 else if verdE out x.w x.b x.nd cl≠0 then verdE out x.w x.b x.nd cl else headE x.w x.b r.lo r.hi
theorem vexit_v (x:Blc) (out:Shp) (r:Rng) (cl:Int) (last:Bool) (ok:x.Ok) (oks:out.Ok) (hr:r.In8) (wl:x.w.length≤100000) (bl:x.b.length≤100000):VC L_ 87 ([blc x,shp out,rch r,i64 cl,bv last]) (i64 (exitE x out r cl last)):=by
 have q1:=ok.w
 have q2:=ok.b
 obtain ⟨q3,q4⟩:=id hr
 rcases bft (last && !x.ex) with hc0|hc0
 ·have gc0:last=true∧x.ex=false:=gc0_ hc0
  exact (cR_ [r_,.r [] [o_,o_,o_,.sel 2],b_,b_,r_] (i64 11) Tryz.func87 (.d2 hc0 hc0)).weak (D_ _) (N_ (by (unfold exitE;simp_all;done)))
 ·have gc0:last=false∨x.ex=true:=gc0_ hc0
  have oz1:=@bare_v (x.w) (x.b) (x.nd) wl bl
  rcases bft (!x.ex && !decide (x.w.length=0∧x.b.length=0∧x.nd=0)) with hc1|hc1
  ·have gc1:x.ex=false∧¬(x.w.length=0∧x.b.length=0∧x.nd=0):=gc0_ hc1
   exact (cR_ [r_,.r [] [o_,o_,o_,.sel 2],d_,.r [] [o_,o_,o_,cr oz1,o_,.sel 2],b_,r_] (i64 11) Tryz.func87 (.d3 hc0 oz1 hc1)).weak (D_ _) (N_ (by (unfold exitE;simp_all;done)))
  ·have gc1:x.ex=true∨x.w.length=0∧x.b.length=0∧x.nd=0:=gc0_ hc1
   rcases bft (!x.ex) with hc2|hc2
   ·have gc2:x.ex=false:=by first|exact hc2|exact of_decide_eq_true hc2|exact of_decide_eq_false hc2|simpa [eqNums] using hc2|(simp[eqNums] at hc2 ⊢;first|done|assumption|omega)
    exact (cR_ [r_,.r [] [o_,o_,o_,.sel 2],d_,.r [] [o_,o_,o_,cr oz1,o_,.sel 2],d_,r_,b_,r_] (i64 0) Tryz.func87 (.d4 hc0 oz1 hc1 hc2)).weak (D_ _) (N_ (by (unfold exitE;simp_all;done)))
   ·have gc2:x.ex=true:=by first|exact hc2|exact of_decide_eq_true hc2|exact of_decide_eq_false hc2|simpa [eqNums] using hc2|(simp[eqNums] at hc2 ⊢;first|done|assumption|omega)
    have oz4:=@vcheck_v (out) (x.w) (x.b) (x.nd) (cl) oks wl bl
    rcases bft (verdE out x.w x.b x.nd cl != 0) with hc3|hc3
    ·have gc3:¬verdE out x.w x.b x.nd cl=0:=bdt hc3
     exact (cR_ [r_,.r [] [o_,o_,o_,.sel 2],d_,.r [] [o_,o_,o_,cr oz1,o_,.sel 2],d_,r_,d_,.r [] [cr oz4],r_,b_,r_] (i64 (verdE out x.w x.b x.nd cl)) Tryz.func87 (.d6 hc0 oz1 hc1 hc2 oz4 hc3)).weak (D_ _) (N_ (by (unfold exitE;simp_all;done)))
    ·have gc3:verdE out x.w x.b x.nd cl=0:=bdf hc3
     have oz6:=@ghead_v (x.w) (x.b) (x.nd) (r.lo) (r.hi) q1 q2 wl bl q3 q4
     exact (cR_ [r_,.r [] [o_,o_,o_,.sel 2],d_,.r [] [o_,o_,o_,cr oz1,o_,.sel 2],d_,r_,d_,.r [] [cr oz4],r_,d_,.r [] [cr oz6]] (i64 (headE x.w x.b r.lo r.hi)) Tryz.func87 (.d7 hc0 oz1 hc1 hc2 oz4 hc3 oz6)).weak (D_ _) (N_ (by (unfold exitE;simp_all;done)))
def validE (x:Blc) (a:Shp) (cl:Int) (last:Bool):Int×Int :=
 if (shapesE x.n a).2≠0 then shapesE x.n a else if (flowE x.n fullR).2≠0 then flowE x.n fullR
 else if exitE x (lastS x.n a) (lastR x.n) cl last≠0 then (-1,exitE x (lastS x.n a) (lastR x.n) cl last) else ((x.n.length:Int),0)
theorem validE_s {x:Blc} {a:Shp} {cl:Int} {last:Bool} (h:¬ SOK x.n a):validE x a cl last=shapesE x.n a:=i_ (shapesE_n h)
theorem validE_f {x:Blc} {a:Shp} {cl:Int} {last:Bool} (h:SOK x.n a) (g:¬ FOK x.n fullR):validE x a cl last=flowE x.n fullR:=by
 unfold validE;rw[j_ (by rw[shapesE_y h];simp),i_ (flowE_n g)]
theorem validE_y {x:Blc} {a:Shp} {cl:Int} {last:Bool} (h:SOK x.n a) (g:FOK x.n fullR):validE x a cl last=if exitE x (lastS x.n a) (lastR x.n) cl last≠0 then (-1,exitE x (lastS x.n a) (lastR x.n) cl last) else ((x.n.length:Int),0):=by
 unfold validE;rw[j_ (by rw[shapesE_y h];simp),j_ (by rw[flowE_y g];simp)]
structure Blc.Sm (x:Blc):Prop where
 l:x.n.length≤12
 s:∀ n∈x.n,n.w.length≤100000∧n.b.length≤100000
 w:x.w.length≤100000
 b:x.b.length≤100000
theorem Blc.sm {x:Blc} (h:blcS x=true):x.Sm:=by
 have q:=blc_facts h
 exact ⟨q.1,q.2.2.1,by omega,by omega⟩
theorem vblock_s (x:Blc) (a:Shp) (cl:Int) (last:Bool) (ok:x.Ok) (oka:a.Ok) (sm:x.Sm) (h:¬ SOK x.n a):VC L_ 70 ([blc x,shp a,i64 cl,bv last]) (.tup [i64 (validE x a cl last).1,i64 (validE x a cl last).2]):=by
 have q1:=ok.n
 obtain ⟨q2,q3,q4,q5⟩:=id sm
 have q6:=shapesE_n h
 have q7:=@validE_s x a cl last h
 have oz0:=@shapes_n (x.n) (a) q1 q3 oka (by omega) h
 exact (cR_ [r_,.r [] [cr oz0],r_,b_,r_] (AV.tup [i64 (shapesE x.n a).fst,i64 (shapesE x.n a).snd]) Tryz.func70 (.d2 oz0 (show ((shapesE x.n a).snd != 0)=true by (simp;omega)))).weak (D_ _) (AJ_ (.cons (N_ (by (rw[q7]))) (.cons (N_ (by (rw[q7]))) .nil)))
theorem vblock_f (x:Blc) (a:Shp) (cl:Int) (last:Bool) (ok:x.Ok) (oka:a.Ok) (sm:x.Sm) (h:SOK x.n a) (g:¬ FOK x.n fullR):VC L_ 70 ([blc x,shp a,i64 cl,bv last]) (.tup [i64 (validE x a cl last).1,i64 (validE x a cl last).2]):=by
 have q1:=ok.n
 obtain ⟨q2,q3,q4,q5⟩:=id sm
 have q6:=flowE_n g
 have q7:=@validE_f x a cl last h g
 have q8:=fullR_in
 have oz0:=@shapes_y (x.n) (a) q1 q3 h
 have oz2:=@flow_n (x.n) (Rng.mk (-128) 127) q1 q3 q8 (by omega) g
 exact (cR_ [r_,.r [] [cr oz0],r_,d_,.r [] [cr oz2],r_,b_,r_] (AV.tup [i64 (flowE x.n (Rng.mk (-128) 127)).fst,i64 (flowE x.n (Rng.mk (-128) 127)).snd]) Tryz.func70 (.d4 oz0 z1_ oz2 (show ((flowE x.n (Rng.mk (-128) 127)).snd != 0)=true by (simp;omega)))).weak (D_ _) (AJ_ (.cons (N_ (by (rw[q7]))) (.cons (N_ (by (rw[q7]))) .nil)))
theorem vblock_y (x:Blc) (a:Shp) (cl:Int) (last:Bool) (ok:x.Ok) (oka:a.Ok) (sm:x.Sm) (h:SOK x.n a) (g:FOK x.n fullR):VC L_ 70 ([blc x,shp a,i64 cl,bv last]) (.tup [i64 (validE x a cl last).1,i64 (validE x a cl last).2]):=by
 have q1:=ok.n
 obtain ⟨q2,q3,q4,q5⟩:=id sm
 have q7:=@validE_y x a cl last h g
 have q8:=fullR_in
 have l1:=shpsL_len x.n a
 have l2:=rchsL_len x.n
 have l3:(K_ shpC (shpsL x.n a)).length=(shpsL x.n a).length:=T_ _
 have l4:(K_ rchC (rchsL x.n)).length=(rchsL x.n).length:=T_ _
 have l5:(K_ nodC x.n).length=x.n.length:=T_ _
 have s1:=@lastS_i x.n a
 have s2:=@lastR_i x.n
 have s3:=lastS_ok (l:=x.n) oka
 have s4:=lastR_in q1
 have oz0:=@shapes_y (x.n) (a) q1 q3 h
 have oz1:=z1_
 have oz2:=@flow_y (x.n) (Rng.mk (-128) 127) q1 q3 q8 g
 have oz4:=(s_ (0≤((K_ nodC x.n).length:Int)))
 have oz5:=(map_at (shpC) (default) (l:=growL nextE x.n a x.n.length) (i:=(K_ nodC x.n).length) (by (simp_all;done)))
 have oz7:=(map_at (rchC) (default) (l:=growL stepR x.n (Rng.mk (-128) 127) x.n.length) (i:=(K_ nodC x.n).length) (by (simp_all;done)))
 have oz8:=@vexit_v (x) ((growL nextE x.n a x.n.length).getD (K_ nodC x.n).length default) ((growL stepR x.n (Rng.mk (-128) 127) x.n.length).getD (K_ nodC x.n).length default) (cl) (last) ok (by (rw[s1 (by omega)];exact s3)) (by (rw[s2 (by omega)];exact s4)) q4 q5
 rcases bft (exitE x ((growL nextE x.n a x.n.length).getD (K_ nodC x.n).length default) ((growL stepR x.n (Rng.mk (-128) 127) x.n.length).getD (K_ nodC x.n).length default) cl last != 0) with hc0|hc0
 ·have gc0:¬exitE x ((growL nextE x.n a x.n.length).getD (K_ nodC x.n).length default) ((growL stepR x.n (Rng.mk (-128) 127) x.n.length).getD (K_ nodC x.n).length default) cl last=0:=bdt hc0
  exact (cR_ [r_,.r [] [cr oz0],r_,d_,.r [] [cr oz2],r_,d_,.r [] [.row (sO oz5),.row (sO oz7),cr oz8],r_,b_,r_] (AV.tup [i64 (-1),i64 (exitE x ((growL nextE x.n a x.n.length).getD (K_ nodC x.n).length default) ((growL stepR x.n (Rng.mk (-128) 127) x.n.length).getD (K_ nodC x.n).length default) cl last)]) Tryz.func70 (.c8 oz0 oz1 oz2 oz1 oz4 oz5 oz4 oz7<|.d2 oz8 hc0)).weak (D_ _) (AJ_ (.cons (N_ (by (rw[q7,i_ (by simp_all)]))) (.cons (N_ (by (simp_all;done))) .nil)))
 ·have gc0:exitE x ((growL nextE x.n a x.n.length).getD (K_ nodC x.n).length default) ((growL stepR x.n (Rng.mk (-128) 127) x.n.length).getD (K_ nodC x.n).length default) cl last=0:=bdf hc0
  exact (cR_ [r_,.r [] [cr oz0],r_,d_,.r [] [cr oz2],r_,d_,.r [] [.row (sO oz5),.row (sO oz7),cr oz8],r_,d_,r_] (AV.tup [i64 ((K_ nodC x.n).length:Int),i64 0]) Tryz.func70 (.c8 oz0 oz1 oz2 oz1 oz4 oz5 oz4 oz7<|.d2 oz8 hc0)).weak (D_ _) (AJ_ (.cons (N_ (by (simp_all;done))) (.cons (N_ (by (rw[q7,j_ (by simp_all)]))) .nil)))
theorem vblock_v (x:Blc) (a:Shp) (cl:Int) (last:Bool) (ok:x.Ok) (oka:a.Ok) (sm:x.Sm):VC L_ 70 [blc x,shp a,i64 cl,bv last] (.tup [i64 (validE x a cl last).1,i64 (validE x a cl last).2]):=by
 by_cases h:SOK x.n a
 ·by_cases g:FOK x.n fullR
  ·exact vblock_y x a cl last ok oka sm h g
  ·exact vblock_f x a cl last ok oka sm h g
 ·exact vblock_s x a cl last ok oka sm h
structure Flt where
 w:Int
 m:Int
 b:Int
 n:Int
abbrev fltC (f:Flt):List AV:=[i64 f.w,i64 f.m,i64 f.b,i64 f.n]
abbrev flt (f:Flt):AV:=.agg (fltC f)
def wholeE (u:Bun):Int:=if ¬ 0<elems u.h u.x u.c then 5 else if u.cl<2∨u.cl>16 then 2 else if u.m.length=0 then 12 else if 3<u.m.length then 4 else 0
theorem vwhole_v (u:Bun) (ok:u.Ok) (hl:u.m.length≤1000):VC L_ 47 ([bun u]) (i64 (wholeE u)):=by
 have q1:=elems_in u.h u.x u.c
 have q2:u.inp.Ok:=⟨ok.h,ok.x,ok.c⟩
 have oz0:=@sRight_v (Shp.mk u.h u.x u.c) q2
 rcases bft (!decide (0<elems u.h u.x u.c)) with hc0|hc0
 ·have gc0:=bnt hc0
  exact (cR_ [r_,.r [] [cr oz0],b_,r_] (i64 5) Tryz.func47 (.d2 oz0 hc0)).weak (D_ _) (N_ (by (unfold wholeE;(try simp only[T_] at *);(repeat first|rw[i_ (by omega)]|rw[j_ (by omega)]))))
 ·have gc0:=bnf hc0
  rcases bft (decide (u.cl<2) || decide (u.cl>16)) with hc1|hc1
  ·have gc1:u.cl<2∨u.cl>16:=gc0_ hc1
   exact (cR_ [r_,.r [] [cr oz0],d_,.r [] [o_,o_,o_,.sel 1],b_,r_] (i64 2) Tryz.func47 (.d3 oz0 hc0 hc1)).weak (D_ _) (N_ (by (unfold wholeE;(try simp only[T_] at *);(repeat first|rw[i_ (by omega)]|rw[j_ (by omega)]))))
  ·have gc1:¬u.cl<2∧¬u.cl>16:=gc0_ hc1
   rcases bft (((K_ mdlC u.m).length:Int)==0) with hc2|hc2
   ·have gc2:((K_ mdlC u.m).length:Int)=0:=bet hc2
    exact (cR_ [r_,.r [] [cr oz0],d_,.r [] [o_,o_,o_,.sel 1],d_,r_,b_,r_] (i64 12) Tryz.func47 (.d4 oz0 hc0 hc1 hc2)).weak (D_ _) (N_ (by (unfold wholeE;(try simp only[T_] at *);(repeat first|rw[i_ (by omega)]|rw[j_ (by omega)]))))
   ·have gc2:¬((K_ mdlC u.m).length:Int)=0:=bef hc2
    rcases bft (decide (((K_ mdlC u.m).length:Int)>3)) with hc3|hc3
    ·have gc3:=of_decide_eq_true hc3
     exact (cR_ [r_,.r [] [cr oz0],d_,.r [] [o_,o_,o_,.sel 1],d_,r_,d_,r_,b_,r_] (i64 4) Tryz.func47 (.d5 oz0 hc0 hc1 hc2 hc3)).weak (D_ _) (N_ (by (unfold wholeE;(try simp only[T_] at *);(repeat first|rw[i_ (by omega)]|rw[j_ (by omega)]))))
    ·have gc3:=of_decide_eq_false hc3
     exact (cR_ [r_,.r [] [cr oz0],d_,.r [] [o_,o_,o_,.sel 1],d_,r_,d_,r_,d_,r_] (i64 0) Tryz.func47 (.d5 oz0 hc0 hc1 hc2 hc3)).weak (D_ _) (N_ (by (unfold wholeE;(try simp only[T_] at *);(repeat first|rw[i_ (by omega)]|rw[j_ (by omega)]))))
def inS (l:List Blc) (a:Shp):Nat→Shp
 | 0=>a
 | k+1=>lastS (l.getD k default).n (inS l a k)
theorem inS_ok {l:List Blc} {a:Shp} (h:a.Ok):∀ k,(inS l a k).Ok
 | 0=>h
 | k+1=>lastS_ok (inS_ok h k)
abbrev vB (l:List Blc) (a:Shp) (cl:Int) (k:Nat):Int×Int:=validE (l.getD k default) (inS l a k) cl ((k:Int)==((K_ blcC l).length:Int)-1)
theorem validE_ok {x:Blc} {a:Shp} {cl:Int} {last:Bool} (h:(validE x a cl last).2=0):SOK x.n a:=by
 by_cases g:SOK x.n a
 ·exact g
 ·rw[validE_s g] at h;exact absurd h (shapesE_n g)
noncomputable def vmodel_ly_I (u:Bun) (l:List Blc) (a:Shp) (j:Int) (k:Nat):VS:=stt 77 [(1,i64 j),(2,.ptr 2 0 0),(4,.ptr 4 0 0),(5,.sl 5 (l.map blcC)),(6,.ptr 6 0 0),(34,.sl 5 (l.map blcC)),(35,i64 l.length),(36,i64 k)] [(2,.var (bunC u)),(4,.var [i64 0,i64 0,i64 0,i64 0]),(6,.var (shpC (inS l a k)))]
noncomputable def vmodel_ly_Z (u:Bun) (l:List Blc) (a:Shp) (j:Int):VS:=vmodel_ly_I u l a j (l.length)
theorem vmodel_ly_s (u:Bun) (l:List Blc) (a:Shp) (j:Int) (ok:∀ d∈l,d.Ok) (sm:∀ d∈l,d.Sm) (oka:a.Ok) (hl:l.length≤6) (h:∀ k,k<l.length→(vB l a u.cl k).2=0) (k:Nat) (hk:k<l.length):VT L_ (fnC Tryz.f48 [1,1,1,1,0,1,0,0]) (vmodel_ly_I u l a j k) .normal (vmodel_ly_I u l a j (k+1)):=by
 have q:=h k hk
 have q1:=validE_ok q
 have q2:=getD_in ok hk
 have q3:=getD_in sm hk
 have q4:=inS_ok (l:=l) oka k
 have lb:(K_ blcC l).length=l.length:=T_ _
 have q5:=q2.n
 have q6:=q3.s
 have q7:=q3.l
 have l1:=growL_len nextE (l.getD k default).n (inS l a k) (l.getD k default).n.length
 have l3:(K_ shpC (growL nextE (l.getD k default).n (inS l a k) (l.getD k default).n.length)).length=(growL nextE (l.getD k default).n (inS l a k) (l.getD k default).n.length).length:=T_ _
 have i1:(((K_ shpC (growL nextE (l.getD k default).n (inS l a k) (l.getD k default).n.length)).length:Int)-1).toNat=(l.getD k default).n.length:=by omega
 have oz2:=(map_at (blcC) (default) (l:=l) (i:=k) hk)
 have oz3:=(i6n (((K_ blcC l).length:Int)-1) (by omega))
 have oz4:=@vblock_v (l.getD k default) (inS l a k) (u.cl) ((↑k:Int)==((K_ blcC l).length:Int)-1) q2 q4 q3
 have oz6:=@shapes_y ((l.getD k default).n) (inS l a k) q5 q6 q1
 have oz7:=(i6n (((K_ shpC (growL nextE (l.getD k default).n (inS l a k) (l.getD k default).n.length)).length:Int)-1) (by omega))
 have oz9:=(map_at (shpC) (default) (l:=growL nextE (l.getD k default).n (inS l a k) (l.getD k default).n.length) (i:=(((K_ shpC (growL nextE (l.getD k default).n (inS l a k) (l.getD k default).n.length)).length:Int)-1).toNat) (by omega))
 exact tR_ [r_,b_,.r [] [.row (sO oz2)],.r [] [.n (nO oz3),cr oz4],r_,d_,.r [] [cr oz6],.r [] [.n (nO oz7),.row (sO oz9)],.r [] [.n ((↑k:Int)+1)]] [.any (rg [(7,7),(37,19),(61,15)]),.drop [8],.weak 36 (i64 (↑(k+1):Int)),.blk 6 (Blk.var [i64 (inS l a (k+1)).h,i64 (inS l a (k+1)).x,i64 (inS l a (k+1)).c]),.sort] (.c8 (decide_eq_true (p:=((↑k:Int)<(l.length:Int))) (by omega)) (s_ (0≤(↑k:Int))) oz2 oz3 oz4 (show ((validE (l.getD k default) (inS l a k) u.cl ((↑k:Int)==((K_ blcC l).length:Int)-1)).snd != 0)=false by (rw[q];rfl)) oz6 oz7<|.d5 (s_ (0≤((K_ shpC (growL nextE (l.getD k default).n (inS l a k) (l.getD k default).n.length)).length:Int)-1)) oz9 (i6n ((↑k:Int)+1) (by omega)) (wS_ k) (show BlkW (Blk.var [i64 ((growL nextE (l.getD k default).n (inS l a k) (l.getD k default).n.length).getD (((K_ shpC (growL nextE (l.getD k default).n (inS l a k) (l.getD k default).n.length)).length:Int)-1).toNat default).h,i64 ((growL nextE (l.getD k default).n (inS l a k) (l.getD k default).n.length).getD (((K_ shpC (growL nextE (l.getD k default).n (inS l a k) (l.getD k default).n.length)).length:Int)-1).toNat default).x,i64 ((growL nextE (l.getD k default).n (inS l a k) (l.getD k default).n.length).getD (((K_ shpC (growL nextE (l.getD k default).n (inS l a k) (l.getD k default).n.length)).length:Int)-1).toNat default).c]) (Blk.var [i64 (inS l a (k+1)).h,i64 (inS l a (k+1)).x,i64 (inS l a (k+1)).c]) from (BlkW.var (m:=[i64 (inS l a (k+1)).h,i64 (inS l a (k+1)).x,i64 (inS l a (k+1)).c]) (.cons (N_ (by (rw[i1]<;>rfl))) (.cons (N_ (by (rw[i1]<;>rfl))) (.cons (N_ (by (rw[i1]<;>rfl))) .nil))))))
theorem vmodel_ly_e (u:Bun) (l:List Blc) (a:Shp) (j:Int) (ok:∀ d∈l,d.Ok) (sm:∀ d∈l,d.Sm) (oka:a.Ok) (hl:l.length≤6) (h:∀ k,k<l.length→(vB l a u.cl k).2=0):VT L_ (fnC Tryz.f48 [1,1,1,1,0,1,0,0]) (vmodel_ly_I u l a j (l.length)) (.exit 1) (vmodel_ly_Z u l a j):=by
 exact tR_ [r_,d_] [.any [37],.sort] (.d (decide_eq_false (p:=((l.length:Int)<(l.length:Int))) (by omega)))
theorem vmodel_ly (u:Bun) (l:List Blc) (a:Shp) (j:Int) (ok:∀ d∈l,d.Ok) (sm:∀ d∈l,d.Sm) (oka:a.Ok) (hl:l.length≤6) (h:∀ k,k<l.length→(vB l a u.cl k).2=0):VT L_ (fnC Tryz.f48 [1,1,1,1,0,1,0]) (vmodel_ly_I u l a j 0) (.exit 1) (vmodel_ly_Z u l a j) :=
 VT.loop (fun k=>vmodel_ly_I u l a j k) (l.length) (fun k hk=>vmodel_ly_s u l a j ok sm oka hl h k hk) (vmodel_ly_e u l a j ok sm oka hl h) (by intro h;cases h)
noncomputable def vmodel_ln_I (u:Bun) (l:List Blc) (a:Shp) (j:Int) (m:Nat) (k:Nat):VS:=stt 77 [(1,i64 j),(2,.ptr 2 0 0),(4,.ptr 4 0 0),(5,.sl 5 (l.map blcC)),(6,.ptr 6 0 0),(34,.sl 5 (l.map blcC)),(35,i64 l.length),(36,i64 k)] [(2,.var (bunC u)),(4,.var [i64 0,i64 0,i64 0,i64 0]),(6,.var (shpC (inS l a k)))]
noncomputable def vmodel_ln_Z (u:Bun) (l:List Blc) (a:Shp) (j:Int) (m:Nat):VS:=stt 77 [(4,.ptr 4 0 0)] [(4,.var [i64 (vB l a u.cl m).2,i64 j,i64 m,i64 (vB l a u.cl m).1])]
theorem vmodel_ln_s (u:Bun) (l:List Blc) (a:Shp) (j:Int) (m:Nat) (ok:∀ d∈l,d.Ok) (sm:∀ d∈l,d.Sm) (oka:a.Ok) (hl:l.length≤6) (hm:m<l.length) (hf:(vB l a u.cl m).2≠0) (h:∀ k,k<m→(vB l a u.cl k).2=0) (k:Nat) (hk:k<m):VT L_ (fnC Tryz.f48 [1,1,1,1,0,1,0,0]) (vmodel_ln_I u l a j m k) .normal (vmodel_ln_I u l a j m (k+1)):=by
 have q:=h k hk
 have q1:=validE_ok q
 have q2:=getD_in ok (s_ (k<l.length))
 have q3:=getD_in sm (s_ (k<l.length))
 have q4:=inS_ok (l:=l) oka k
 have lb:(K_ blcC l).length=l.length:=T_ _
 have q5:=q2.n
 have q6:=q3.s
 have q7:=q3.l
 have l1:=growL_len nextE (l.getD k default).n (inS l a k) (l.getD k default).n.length
 have l3:(K_ shpC (growL nextE (l.getD k default).n (inS l a k) (l.getD k default).n.length)).length=(growL nextE (l.getD k default).n (inS l a k) (l.getD k default).n.length).length:=T_ _
 have i1:(((K_ shpC (growL nextE (l.getD k default).n (inS l a k) (l.getD k default).n.length)).length:Int)-1).toNat=(l.getD k default).n.length:=by omega
 have oz2:=(map_at (blcC) (default) (l:=l) (i:=k) (by omega))
 have oz3:=(i6n (((K_ blcC l).length:Int)-1) (by omega))
 have oz4:=@vblock_v (l.getD k default) (inS l a k) (u.cl) ((↑k:Int)==((K_ blcC l).length:Int)-1) q2 q4 q3
 have oz6:=@shapes_y ((l.getD k default).n) (inS l a k) q5 q6 q1
 have oz7:=(i6n (((K_ shpC (growL nextE (l.getD k default).n (inS l a k) (l.getD k default).n.length)).length:Int)-1) (by omega))
 have oz9:=(map_at (shpC) (default) (l:=growL nextE (l.getD k default).n (inS l a k) (l.getD k default).n.length) (i:=(((K_ shpC (growL nextE (l.getD k default).n (inS l a k) (l.getD k default).n.length)).length:Int)-1).toNat) (by omega))
 exact tR_ [r_,b_,.r [] [.row (sO oz2)],.r [] [.n (nO oz3),cr oz4],r_,d_,.r [] [cr oz6],.r [] [.n (nO oz7),.row (sO oz9)],.r [] [.n ((↑k:Int)+1)]] [.any (rg [(7,7),(37,19),(61,15)]),.drop [8],.weak 36 (i64 (↑(k+1):Int)),.blk 6 (Blk.var [i64 (inS l a (k+1)).h,i64 (inS l a (k+1)).x,i64 (inS l a (k+1)).c]),.sort] (.c8 (decide_eq_true (p:=((↑k:Int)<(l.length:Int))) (by omega)) (s_ (0≤(↑k:Int))) oz2 oz3 oz4 (show ((validE (l.getD k default) (inS l a k) u.cl ((↑k:Int)==((K_ blcC l).length:Int)-1)).snd != 0)=false by (rw[q];rfl)) oz6 oz7<|.d5 (s_ (0≤((K_ shpC (growL nextE (l.getD k default).n (inS l a k) (l.getD k default).n.length)).length:Int)-1)) oz9 (i6n ((↑k:Int)+1) (by omega)) (wS_ k) (show BlkW (Blk.var [i64 ((growL nextE (l.getD k default).n (inS l a k) (l.getD k default).n.length).getD (((K_ shpC (growL nextE (l.getD k default).n (inS l a k) (l.getD k default).n.length)).length:Int)-1).toNat default).h,i64 ((growL nextE (l.getD k default).n (inS l a k) (l.getD k default).n.length).getD (((K_ shpC (growL nextE (l.getD k default).n (inS l a k) (l.getD k default).n.length)).length:Int)-1).toNat default).x,i64 ((growL nextE (l.getD k default).n (inS l a k) (l.getD k default).n.length).getD (((K_ shpC (growL nextE (l.getD k default).n (inS l a k) (l.getD k default).n.length)).length:Int)-1).toNat default).c]) (Blk.var [i64 (inS l a (k+1)).h,i64 (inS l a (k+1)).x,i64 (inS l a (k+1)).c]) from (BlkW.var (m:=[i64 (inS l a (k+1)).h,i64 (inS l a (k+1)).x,i64 (inS l a (k+1)).c]) (.cons (N_ (by (rw[i1]<;>rfl))) (.cons (N_ (by (rw[i1]<;>rfl))) (.cons (N_ (by (rw[i1]<;>rfl))) .nil))))))
theorem vmodel_ln_e (u:Bun) (l:List Blc) (a:Shp) (j:Int) (m:Nat) (ok:∀ d∈l,d.Ok) (sm:∀ d∈l,d.Sm) (oka:a.Ok) (hl:l.length≤6) (hm:m<l.length) (hf:(vB l a u.cl m).2≠0) (h:∀ k,k<m→(vB l a u.cl k).2=0):VT L_ (fnC Tryz.f48 [1,1,1,1,0,1,0,0]) (vmodel_ln_I u l a j m (m)) (.ret) (vmodel_ln_Z u l a j m):=by
 have q2:=getD_in ok hm
 have q3:=getD_in sm hm
 have q4:=inS_ok (l:=l) oka m
 have lb:(K_ blcC l).length=l.length:=T_ _
 have oz2:=(map_at (blcC) (default) (l:=l) (i:=m) hm)
 have oz3:=(i6n (((K_ blcC l).length:Int)-1) (by omega))
 have oz4:=@vblock_v (l.getD m default) (inS l a m) (u.cl) ((↑m:Int)==((K_ blcC l).length:Int)-1) q2 q4 q3
 exact tR_ [r_,b_,.r [] [.row (sO oz2)],.r [] [.n (nO oz3),cr oz4],r_,b_,r_] [.any (rg [(1,2),(5,6),(34,27)]),.drop [2,6,8],.sort] (.d6 (decide_eq_true (p:=((↑m:Int)<(l.length:Int))) (by omega)) (s_ (0≤(↑m:Int))) oz2 oz3 oz4 (show ((validE (l.getD m default) (inS l a m) u.cl ((↑m:Int)==((K_ blcC l).length:Int)-1)).snd != 0)=true by (rw[J_];exact hf)))
theorem vmodel_ln (u:Bun) (l:List Blc) (a:Shp) (j:Int) (m:Nat) (ok:∀ d∈l,d.Ok) (sm:∀ d∈l,d.Sm) (oka:a.Ok) (hl:l.length≤6) (hm:m<l.length) (hf:(vB l a u.cl m).2≠0) (h:∀ k,k<m→(vB l a u.cl k).2=0):VT L_ (fnC Tryz.f48 [1,1,1,1,0,1,0]) (vmodel_ln_I u l a j m 0) (.ret) (vmodel_ln_Z u l a j m) :=
 VT.loop (fun k=>vmodel_ln_I u l a j m k) (m) (fun k hk=>vmodel_ln_s u l a j m ok sm oka hl hm hf h k hk) (vmodel_ln_e u l a j m ok sm oka hl hm hf h) (by intro h;cases h)
def modelE (l:List Blc) (a:Shp) (cl j:Int):Flt :=
 if l.length=0 then ⟨12,j,-1,-1⟩ else if 6<l.length then ⟨4,j,-1,-1⟩
 else if firstBad (fun k=>(vB l a cl k).2==0) l.length<l.length then ⟨(vB l a cl (firstBad (fun k=>(vB l a cl k).2==0) l.length)).2,j,firstBad (fun k=>(vB l a cl k).2==0) l.length,(vB l a cl (firstBad (fun k=>(vB l a cl k).2==0) l.length)).1⟩
 else ⟨0,0,0,0⟩
theorem modelE_y {l:List Blc} {a:Shp} {cl j:Int} (h0:¬ l.length=0) (h6:l.length≤6) (h:∀ k,k<l.length→(vB l a cl k).2=0):modelE l a cl j=⟨0,0,0,0⟩:=by
 unfold modelE
 rw[j_ h0,j_ (by omega),firstBad_all fun k hk=>by simpa using h k hk,j_ (by omega)]
theorem modelE_m {l:List Blc} {a:Shp} {cl j:Int} {m:Nat} (h6:l.length≤6) (hm:m<l.length) (hf:(vB l a cl m).2≠0) (h:∀ k,k<m→(vB l a cl k).2=0):modelE l a cl j=⟨(vB l a cl m).2,j,m,(vB l a cl m).1⟩:=by
 have e:=firstBad_at (p:=fun k=>(vB l a cl k).2==0) (m:=m) (by simpa using hf) (fun k hk=>by simpa using h k hk) hm
 unfold modelE
 rw[j_ (by omega),j_ (by omega),e,i_ hm]
theorem modelE_cases (l:List Blc) (a:Shp) (cl:Int):(¬ l.length=0∧l.length≤6∧∀ k,k<l.length→(vB l a cl k).2=0)∨(l.length=0∨6<l.length)∨(l.length≤6∧∃ m,m<l.length∧(vB l a cl m).2≠0∧∀ k,k<m→(vB l a cl k).2=0):=by
 by_cases c:l.length=0∨6<l.length
 ·exact .inr (.inl c)
 ·rcases all_or (fun k=>(vB l a cl k).2==0) l.length with h|⟨m,h1,h2,h3⟩
  ·exact .inl ⟨by omega,by omega,fun k hk=>by simpa using h k hk⟩
  ·exact .inr (.inr ⟨by omega,m,h1,by simpa using h2,fun k hk=>by simpa using h3 k hk⟩)
structure Bun.Sm (u:Bun):Prop where
 l:u.m.length≤4
 m:∀ d∈u.m,d.l.length≤8∧∀ x∈d.l,x.Sm
theorem Bun.sm {u:Bun} (h:bunS u=true):u.Sm:=by
 simp only[bunS,mdlS,M_,E_,List.all_eq_true] at h
 exact ⟨h.1,fun d hd=>⟨(h.2 d hd).1,fun x hx=>Blc.sm ((h.2 d hd).2 x hx)⟩⟩
theorem vmodel_y (u:Bun) (j:Nat) (ok:u.Ok) (sm:u.Sm) (hj:j<u.m.length) (h0:¬ (u.m.getD j default).l.length=0) (h6:(u.m.getD j default).l.length≤6) (h:∀ k,k<(u.m.getD j default).l.length→(vB (u.m.getD j default).l u.inp u.cl k).2=0):VC L_ 48 ([bun u,i64 j]) (flt ⟨0,0,0,0⟩):=by
 have q2:u.inp.Ok:=⟨ok.h,ok.x,ok.c⟩
 have q3:=(getD_in ok.m hj).l
 have q4:=(getD_in sm.m hj).2
 have q5:=sm.l
 have oz1:=(map_at (mdlC) (default) (l:=u.m) (i:=j) hj)
 have oz4:=(N_ (k:=.i64) (show ((((K_ blcC (u.m.getD j default).l).length:Int)):Int)=((↑(u.m.getD j default).l.length:Int)) from (by (simp;done))))
 have oz6:=@vmodel_ly (u) ((u.m.getD j default).l) (Shp.mk u.1 u.2 u.3) ((↑j:Int)) q3 q4 q2 h6 h
 exact cR_ [r_,.r [] [.row (sO oz1)],r_,d_,r_,d_,r_,r_,.code [.any (rg [(0,1),(14,10),(26,4),(32,2)]),.weak 35 (wO oz4),.weak 36 (i64 (↑0:Int)),.sort] (BM_ 1) (zO oz6),r_] _ Tryz.func48 (.d7 (s_ (0≤(↑j:Int))) oz1 (show (((K_ blcC (u.m.getD j default).l).length:Int)==0)=false by (simp at *;omega)) (show decide (((K_ blcC (u.m.getD j default).l).length:Int)>6)=false by (simp at *;omega)) oz4 w0_ oz6)
theorem vmodel_m (u:Bun) (j m:Nat) (ok:u.Ok) (sm:u.Sm) (hj:j<u.m.length) (h6:(u.m.getD j default).l.length≤6) (hm:m<(u.m.getD j default).l.length) (hf:(vB (u.m.getD j default).l u.inp u.cl m).2≠0) (h:∀ k,k<m→(vB (u.m.getD j default).l u.inp u.cl k).2=0):VC L_ 48 ([bun u,i64 j]) (flt ⟨(vB (u.m.getD j default).l u.inp u.cl m).2,j,m,(vB (u.m.getD j default).l u.inp u.cl m).1⟩):=by
 have q2:u.inp.Ok:=⟨ok.h,ok.x,ok.c⟩
 have q3:=(getD_in ok.m hj).l
 have q4:=(getD_in sm.m hj).2
 have q5:=sm.l
 have oz1:=(map_at (mdlC) (default) (l:=u.m) (i:=j) hj)
 have oz4:=(N_ (k:=.i64) (show ((((K_ blcC (u.m.getD j default).l).length:Int)):Int)=((↑(u.m.getD j default).l.length:Int)) from (by (simp;done))))
 have oz6:=@vmodel_ln (u) ((u.m.getD j default).l) (Shp.mk u.1 u.2 u.3) ((↑j:Int)) (m) q3 q4 q2 h6 hm hf h
 exact cR_ [r_,.r [] [.row (sO oz1)],r_,d_,r_,d_,r_,r_,.code [.any (rg [(0,1),(14,10),(26,4),(32,2)]),.weak 35 (wO oz4),.weak 36 (i64 (↑0:Int)),.sort] (Exit.ret) (zO oz6)] _ Tryz.func48 (.d7 (s_ (0≤(↑j:Int))) oz1 (show (((K_ blcC (u.m.getD j default).l).length:Int)==0)=false by (simp only[E_,F_,I_,J_,ne_eq,H_,G_,W_,V_,BE_,BN_,BQ_,Classical.not_not,CW_,Int.not_le,M_,P_,A_,R_,AM_,BV_,BR_,AI_,BA_,BO_,eqNums,T_,AZ_,AY_,BK_,CU_,BX_,BF_,CO_,CP_,BU_,BP_,CN_];(first|done|with_reducible assumption|omega|contradiction))) (show decide (((K_ blcC (u.m.getD j default).l).length:Int)>6)=false by (simp at *;omega)) oz4 w0_ oz6)
theorem vmodel_a (u:Bun) (j:Nat) (sm:u.Sm) (hj:j<u.m.length) (h:(u.m.getD j default).l.length=0∨6<(u.m.getD j default).l.length):VC L_ 48 ([bun u,i64 j]) (flt (modelE (u.m.getD j default).l u.inp u.cl j)):=by
 have q5:=sm.l
 have oz0:=(s_ (0≤(↑j:Int)))
 have oz1:=(map_at (mdlC) (default) (l:=u.m) (i:=j) hj)
 rcases bft (((K_ blcC (u.m.getD j default).l).length:Int)==0) with hc0|hc0
 ·have gc0:((K_ blcC (u.m.getD j default).l).length:Int)=0:=bet hc0
  exact (cR_ [r_,.r [] [.row (sO oz1)],r_,b_,r_] (AV.agg [i64 12,i64 (↑j:Int),i64 (-1),i64 (-1)]) Tryz.func48 (.d3 oz0 oz1 hc0)).weak (D_ _) (BL_ (.cons (N_ (by (unfold modelE;(try simp only[T_] at *);(repeat first|rw[i_ (by omega)]|rw[j_ (by omega)])))) (.cons (N_ (by (unfold modelE;(try simp only[T_] at *);(repeat first|rw[i_ (by omega)]|rw[j_ (by omega)])))) (.cons (N_ (by (unfold modelE;(try simp only[T_] at *);(repeat first|rw[i_ (by omega)]|rw[j_ (by omega)])))) (.cons (N_ (by (unfold modelE;(try simp only[T_] at *);(repeat first|rw[i_ (by omega)]|rw[j_ (by omega)])))) .nil)))))
 ·have gc0:¬((K_ blcC (u.m.getD j default).l).length:Int)=0:=bef hc0
  exact (cR_ [r_,.r [] [.row (sO oz1)],r_,d_,r_,b_,r_] (AV.agg [i64 4,i64 (↑j:Int),i64 (-1),i64 (-1)]) Tryz.func48 (.d4 oz0 oz1 hc0 (show decide (((K_ blcC (u.m.getD j default).l).length:Int)>6)=true by (simp only[E_,F_,I_,J_,ne_eq,H_,G_,W_,V_,BE_,BN_,BQ_,Classical.not_not,CW_,Int.not_le,M_,P_,A_,R_,AM_,BV_,BR_,AI_,BA_,BO_,eqNums,T_,AZ_,AY_,BK_,CU_,BX_,BF_,CO_,CP_,BU_,BP_,CN_] at *;(first|done|with_reducible assumption|omega|contradiction))))).weak (D_ _) (BL_ (.cons (N_ (by (unfold modelE;(try simp only[T_] at *);(repeat first|rw[i_ (by omega)]|rw[j_ (by omega)])))) (.cons (N_ (by (unfold modelE;(try simp only[T_] at *);(repeat first|rw[i_ (by omega)]|rw[j_ (by omega)])))) (.cons (N_ (by (unfold modelE;(try simp only[T_] at *);(repeat first|rw[i_ (by omega)]|rw[j_ (by omega)])))) (.cons (N_ (by (unfold modelE;(try simp only[T_] at *);(repeat first|rw[i_ (by omega)]|rw[j_ (by omega)])))) .nil)))))
theorem vmodel_v (u:Bun) (j:Nat) (ok:u.Ok) (sm:u.Sm) (hj:j<u.m.length):VC L_ 48 [bun u,i64 j] (flt (modelE (u.m.getD j default).l u.inp u.cl j)):=by
 rcases modelE_cases (u.m.getD j default).l u.inp u.cl with ⟨h0,h6,h⟩|h|⟨h6,m,h1,h2,h3⟩
 ·rw[modelE_y h0 h6 h];exact vmodel_y u j ok sm hj h0 h6 h
 ·exact vmodel_a u j sm hj h
 ·rw[modelE_m h6 h1 h2 h3];exact vmodel_m u j m ok sm hj h6 h1 h2 h3
theorem modelE_z {l:List Blc} {a:Shp} {cl j:Int} (h:(modelE l a cl j).w=0):modelE l a cl j=⟨0,0,0,0⟩:=by
 rcases modelE_cases l a cl with ⟨h0,h6,g⟩|g|⟨h6,m,h1,h2,h3⟩
 ·exact modelE_y h0 h6 g
 ·exfalso
  revert h
  unfold modelE
  by_cases c:l.length=0
  ·rw[i_ c];dsimp only;decide
  ·rw[j_ c,i_ (by omega)];dsimp only;decide
 ·rw[modelE_m h6 h1 h2 h3] at h;exact absurd h h2
abbrev intsC (l:List Int):List AV:=[ints .i64 l]
def rowK (l:List Blc) (a:Shp) (cl:Int):Nat→List Int
 | 0=>[]
 | k+1=>rowK l a cl k++[blockC (l.getD k default) (inS l a k) cl]
def tabK (u:Bun):Nat→List (List Int)
 | 0=>[]
 | k+1=>tabK u k++[rowK (u.m.getD k default).l u.inp u.cl (u.m.getD k default).l.length]
theorem rowK_len (l:List Blc) (a:Shp) (cl:Int):∀ k,(rowK l a cl k).length=k
 | 0=>rfl
 | k+1=>by rw[rowK,AZ_,rowK_len l a cl k];rfl
theorem tabK_len (u:Bun):∀ k,(tabK u k).length=k
 | 0=>rfl
 | k+1=>by rw[tabK,AZ_,tabK_len u k];rfl
def MOK (l:List Blc) (a:Shp):Prop:=∀ k,k<l.length→SOK (l.getD k default).n (inS l a k)
noncomputable def ctab_iy_I (u:Bun) (i:Nat) (l:List Blc) (a:Shp) (k:Nat):VS:=stt 52 [(1,.ptr 1 0 0),(4,.own 900),(7,.clo 75 [.ptr 901 0 0,.ptr 902 0 0]),(8,.own 903),(14,.sl 1 (u.m.map mdlC)),(15,i64 u.m.length),(16,i64 i),(26,.sl 5 (l.map blcC)),(27,i64 l.length),(28,i64 k)] [(1,.var (bunC u)),(900,.slc 72 1 ((tabK u i).map intsC)),(901,.var (shpC (inS l a k))),(902,.var [i64 u.cl]),(903,.slc 3 1 ((rowK l a u.cl k).map (row1 .i64)))]
noncomputable def ctab_iy_Z (u:Bun) (i:Nat) (l:List Blc) (a:Shp):VS:=ctab_iy_I u i l a (l.length)
theorem ctab_iy_s (u:Bun) (i:Nat) (l:List Blc) (a:Shp) (ok:∀ d∈l,d.Ok) (sm:∀ d∈l,d.Sm) (oka:a.Ok) (hl:l.length≤8) (h:MOK l a) (k:Nat) (hk:k<l.length):VT L_ (fnC Tryz.f30 [1,1,0,1,0,0,1,1,0,0,1,1,1,0,1,0,0]) (ctab_iy_I u i l a k) .normal (ctab_iy_I u i l a (k+1)):=by
 have q:=h k hk
 have q2:=getD_in ok hk
 have q3:=(getD_in sm hk).s
 have q4:=inS_ok (l:=l) oka k
 have q5:=rowK_len l a u.cl k
 have oz2:=(map_at (blcC) (default) (l:=l) (i:=k) hk)
 have oz3:=@metered_y (l.getD k default) (inS l a k) (u.cl) q2 q3 q
 exact tR_ [r_,b_,.r [] [.row (sO oz2)],.r [] [.callm [(901,100000),(902,100001)] [] (rM oz3) (oM oz3)],r_,d_,r_,.r [] [.n ((↑k:Int)+1)]] [.any (rg [(10,3),(29,11),(41,5)]),.drop [10,43],.ren 44 903,.weak 28 (i64 (↑(k+1):Int)),.blk 901 (Blk.var [i64 (inS l a (k+1)).h,i64 (inS l a (k+1)).x,i64 (inS l a (k+1)).c]),.blk 903 (Blk.slc 3 1 (K_ (row1 .i64) (rowK l a u.cl (k+1)))),.sort] (.c8 (decide_eq_true (p:=((↑k:Int)<(l.length:Int))) (by omega)) (s_ (0≤(↑k:Int))) oz2 oz3 z1_ (show ((K_ (row1 .i64) (rowK l a u.cl k)).length+1)*8≤140737488355328 by (simp;omega)) (show (K_ (row1 .i64) (rowK l a u.cl k)).length+1≤9223372036854775807 by (simp;omega)) (i6n ((↑k:Int)+1) (by omega))<|.d3 (wS_ k) (show BlkW (Blk.var [i64 (lastS (l.getD k default).n (inS l a k)).h,i64 (lastS (l.getD k default).n (inS l a k)).x,i64 (lastS (l.getD k default).n (inS l a k)).c]) (Blk.var [i64 (inS l a (k+1)).h,i64 (inS l a (k+1)).x,i64 (inS l a (k+1)).c]) from (BlkW.var (m:=[i64 (inS l a (k+1)).h,i64 (inS l a (k+1)).x,i64 (inS l a (k+1)).c]) (.cons (N_ (by rfl)) (.cons (N_ (by rfl)) (.cons (N_ (by rfl)) .nil))))) (show BlkW (Blk.slc 3 1 (K_ (row1 .i64) (rowK l a u.cl k)++[[i64 (blockC (l.getD k default) (inS l a k) u.cl)]])) (Blk.slc 3 1 (K_ (row1 .i64) (rowK l a u.cl (k+1)))) from (BB_ (e:=3) (z:=1) (rows_to (row1 .i64) (r:=K_ (row1 .i64) (rowK l a u.cl k)++[[i64 (blockC (l.getD k default) (inS l a k) u.cl)]]) (l:=rowK l a u.cl k++[blockC (l.getD k default) (inS l a k) u.cl]) (m:=rowK l a u.cl (k+1)) (by first|(simp only[X_,Z_,AP_,AR_,U_,AK_,AL_];done)|rfl|(simp only[X_,Z_,AP_,AR_,U_,AK_,AL_];rfl)) (show (rowK l a u.cl k++[blockC (l.getD k default) (inS l a k) u.cl])=(rowK l a u.cl (k+1)) from (by rfl))))))
theorem ctab_iy_e (u:Bun) (i:Nat) (l:List Blc) (a:Shp) (ok:∀ d∈l,d.Ok) (sm:∀ d∈l,d.Sm) (oka:a.Ok) (hl:l.length≤8) (h:MOK l a):VT L_ (fnC Tryz.f30 [1,1,0,1,0,0,1,1,0,0,1,1,1,0,1,0,0]) (ctab_iy_I u i l a (l.length)) (.exit 2) (ctab_iy_Z u i l a):=by
 exact tR_ [r_,d_] [.any [29],.sort] (.d (decide_eq_false (p:=((l.length:Int)<(l.length:Int))) (by omega)))
theorem ctab_iy (u:Bun) (i:Nat) (l:List Blc) (a:Shp) (ok:∀ d∈l,d.Ok) (sm:∀ d∈l,d.Sm) (oka:a.Ok) (hl:l.length≤8) (h:MOK l a):VT L_ (fnC Tryz.f30 [1,1,0,1,0,0,1,1,0,0,1,1,1,0,1,0]) (ctab_iy_I u i l a 0) (.exit 2) (ctab_iy_Z u i l a) :=
 VT.loop (fun k=>ctab_iy_I u i l a k) (l.length) (fun k hk=>ctab_iy_s u i l a ok sm oka hl h k hk) (ctab_iy_e u i l a ok sm oka hl h) (by intro h;cases h)
noncomputable def ctab_oy_I (u:Bun) (k:Nat):VS:=stt 52 [(1,.ptr 1 0 0),(4,.own 900),(14,.sl 1 (u.m.map mdlC)),(15,i64 u.m.length),(16,i64 k)] [(1,.var (bunC u)),(900,.slc 72 1 ((tabK u k).map intsC))]
noncomputable def ctab_oy_Z (u:Bun):VS:=ctab_oy_I u (u.m.length)
theorem ctab_oy_s (u:Bun) (ok:u.Ok) (sm:u.Sm) (h:∀ j,j<u.m.length→MOK (u.m.getD j default).l u.inp) (k:Nat) (hk:k<u.m.length):VT L_ (fnC Tryz.f30 [1,1,0,1,0,0]) (ctab_oy_I u k) .normal (ctab_oy_I u (k+1)):=by
 have q1:=h k hk
 have q2:=(getD_in ok.m hk).l
 have q3:=(getD_in sm.m hk).2
 have q4:=(getD_in sm.m hk).1
 have q5:=sm.l
 have q6:u.inp.Ok:=⟨ok.h,ok.x,ok.c⟩
 have q7:=tabK_len u k
 have oz2:=(map_at (mdlC) (default) (l:=u.m) (i:=k) hk)
 have oz3:=@meter_v (Shp.mk u.h u.x u.c) (u.cl)
 have oz4:=(N_ (k:=.i64) (show ((((K_ blcC (u.m.getD k default).l).length:Int)):Int)=((↑(u.m.getD k default).l.length:Int)) from (by (simp;done))))
 have oz6:=@ctab_iy (u) (k) ((u.m.getD k default).l) (Shp.mk u.1 u.2 u.3) q2 q3 q6 q4 q1
 exact tR_ [r_,b_,.r [] [.row (sO oz2)],.r [] [.callm [] [(950,20000),(951,20001)] (rM oz3) (oM oz3)],r_,r_,.code [.any (rg [(6,1),(17,9)]),.drop [6],.ren 20001 902,.ren 20000 901,.weak 27 (wO oz4),.weak 28 (i64 (↑0:Int)),.nils 8 903 3 1,.sort] (BM_ 2) (zO oz6),.r [.frz 903] [],.r [] [.n ((↑k:Int)+1)]] [.any (rg [(7,2),(26,3),(46,5)]),.drop [901,902,48],.ren 49 900,.weak 16 (i64 (↑(k+1):Int)),.blk 900 (Blk.slc 72 1 (K_ intsC (tabK u (k+1)))),.sort] (.c8 (decide_eq_true (p:=((↑k:Int)<(u.m.length:Int))) (by omega)) (s_ (0≤(↑k:Int))) oz2 oz3 oz4 w0_ oz6 (show ((K_ intsC (tabK u k)).length+1)*24≤140737488355328 by (simp;omega))<|.d4 (show (K_ intsC (tabK u k)).length+1≤9223372036854775807 by (simp;omega)) (i6n ((↑k:Int)+1) (by omega)) (wS_ k) (show BlkW (Blk.slc 72 1 (K_ intsC (tabK u k)++[[AV.sl 1 (K_ (row1 .i64) (rowK (u.m.getD k default).l (Shp.mk u.1 u.2 u.3) u.cl (u.m.getD k default).l.length))]])) (Blk.slc 72 1 (K_ intsC (tabK u (k+1)))) from (BB_ (e:=72) (z:=1) (rows_to (intsC) (r:=K_ intsC (tabK u k)++[[AV.sl 1 (K_ (row1 .i64) (rowK (u.m.getD k default).l (Shp.mk u.1 u.2 u.3) u.cl (u.m.getD k default).l.length))]]) (l:=tabK u k++[rowK (u.m.getD k default).l (Shp.mk u.1 u.2 u.3) u.cl (u.m.getD k default).l.length]) (m:=tabK u (k+1)) (by first|(simp only[X_,Z_,AP_,AR_,U_,AK_,AL_];done)|rfl|(simp only[X_,Z_,AP_,AR_,U_,AK_,AL_];rfl)|(simp only[X_,Z_,AP_,AR_,U_,AK_,AL_,intsC,ints];done)) (show (tabK u k++[rowK (u.m.getD k default).l (Shp.mk u.1 u.2 u.3) u.cl (u.m.getD k default).l.length])=(tabK u (k+1)) from (by rfl))))))
theorem ctab_oy_e (u:Bun) (ok:u.Ok) (sm:u.Sm) (h:∀ j,j<u.m.length→MOK (u.m.getD j default).l u.inp):VT L_ (fnC Tryz.f30 [1,1,0,1,0,0]) (ctab_oy_I u (u.m.length)) (.exit 0) (ctab_oy_Z u):=by
 exact tR_ [r_,d_] [.any [17],.sort] (.d (decide_eq_false (p:=((u.m.length:Int)<(u.m.length:Int))) (by omega)))
theorem ctab_oy (u:Bun) (ok:u.Ok) (sm:u.Sm) (h:∀ j,j<u.m.length→MOK (u.m.getD j default).l u.inp):VT L_ (fnC Tryz.f30 [1,1,0,1,0]) (ctab_oy_I u 0) (.exit 0) (ctab_oy_Z u) :=
 VT.loop (fun k=>ctab_oy_I u k) (u.m.length) (fun k hk=>ctab_oy_s u ok sm h k hk) (ctab_oy_e u ok sm h) (by intro h;cases h)
theorem ctab_y (u:Bun) (ok:u.Ok) (sm:u.Sm) (h:∀ j,j<u.m.length→MOK (u.m.getD j default).l u.inp):VC L_ 30 ([bun u]) (.tup [.sl 1 ((tabK u u.m.length).map intsC),i64 0]):=by
 have q5:=sm.l
 have oz2:=@ctab_oy (u) ok sm h
 exact cR_ [r_,r_,r_,.code [.any [0,2,3,13],.weak 15 (i64 (u.m.length:Int)),.weak 16 (i64 (↑0:Int)),.nils 4 900 72 1,.sort] (BM_ 0) (zO oz2),r_] _ Tryz.func30 (.d3 (N_ (k:=.i64) (show ((((K_ mdlC u.m).length:Int)):Int)=((u.m.length:Int)) from (by (simp;done)))) w0_ oz2)
structure EndS where
 lo:Int
 hi:Int
 al:Int
 c:Nat
def stepN (s:EndS) (v:Int):EndS:=⟨if s.c=0 then v else min s.lo v,if s.c=0 then v else max s.hi v,s.al+v,s.c+1⟩
def endK (s:EndS) (l:List Int):Nat→EndS
 | 0=>s
 | k+1=>stepN (endK s l k) (l.getD k 0)
def endT (T:List (List Int)):Nat→EndS
 | 0=>⟨0,0,0,0⟩
 | k+1=>endK (endT T k) (T.getD k default) (T.getD k default).length
theorem endK_bd {s:EndS} {l:List Int} (h:∀ v∈l,In32 v):∀ k,s.al-2147483648*k≤(endK s l k).al∧(endK s l k).al≤s.al+2147483648*k
 | 0=>by simp[endK]
 | k+1=>by
  have ih:=endK_bd (s:=s) h k
  have q:=gt32 h k
  simp only[endK,stepN]
  omega
theorem endT_bd {T:List (List Int)} (h:∀ l∈T,l.length≤50∧∀ v∈l,In32 v):∀ k,k≤T.length → -(107374182400*(k:Int))≤(endT T k).al∧(endT T k).al≤107374182400*k
 | 0,_=>by simp[endT]
 | k+1,hk=>by
  have ih:=endT_bd h k (by omega)
  have q:=getD_in h (s_ (k<T.length))
  have q2:=endK_bd (s:=endT T k) q.2 (T.getD k default).length
  rw[endT]
  omega
noncomputable def ends_i_I (T:List (List Int)) (i:Nat) (s:EndS) (l:List Int) (k:Nat):VS:=stt 47 [(4,i64 (endK s l k).al),(5,.ptr 5 0 0),(6,bv (decide ((endK s l k).c=0))),(12,.sl 1 (T.map intsC)),(13,i64 T.length),(14,i64 i),(18,ints .i64 l),(19,i64 l.length),(20,i64 k)] [(5,.slc 127 1 [[i64 (endK s l k).lo],[i64 (endK s l k).hi]])]
noncomputable def ends_i_Z (T:List (List Int)) (i:Nat) (s:EndS) (l:List Int):VS:=ends_i_I T i s l (l.length)
theorem z4_:(0:Int)<(↑(2:Nat):Int):=by omega
theorem z5_:(0:Int)≤(1:Int):=by omega
theorem z6_:(1:Int)<(↑(2:Nat):Int):=by omega
theorem ends_i_s (T:List (List Int)) (i:Nat) (s:EndS) (l:List Int) (hl:l.length≤50) (h:∀ v∈l,In32 v) (hs : -10000000000000≤s.al∧s.al≤10000000000000) (k:Nat) (hk:k<l.length):VT L_ (fnC Tryz.f33 [1,1,1,0,1,0,0,1,1,0,0,1,1,0,0]) (ends_i_I T i s l k) .normal (ends_i_I T i s l (k+1)):=by
 have q1:=gt32 h k
 have q2:=endK_bd (s:=s) h k
 have oz0:=(decide_eq_true (p:=((↑k:Int)<(l.length:Int))) (by omega))
 have oz1:=(s_ (0≤(↑k:Int)))
 have oz2:=(map_at (row1 .i64) (0) (l:=l) (i:=k) hk)
 rcases bft (decide ((endK s l k).c=0)) with hc0|hc0
 ·have gc0:=of_decide_eq_true hc0
  exact tR_ [r_,b_,.r [] [.row (sO oz2)],r_,b_,r_,.r [] [.row (sO oz2),.row (sO oz2)],.r [] [.n ((endK s l k).al+l.getD k 0)],.r [] [.n ((↑k:Int)+1)]] [.any (rg [(10,1),(21,20)]),.weak 4 (i64 (endK s l (k+1)).al),.weak 6 (bv (decide ((endK s l (k+1)).c=0))),.weak 20 (i64 (↑(k+1):Int)),.blk 5 (Blk.slc 127 1 [[i64 (endK s l (k+1)).lo],[i64 (endK s l (k+1)).hi]]),.sort] (.c8 oz0 oz1 oz2 hc0 z3_ z4_ (show [[i64 (l.getD k 0)],[i64 (l.getD k 0)]][0]? = some [i64 (l.getD k 0)] from rfl) z5_<|.d8 z6_ (show [[i64 (l.getD k 0)],[i64 (l.getD k 0)]][1]? = some [i64 (l.getD k 0)] from rfl) (i6n ((endK s l k).al+l.getD k 0) (by omega)) (i6n ((↑k:Int)+1) (by omega)) (N_ (k:=.i64) (show (((endK s l k).al+l.getD k 0):Int)=((endK s l (k+1)).al) from (by rfl))) (show Weak (bv false) (bv (decide ((endK s l (k+1)).c=0))) from (Weak.bool (show ((false):Bool)=(decide ((endK s l (k+1)).c=0)) from (by rfl)))) (wS_ k) (show BlkW (Blk.slc 127 1 [[i64 (if l.getD k 0<l.getD k 0 then l.getD k 0 else l.getD k 0)],[i64 (if l.getD k 0>l.getD k 0 then l.getD k 0 else l.getD k 0)]]) (Blk.slc 127 1 [[i64 (endK s l (k+1)).lo],[i64 (endK s l (k+1)).hi]]) from (BB_ (e:=127) (z:=1) (show ([[i64 (if l.getD k 0<l.getD k 0 then l.getD k 0 else l.getD k 0)],[i64 (if l.getD k 0>l.getD k 0 then l.getD k 0 else l.getD k 0)]])=([[i64 (endK s l (k+1)).lo],[i64 (endK s l (k+1)).hi]]) from (by (rw[endK,stepN];simp only[i_ (show (endK s l k).c=0 by assumption),ite_self];done))))))
 ·have gc0:=of_decide_eq_false hc0
  exact tR_ [r_,b_,.r [] [.row (sO oz2)],r_,d_,.r [] [.row [i64 (endK s l k).lo],.row [i64 (endK s l k).hi]],.r [] [.n ((endK s l k).al+l.getD k 0)],.r [] [.n ((↑k:Int)+1)]] [.any (rg [(10,1),(21,4),(28,13)]),.weak 4 (i64 (endK s l (k+1)).al),.weak 6 (bv (decide ((endK s l (k+1)).c=0))),.weak 20 (i64 (↑(k+1):Int)),.blk 5 (Blk.slc 127 1 [[i64 (endK s l (k+1)).lo],[i64 (endK s l (k+1)).hi]]),.sort] (.c8 oz0 oz1 oz2 hc0 z3_ z4_ (show [[i64 (endK s l k).lo],[i64 (endK s l k).hi]][0]? = some [i64 (endK s l k).lo] from rfl) z5_<|.d8 z6_ (show [[i64 (endK s l k).lo],[i64 (endK s l k).hi]][1]? = some [i64 (endK s l k).hi] from rfl) (i6n ((endK s l k).al+l.getD k 0) (by omega)) (i6n ((↑k:Int)+1) (by omega)) (N_ (k:=.i64) (show (((endK s l k).al+l.getD k 0):Int)=((endK s l (k+1)).al) from (by rfl))) (show Weak (bv (decide ((endK s l k).c=0))) (bv (decide ((endK s l (k+1)).c=0))) from (Weak.bool (show ((decide ((endK s l k).c=0)):Bool)=(decide ((endK s l (k+1)).c=0)) from (by (refine decide_eq_false ?_;omega))))) (wS_ k) (show BlkW (Blk.slc 127 1 [[i64 (if l.getD k 0<(endK s l k).lo then l.getD k 0 else (endK s l k).lo)],[i64 (if l.getD k 0>(endK s l k).hi then l.getD k 0 else (endK s l k).hi)]]) (Blk.slc 127 1 [[i64 (endK s l (k+1)).lo],[i64 (endK s l (k+1)).hi]]) from (BB_ (e:=127) (z:=1) (show ([[i64 (if l.getD k 0<(endK s l k).lo then l.getD k 0 else (endK s l k).lo)],[i64 (if l.getD k 0>(endK s l k).hi then l.getD k 0 else (endK s l k).hi)]])=([[i64 (endK s l (k+1)).lo],[i64 (endK s l (k+1)).hi]]) from (by (rw[endK,stepN];simp only[j_ (show ¬ (endK s l k).c=0 by assumption)];rw[min_if,max_if]))))))
theorem ends_i_e (T:List (List Int)) (i:Nat) (s:EndS) (l:List Int) (hl:l.length≤50) (h:∀ v∈l,In32 v) (hs : -10000000000000≤s.al∧s.al≤10000000000000):VT L_ (fnC Tryz.f33 [1,1,1,0,1,0,0,1,1,0,0,1,1,0,0]) (ends_i_I T i s l (l.length)) (.exit 2) (ends_i_Z T i s l):=by
 exact tR_ [r_,d_] [.any [21],.sort] (.d (decide_eq_false (p:=((l.length:Int)<(l.length:Int))) (by omega)))
theorem ends_i (T:List (List Int)) (i:Nat) (s:EndS) (l:List Int) (hl:l.length≤50) (h:∀ v∈l,In32 v) (hs : -10000000000000≤s.al∧s.al≤10000000000000):VT L_ (fnC Tryz.f33 [1,1,1,0,1,0,0,1,1,0,0,1,1,0]) (ends_i_I T i s l 0) (.exit 2) (ends_i_Z T i s l) :=
 VT.loop (fun k=>ends_i_I T i s l k) (l.length) (fun k hk=>ends_i_s T i s l hl h hs k hk) (ends_i_e T i s l hl h hs) (by intro h;cases h)
noncomputable def ends_o_I (T:List (List Int)) (k:Nat):VS:=stt 47 [(4,i64 (endT T k).al),(5,.ptr 5 0 0),(6,bv (decide ((endT T k).c=0))),(12,.sl 1 (T.map intsC)),(13,i64 T.length),(14,i64 k)] [(5,.slc 127 1 [[i64 (endT T k).lo],[i64 (endT T k).hi]])]
noncomputable def ends_o_Z (T:List (List Int)):VS:=ends_o_I T (T.length)
theorem ends_o_s (T:List (List Int)) (hl:T.length≤20) (h:∀ l∈T,l.length≤50∧∀ v∈l,In32 v) (k:Nat) (hk:k<T.length):VT L_ (fnC Tryz.f33 [1,1,1,0,1,0,0]) (ends_o_I T k) .normal (ends_o_I T (k+1)):=by
 obtain ⟨q1,q2⟩:=getD_in h hk
 have q3:=endT_bd h k (by omega)
 have oz2:=(map_at (intsC) (default) (l:=T) (i:=k) hk)
 have oz4:=(N_ (k:=.i64) (show ((((K_ (row1 .i64) (T.getD k default)).length:Int)):Int)=(((T.getD k default).length:Int)) from (by (simp;done))))
 have oz7:=@ends_i (T) (k) (endT T k) (T.getD k default) q1 q2 (by omega)
 have oz9:=(N_ (k:=.i64) (show (((endK (endT T k) (T.getD k default) (T.getD k default).length).al):Int)=((endT T (k+1)).al) from (by rfl)))
 exact tR_ [r_,b_,.r [] [.row (sO oz2)],r_,.code [.any [8,15,16,17],.weak 6 (bv (decide ((endK (endT T k) (T.getD k default) 0).c=0))),.weak 19 (wO oz4),.weak 20 (i64 (↑0:Int)),.blk 5 (Blk.slc 127 1 [[i64 (endK (endT T k) (T.getD k default) 0).lo],[i64 (endK (endT T k) (T.getD k default) 0).hi]]),.sort] (BM_ 2) (zO oz7),.r [] [.n ((↑k:Int)+1)]] [.any [18,19,20,41],.weak 4 (wO oz9),.weak 6 (bv (decide ((endT T (k+1)).c=0))),.weak 14 (i64 (↑(k+1):Int)),.blk 5 (Blk.slc 127 1 [[i64 (endT T (k+1)).lo],[i64 (endT T (k+1)).hi]]),.sort] (.c8 (decide_eq_true (p:=((↑k:Int)<(T.length:Int))) (by omega)) (s_ (0≤(↑k:Int))) oz2 (show Weak (bv (decide ((endT T k).c=0))) (bv (decide ((endK (endT T k) (T.getD k default) 0).c=0))) from (Weak.bool (show ((decide ((endT T k).c=0)):Bool)=(decide ((endK (endT T k) (T.getD k default) 0).c=0)) from (by rfl)))) oz4 w0_ (show BlkW (Blk.slc 127 1 [[i64 (endT T k).lo],[i64 (endT T k).hi]]) (Blk.slc 127 1 [[i64 (endK (endT T k) (T.getD k default) 0).lo],[i64 (endK (endT T k) (T.getD k default) 0).hi]]) from (BB_ (e:=127) (z:=1) (show ([[i64 (endT T k).lo],[i64 (endT T k).hi]])=([[i64 (endK (EndS.mk (endT T k).lo (endT T k).hi (endT T k).al (endT T k).c) (T.getD k default) 0).lo],[i64 (endK (EndS.mk (endT T k).lo (endT T k).hi (endT T k).al (endT T k).c) (T.getD k default) 0).hi]]) from (by rfl)))) oz7<|.d5 (i6n ((↑k:Int)+1) (by omega)) oz9 (show Weak (bv (decide ((endK (endT T k) (T.getD k default) (T.getD k default).length).c=0))) (bv (decide ((endT T (k+1)).c=0))) from (Weak.bool (show ((decide ((endK (endT T k) (T.getD k default) (T.getD k default).length).c=0)):Bool)=(decide ((endT T (k+1)).c=0)) from (by rfl)))) (wS_ k) (show BlkW (Blk.slc 127 1 [[i64 (endK (endT T k) (T.getD k default) (T.getD k default).length).lo],[i64 (endK (endT T k) (T.getD k default) (T.getD k default).length).hi]]) (Blk.slc 127 1 [[i64 (endT T (k+1)).lo],[i64 (endT T (k+1)).hi]]) from (BB_ (e:=127) (z:=1) (show ([[i64 (endK (endT T k) (T.getD k default) (T.getD k default).length).lo],[i64 (endK (endT T k) (T.getD k default) (T.getD k default).length).hi]])=([[i64 (endT T (k+1)).lo],[i64 (endT T (k+1)).hi]]) from (by rfl)))))
theorem ends_o_e (T:List (List Int)) (hl:T.length≤20) (h:∀ l∈T,l.length≤50∧∀ v∈l,In32 v):VT L_ (fnC Tryz.f33 [1,1,1,0,1,0,0]) (ends_o_I T (T.length)) (.exit 0) (ends_o_Z T):=by
 exact tR_ [r_,d_] [.any [15],.sort] (.d (decide_eq_false (p:=((T.length:Int)<(T.length:Int))) (by omega)))
theorem ends_o (T:List (List Int)) (hl:T.length≤20) (h:∀ l∈T,l.length≤50∧∀ v∈l,In32 v):VT L_ (fnC Tryz.f33 [1,1,1,0,1,0]) (ends_o_I T 0) (.exit 0) (ends_o_Z T) :=
 VT.loop (fun k=>ends_o_I T k) (T.length) (fun k hk=>ends_o_s T hl h k hk) (ends_o_e T hl h) (by intro h;cases h)
theorem ends_v (T:List (List Int)) (hl:T.length≤20) (h:∀ l∈T,l.length≤50∧∀ v∈l,In32 v):VC L_ 33 ([.sl 1 (T.map intsC)]) (.tup [i64 (endT T T.length).lo,i64 (endT T T.length).hi,i64 (endT T T.length).al]):=by
 have oz5:=@ends_o (T) hl h
 have oz8:=(show [[i64 (endT T T.length).lo],[i64 (endT T T.length).hi]][0]? = some [i64 (endT T T.length).lo] from rfl)
 have oz11:=(show [[i64 (endT T T.length).lo],[i64 (endT T T.length).hi]][1]? = some [i64 (endT T T.length).hi] from rfl)
 exact cR_ [r_,r_,r_,r_,.code [.any [0,2,3,11],.weak 4 (i64 (endT T 0).al),.weak 6 (bv (decide ((endT T 0).c=0))),.weak 13 (i64 (T.length:Int)),.weak 14 (i64 (↑0:Int)),.blk 5 (Blk.slc 127 1 [[i64 (endT T 0).lo],[i64 (endT T 0).hi]]),.sort] (BM_ 0) (zO oz5),.r [] [.row (sO oz8),.row (sO oz11)]] _ Tryz.func33 (.c8 (N_ (k:=.i64) (show ((0):Int)=((endT T 0).al) from (by rfl))) (show Weak (bv true) (bv (decide ((endT T 0).c=0))) from (Weak.bool (show ((true):Bool)=(decide ((endT T 0).c=0)) from (by rfl)))) (N_ (k:=.i64) (show ((((K_ intsC T).length:Int)):Int)=((T.length:Int)) from (by (simp;done)))) w0_ (show BlkW (Blk.slc 127 1 [[i64 0],[i64 0]]) (Blk.slc 127 1 [[i64 (endT T 0).lo],[i64 (endT T 0).hi]]) from (BB_ (e:=127) (z:=1) (show ([[i64 0],[i64 0]])=([[i64 (endT T 0).lo],[i64 (endT T 0).hi]]) from (by rfl)))) oz5 z3_ z4_<|.d4 oz8 z5_ z6_ oz11)
abbrev mE (u:Bun) (j:Nat):Flt:=modelE (u.m.getD j default).l u.inp u.cl j
noncomputable def vbundle_ly_I (u:Bun) (k:Nat):VS:=stt 27 [(1,.ptr 1 0 0),(2,.ptr 2 0 0),(14,i64 u.m.length),(15,i64 k)] [(1,.var (bunC u)),(2,.var [i64 0,i64 0,i64 0,i64 0])]
noncomputable def vbundle_ly_Z (u:Bun):VS:=vbundle_ly_I u (u.m.length)
theorem vbundle_ly_s (u:Bun) (ok:u.Ok) (sm:u.Sm) (h:∀ j,j<u.m.length→mE u j=⟨0,0,0,0⟩) (k:Nat) (hk:k<u.m.length):VT L_ (fnC Tryz.f28 [1,1,0,1,0,0]) (vbundle_ly_I u k) .normal (vbundle_ly_I u (k+1)):=by
 have q:modelE (u.m.getD k default).l u.inp u.cl k=⟨0,0,0,0⟩:=h k hk
 have q5:=sm.l
 have oz1:=@vmodel_v (u) (k) ok sm hk
 exact tR_ [r_,b_,r_,.r [] [cr oz1],.r [] [.v (Value.bool !eqNums [(O_,(modelE (u.m.getD k default).l u.inp u.cl (↑k:Int)).w,0),(O_,(modelE (u.m.getD k default).l u.inp u.cl (↑k:Int)).m,0),(O_,(modelE (u.m.getD k default).l u.inp u.cl (↑k:Int)).b,0),(O_,(modelE (u.m.getD k default).l u.inp u.cl (↑k:Int)).n,0)])],d_,.r [] [.n ((↑k:Int)+1)]] [.any (rg [(4,2),(16,8),(25,1)]),.drop [5],.weak 15 (i64 (↑(k+1):Int)),.sort] (.d6 (decide_eq_true (p:=((↑k:Int)<(u.m.length:Int))) (by omega)) oz1 (show BinTo L_ BinOp.neq 79 (Operand.tmp 21) (Operand.tmp 22) (Value.agg #[AV_ O_ (modelE (u.m.getD k default).l u.inp u.cl (↑k:Int)).w,AV_ O_ (modelE (u.m.getD k default).l u.inp u.cl (↑k:Int)).m,AV_ O_ (modelE (u.m.getD k default).l u.inp u.cl (↑k:Int)).b,AV_ O_ (modelE (u.m.getD k default).l u.inp u.cl (↑k:Int)).n]) (Value.agg #[AV_ O_ 0,AV_ O_ 0,AV_ O_ 0,AV_ O_ 0]) (Value.bool !eqNums [(O_,(modelE (u.m.getD k default).l u.inp u.cl (↑k:Int)).w,0),(O_,(modelE (u.m.getD k default).l u.inp u.cl (↑k:Int)).m,0),(O_,(modelE (u.m.getD k default).l u.inp u.cl (↑k:Int)).b,0),(O_,(modelE (u.m.getD k default).l u.inp u.cl (↑k:Int)).n,0)]) from ((bin_nums (l:=[(O_,(modelE (u.m.getD k default).l u.inp u.cl (↑k:Int)).w,0),(O_,(modelE (u.m.getD k default).l u.inp u.cl (↑k:Int)).m,0),(O_,(modelE (u.m.getD k default).l u.inp u.cl (↑k:Int)).b,0),(O_,(modelE (u.m.getD k default).l u.inp u.cl (↑k:Int)).n,0)]) (by kernel_rfl) (by kernel_rfl) (by kernel_rfl) (by kernel_rfl) _ _).2)) (show (!eqNums [(O_,(modelE (u.m.getD k default).l u.inp u.cl (↑k:Int)).w,0),(O_,(modelE (u.m.getD k default).l u.inp u.cl (↑k:Int)).m,0),(O_,(modelE (u.m.getD k default).l u.inp u.cl (↑k:Int)).b,0),(O_,(modelE (u.m.getD k default).l u.inp u.cl (↑k:Int)).n,0)])=false by (rw[q];rfl)) (i6n ((↑k:Int)+1) (by omega)) (wS_ k))
theorem vbundle_ly_e (u:Bun) (ok:u.Ok) (sm:u.Sm) (h:∀ j,j<u.m.length→mE u j=⟨0,0,0,0⟩):VT L_ (fnC Tryz.f28 [1,1,0,1,0,0]) (vbundle_ly_I u (u.m.length)) (.exit 0) (vbundle_ly_Z u):=by
 exact tR_ [r_,d_] [.any [16],.sort] (.d (decide_eq_false (p:=((u.m.length:Int)<(u.m.length:Int))) (by omega)))
theorem vbundle_ly (u:Bun) (ok:u.Ok) (sm:u.Sm) (h:∀ j,j<u.m.length→mE u j=⟨0,0,0,0⟩):VT L_ (fnC Tryz.f28 [1,1,0,1,0]) (vbundle_ly_I u 0) (.exit 0) (vbundle_ly_Z u) :=
 VT.loop (fun k=>vbundle_ly_I u k) (u.m.length) (fun k hk=>vbundle_ly_s u ok sm h k hk) (vbundle_ly_e u ok sm h) (by intro h;cases h)
noncomputable def vbundle_ln_I (u:Bun) (m:Nat) (k:Nat):VS:=stt 27 [(1,.ptr 1 0 0),(2,.ptr 2 0 0),(14,i64 u.m.length),(15,i64 k)] [(1,.var (bunC u)),(2,.var [i64 0,i64 0,i64 0,i64 0])]
noncomputable def vbundle_ln_Z (u:Bun) (m:Nat):VS:=stt 27 [(2,.ptr 2 0 0)] [(2,.var (fltC (mE u m)))]
theorem vbundle_ln_s (u:Bun) (m:Nat) (ok:u.Ok) (sm:u.Sm) (hm:m<u.m.length) (hf:(mE u m).w≠0) (h:∀ j,j<m→mE u j=⟨0,0,0,0⟩) (k:Nat) (hk:k<m):VT L_ (fnC Tryz.f28 [1,1,0,1,0,0]) (vbundle_ln_I u m k) .normal (vbundle_ln_I u m (k+1)):=by
 have q:modelE (u.m.getD k default).l u.inp u.cl k=⟨0,0,0,0⟩:=h k hk
 have q5:=sm.l
 have oz1:=@vmodel_v (u) (k) ok sm (by omega)
 exact tR_ [r_,b_,r_,.r [] [cr oz1],.r [] [.v (Value.bool !eqNums [(O_,(modelE (u.m.getD k default).l u.inp u.cl (↑k:Int)).w,0),(O_,(modelE (u.m.getD k default).l u.inp u.cl (↑k:Int)).m,0),(O_,(modelE (u.m.getD k default).l u.inp u.cl (↑k:Int)).b,0),(O_,(modelE (u.m.getD k default).l u.inp u.cl (↑k:Int)).n,0)])],d_,.r [] [.n ((↑k:Int)+1)]] [.any (rg [(4,2),(16,8),(25,1)]),.drop [5],.weak 15 (i64 (↑(k+1):Int)),.sort] (.d6 (decide_eq_true (p:=((↑k:Int)<(u.m.length:Int))) (by omega)) oz1 (show BinTo L_ BinOp.neq 79 (Operand.tmp 21) (Operand.tmp 22) (Value.agg #[AV_ O_ (modelE (u.m.getD k default).l u.inp u.cl (↑k:Int)).w,AV_ O_ (modelE (u.m.getD k default).l u.inp u.cl (↑k:Int)).m,AV_ O_ (modelE (u.m.getD k default).l u.inp u.cl (↑k:Int)).b,AV_ O_ (modelE (u.m.getD k default).l u.inp u.cl (↑k:Int)).n]) (Value.agg #[AV_ O_ 0,AV_ O_ 0,AV_ O_ 0,AV_ O_ 0]) (Value.bool !eqNums [(O_,(modelE (u.m.getD k default).l u.inp u.cl (↑k:Int)).w,0),(O_,(modelE (u.m.getD k default).l u.inp u.cl (↑k:Int)).m,0),(O_,(modelE (u.m.getD k default).l u.inp u.cl (↑k:Int)).b,0),(O_,(modelE (u.m.getD k default).l u.inp u.cl (↑k:Int)).n,0)]) from ((bin_nums (l:=[(O_,(modelE (u.m.getD k default).l u.inp u.cl (↑k:Int)).w,0),(O_,(modelE (u.m.getD k default).l u.inp u.cl (↑k:Int)).m,0),(O_,(modelE (u.m.getD k default).l u.inp u.cl (↑k:Int)).b,0),(O_,(modelE (u.m.getD k default).l u.inp u.cl (↑k:Int)).n,0)]) (by kernel_rfl) (by kernel_rfl) (by kernel_rfl) (by kernel_rfl) _ _).2)) (show (!eqNums [(O_,(modelE (u.m.getD k default).l u.inp u.cl (↑k:Int)).w,0),(O_,(modelE (u.m.getD k default).l u.inp u.cl (↑k:Int)).m,0),(O_,(modelE (u.m.getD k default).l u.inp u.cl (↑k:Int)).b,0),(O_,(modelE (u.m.getD k default).l u.inp u.cl (↑k:Int)).n,0)])=false by (rw[q];rfl)) (i6n ((↑k:Int)+1) (by omega)) (wS_ k))
theorem vbundle_ln_e (u:Bun) (m:Nat) (ok:u.Ok) (sm:u.Sm) (hm:m<u.m.length) (hf:(mE u m).w≠0) (h:∀ j,j<m→mE u j=⟨0,0,0,0⟩):VT L_ (fnC Tryz.f28 [1,1,0,1,0,0]) (vbundle_ln_I u m (m)) (.ret) (vbundle_ln_Z u m):=by
 have q5:=sm.l
 have hg:¬ (modelE (u.m.getD m default).l u.inp u.cl m).w=0:=hf
 have oz1:=@vmodel_v (u) (m) ok sm hm
 exact tR_ [r_,b_,r_,.r [] [cr oz1],.r [] [.v (Value.bool !eqNums [(O_,(modelE (u.m.getD m default).l u.inp u.cl (↑m:Int)).w,0),(O_,(modelE (u.m.getD m default).l u.inp u.cl (↑m:Int)).m,0),(O_,(modelE (u.m.getD m default).l u.inp u.cl (↑m:Int)).b,0),(O_,(modelE (u.m.getD m default).l u.inp u.cl (↑m:Int)).n,0)])],b_,r_] [.any (rg [(1,1),(4,2),(14,11)]),.drop [1,5],.sort] (.d4 (decide_eq_true (p:=((↑m:Int)<(u.m.length:Int))) (by omega)) oz1 (show BinTo L_ BinOp.neq 79 (Operand.tmp 21) (Operand.tmp 22) (Value.agg #[AV_ O_ (modelE (u.m.getD m default).l u.inp u.cl (↑m:Int)).w,AV_ O_ (modelE (u.m.getD m default).l u.inp u.cl (↑m:Int)).m,AV_ O_ (modelE (u.m.getD m default).l u.inp u.cl (↑m:Int)).b,AV_ O_ (modelE (u.m.getD m default).l u.inp u.cl (↑m:Int)).n]) (Value.agg #[AV_ O_ 0,AV_ O_ 0,AV_ O_ 0,AV_ O_ 0]) (Value.bool !eqNums [(O_,(modelE (u.m.getD m default).l u.inp u.cl (↑m:Int)).w,0),(O_,(modelE (u.m.getD m default).l u.inp u.cl (↑m:Int)).m,0),(O_,(modelE (u.m.getD m default).l u.inp u.cl (↑m:Int)).b,0),(O_,(modelE (u.m.getD m default).l u.inp u.cl (↑m:Int)).n,0)]) from ((bin_nums (l:=[(O_,(modelE (u.m.getD m default).l u.inp u.cl (↑m:Int)).w,0),(O_,(modelE (u.m.getD m default).l u.inp u.cl (↑m:Int)).m,0),(O_,(modelE (u.m.getD m default).l u.inp u.cl (↑m:Int)).b,0),(O_,(modelE (u.m.getD m default).l u.inp u.cl (↑m:Int)).n,0)]) (by kernel_rfl) (by kernel_rfl) (by kernel_rfl) (by kernel_rfl) _ _).2)) (show (!eqNums [(O_,(modelE (u.m.getD m default).l u.inp u.cl (↑m:Int)).w,0),(O_,(modelE (u.m.getD m default).l u.inp u.cl (↑m:Int)).m,0),(O_,(modelE (u.m.getD m default).l u.inp u.cl (↑m:Int)).b,0),(O_,(modelE (u.m.getD m default).l u.inp u.cl (↑m:Int)).n,0)])=true by (simp only[eqNums];rw[beq_eq_false_iff_ne.2 hg];rfl)))
theorem vbundle_ln (u:Bun) (m:Nat) (ok:u.Ok) (sm:u.Sm) (hm:m<u.m.length) (hf:(mE u m).w≠0) (h:∀ j,j<m→mE u j=⟨0,0,0,0⟩):VT L_ (fnC Tryz.f28 [1,1,0,1,0]) (vbundle_ln_I u m 0) (.ret) (vbundle_ln_Z u m) :=
 VT.loop (fun k=>vbundle_ln_I u m k) (m) (fun k hk=>vbundle_ln_s u m ok sm hm hf h k hk) (vbundle_ln_e u m ok sm hm hf h) (by intro h;cases h)
def bunE (u:Bun):Flt:=if wholeE u≠0 then ⟨wholeE u,-1,-1,-1⟩ else if firstBad (fun j=>(mE u j).w==0) u.m.length<u.m.length then mE u (firstBad (fun j=>(mE u j).w==0) u.m.length) else ⟨0,0,0,0⟩
theorem bunE_y {u:Bun} (w:wholeE u=0) (h:∀ j,j<u.m.length→mE u j=⟨0,0,0,0⟩):bunE u=⟨0,0,0,0⟩:=by
 unfold bunE
 rw[j_ (by simp[w]),firstBad_all fun j hj=>by rw[h j hj];rfl,j_ (by omega)]
theorem bunE_m {u:Bun} {m:Nat} (w:wholeE u=0) (hm:m<u.m.length) (hf:(mE u m).w≠0) (h:∀ j,j<m→mE u j=⟨0,0,0,0⟩):bunE u=mE u m:=by
 have e:=firstBad_at (p:=fun j=>(mE u j).w==0) (m:=m) (by simpa using hf) (fun j hj=>by rw[h j hj];rfl) hm
 unfold bunE
 rw[j_ (by simp[w]),e,i_ hm]
theorem bunE_cases (u:Bun):wholeE u≠0∨(wholeE u=0∧∀ j,j<u.m.length→mE u j=⟨0,0,0,0⟩)∨(wholeE u=0∧∃ m,m<u.m.length∧(mE u m).w≠0∧∀ j,j<m→mE u j=⟨0,0,0,0⟩):=by
 by_cases w:wholeE u=0
 ·rcases all_or (fun j=>(mE u j).w==0) u.m.length with h|⟨m,h1,h2,h3⟩
  ·exact .inr (.inl ⟨w,fun j hj=>modelE_z (beq_iff_eq.1 (h j hj))⟩)
  ·exact .inr (.inr ⟨w,m,h1,by simpa using h2,fun j hj=>modelE_z (beq_iff_eq.1 (h3 j hj))⟩)
 ·exact .inl w
theorem vbundle_a (u:Bun) (ok:u.Ok) (sm:u.Sm) (h:wholeE u≠0):VC L_ 28 ([bun u]) (flt (bunE u)):=by
 have q5:=sm.l
 have oz0:=@vwhole_v (u) ok (by omega)
 exact (cR_ [r_,.r [] [cr oz0],r_,b_,r_] (AV.agg [i64 (wholeE u),i64 (-1),i64 (-1),i64 (-1)]) Tryz.func28 (.d2 oz0 (show (wholeE u != 0)=true by (simp;omega)))).weak (D_ _) (BL_ (.cons (N_ (by (unfold bunE;rw[i_ h]))) (.cons (N_ (by (unfold bunE;rw[i_ h]))) (.cons (N_ (by (unfold bunE;rw[i_ h]))) (.cons (N_ (by (unfold bunE;rw[i_ h]))) .nil)))))
theorem vbundle_y (u:Bun) (ok:u.Ok) (sm:u.Sm) (w:wholeE u=0) (h:∀ j,j<u.m.length→mE u j=⟨0,0,0,0⟩):VC L_ 28 ([bun u]) (flt ⟨0,0,0,0⟩):=by
 have q5:=sm.l
 have oz0:=@vwhole_v (u) ok (by omega)
 have oz4:=@vbundle_ly (u) ok sm h
 exact cR_ [r_,.r [] [cr oz0],r_,d_,r_,.code [.any [0,3,6,7,8,9,12,13],.weak 14 (i64 (u.m.length:Int)),.weak 15 (i64 (↑0:Int)),.sort] (BM_ 0) (zO oz4),r_] _ Tryz.func28 (.d5 oz0 (show (wholeE u != 0)=false by (rw[w];rfl)) (N_ (k:=.i64) (show ((((K_ mdlC u.m).length:Int)):Int)=((u.m.length:Int)) from (by (simp;done)))) w0_ oz4)
theorem vbundle_m (u:Bun) (m:Nat) (ok:u.Ok) (sm:u.Sm) (w:wholeE u=0) (hm:m<u.m.length) (hf:(mE u m).w≠0) (h:∀ j,j<m→mE u j=⟨0,0,0,0⟩):VC L_ 28 ([bun u]) (flt (mE u m)):=by
 have q5:=sm.l
 have oz0:=@vwhole_v (u) ok (by omega)
 have oz4:=@vbundle_ln (u) (m) ok sm hm hf h
 exact cR_ [r_,.r [] [cr oz0],r_,d_,r_,.code [.any [0,3,6,7,8,9,12,13],.weak 14 (i64 (u.m.length:Int)),.weak 15 (i64 (↑0:Int)),.sort] (Exit.ret) (zO oz4)] _ Tryz.func28 (.d5 oz0 (show (wholeE u != 0)=false by (rw[w];rfl)) (N_ (k:=.i64) (show ((((K_ mdlC u.m).length:Int)):Int)=((u.m.length:Int)) from (by (simp;done)))) w0_ oz4)
theorem vbundle_v (u:Bun) (ok:u.Ok) (sm:u.Sm):VC L_ 28 [bun u] (flt (bunE u)):=by
 rcases bunE_cases u with h|⟨w,h⟩|⟨w,m,h1,h2,h3⟩
 ·exact vbundle_a u ok sm h
 ·rw[bunE_y w h];exact vbundle_y u ok sm w h
 ·rw[bunE_m w h1 h2 h3];exact vbundle_m u m ok sm w h1 h2 h3
structure VBun (u:Bun):Prop where
 ok:u.Ok
 sm:u.Sm
 sz:u.Sz
 w:wholeE u=0
 m:∀ j,j<u.m.length→mE u j=⟨0,0,0,0⟩
 nm:u.m≠[]
 nl:∀ m∈u.m,m.l≠[]
 s:∀ j,j<u.m.length→MOK (u.m.getD j default).l u.inp
theorem Bun.sz_few {u:Bun} (few:bunS u=true):u.Sz:=by
 have q:=Bun.sm few
 exact ⟨by have:=q.l;omega,fun m hm=>⟨by have:=(q.m m hm).1;omega,fun x hx=>by
  have s:=(q.m m hm).2 x hx
  exact ⟨by have:=s.l;omega,s.s,by have:=s.w;omega,by have:=s.b;omega⟩⟩⟩
theorem VBun.of {u:Bun} (ok:u.Ok) (few:bunS u=true) (h:(bunE u).w=0):VBun u:=by
 have sm:=Bun.sm few
 rcases bunE_cases u with w|⟨w,hm⟩|⟨w,m,h1,h2,h3⟩
 ·unfold bunE at h;rw[i_ w] at h;exact absurd h w
 ·have key:∀ j,j<u.m.length→(u.m.getD j default).l.length≠0∧MOK (u.m.getD j default).l u.inp:=fun j hj=>by
   have e:modelE (u.m.getD j default).l u.inp u.cl j=⟨0,0,0,0⟩:=hm j hj
   rcases modelE_cases (u.m.getD j default).l u.inp u.cl with ⟨a,b,c⟩|a|⟨a,m,b,c,d⟩
   ·exact ⟨a,fun k hk=>validE_ok (c k hk)⟩
   ·exfalso
    unfold modelE at e
    rcases a with a|a
    ·rw[i_ a] at e;cases e
    ·rw[j_ (by omega),i_ a] at e;cases e
   ·exfalso
    rw[modelE_m a b c d] at e
    exact c (congrArg Flt.w e)
  refine ⟨ok,sm,Bun.sz_few few,w,hm,fun e=>?_,fun m hmm e=>?_,fun j hj=>(key j hj).2⟩
  ·unfold wholeE at w;rw[e] at w
   split at w
   ·cases w
   ·split at w
    ·cases w
    ·rw[i_ (show ([]:List Mdl).length=0 from rfl)] at w;cases w
  ·obtain ⟨i,hi,rfl⟩:=List.getElem_of_mem hmm
   have:=(key i hi).1
   rw[AN_,S_ hi] at this
   exact this (by rw[BS_,e];rfl)
 ·rw[bunE_m w h1 h2 h3] at h;exact absurd h h2
def inR (l:List Blc) (a:Shp):Nat→List Shp
 | 0=>[a]
 | k+1=>inR l a k++[inS l a (k+1)]
theorem inR_len (l:List Blc) (a:Shp):∀ k,(inR l a k).length=k+1
 | 0=>rfl
 | k+1=>by rw[inR,AZ_,inR_len l a k];rfl
theorem inR_get (l:List Blc) (a:Shp):∀ {n k:Nat},k≤n→(inR l a n).getD k default=inS l a k
 | 0,k,h=>by
  obtain rfl:k=0:=by omega
  rfl
 | n+1,k,h=>by
  rw[inR,AN_,BI_]
  by_cases hk:k≤n
  ·rw[i_ (by rw[inR_len];omega),←AN_];exact inR_get l a hk
  ·obtain rfl:k=n+1:=by omega
   rw[j_ (by rw[inR_len];omega),inR_len,Nat.sub_self];rfl
abbrev shpsC (l:List Shp):List AV:=[.sl 3 (l.map shpC)]
def inW (u:Bun):Nat→List (List Shp)
 | 0=>[]
 | k+1=>inW u k++[inR (u.m.getD k default).l u.inp (u.m.getD k default).l.length]
theorem inW_len (u:Bun):∀ k,(inW u k).length=k
 | 0=>rfl
 | k+1=>by rw[inW,AZ_,inW_len u k];rfl
noncomputable def new_i_I (u:Bun) (I:Int) (l:List Blc) (R:List (List Shp)) (T:List (List Int)) (k:Nat):VS:=stt 80 [(1,.ptr 1 0 0),(5,.ptr 5 0 0),(10,.own 901),(36,.sl 1 (u.m.map mdlC)),(37,i64 (u.m.map mdlC).length),(38,i64 I),(46,.sl 5 (l.map blcC)),(47,i64 (l.map blcC).length),(48,i64 k)] [(1,.var (bunC u)),(5,.var [i64 u.h,i64 u.x,i64 u.c,i64 u.cl,.sl 1 (u.m.map mdlC),.sl 1 (K_ intsC T),.own 900]),(900,.slc 74 1 (R.map shpsC)),(901,.slc 23 3 ((inR l u.inp k).map shpC))]
noncomputable def new_i_Z (u:Bun) (I:Int) (l:List Blc) (R:List (List Shp)) (T:List (List Int)):VS:=new_i_I u I l R T (l.length)
theorem new_i_s (u:Bun) (I:Int) (l:List Blc) (R:List (List Shp)) (T:List (List Int)) (ok:∀ d∈l,d.Ok) (sm:∀ d∈l,d.Sm) (hl:l.length≤8) (oka:u.inp.Ok) (h:MOK l u.inp) (k:Nat) (hk:k<l.length):VT L_ (fnC Tryz.f16 [1,1,1,1,1,1,0,1,0,0,1,1,0,0,1,1,0,1,0,0]) (new_i_I u I l R T k) .normal (new_i_I u I l R T (k+1)):=by
 have q:=h k hk
 have q2:=getD_in ok hk
 have q3:=getD_in sm hk
 have q4:=inS_ok (l:=l) oka k
 have q5:=q2.n
 have q6:=q3.s
 have q7:=q3.l
 have q8:=inR_len l u.inp k
 have q9:=inR_get l u.inp (AU_ k)
 have oz1:=(s_ (0≤(↑k:Int)))
 have oz2:=(map_at (blcC) (default) (l:=l) (i:=k) hk)
 have oz5:=(map_at (shpC) (default) (l:=inR l u.inp k) (i:=k) (by omega))
 have oz6:=@cout_y (l.getD k default) ((inR l u.inp k).getD k default) q2 q6 (by (rw[q9];exact q))
 exact tR_ [r_,b_,.r [] [.row (sO oz2)],.r [] [.row (sO oz5),cr oz6],r_,d_,r_,.r [] [.n ((↑k:Int)+1)]] [.any (rg [(11,4),(49,15),(65,5)]),.drop [12,13,67],.ren 68 901,.weak 48 (i64 (↑(k+1):Int)),.blk 901 (Blk.slc 23 3 (K_ shpC (inR l u.inp (k+1)))),.sort] (.c8 (show decide ((↑k:Int)<((K_ blcC l).length:Int))=true by (simp;omega)) oz1 oz2 oz1 (show (↑k:Int)<((K_ shpC (inR l u.inp k)).length:Int) by (simp;omega)) oz5 oz6 z1_<|.d5 (show ((K_ shpC (inR l u.inp k)).length+1)*24≤140737488355328 by (simp;omega)) (show (K_ shpC (inR l u.inp k)).length+1≤9223372036854775807 by (simp;omega)) (i6n ((↑k:Int)+1) (by omega)) (wS_ k) (show BlkW (Blk.slc 23 3 (K_ shpC (inR l u.inp k)++[[i64 (lastS (l.getD k default).n ((inR l u.inp k).getD k default)).h,i64 (lastS (l.getD k default).n ((inR l u.inp k).getD k default)).x,i64 (lastS (l.getD k default).n ((inR l u.inp k).getD k default)).c]])) (Blk.slc 23 3 (K_ shpC (inR l u.inp (k+1)))) from (BB_ (e:=23) (z:=3) (rows_to (shpC) (r:=K_ shpC (inR l u.inp k)++[[i64 (lastS (l.getD k default).n ((inR l u.inp k).getD k default)).h,i64 (lastS (l.getD k default).n ((inR l u.inp k).getD k default)).x,i64 (lastS (l.getD k default).n ((inR l u.inp k).getD k default)).c]]) (l:=inR l u.inp k++[Shp.mk (lastS (l.getD k default).n ((inR l u.inp k).getD k default)).h (lastS (l.getD k default).n ((inR l u.inp k).getD k default)).x (lastS (l.getD k default).n ((inR l u.inp k).getD k default)).c]) (m:=inR l u.inp (k+1)) (by first|(simp only[X_,Z_,AP_,AR_,U_,AK_,AL_];done)|rfl|(simp only[X_,Z_,AP_,AR_,U_,AK_,AL_];rfl)|(simp only[X_,Z_,AP_,AR_,U_,AK_,AL_,shpC,ints];done)) (show (inR l u.inp k++[Shp.mk (lastS (l.getD k default).n ((inR l u.inp k).getD k default)).h (lastS (l.getD k default).n ((inR l u.inp k).getD k default)).x (lastS (l.getD k default).n ((inR l u.inp k).getD k default)).c])=(inR l u.inp (k+1)) from (by (rw[q9];rfl)))))))
theorem new_i_e (u:Bun) (I:Int) (l:List Blc) (R:List (List Shp)) (T:List (List Int)) (ok:∀ d∈l,d.Ok) (sm:∀ d∈l,d.Sm) (hl:l.length≤8) (oka:u.inp.Ok) (h:MOK l u.inp):VT L_ (fnC Tryz.f16 [1,1,1,1,1,1,0,1,0,0,1,1,0,0,1,1,0,1,0,0]) (new_i_I u I l R T (l.length)) (.exit 2) (new_i_Z u I l R T):=by
 exact tR_ [r_,d_] [.any [49],.sort] (.d (show decide ((l.length:Int)<((K_ blcC l).length:Int))=false by (simp;done)))
theorem new_i (u:Bun) (I:Int) (l:List Blc) (R:List (List Shp)) (T:List (List Int)) (ok:∀ d∈l,d.Ok) (sm:∀ d∈l,d.Sm) (hl:l.length≤8) (oka:u.inp.Ok) (h:MOK l u.inp):VT L_ (fnC Tryz.f16 [1,1,1,1,1,1,0,1,0,0,1,1,0,0,1,1,0,1,0]) (new_i_I u I l R T 0) (.exit 2) (new_i_Z u I l R T) :=
 VT.loop (fun k=>new_i_I u I l R T k) (l.length) (fun k hk=>new_i_s u I l R T ok sm hl oka h k hk) (new_i_e u I l R T ok sm hl oka h) (by intro h;cases h)
noncomputable def new_o_I (u:Bun) (k:Nat):VS:=stt 80 [(1,.ptr 1 0 0),(5,.ptr 5 0 0),(36,.sl 1 (u.m.map mdlC)),(37,i64 (u.m.map mdlC).length),(38,i64 k)] [(1,.var (bunC u)),(5,.var [i64 u.h,i64 u.x,i64 u.c,i64 u.cl,.sl 1 (u.m.map mdlC),.sl 1 (K_ intsC (tabK u u.m.length)),.own 900]),(900,.slc 74 1 ((inW u k).map shpsC))]
noncomputable def new_o_Z (u:Bun):VS:=new_o_I u (u.m.length)
theorem new_o_s (u:Bun) (v:VBun u) (k:Nat) (hk:k<u.m.length):VT L_ (fnC Tryz.f16 [1,1,1,1,1,1,0,1,0,0]) (new_o_I u k) .normal (new_o_I u (k+1)):=by
 have q0:=v.sm.l
 have q1:=v.s k hk
 have q2:=(getD_in v.ok.m hk).l
 have q3:=(getD_in v.sm.m hk).2
 have q4:=(getD_in v.sm.m hk).1
 have q5:=inW_len u k
 have q6:u.inp.Ok:=⟨v.ok.h,v.ok.x,v.ok.c⟩
 have oz2:=(map_at (mdlC) (default) (l:=u.m) (i:=k) hk)
 have oz4:=@new_i (u) ((↑k:Int)) ((u.m.getD k default).l) (inW u k) (tabK u u.m.length) q2 q3 q4 q6 q1
 exact tR_ [r_,b_,.r [] [.row (sO oz2)],r_,r_,.code [.any (rg [(9,1),(39,7)]),.drop [9],.ren 44 901,.weak 48 (i64 (↑0:Int)),.sort] (BM_ 2) (zO oz4),.r [.frz 901] [],.r [] [.n ((↑k:Int)+1)]] [.any (rg [(10,1),(46,3),(70,7)]),.drop [73],.ren 74 900,.weak 38 (i64 (↑(k+1):Int)),.blk 900 (Blk.slc 74 1 (K_ shpsC (inW u (k+1)))),.sort] (.c8 (show decide ((↑k:Int)<((K_ mdlC u.m).length:Int))=true by (simp;omega)) (s_ (0≤(↑k:Int))) oz2 w0_ oz4 (show ((K_ shpsC (inW u k)).length+1)*24≤140737488355328 by (simp;omega)) (show (K_ shpsC (inW u k)).length+1≤9223372036854775807 by (simp;omega)) (i6n ((↑k:Int)+1) (by omega))<|.d2 (wS_ k) (show BlkW (Blk.slc 74 1 (K_ shpsC (inW u k)++[[AV.sl 3 (K_ shpC (inR (u.m.getD k default).l u.inp (u.m.getD k default).l.length))]])) (Blk.slc 74 1 (K_ shpsC (inW u (k+1)))) from (BB_ (e:=74) (z:=1) (rows_to (shpsC) (r:=K_ shpsC (inW u k)++[[AV.sl 3 (K_ shpC (inR (u.m.getD k default).l u.inp (u.m.getD k default).l.length))]]) (l:=inW u k++[inR (u.m.getD k default).l u.inp (u.m.getD k default).l.length]) (m:=inW u (k+1)) (by first|(simp only[X_,Z_,AP_,AR_,U_,AK_,AL_];done)|rfl|(simp only[X_,Z_,AP_,AR_,U_,AK_,AL_];rfl)|(simp only[X_,Z_,AP_,AR_,U_,AK_,AL_,shpsC,ints];done)) (show (inW u k++[inR (u.m.getD k default).l u.inp (u.m.getD k default).l.length])=(inW u (k+1)) from (by rfl))))))
theorem new_o_e (u:Bun) (v:VBun u):VT L_ (fnC Tryz.f16 [1,1,1,1,1,1,0,1,0,0]) (new_o_I u (u.m.length)) (.exit 0) (new_o_Z u):=by
 exact tR_ [r_,d_] [.any [39],.sort] (.d (show decide ((u.m.length:Int)<((K_ mdlC u.m).length:Int))=false by (simp;done)))
theorem new_o (u:Bun) (v:VBun u):VT L_ (fnC Tryz.f16 [1,1,1,1,1,1,0,1,0]) (new_o_I u 0) (.exit 0) (new_o_Z u) :=
 VT.loop (fun k=>new_o_I u k) (u.m.length) (fun k hk=>new_o_s u v k hk) (new_o_e u v) (by intro h;cases h)
abbrev netT (u:Bun) (T:List (List Int)) (W:List (List Shp)):List AV:=[i64 u.h,i64 u.x,i64 u.c,i64 u.cl,.sl 1 (u.m.map mdlC),.sl 1 (K_ intsC T),.sl 1 (K_ shpsC W)]
abbrev netC (u:Bun):List AV:=netT u (tabK u u.m.length) (inW u u.m.length)
theorem new_y (u:Bun) (v:VBun u):VM L_ 16 ([bun u]) ([]) (.tup [.ptr 951 0 0,i64 0]) ([(951,.var (netC u))]):=by
 have q0:=v.ok
 have q1:=v.sm
 have q2:=v.sz
 have q3:=v.w
 have q4:=v.m
 have q5:=v.nm
 have q6:=v.nl
 have q7:=v.s
 have q8:((bunE u).w != 0)=false:=by rw[bunE_y v.w v.m];rfl
 have oz0:=@vbundle_v (u) q0 q1
 have oz2:=@copy_y (u) q2 q6 q5
 have oz3:=@ctab_y (u) q0 q1 q7
 have oz6:=@new_o (u) v
 exact mR_ [r_,.r [] [cr oz0],r_,d_,.r [] [cr oz2],.r [] [cr oz3],r_,d_,r_,r_,.code [.any (rg [(0,1),(2,3),(6,2),(15,5),(22,10),(33,3)]),.drop [4],.weak 38 (i64 (↑0:Int)),.nilc 900 74 1 5 6,.sort] (BM_ 0) (zO oz6),r_] [.frz 900,.drop [1,5],.ren 79 951,.sort] _ Tryz.func16 (.d7 oz0 q8 oz2 oz3 z1_ w0_ oz6)
theorem new_n (u:Bun) (ok:u.Ok) (sm:u.Sm) (h:(bunE u).w≠0):VC L_ 16 ([bun u]) (.tup [.lit (.pointer none),i64 (bunE u).w]):=by
 have q0:=sm.l
 have q8:((bunE u).w != 0)=true:=by simpa using h
 have oz0:=@vbundle_v (u) ok sm
 exact cR_ [r_,.r [] [cr oz0],r_,b_,r_] _ Tryz.func16 (.d2 oz0 q8)
def tabR (T:List (List Int)):Nat→List (List AV)
 | 0=>List.replicate T.length [nilv]
 | k+1=>(tabR T k).set k (intsC (T.getD k default))
theorem tabR_len (T:List (List Int)):∀ k,(tabR T k).length=T.length
 | 0=>by rw[tabR,BX_]
 | k+1=>by rw[tabR,CU_,tabR_len T k]
theorem tabR_get (T:List (List Int)):∀ (k i:Nat),i<k→i<T.length→(tabR T k)[i]? = some (intsC (T.getD i default))
 | k+1,i,h,hi=>by
  rw[tabR,AA_]
  by_cases hk:k=i
  ·subst hk;rw[i_ rfl,i_ (by rw[tabR_len];exact hi)]
  ·rw[j_ hk];exact tabR_get T k i (by omega) hi
theorem tabR_all (T:List (List Int)):tabR T T.length=T.map intsC:=by
 apply List.ext_getElem?
 intro i
 by_cases h:i<T.length
 ·rw[tabR_get T _ i h h,AO_,S_ h,AN_,S_ h];rfl
 ·rw[BZ_ (by rw[tabR_len];omega),BZ_ (by rw[T_];omega)]
noncomputable def tabl_l_I (u:Bun) (T:List (List Int)) (W:List (List Shp)) (k:Nat):VS:=stt 33 [(3,.own 900),(19,.sl 1 (T.map intsC)),(20,i64 (T.map intsC).length),(21,i64 k)] [(900,.slc 72 1 (tabR T k)),(100000,.var (netT u T W))]
noncomputable def tabl_l_Z (u:Bun) (T:List (List Int)) (W:List (List Shp)):VS:=tabl_l_I u T W (T.length)
theorem tabl_l_s (u:Bun) (T:List (List Int)) (W:List (List Shp)) (hl:T.length≤1000) (h2:∀ l∈T,l.length≤1000) (k:Nat) (hk:k<T.length):VT L_ (fnC Tryz.f18 [1,1,1,0,1,0,0]) (tabl_l_I u T W k) .normal (tabl_l_I u T W (k+1)):=by
 have q1:=tabR_len T k
 have q2:=getD_in h2 hk
 have oz1:=(s_ (0≤(↑k:Int)))
 have oz2:=(map_at (intsC) (default) (l:=T) (i:=k) hk)
 exact tR_ [r_,b_,.r [] [.row (sO oz2)],.r [] [.nat 0],.r [] [.n ((↑k:Int)+1)]] [.frz 29,.unf 900,.any (rg [(4,2),(22,10)]),.weak 21 (i64 (↑(k+1):Int)),.blk 900 (Blk.slc 72 1 (tabR T (k+1))),.sort] (.c8 (show decide ((↑k:Int)<((K_ intsC T).length:Int))=true by (simp;omega)) oz1 oz2 (show (K_ (row1 .i64) (T.getD k default)).length*8≤140737488355328 by (simp only[T_] at *;omega)) (show (K_ (row1 .i64) (T.getD k default)).length≤9223372036854775807 by (simp only[T_] at *;omega)) oz1 (s_ ((↑k:Int)<((tabR T k).length:Int))) (s_ ((↑k:Int).toNat<(tabR T k).length))<|.d3 (i6n ((↑k:Int)+1) (by omega)) (wS_ k) (show BlkW (Blk.slc 72 1 ((tabR T k).set (↑k:Int).toNat [AV.sl 1 (K_ (row1 .i64) (T.getD k default))])) (Blk.slc 72 1 (tabR T (k+1))) from (BB_ (e:=72) (z:=1) (show ((tabR T k).set (↑k:Int).toNat [AV.sl 1 (K_ (row1 .i64) (T.getD k default))])=(tabR T (k+1)) from (by rfl)))))
theorem tabl_l_e (u:Bun) (T:List (List Int)) (W:List (List Shp)) (hl:T.length≤1000) (h2:∀ l∈T,l.length≤1000):VT L_ (fnC Tryz.f18 [1,1,1,0,1,0,0]) (tabl_l_I u T W (T.length)) (.exit 0) (tabl_l_Z u T W):=by
 exact tR_ [r_,d_] [.any [22],.sort] (.d (show decide ((T.length:Int)<((K_ intsC T).length:Int))=false by (simp;done)))
theorem tabl_l (u:Bun) (T:List (List Int)) (W:List (List Shp)) (hl:T.length≤1000) (h2:∀ l∈T,l.length≤1000):VT L_ (fnC Tryz.f18 [1,1,1,0,1,0]) (tabl_l_I u T W 0) (.exit 0) (tabl_l_Z u T W) :=
 VT.loop (fun k=>tabl_l_I u T W k) (T.length) (fun k hk=>tabl_l_s u T W hl h2 k hk) (tabl_l_e u T W hl h2) (by intro h;cases h)
theorem tabl_w (u:Bun) (T:List (List Int)) (W:List (List Shp)) (hl:T.length≤1000) (h2:∀ l∈T,l.length≤1000):VM L_ 18 ([.ptr 100000 0 0]) ([(100000,.var (netT u T W))]) (.sl 1 (tabR T T.length)) ([(100000,.var (netT u T W))]):=by
 have oz1:=(show ((K_ intsC T).length:Int)=((K_ intsC T).length:Int) by with_reducible rfl)
 have oz8:=@tabl_l (u) (T) (W) hl h2
 exact mR_ [r_,r_,d_,.r [] [.nats (K_ intsC T).length (K_ intsC T).length],r_,.code [.any (rg [(0,1),(2,1),(6,13)]),.ren 14 900,.weak 21 (i64 (↑0:Int)),.blk 900 (Blk.slc 72 1 (tabR T 0)),.sort] (BM_ 0) (zO oz8),r_] [.frz 900,.sort] _ Tryz.func18 (.c8 z1_ oz1 oz1 (s_ ((K_ intsC T).length≤(K_ intsC T).length)) (show 24*(K_ intsC T).length≤281474976710656 by (simp;omega)) (show (K_ intsC T).length≤9223372036854775807 by (simp;omega)) w0_ (show BlkW (Blk.slc 72 1 (List.replicate (K_ intsC T).length [AV.lit (AC_ none 0 0)])) (Blk.slc 72 1 (tabR T 0)) from (BB_ (e:=72) (z:=1) (show (List.replicate (K_ intsC T).length [AV.lit (AC_ none 0 0)])=(tabR T 0) from (by (simp only[tabR];simp)))))<|.d oz8)
theorem tabl_v (u:Bun) (T:List (List Int)) (W:List (List Shp)) (hl:T.length≤1000) (h2:∀ l∈T,l.length≤1000):VM L_ 18 [.ptr 100000 0 0] [(100000,.var (netT u T W))] (.sl 1 (T.map intsC)) [(100000,.var (netT u T W))]:=by
 have:=tabl_w u T W hl h2
 rw[tabR_all] at this;exact this
def blkS (x:Blc) (k p:Int):ByteArray:=if x.ex=true then ⟨#[32,98,108,111,99,107,32]⟩++dg k++⟨#[32,99,111,115,116,32]⟩++dg p++⟨#[32,101,120,105,116,32]⟩++dg x.nd else ⟨#[32,98,108,111,99,107,32]⟩++dg k++⟨#[32,99,111,115,116,32]⟩++dg p++⟨#[32,116,104,114,111,117,103,104]⟩
def mdlS' (i n:Int):ByteArray:=⟨#[109,111,100,101,108,32]⟩++dg i++⟨#[32,98,108,111,99,107,115,32]⟩++dg n
def bunS' (a:Shp) (cl n s:Int):ByteArray:=⟨#[98,117,110,100,108,101,32]⟩++shS a++⟨#[32,99,108,97,115,115,101,115,32]⟩++dg cl++⟨#[32,109,111,100,101,108,115,32]⟩++dg n++⟨#[32,99,111,115,116,32]⟩++dg s
def ndK (A:List ByteArray) (l:List Nod) (S:List Shp):Nat→List ByteArray
 | 0=>A
 | j+1=>ndK A l S j++[nodeS (l.getD j default) (S.getD (j+1) default)]
def blK (A:List ByteArray) (l:List Blc) (a:Shp) (T:List Int):Nat→List ByteArray
 | 0=>A
 | k+1=>ndK (blK A l a T k++[blkS (l.getD k default) k (T.getD k 0)]) (l.getD k default).n (shpsL (l.getD k default).n (inS l a k)) (l.getD k default).n.length
def mdK (A:List ByteArray) (u:Bun) (T:List (List Int)):Nat→List ByteArray
 | 0=>A
 | i+1=>blK (mdK A u T i++[mdlS' i (u.m.getD i default).l.length]) (u.m.getD i default).l u.inp (T.getD i default) (u.m.getD i default).l.length
theorem ndK_len (A:List ByteArray) (l:List Nod) (S:List Shp):∀ j,(ndK A l S j).length=A.length+j
 | 0=>rfl
 | j+1=>by rw[ndK,AZ_,ndK_len A l S j];rfl
def cnB (l:List Blc):Nat→Nat
 | 0=>0
 | k+1=>cnB l k+(1+(l.getD k default).n.length)
def cnM (u:Bun):Nat→Nat
 | 0=>0
 | i+1=>cnM u i+1+cnB (u.m.getD i default).l (u.m.getD i default).l.length
theorem blK_len (A:List ByteArray) (l:List Blc) (a:Shp) (T:List Int):∀ k,(blK A l a T k).length=A.length+cnB l k
 | 0=>rfl
 | k+1=>by rw[blK,ndK_len,AZ_,blK_len A l a T k,cnB];simp only[AY_,BK_];omega
theorem mdK_len (A:List ByteArray) (u:Bun) (T:List (List Int)):∀ i,(mdK A u T i).length=A.length+cnM u i
 | 0=>rfl
 | i+1=>by rw[mdK,blK_len,AZ_,mdK_len A u T i,cnM];simp only[AY_,BK_];omega
theorem cnB_le {l:List Blc} (h:∀ x∈l,x.n.length≤12):∀ k,k≤l.length→cnB l k≤13*k
 | 0,_=>AU_ _
 | k+1,hk=>by
  have:=cnB_le h k (by omega)
  have:=getD_in h (s_ (k<l.length))
  unfold cnB;omega
theorem cnM_le {u:Bun} (h:u.Sm):∀ i,i≤u.m.length→cnM u i≤105*i
 | 0,_=>AU_ _
 | i+1,hi=>by
  have:=cnM_le h i (by omega)
  have q:=getD_in h.m (s_ (i<u.m.length))
  have:=cnB_le (fun x hx=>(q.2 x hx).l) _ (AU_ (u.m.getD i default).l.length)
  have:=q.1
  unfold cnM;omega
def TB (T:List (List Int)):Prop:=∀ l∈T,l.length≤50∧∀ v∈l,In32 v
theorem blockC_in {x:Blc} {a:Shp} {cl:Int} (h:x.n.length≤12):In32 (blockC x a cl):=by
 have q1:=costL_bd x.n (shpsL x.n a) x.n.length
 have q2:=exitC_bd x a cl
 unfold blockC
 exact ⟨by omega,by omega⟩
theorem rowK_bd {l:List Blc} {a:Shp} {cl:Int} (h:∀ x∈l,x.n.length≤12):∀ k,k≤l.length→∀ v∈rowK l a cl k,In32 v
 | 0,_,v,hv=>by cases hv
 | k+1,hk,v,hv=>by
  rw[rowK] at hv
  rcases List.mem_append.1 hv with hv|hv
  ·exact rowK_bd h k (by omega) v hv
  ·rw[List.mem_singleton.1 hv];exact blockC_in (getD_in h (s_ (k<l.length)))
theorem tabK_bd {u:Bun} (h:u.Sm):∀ k,k≤u.m.length→TB (tabK u k)
 | 0,_,l,hl=>by cases hl
 | k+1,hk,l,hl=>by
  rw[tabK] at hl
  rcases List.mem_append.1 hl with hl|hl
  ·exact tabK_bd h k (by omega) l hl
  ·rw[List.mem_singleton.1 hl]
   have q:=getD_in h.m (s_ (k<u.m.length))
   exact ⟨by rw[rowK_len];have:=q.1;omega,rowK_bd (fun x hx=>(q.2 x hx).l) _ (AU_ _)⟩
theorem tabK_get (u:Bun):∀ {n i:Nat},i<n→(tabK u n).getD i default=rowK (u.m.getD i default).l u.inp u.cl (u.m.getD i default).l.length
 | n+1,i,h=>by
  rw[tabK,AN_,BI_]
  by_cases hi:i<n
  ·rw[i_ (by rw[tabK_len];exact hi),←AN_];exact tabK_get u hi
  ·obtain rfl:i=n:=by omega
   rw[j_ (by rw[tabK_len];omega),tabK_len,Nat.sub_self];rfl
theorem blkS_size {x:Blc} {k p:Int} (ok:x.Ok) (hk:In64 k) (hp:In64 p):(blkS x k p).size≤200:=by
 have:=dg_size hk;have:=dg_size hp
 have:=dg_size (n:=x.nd) (by have q:=ok.nd;exact ⟨by have:=q.1;omega,by have:=q.2;omega⟩)
 unfold blkS
 split<;>simp only[bapp_size,lit_size,AY_,BK_]<;>omega
theorem mdlS'_size {i n:Int} (hi:In64 i) (hn:In64 n):(mdlS' i n).size≤200:=by
 have:=dg_size hi;have:=dg_size hn
 unfold mdlS'
 simp only[bapp_size,lit_size,AY_,BK_];omega
theorem bunS'_size {a:Shp} {cl n s:Int} (ha:a.Ok) (hc:In64 cl) (hn:In64 n) (hs:In64 s):(bunS' a cl n s).size≤250:=by
 have:=dg_size hc;have:=dg_size hn;have:=dg_size hs;have:=shS_size ha
 unfold bunS'
 simp only[bapp_size,lit_size,AY_,BK_];omega
def linesU (u:Bun):List ByteArray:=mdK [bunS' u.inp u.cl u.m.length (endT (tabK u u.m.length) (tabK u u.m.length).length).al] u (tabK u u.m.length) u.m.length
theorem linesU_len {u:Bun} (sm:u.Sm):(linesU u).length=1+cnM u u.m.length∧(linesU u).length≤500:=by
 have:=cnM_le sm _ (AU_ _)
 have:=sm.l
 have e:(linesU u).length=1+cnM u u.m.length:=mdK_len _ _ _ _
 exact ⟨e,by omega⟩
theorem joinS_x (x:Blc) (k p:Int) (h:x.ex=true):joinS [⟨#[]⟩,⟨#[98,108,111,99,107]⟩,dg k,⟨#[99,111,115,116]⟩,dg p,⟨#[101,120,105,116]⟩,dg x.nd]=blkS x k p:=by
 unfold joinS blkS
 rw[i_ h]
 refine bext ?_
 simp only[joinB_two,joinB_one,bapp,BH_];rfl
theorem joinS_t (x:Blc) (k p:Int) (h:x.ex=false):joinS [⟨#[]⟩,⟨#[98,108,111,99,107]⟩,dg k,⟨#[99,111,115,116]⟩,dg p,⟨#[116,104,114,111,117,103,104]⟩]=blkS x k p:=by
 unfold joinS blkS
 rw[j_ (by simp[h])]
 refine bext ?_
 simp only[joinB_two,joinB_one,bapp,BH_];rfl
theorem block50_x (x:Blc) (k p:Int) (ok:x.Ok) (hk:In64 k) (hp:In64 p) (h:x.ex=true):VC L_ 54 ([blc x,i64 k,i64 p]) (st (joinS [⟨#[]⟩,⟨#[98,108,111,99,107]⟩,dg k,⟨#[99,111,115,116]⟩,dg p,⟨#[101,120,105,116]⟩,dg x.nd])):=by
 have q0:=blkS_size ok hk hp
 rw[←joinS_x x k p h] at q0
 have e1:=ok.nd
 have oz0:=@digits_v (k) hk
 have oz1:=@digits_v (p) hp
 have oz4:=@digits_v (x.nd) (by omega)
 have oz8:=@joined_v ([ByteArray.mk #[],ByteArray.mk #[98,108,111,99,107],dg k,ByteArray.mk #[99,111,115,116],dg p,ByteArray.mk #[101,120,105,116],dg x.nd]) (by omega) (by (simp;done))
 exact cR_ [r_,.r [] [cr oz0,cr oz1],r_,b_,.r [] [.n x.nd,cr oz4,ca oz8]] _ Tryz.func54 (.c8 oz0 oz1 h (i6n x.nd (by omega)) oz4 (s_ ((5+2)*16≤140737488355328)) (s_ (5+2≤9223372036854775807)) (show WeakL [AV.sl 1 [[AV.lit (Q_ (ByteArray.mk #[]))],[AV.lit (Q_ (ByteArray.mk #[98,108,111,99,107]))],[AV.lit (Q_ (dg k))],[AV.lit (Q_ (ByteArray.mk #[99,111,115,116]))],[AV.lit (Q_ (dg p))],[AV.lit (Q_ (ByteArray.mk #[101,120,105,116]))],[AV.lit (Q_ (dg x.nd))]]] [AV.sl 1 [[AV.lit (Q_ (ByteArray.mk #[]))],[AV.lit (Q_ (ByteArray.mk #[98,108,111,99,107]))],[AV.lit (Q_ (dg k))],[AV.lit (Q_ (ByteArray.mk #[99,111,115,116]))],[AV.lit (Q_ (dg p))],[AV.lit (Q_ (ByteArray.mk #[101,120,105,116]))],[AV.lit (Q_ (dg x.nd))]]] from (.cons (Weak.rows (rows_to (rowS) (r:=[[AV.lit (Q_ (ByteArray.mk #[]))],[AV.lit (Q_ (ByteArray.mk #[98,108,111,99,107]))],[AV.lit (Q_ (dg k))],[AV.lit (Q_ (ByteArray.mk #[99,111,115,116]))],[AV.lit (Q_ (dg p))],[AV.lit (Q_ (ByteArray.mk #[101,120,105,116]))],[AV.lit (Q_ (dg x.nd))]]) (l:=[ByteArray.mk #[],ByteArray.mk #[98,108,111,99,107],dg k,ByteArray.mk #[99,111,115,116],dg p,ByteArray.mk #[101,120,105,116],dg x.nd]) (m:=[ByteArray.mk #[],ByteArray.mk #[98,108,111,99,107],dg k,ByteArray.mk #[99,111,115,116],dg p,ByteArray.mk #[101,120,105,116],dg x.nd]) (by first|(simp only[X_,Z_,AP_,AR_,U_,AK_,AL_];done)|rfl|(simp only[X_,Z_,AP_,AR_,U_,AK_,AL_];rfl)|(simp only[X_,Z_,AP_,AR_,U_,AK_,AL_,rowS,ints];done)) rfl)) .nil))<|.d oz8)
theorem block50_t (x:Blc) (k p:Int) (ok:x.Ok) (hk:In64 k) (hp:In64 p) (h:x.ex=false):VC L_ 54 ([blc x,i64 k,i64 p]) (st (joinS [⟨#[]⟩,⟨#[98,108,111,99,107]⟩,dg k,⟨#[99,111,115,116]⟩,dg p,⟨#[116,104,114,111,117,103,104]⟩])):=by
 have q0:=blkS_size ok hk hp
 rw[←joinS_t x k p h] at q0
 have oz0:=@digits_v (k) hk
 have oz1:=@digits_v (p) hp
 have oz6:=@joined_v ([ByteArray.mk #[],ByteArray.mk #[98,108,111,99,107],dg k,ByteArray.mk #[99,111,115,116],dg p,ByteArray.mk #[116,104,114,111,117,103,104]]) (by omega) (by (simp;done))
 exact cR_ [r_,.r [] [cr oz0,cr oz1],r_,d_,.r [] [ca oz6]] _ Tryz.func54 (.d7 oz0 oz1 h (s_ ((5+1)*16≤140737488355328)) (s_ (5+1≤9223372036854775807)) (show WeakL [AV.sl 1 [[AV.lit (Q_ (ByteArray.mk #[]))],[AV.lit (Q_ (ByteArray.mk #[98,108,111,99,107]))],[AV.lit (Q_ (dg k))],[AV.lit (Q_ (ByteArray.mk #[99,111,115,116]))],[AV.lit (Q_ (dg p))],[AV.lit (Q_ (ByteArray.mk #[116,104,114,111,117,103,104]))]]] [AV.sl 1 [[AV.lit (Q_ (ByteArray.mk #[]))],[AV.lit (Q_ (ByteArray.mk #[98,108,111,99,107]))],[AV.lit (Q_ (dg k))],[AV.lit (Q_ (ByteArray.mk #[99,111,115,116]))],[AV.lit (Q_ (dg p))],[AV.lit (Q_ (ByteArray.mk #[116,104,114,111,117,103,104]))]]] from (.cons (Weak.rows (rows_to (rowS) (r:=[[AV.lit (Q_ (ByteArray.mk #[]))],[AV.lit (Q_ (ByteArray.mk #[98,108,111,99,107]))],[AV.lit (Q_ (dg k))],[AV.lit (Q_ (ByteArray.mk #[99,111,115,116]))],[AV.lit (Q_ (dg p))],[AV.lit (Q_ (ByteArray.mk #[116,104,114,111,117,103,104]))]]) (l:=[ByteArray.mk #[],ByteArray.mk #[98,108,111,99,107],dg k,ByteArray.mk #[99,111,115,116],dg p,ByteArray.mk #[116,104,114,111,117,103,104]]) (m:=[ByteArray.mk #[],ByteArray.mk #[98,108,111,99,107],dg k,ByteArray.mk #[99,111,115,116],dg p,ByteArray.mk #[116,104,114,111,117,103,104]]) (by first|(simp only[X_,Z_,AP_,AR_,U_,AK_,AL_];done)|rfl|(simp only[X_,Z_,AP_,AR_,U_,AK_,AL_];rfl)|(simp only[X_,Z_,AP_,AR_,U_,AK_,AL_,rowS,ints];done)) rfl)) .nil)) oz6)
theorem block50_v (x:Blc) (k p:Int) (ok:x.Ok) (hk:In64 k) (hp:In64 p):VC L_ 54 [blc x,i64 k,i64 p] (st (blkS x k p)):=by
 cases h:x.ex with
 | true=>rw[←joinS_x x k p h];exact block50_x x k p ok hk hp h
 | false=>rw[←joinS_t x k p h];exact block50_t x k p ok hk hp h
def lt50:List AV:=(stt 26 [(6,.ptr 100001 0 0)] []).t
def YldS (R:LoopR):Prop:=∀ (B:List ByteArray) (s:ByteArray),B.length≤499→VY L_ 100000 [st s] [(950,.slc 9 1 (B.map rowS)),(100000,.lp false R lt50),(100001,.var [.own 950])] (bv true) [(951,.slc 9 1 ((B++[s]).map rowS)),(100000,.lp false R lt50),(100001,.var [.own 951])]
noncomputable def model50_i_I (A:List ByteArray) (l:List Blc) (L:List Nod) (S:List Shp) (a:Shp) (P:List Int) (i:Int) (R:LoopR) (k:Nat):VS:=stt 68 [(2,ints .i64 P),(3,.yl 100000),(5,.ptr 5 0 0),(11,.sl 3 (S.map shpC)),(17,.sl 5 (l.map blcC)),(18,i64 (l.map blcC).length),(19,i64 i),(43,.sl 19 (L.map nodC)),(44,i64 (L.map nodC).length),(45,i64 k)] [(5,.var (shpC a)),(900,.slc 9 1 ((ndK A L S k).map rowS)),(100000,.lp false R lt50),(100001,.var [.own 900])]
noncomputable def model50_i_Z (A:List ByteArray) (l:List Blc) (L:List Nod) (S:List Shp) (a:Shp) (P:List Int) (i:Int) (R:LoopR):VS:=model50_i_I A l L S a P i R (L.length)
theorem model50_i_s (A:List ByteArray) (l:List Blc) (L:List Nod) (S:List Shp) (a:Shp) (P:List Int) (i:Int) (R:LoopR) (hy:YldS R) (ok:∀ n∈L,n.Ok) (h12:L.length≤12) (oks:∀ a∈S,a.Ok) (hS:S.length=L.length+1) (hA:A.length≤480) (k:Nat) (hk:k<L.length):VT L_ (fnC Tryz.f34 [1,0,1,0,0,1,1,0,0,1,1,1,0,1,0,0]) (model50_i_I A l L S a P i R k) .normal (model50_i_I A l L S a P i R (k+1)):=by
 have hy':=hy
 unfold YldS at hy'
 have q1:=getD_in ok hk
 have q2:=getD_in oks (s_ (k+1<S.length))
 have q3:=ndK_len A L S k
 have oz2:=(map_at (nodC) (default) (l:=L) (i:=k) hk)
 have oz3:=(i6n ((↑k:Int)+1) (by omega))
 have oz5:=(map_at (shpC) (default) (l:=S) (i:=((↑k:Int)+1).toNat) (by omega))
 have oz6:=@node50_v (L.getD k default) (S.getD ((↑k:Int)+1).toNat default) q1 (by (simp at *;omega))
 exact tR_ [r_,b_,.r [] [.row (sO oz2)],.r [] [.n (nO oz3),.row (sO oz5),cr oz6,.cally [(900,950),(100000,100000),(100001,100001)] [(951,20000)] (bv true) [(951,Blk.slc 9 1 (K_ rowS (ndK A L S k++[nodeS (L.getD k default) (S.getD ((↑k:Int)+1).toNat default)]))),(100000,Blk.lp false R [AV.any,AV.any,AV.any,AV.any,AV.any,AV.any,AV.ptr 100001 0 0,AV.any,AV.any,AV.any,AV.any,AV.any,AV.any,AV.any,AV.any,AV.any,AV.any,AV.any,AV.any,AV.any,AV.any,AV.any,AV.any,AV.any,AV.any,AV.any]),(100001,Blk.var [AV.own 951])]],d_,.r [] [.n (nO oz3)]] [.any (rg [(14,2),(46,15)]),.drop [15],.ren 20000 900,.weak 45 (i64 (↑(k+1):Int)),.blk 900 (Blk.slc 9 1 (K_ rowS (ndK A L S (k+1)))),.sort] (.c8 (show decide ((↑k:Int)<((K_ nodC L).length:Int))=true by (simp;omega)) (s_ (0≤(↑k:Int))) oz2 oz3 (s_ (0≤(↑k:Int)+1)) oz5 oz6 (@hy' (ndK A L S k) (nodeS (L.getD k default) (S.getD ((↑k:Int)+1).toNat default)) (by omega))<|.d4 z1_ oz3 (wS_ k) (show BlkW (Blk.slc 9 1 (K_ rowS (ndK A L S k++[nodeS (L.getD k default) (S.getD ((↑k:Int)+1).toNat default)]))) (Blk.slc 9 1 (K_ rowS (ndK A L S (k+1)))) from (BB_ (e:=9) (z:=1) (rows_to (rowS) (r:=K_ rowS (ndK A L S k++[nodeS (L.getD k default) (S.getD ((↑k:Int)+1).toNat default)])) (l:=ndK A L S k++[nodeS (L.getD k default) (S.getD ((↑k:Int)+1).toNat default)]) (m:=ndK A L S (k+1)) rfl (show (ndK A L S k++[nodeS (L.getD k default) (S.getD ((↑k:Int)+1).toNat default)])=(ndK A L S (k+1)) from (by rfl))))))
theorem model50_i_e (A:List ByteArray) (l:List Blc) (L:List Nod) (S:List Shp) (a:Shp) (P:List Int) (i:Int) (R:LoopR) (hy:YldS R) (ok:∀ n∈L,n.Ok) (h12:L.length≤12) (oks:∀ a∈S,a.Ok) (hS:S.length=L.length+1) (hA:A.length≤480):VT L_ (fnC Tryz.f34 [1,0,1,0,0,1,1,0,0,1,1,1,0,1,0,0]) (model50_i_I A l L S a P i R (L.length)) (.exit 2) (model50_i_Z A l L S a P i R):=by
 exact tR_ [r_,d_] [.any [46],.sort] (.d (show decide ((L.length:Int)<((K_ nodC L).length:Int))=false by (simp;done)))
theorem model50_i (A:List ByteArray) (l:List Blc) (L:List Nod) (S:List Shp) (a:Shp) (P:List Int) (i:Int) (R:LoopR) (hy:YldS R) (ok:∀ n∈L,n.Ok) (h12:L.length≤12) (oks:∀ a∈S,a.Ok) (hS:S.length=L.length+1) (hA:A.length≤480):VT L_ (fnC Tryz.f34 [1,0,1,0,0,1,1,0,0,1,1,1,0,1,0]) (model50_i_I A l L S a P i R 0) (.exit 2) (model50_i_Z A l L S a P i R) :=
 VT.loop (fun k=>model50_i_I A l L S a P i R k) (L.length) (fun k hk=>model50_i_s A l L S a P i R hy ok h12 oks hS hA k hk) (model50_i_e A l L S a P i R hy ok h12 oks hS hA) (by intro h;cases h)
noncomputable def model50_o_I (A:List ByteArray) (l:List Blc) (a:Shp) (P:List Int) (R:LoopR) (k:Nat):VS:=stt 68 [(2,ints .i64 P),(3,.yl 100000),(5,.ptr 5 0 0),(17,.sl 5 (l.map blcC)),(18,i64 (l.map blcC).length),(19,i64 k)] [(5,.var (shpC (inS l a k))),(900,.slc 9 1 ((blK A l a P k).map rowS)),(100000,.lp false R lt50),(100001,.var [.own 900])]
noncomputable def model50_o_Z (A:List ByteArray) (l:List Blc) (a:Shp) (P:List Int) (R:LoopR):VS:=model50_o_I A l a P R (l.length)
theorem model50_o_s (A:List ByteArray) (l:List Blc) (a:Shp) (P:List Int) (R:LoopR) (hy:YldS R) (ok:∀ x∈l,x.Ok) (sm:∀ x∈l,x.Sm) (oka:a.Ok) (h:MOK l a) (hl:l.length≤8) (hP:P.length=l.length) (hv:∀ v∈P,In32 v) (hA:A.length≤370) (k:Nat) (hk:k<l.length):VT L_ (fnC Tryz.f34 [1,0,1,0,0]) (model50_o_I A l a P R k) .normal (model50_o_I A l a P R (k+1)):=by
 have hy':=hy
 unfold YldS at hy'
 have p3:=gt32 hv k
 have q:=h k hk
 have q2:=getD_in ok hk
 have q3:=getD_in sm hk
 have q4:=inS_ok (l:=l) oka k
 have q5:=q2.n
 have q6:=q3.s
 have q7:=q3.l
 have r4:=blK_len A l a P k
 have r5:=cnB_le (fun x hx=>(sm x hx).l) k (by omega)
 have r6:=shpsL_len (l.getD k default).n (inS l a k)
 have r7:∀ b∈shpsL (l.getD k default).n (inS l a k),b.Ok:=grow_ok q4 _
 have l1:=growL_len nextE (l.getD k default).n (inS l a k) (l.getD k default).n.length
 have l3:(K_ shpC (growL nextE (l.getD k default).n (inS l a k) (l.getD k default).n.length)).length=(growL nextE (l.getD k default).n (inS l a k) (l.getD k default).n.length).length:=T_ _
 have i1:(((K_ shpC (growL nextE (l.getD k default).n (inS l a k) (l.getD k default).n.length)).length:Int)-1).toNat=(l.getD k default).n.length:=by omega
 have oz1:=(s_ (0≤(↑k:Int)))
 have oz2:=(map_at (blcC) (default) (l:=l) (i:=k) hk)
 have oz5:=@block50_v (l.getD k default) ((↑k:Int)) (P.getD k 0) q2 (by omega) (by omega)
 have oz8:=@shapes_y ((l.getD k default).n) (inS l a k) q5 q6 q
 have oz11:=@model50_i (blK A l a P k++[blkS (l.getD k default) (↑k:Int) (P.getD k 0)]) (l) ((l.getD k default).n) (growL nextE (l.getD k default).n (inS l a k) (l.getD k default).n.length) (inS l a k) (P) ((↑k:Int)) (R) hy q5 q7 r7 r6 (by (simp only[AZ_,AY_,BK_];omega))
 have oz12:=(i6n (((K_ shpC (growL nextE (l.getD k default).n (inS l a k) (l.getD k default).n.length)).length:Int)-1) (by omega))
 have oz14:=(map_at (shpC) (default) (l:=growL nextE (l.getD k default).n (inS l a k) (l.getD k default).n.length) (i:=(((K_ shpC (growL nextE (l.getD k default).n (inS l a k) (l.getD k default).n.length)).length:Int)-1).toNat) (by omega))
 exact tR_ [r_,b_,.r [] [.row (sO oz2)],.r [] [.row [i64 (P.getD k 0)],cr oz5,.cally [(900,950),(100000,100000),(100001,100001)] [(951,20000)] (bv true) [(951,Blk.slc 9 1 (K_ rowS (blK A l a P k++[blkS (l.getD k default) (↑k:Int) (P.getD k 0)]))),(100000,Blk.lp false R [AV.any,AV.any,AV.any,AV.any,AV.any,AV.any,AV.ptr 100001 0 0,AV.any,AV.any,AV.any,AV.any,AV.any,AV.any,AV.any,AV.any,AV.any,AV.any,AV.any,AV.any,AV.any,AV.any,AV.any,AV.any,AV.any,AV.any,AV.any]),(100001,Blk.var [AV.own 951])]],d_,.r [] [cr oz8],r_,.code [.any (rg [(9,2),(12,2),(20,23)]),.drop [10],.ren 20000 900,.weak 45 (i64 (↑0:Int)),.blk 900 (Blk.slc 9 1 (K_ rowS (ndK (blK A l a P k++[blkS (l.getD k default) (↑k:Int) (P.getD k 0)]) (l.getD k default).n (growL nextE (l.getD k default).n (inS l a k) (l.getD k default).n.length) 0))),.sort] (BM_ 2) (zO oz11),.r [] [.n (nO oz12),.row (sO oz14)],.r [] [.n ((↑k:Int)+1)]] [.any (rg [(11,1),(43,3),(61,7)]),.weak 19 (i64 (↑(k+1):Int)),.blk 5 (Blk.var [i64 (inS l a (k+1)).h,i64 (inS l a (k+1)).x,i64 (inS l a (k+1)).c]),.blk 900 (Blk.slc 9 1 (K_ rowS (blK A l a P (k+1)))),.sort] (.c8 (show decide ((↑k:Int)<((K_ blcC l).length:Int))=true by (simp;omega)) oz1 oz2 oz1 (map_at (row1 .i64) (0) (l:=P) (i:=k) (by omega)) oz5 (@hy' (blK A l a P k) (blkS (l.getD k default) (↑k:Int) (P.getD k 0)) (by omega)) z1_<|.c8 oz8 w0_ (show BlkW (Blk.slc 9 1 (K_ rowS (blK A l a P k++[blkS (l.getD k default) (↑k:Int) (P.getD k 0)]))) (Blk.slc 9 1 (K_ rowS (ndK (blK A l a P k++[blkS (l.getD k default) (↑k:Int) (P.getD k 0)]) (l.getD k default).n (growL nextE (l.getD k default).n (inS l a k) (l.getD k default).n.length) 0))) from (BB_ (e:=9) (z:=1) (rows_to (rowS) (r:=K_ rowS (blK A l a P k++[blkS (l.getD k default) (↑k:Int) (P.getD k 0)])) (l:=blK A l a P k++[blkS (l.getD k default) (↑k:Int) (P.getD k 0)]) (m:=ndK (blK A l a P k++[blkS (l.getD k default) (↑k:Int) (P.getD k 0)]) (l.getD k default).n (growL nextE (l.getD k default).n (inS l a k) (l.getD k default).n.length) 0) rfl (show (blK A l a P k++[blkS (l.getD k default) (↑k:Int) (P.getD k 0)])=(ndK (blK A l a P k++[blkS (l.getD k default) (↑k:Int) (P.getD k 0)]) (l.getD k default).n (growL nextE (l.getD k default).n (inS l a k) (l.getD k default).n.length) 0) from (by rfl))))) oz11 oz12 (s_ (0≤((K_ shpC (growL nextE (l.getD k default).n (inS l a k) (l.getD k default).n.length)).length:Int)-1)) oz14 (i6n ((↑k:Int)+1) (by omega))<|.d3 (wS_ k) (show BlkW (Blk.var [i64 ((growL nextE (l.getD k default).n (inS l a k) (l.getD k default).n.length).getD (((K_ shpC (growL nextE (l.getD k default).n (inS l a k) (l.getD k default).n.length)).length:Int)-1).toNat default).h,i64 ((growL nextE (l.getD k default).n (inS l a k) (l.getD k default).n.length).getD (((K_ shpC (growL nextE (l.getD k default).n (inS l a k) (l.getD k default).n.length)).length:Int)-1).toNat default).x,i64 ((growL nextE (l.getD k default).n (inS l a k) (l.getD k default).n.length).getD (((K_ shpC (growL nextE (l.getD k default).n (inS l a k) (l.getD k default).n.length)).length:Int)-1).toNat default).c]) (Blk.var [i64 (inS l a (k+1)).h,i64 (inS l a (k+1)).x,i64 (inS l a (k+1)).c]) from (BlkW.var (m:=[i64 (inS l a (k+1)).h,i64 (inS l a (k+1)).x,i64 (inS l a (k+1)).c]) (.cons (N_ (by (rw[i1]<;>rfl))) (.cons (N_ (by (rw[i1]<;>rfl))) (.cons (N_ (by (rw[i1]<;>rfl))) .nil))))) (show BlkW (Blk.slc 9 1 (K_ rowS (ndK (blK A l a P k++[blkS (l.getD k default) (↑k:Int) (P.getD k 0)]) (l.getD k default).n (growL nextE (l.getD k default).n (inS l a k) (l.getD k default).n.length) (l.getD k default).n.length))) (Blk.slc 9 1 (K_ rowS (blK A l a P (k+1)))) from (BB_ (e:=9) (z:=1) (rows_to (rowS) (r:=K_ rowS (ndK (blK A l a P k++[blkS (l.getD k default) (↑k:Int) (P.getD k 0)]) (l.getD k default).n (growL nextE (l.getD k default).n (inS l a k) (l.getD k default).n.length) (l.getD k default).n.length)) (l:=ndK (blK A l a P k++[blkS (l.getD k default) (↑k:Int) (P.getD k 0)]) (l.getD k default).n (growL nextE (l.getD k default).n (inS l a k) (l.getD k default).n.length) (l.getD k default).n.length) (m:=blK A l a P (k+1)) rfl (show (ndK (blK A l a P k++[blkS (l.getD k default) (↑k:Int) (P.getD k 0)]) (l.getD k default).n (growL nextE (l.getD k default).n (inS l a k) (l.getD k default).n.length) (l.getD k default).n.length)=(blK A l a P (k+1)) from (by rfl))))))
theorem model50_o_e (A:List ByteArray) (l:List Blc) (a:Shp) (P:List Int) (R:LoopR) (hy:YldS R) (ok:∀ x∈l,x.Ok) (sm:∀ x∈l,x.Sm) (oka:a.Ok) (h:MOK l a) (hl:l.length≤8) (hP:P.length=l.length) (hv:∀ v∈P,In32 v) (hA:A.length≤370):VT L_ (fnC Tryz.f34 [1,0,1,0,0]) (model50_o_I A l a P R (l.length)) (.exit 0) (model50_o_Z A l a P R):=by
 exact tR_ [r_,d_] [.any [20],.sort] (.d (show decide ((l.length:Int)<((K_ blcC l).length:Int))=false by (simp;done)))
theorem model50_o (A:List ByteArray) (l:List Blc) (a:Shp) (P:List Int) (R:LoopR) (hy:YldS R) (ok:∀ x∈l,x.Ok) (sm:∀ x∈l,x.Sm) (oka:a.Ok) (h:MOK l a) (hl:l.length≤8) (hP:P.length=l.length) (hv:∀ v∈P,In32 v) (hA:A.length≤370):VT L_ (fnC Tryz.f34 [1,0,1,0]) (model50_o_I A l a P R 0) (.exit 0) (model50_o_Z A l a P R) :=
 VT.loop (fun k=>model50_o_I A l a P R k) (l.length) (fun k hk=>model50_o_s A l a P R hy ok sm oka h hl hP hv hA k hk) (model50_o_e A l a P R hy ok sm oka h hl hP hv hA) (by intro h;cases h)
theorem model50_v (A:List ByteArray) (l:List Blc) (a:Shp) (P:List Int) (R:LoopR) (hy:YldS R) (ok:∀ x∈l,x.Ok) (sm:∀ x∈l,x.Sm) (oka:a.Ok) (h:MOK l a) (hl:l.length≤8) (hP:P.length=l.length) (hv:∀ v∈P,In32 v) (hA:A.length≤370):VM L_ 34 ([.agg [.sl 5 (l.map blcC)],shp a,ints .i64 P,.yl 100000]) ([(950,.slc 9 1 (A.map rowS)),(100000,.lp false R lt50),(100001,.var [.own 950])]) (bv true) ([(951,.slc 9 1 ((blK A l a P l.length).map rowS)),(100000,.lp false R lt50),(100001,.var [.own 951])]):=by
 have hy':=hy
 unfold YldS at hy'
 have oz3:=@model50_o (A) (l) (a) (P) (R) hy ok sm oka h hl hP hv hA
 exact mR_ [r_,r_,.code [.any [0,1,4,8,16],.drop [4],.ren 950 900,.weak 19 (i64 (↑0:Int)),.blk 5 (Blk.var [i64 (inS l a 0).h,i64 (inS l a 0).x,i64 (inS l a 0).c]),.blk 900 (Blk.slc 9 1 (K_ rowS (blK A l a P 0))),.sort] (BM_ 0) (zO oz3),r_] [.drop [5],.ren 900 951,.sort] _ Tryz.func34 (.d4 w0_ (show BlkW (Blk.var [i64 a.h,i64 a.x,i64 a.c]) (Blk.var [i64 (inS l a 0).h,i64 (inS l a 0).x,i64 (inS l a 0).c]) from (BlkW.var (m:=[i64 (inS l a 0).h,i64 (inS l a 0).x,i64 (inS l a 0).c]) (.cons (.refl _) (.cons (N_ (by rfl)) (.cons (N_ (by rfl)) .nil))))) (show BlkW (Blk.slc 9 1 (K_ rowS A)) (Blk.slc 9 1 (K_ rowS (blK A l a P 0))) from (BB_ (e:=9) (z:=1) (rows_to (rowS) (r:=K_ rowS A) (l:=A) (m:=blK A l a P 0) rfl (show (A)=(blK A l a P 0) from (by rfl))))) oz3)
theorem joinS_m (i n:Int):joinS [⟨#[109,111,100,101,108]⟩,dg i,⟨#[98,108,111,99,107,115]⟩,dg n]=mdlS' i n:=by
 unfold joinS mdlS'
 refine bext ?_
 simp only[joinB_two,joinB_one,bapp,BH_];rfl
theorem joinS_b (a:Shp) (cl n s:Int):joinS [⟨#[98,117,110,100,108,101]⟩,shS a,⟨#[99,108,97,115,115,101,115]⟩,dg cl,⟨#[109,111,100,101,108,115]⟩,dg n,⟨#[99,111,115,116]⟩,dg s]=bunS' a cl n s:=by
 unfold joinS bunS'
 refine bext ?_
 simp only[joinB_two,joinB_one,bapp,BH_];rfl
theorem lines50_v (u:Bun) (T:List (List Int))  : VM L_ 17 ([bun u,.sl 1 (T.map intsC)]) ([]) (.clo 32 [.ptr 951 0 0,.ptr 952 0 0]) ([(951,.var [.sl 1 (T.map intsC)]),(952,.var (bunC u))]):=by
 exact mR_ [r_,r_] [.ren 2 952,.ren 3 951,.sort] _ Tryz.func17 (.n)
noncomputable def lnz_l_I (A:List ByteArray) (u:Bun) (T:List (List Int)) (R:LoopR) (k:Nat):VS:=stt 64 [(0,.yl 100000),(1,.ptr 100002 0 0),(2,.ptr 100003 0 0),(33,.sl 1 (u.m.map mdlC)),(34,i64 (u.m.map mdlC).length),(35,i64 k)] [(900,.slc 9 1 ((mdK A u T k).map rowS)),(100000,.lp false R lt50),(100001,.var [.own 900]),(100002,.var [.sl 1 (T.map intsC)]),(100003,.var (bunC u))]
noncomputable def lnz_l_Z (A:List ByteArray) (u:Bun) (T:List (List Int)) (R:LoopR):VS:=lnz_l_I A u T R (u.m.length)
theorem lnz_l_s (A:List ByteArray) (u:Bun) (T:List (List Int)) (R:LoopR) (hy:YldS R) (ok:u.Ok) (sm:u.Sm) (hT:TB T) (hl:T.length=u.m.length) (ht:∀ j,j<u.m.length→(T.getD j default).length=(u.m.getD j default).l.length) (h:∀ j,j<u.m.length→MOK (u.m.getD j default).l u.inp) (hA:A.length≤1) (k:Nat) (hk:k<u.m.length):VT L_ (fnC Tryz.f32 [1,1,1,0,0]) (lnz_l_I A u T R k) .normal (lnz_l_I A u T R (k+1)):=by
 have hy':=hy
 unfold YldS at hy'
 have q0:=sm.l
 have q1:=h k hk
 have q2:=(getD_in ok.m hk).l
 have q3:=(getD_in sm.m hk).2
 have q4:=(getD_in sm.m hk).1
 have q5:u.inp.Ok:=⟨ok.h,ok.x,ok.c⟩
 have q6:=ht k hk
 have q7:=mdK_len A u T k
 have q8:=cnM_le sm k (by omega)
 have q9:=(getD_in hT (s_ (k<T.length))).2
 have r1:=mdlS'_size (i:=(k:Int)) (n:=((K_ blcC (u.m.getD k default).l).length:Int)) ⟨by omega,by omega⟩ ⟨by omega,by rw[T_];omega⟩
 rw[←joinS_m] at r1
 have oz1:=(s_ (0≤(↑k:Int)))
 have oz2:=(map_at (mdlC) (default) (l:=u.m) (i:=k) hk)
 have oz3:=@digits_v ((↑k:Int)) (by omega)
 have oz4:=@digits_v (((K_ blcC (u.m.getD k default).l).length:Int)) (by (simp only[T_] at *;omega))
 have oz6:=@joined_v ([ByteArray.mk #[109,111,100,101,108],dg (↑k:Int),ByteArray.mk #[98,108,111,99,107,115],dg ((K_ blcC (u.m.getD k default).l).length:Int)]) (by omega) (by (simp only[AZ_,AY_,BK_];omega))
 have oz8:=z1_
 have oz15:=(map_at (intsC) (default) (l:=T) (i:=k) (by omega))
 have oz19:=@model50_v (mdK A u T k++[joinS [ByteArray.mk #[109,111,100,101,108],dg (↑k:Int),ByteArray.mk #[98,108,111,99,107,115],dg ((K_ blcC (u.m.getD k default).l).length:Int)]]) ((u.m.getD k default).l) (Shp.mk u.h u.x u.c) (T.getD k default) (R) hy q2 q3 q5 q1 q4 q6 q9 (by (simp only[AZ_,AY_,BK_];omega))
 exact tR_ [r_,b_,.r [] [.row (sO oz2)],.r [] [cr oz3,cr oz4,ca oz6,.cally [(900,950),(100000,100000),(100001,100001)] [(951,20000)] (bv true) [(951,Blk.slc 9 1 (K_ rowS (mdK A u T k++[joinS [ByteArray.mk #[109,111,100,101,108],dg (↑k:Int),ByteArray.mk #[98,108,111,99,107,115],dg ((K_ blcC (u.m.getD k default).l).length:Int)]]))),(100000,Blk.lp false R [AV.any,AV.any,AV.any,AV.any,AV.any,AV.any,AV.ptr 100001 0 0,AV.any,AV.any,AV.any,AV.any,AV.any,AV.any,AV.any,AV.any,AV.any,AV.any,AV.any,AV.any,AV.any,AV.any,AV.any,AV.any,AV.any,AV.any,AV.any]),(100001,Blk.var [AV.own 951])],e_,e_,e_,e_,e_,e_,.row (sO oz15),e_,e_,e_,.callm [(20000,950),(100000,100000),(100001,100001)] [(951,20001)] (rM oz19) (oM oz19),e_,f_],d_,.r [] [.n ((↑k:Int)+1)]] [.any (rg [(7,2),(36,28)]),.drop [8,47],.ren 20001 900,.weak 35 (i64 (↑(k+1):Int)),.blk 900 (Blk.slc 9 1 (K_ rowS (mdK A u T (k+1)))),.sort] (.c8 (show decide ((↑k:Int)<((K_ mdlC u.m).length:Int))=true by (simp;omega)) oz1 oz2 oz3 oz4 (show WeakL [AV.sl 1 [[AV.lit (Q_ (ByteArray.mk #[109,111,100,101,108]))],[AV.lit (Q_ (dg (↑k:Int)))],[AV.lit (Q_ (ByteArray.mk #[98,108,111,99,107,115]))],[AV.lit (Q_ (dg ((K_ blcC (u.m.getD k default).l).length:Int)))]]] [AV.sl 1 [[AV.lit (Q_ (ByteArray.mk #[109,111,100,101,108]))],[AV.lit (Q_ (dg (↑k:Int)))],[AV.lit (Q_ (ByteArray.mk #[98,108,111,99,107,115]))],[AV.lit (Q_ (dg ((K_ blcC (u.m.getD k default).l).length:Int)))]]] from (.cons (Weak.rows (rows_to (rowS) (r:=[[AV.lit (Q_ (ByteArray.mk #[109,111,100,101,108]))],[AV.lit (Q_ (dg (↑k:Int)))],[AV.lit (Q_ (ByteArray.mk #[98,108,111,99,107,115]))],[AV.lit (Q_ (dg ((K_ blcC (u.m.getD k default).l).length:Int)))]]) (l:=[ByteArray.mk #[109,111,100,101,108],dg (↑k:Int),ByteArray.mk #[98,108,111,99,107,115],dg ((K_ blcC (u.m.getD k default).l).length:Int)]) (m:=[ByteArray.mk #[109,111,100,101,108],dg (↑k:Int),ByteArray.mk #[98,108,111,99,107,115],dg ((K_ blcC (u.m.getD k default).l).length:Int)]) (by first|(simp only[X_,Z_,AP_,AR_,U_,AK_,AL_];done)|rfl|(simp only[X_,Z_,AP_,AR_,U_,AK_,AL_];rfl)|(simp only[X_,Z_,AP_,AR_,U_,AK_,AL_,rowS,ints];done)) rfl)) .nil)) oz6 (@hy' (mdK A u T k) (joinS [ByteArray.mk #[109,111,100,101,108],dg (↑k:Int),ByteArray.mk #[98,108,111,99,107,115],dg ((K_ blcC (u.m.getD k default).l).length:Int)]) (by omega))<|.c8 oz8 oz8 oz8 oz8 oz8 oz8 oz1 oz15<|.c8 oz8 oz8 oz8 oz19 oz8 oz8 oz8 (i6n ((↑k:Int)+1) (by omega))<|.d2 (wS_ k) (show BlkW (Blk.slc 9 1 (K_ rowS (blK (mdK A u T k++[joinS [ByteArray.mk #[109,111,100,101,108],dg (↑k:Int),ByteArray.mk #[98,108,111,99,107,115],dg ((K_ blcC (u.m.getD k default).l).length:Int)]]) (u.m.getD k default).l (Shp.mk u.h u.x u.c) (T.getD k default) (u.m.getD k default).l.length))) (Blk.slc 9 1 (K_ rowS (mdK A u T (k+1)))) from (BB_ (e:=9) (z:=1) (rows_to (rowS) (r:=K_ rowS (blK (mdK A u T k++[joinS [ByteArray.mk #[109,111,100,101,108],dg (↑k:Int),ByteArray.mk #[98,108,111,99,107,115],dg ((K_ blcC (u.m.getD k default).l).length:Int)]]) (u.m.getD k default).l (Shp.mk u.h u.x u.c) (T.getD k default) (u.m.getD k default).l.length)) (l:=blK (mdK A u T k++[joinS [ByteArray.mk #[109,111,100,101,108],dg (↑k:Int),ByteArray.mk #[98,108,111,99,107,115],dg ((K_ blcC (u.m.getD k default).l).length:Int)]]) (u.m.getD k default).l (Shp.mk u.h u.x u.c) (T.getD k default) (u.m.getD k default).l.length) (m:=mdK A u T (k+1)) rfl (show (blK (mdK A u T k++[joinS [ByteArray.mk #[109,111,100,101,108],dg (↑k:Int),ByteArray.mk #[98,108,111,99,107,115],dg ((K_ blcC (u.m.getD k default).l).length:Int)]]) (u.m.getD k default).l (Shp.mk u.h u.x u.c) (T.getD k default) (u.m.getD k default).l.length)=(mdK A u T (k+1)) from (by (rw[joinS_m];simp only[T_];(rw[mdK]<;>rfl))))))))
theorem lnz_l_e (A:List ByteArray) (u:Bun) (T:List (List Int)) (R:LoopR) (hy:YldS R) (ok:u.Ok) (sm:u.Sm) (hT:TB T) (hl:T.length=u.m.length) (ht:∀ j,j<u.m.length→(T.getD j default).length=(u.m.getD j default).l.length) (h:∀ j,j<u.m.length→MOK (u.m.getD j default).l u.inp) (hA:A.length≤1):VT L_ (fnC Tryz.f32 [1,1,1,0,0]) (lnz_l_I A u T R (u.m.length)) (.exit 0) (lnz_l_Z A u T R):=by
 exact tR_ [r_,d_] [.any [36],.sort] (.d (show decide ((u.m.length:Int)<((K_ mdlC u.m).length:Int))=false by (simp;done)))
theorem lnz_l (A:List ByteArray) (u:Bun) (T:List (List Int)) (R:LoopR) (hy:YldS R) (ok:u.Ok) (sm:u.Sm) (hT:TB T) (hl:T.length=u.m.length) (ht:∀ j,j<u.m.length→(T.getD j default).length=(u.m.getD j default).l.length) (h:∀ j,j<u.m.length→MOK (u.m.getD j default).l u.inp) (hA:A.length≤1):VT L_ (fnC Tryz.f32 [1,1,1,0]) (lnz_l_I A u T R 0) (.exit 0) (lnz_l_Z A u T R) :=
 VT.loop (fun k=>lnz_l_I A u T R k) (u.m.length) (fun k hk=>lnz_l_s A u T R hy ok sm hT hl ht h hA k hk) (lnz_l_e A u T R hy ok sm hT hl ht h hA) (by intro h;cases h)
theorem lnz_v (u:Bun) (T:List (List Int)) (R:LoopR) (hy:YldS R) (ok:u.Ok) (sm:u.Sm) (hT:TB T) (hl:T.length=u.m.length) (ht:∀ j,j<u.m.length→(T.getD j default).length=(u.m.getD j default).l.length) (h:∀ j,j<u.m.length→MOK (u.m.getD j default).l u.inp):VM L_ 32 ([.yl 100000,.ptr 100002 0 0,.ptr 100003 0 0]) ([(950,.slc 9 1 (([]:List ByteArray).map rowS)),(100000,.lp false R lt50),(100001,.var [.own 950]),(100002,.var [.sl 1 (T.map intsC)]),(100003,.var (bunC u))]) (.tup []) ([(951,.slc 9 1 ((mdK [joinS [⟨#[98,117,110,100,108,101]⟩,shS u.inp,⟨#[99,108,97,115,115,101,115]⟩,dg u.cl,⟨#[109,111,100,101,108,115]⟩,dg ((K_ mdlC u.m).length:Int),⟨#[99,111,115,116]⟩,dg (endT T T.length).al]] u T u.m.length).map rowS)),(100000,.lp false R lt50),(100001,.var [.own 951]),(100002,.var [.sl 1 (T.map intsC)]),(100003,.var (bunC u))]):=by
 have hy':=hy
 unfold YldS at hy'
 have q0:=sm.l
 have q5:u.inp.Ok:=⟨ok.h,ok.x,ok.c⟩
 have q6:=endT_bd hT _ (AU_ _)
 have q7:=ok.cl
 have q8:∀ l∈T,l.length≤50∧∀ v∈l,In32 v:=hT
 have r1:=bunS'_size (a:=Shp.mk u.h u.x u.c) (cl:=u.cl) (n:=((K_ mdlC u.m).length:Int)) (s:=(endT T T.length).al) q5 ok.cl ⟨by omega,by rw[T_];omega⟩ ⟨by omega,by omega⟩
 rw[←joinS_b] at r1
 have oz0:=@ends_v (T) (by omega) q8
 have oz1:=@shape50_v (Shp.mk u.h u.x u.c) q5
 have oz2:=@digits_v (u.cl) q7
 have oz3:=@digits_v (((K_ mdlC u.m).length:Int)) (by (simp;omega))
 have oz4:=@digits_v ((endT T T.length).al) (by omega)
 have oz6:=@joined_v ([ByteArray.mk #[98,117,110,100,108,101],shS (Shp.mk u.h u.x u.c),ByteArray.mk #[99,108,97,115,115,101,115],dg u.cl,ByteArray.mk #[109,111,100,101,108,115],dg ((K_ mdlC u.m).length:Int),ByteArray.mk #[99,111,115,116],dg (endT T T.length).al]) (by omega) (by (simp;done))
 have oz11:=@lnz_l ([joinS [ByteArray.mk #[98,117,110,100,108,101],shS (Shp.mk u.h u.x u.c),ByteArray.mk #[99,108,97,115,115,101,115],dg u.cl,ByteArray.mk #[109,111,100,101,108,115],dg ((K_ mdlC u.m).length:Int),ByteArray.mk #[99,111,115,116],dg (endT T T.length).al]]) (u) (T) (R) hy ok sm hT hl ht h (by (simp;done))
 exact mR_ [.r [] [cr oz0],.r [] [cr oz1,cr oz2,cr oz3,cr oz4,ca oz6,.cally [(950,950),(100000,100000),(100001,100001)] [(951,20000)] (bv true) [(951,Blk.slc 9 1 (K_ rowS ([]++[joinS [ByteArray.mk #[98,117,110,100,108,101],shS (Shp.mk u.h u.x u.c),ByteArray.mk #[99,108,97,115,115,101,115],dg u.cl,ByteArray.mk #[109,111,100,101,108,115],dg ((K_ mdlC u.m).length:Int),ByteArray.mk #[99,111,115,116],dg (endT T T.length).al]]))),(100000,Blk.lp false R [AV.any,AV.any,AV.any,AV.any,AV.any,AV.any,AV.ptr 100001 0 0,AV.any,AV.any,AV.any,AV.any,AV.any,AV.any,AV.any,AV.any,AV.any,AV.any,AV.any,AV.any,AV.any,AV.any,AV.any,AV.any,AV.any,AV.any,AV.any]),(100001,Blk.var [AV.own 951])]],d_,r_,.code [.any (rg [(4,3),(9,24)]),.drop [28],.ren 20000 900,.weak 35 (i64 (↑0:Int)),.blk 900 (Blk.slc 9 1 (K_ rowS (mdK [joinS [ByteArray.mk #[98,117,110,100,108,101],shS (Shp.mk u.h u.x u.c),ByteArray.mk #[99,108,97,115,115,101,115],dg u.cl,ByteArray.mk #[109,111,100,101,108,115],dg ((K_ mdlC u.m).length:Int),ByteArray.mk #[99,111,115,116],dg (endT T T.length).al]] u T 0))),.sort] (BM_ 0) (zO oz11)] [.ren 900 951,.sort] _ Tryz.func32 (.c8 oz0 oz1 oz2 oz3 oz4 (show WeakL [AV.sl 1 [[AV.lit (Q_ (ByteArray.mk #[98,117,110,100,108,101]))],[AV.lit (Q_ (shS (Shp.mk u.h u.x u.c)))],[AV.lit (Q_ (ByteArray.mk #[99,108,97,115,115,101,115]))],[AV.lit (Q_ (dg u.cl))],[AV.lit (Q_ (ByteArray.mk #[109,111,100,101,108,115]))],[AV.lit (Q_ (dg ((K_ mdlC u.m).length:Int)))],[AV.lit (Q_ (ByteArray.mk #[99,111,115,116]))],[AV.lit (Q_ (dg (endT T T.length).al))]]] [AV.sl 1 [[AV.lit (Q_ (ByteArray.mk #[98,117,110,100,108,101]))],[AV.lit (Q_ (shS (Shp.mk u.h u.x u.c)))],[AV.lit (Q_ (ByteArray.mk #[99,108,97,115,115,101,115]))],[AV.lit (Q_ (dg u.cl))],[AV.lit (Q_ (ByteArray.mk #[109,111,100,101,108,115]))],[AV.lit (Q_ (dg ((K_ mdlC u.m).length:Int)))],[AV.lit (Q_ (ByteArray.mk #[99,111,115,116]))],[AV.lit (Q_ (dg (endT T T.length).al))]]] from (.cons (Weak.rows (rows_to (rowS) (r:=[[AV.lit (Q_ (ByteArray.mk #[98,117,110,100,108,101]))],[AV.lit (Q_ (shS (Shp.mk u.h u.x u.c)))],[AV.lit (Q_ (ByteArray.mk #[99,108,97,115,115,101,115]))],[AV.lit (Q_ (dg u.cl))],[AV.lit (Q_ (ByteArray.mk #[109,111,100,101,108,115]))],[AV.lit (Q_ (dg ((K_ mdlC u.m).length:Int)))],[AV.lit (Q_ (ByteArray.mk #[99,111,115,116]))],[AV.lit (Q_ (dg (endT T T.length).al))]]) (l:=[ByteArray.mk #[98,117,110,100,108,101],shS (Shp.mk u.h u.x u.c),ByteArray.mk #[99,108,97,115,115,101,115],dg u.cl,ByteArray.mk #[109,111,100,101,108,115],dg ((K_ mdlC u.m).length:Int),ByteArray.mk #[99,111,115,116],dg (endT T T.length).al]) (m:=[ByteArray.mk #[98,117,110,100,108,101],shS (Shp.mk u.h u.x u.c),ByteArray.mk #[99,108,97,115,115,101,115],dg u.cl,ByteArray.mk #[109,111,100,101,108,115],dg ((K_ mdlC u.m).length:Int),ByteArray.mk #[99,111,115,116],dg (endT T T.length).al]) (by first|(simp only[X_,Z_,AP_,AR_,U_,AK_,AL_];done)|rfl|(simp only[X_,Z_,AP_,AR_,U_,AK_,AL_];rfl)|(simp only[X_,Z_,AP_,AR_,U_,AK_,AL_,rowS,ints];done)) rfl)) .nil)) oz6 (@VY.pre _ _ ([AV.lit (Q_ (joinS [ByteArray.mk #[98,117,110,100,108,101],shS (Shp.mk u.h u.x u.c),ByteArray.mk #[99,108,97,115,115,101,115],dg u.cl,ByteArray.mk #[109,111,100,101,108,115],dg ((K_ mdlC u.m).length:Int),ByteArray.mk #[99,111,115,116],dg (endT T T.length).al]))]) _ ([(950,Blk.slc 9 1 []),(100000,Blk.lp false R [AV.any,AV.any,AV.any,AV.any,AV.any,AV.any,AV.ptr 100001 0 0,AV.any,AV.any,AV.any,AV.any,AV.any,AV.any,AV.any,AV.any,AV.any,AV.any,AV.any,AV.any,AV.any,AV.any,AV.any,AV.any,AV.any,AV.any,AV.any]),(100001,Blk.var [AV.own 950])]) _ _ _ ([GI.sort]) _ (@hy' ([]) (joinS [ByteArray.mk #[98,117,110,100,108,101],shS (Shp.mk u.h u.x u.c),ByteArray.mk #[99,108,97,115,115,101,115],dg u.cl,ByteArray.mk #[109,111,100,101,108,115],dg ((K_ mdlC u.m).length:Int),ByteArray.mk #[99,111,115,116],dg (endT T T.length).al]) (by (simp;done))) (by kernel_rfl) (.n))<|.d4 z1_ w0_ (show BlkW (Blk.slc 9 1 [[AV.lit (Q_ (joinS [ByteArray.mk #[98,117,110,100,108,101],shS (Shp.mk u.h u.x u.c),ByteArray.mk #[99,108,97,115,115,101,115],dg u.cl,ByteArray.mk #[109,111,100,101,108,115],dg ((K_ mdlC u.m).length:Int),ByteArray.mk #[99,111,115,116],dg (endT T T.length).al]))]]) (Blk.slc 9 1 [[AV.lit (Q_ (joinS [ByteArray.mk #[98,117,110,100,108,101],shS (Shp.mk u.h u.x u.c),ByteArray.mk #[99,108,97,115,115,101,115],dg u.cl,ByteArray.mk #[109,111,100,101,108,115],dg ((K_ mdlC u.m).length:Int),ByteArray.mk #[99,111,115,116],dg (endT T T.length).al]))]]) from (BB_ (e:=9) (z:=1) (rows_to (rowS) (r:=[[AV.lit (Q_ (joinS [ByteArray.mk #[98,117,110,100,108,101],shS (Shp.mk u.h u.x u.c),ByteArray.mk #[99,108,97,115,115,101,115],dg u.cl,ByteArray.mk #[109,111,100,101,108,115],dg ((K_ mdlC u.m).length:Int),ByteArray.mk #[99,111,115,116],dg (endT T T.length).al]))]]) (l:=[joinS [ByteArray.mk #[98,117,110,100,108,101],shS (Shp.mk u.h u.x u.c),ByteArray.mk #[99,108,97,115,115,101,115],dg u.cl,ByteArray.mk #[109,111,100,101,108,115],dg ((K_ mdlC u.m).length:Int),ByteArray.mk #[99,111,115,116],dg (endT T T.length).al]]) (m:=mdK [joinS [ByteArray.mk #[98,117,110,100,108,101],shS (Shp.mk u.h u.x u.c),ByteArray.mk #[99,108,97,115,115,101,115],dg u.cl,ByteArray.mk #[109,111,100,101,108,115],dg ((K_ mdlC u.m).length:Int),ByteArray.mk #[99,111,115,116],dg (endT T T.length).al]] u T 0) (by first|(simp only[X_,Z_,AP_,AR_,U_,AK_,AL_];done)|rfl|(simp only[X_,Z_,AP_,AR_,U_,AK_,AL_];rfl)|(simp only[X_,Z_,AP_,AR_,U_,AK_,AL_,rowS,ints];done)) (show ([joinS [ByteArray.mk #[98,117,110,100,108,101],shS (Shp.mk u.h u.x u.c),ByteArray.mk #[99,108,97,115,115,101,115],dg u.cl,ByteArray.mk #[109,111,100,101,108,115],dg ((K_ mdlC u.m).length:Int),ByteArray.mk #[99,111,115,116],dg (endT T T.length).al]])=(mdK [joinS [ByteArray.mk #[98,117,110,100,108,101],shS (Shp.mk u.h u.x u.c),ByteArray.mk #[99,108,97,115,115,101,115],dg u.cl,ByteArray.mk #[109,111,100,101,108,115],dg ((K_ mdlC u.m).length:Int),ByteArray.mk #[99,111,115,116],dg (endT T T.length).al]] u T 0) from (by rfl))))) oz11)
noncomputable def lasg_r_A (s:ByteArray) (B:List ByteArray) (R:LoopR):VS:=stt 26 [(6,.ptr 100001 0 0),(20,st s)] [(950,.slc 9 1 (B.map rowS)),(100000,.lp false R lt50),(100001,.var [.own 950])]
noncomputable def lasg_r_Z (s:ByteArray) (B:List ByteArray) (R:LoopR):VS:=stt 26 [(6,.ptr 100001 0 0),(7,st s)] [(950,.slc 9 1 (B.map rowS)),(100000,.lp false R lt50),(100001,.var [.own 950])]
theorem lasg_r (s:ByteArray) (B:List ByteArray) (R:LoopR)  (rd:Nat):VTo (some rd) L_ (fnC Tryz.f8 [1,1,1,1,0,1,0,0]) (lasg_r_A s B R) .normal (lasg_r_Z s B R):=by
 exact VTo.run (W:=[r_]) (G:=[.any [20],.sort]) (by kernel_rfl) (by kernel_rfl) (.n)
noncomputable def lbody_r_A (s:ByteArray) (B:List ByteArray) (R:LoopR):VS:=stt 26 [(6,.ptr 100001 0 0),(7,st s)] [(950,.slc 9 1 (B.map rowS)),(100000,.lp true R lt50),(100001,.var [.own 950])]
noncomputable def lbody_r_Z (s:ByteArray) (B:List ByteArray) (R:LoopR):VS:=stt 26 [] [(951,.slc 9 1 ((B++[s]).map rowS)),(100000,.lp true R lt50),(100001,.var [.own 951])]
theorem lbody_r (s:ByteArray) (B:List ByteArray) (R:LoopR) (hB:B.length≤499) (rd:Nat):VTo (some rd) L_ (fnC Tryz.f8 [1,1,1,1,0,1,0,1]) (lbody_r_A s B R) .normal (lbody_r_Z s B R):=by
 exact VTo.run (W:=[r_]) (G:=[.any [6,7,21,22,23,24],.drop [23],.ren 24 951,.blk 951 (Blk.slc 9 1 (K_ rowS (B++[s]))),.sort]) (by kernel_rfl) (by kernel_rfl) (.d3 (show ((K_ rowS B).length+1)*16≤140737488355328 by (simp only[T_];omega)) (show (K_ rowS B).length+1≤9223372036854775807 by (simp only[T_];omega)) (show BlkW (Blk.slc 9 1 (K_ rowS B++[[AV.lit (Q_ s)]])) (Blk.slc 9 1 (K_ rowS (B++[s]))) from (BB_ (e:=9) (z:=1) (rows_to (rowS) (r:=K_ rowS B++[[AV.lit (Q_ s)]]) (l:=B++[s]) (m:=B++[s]) (by first|(simp only[X_,Z_,AP_,AR_,U_,AK_,AL_];done)|rfl|(simp only[X_,Z_,AP_,AR_,U_,AK_,AL_];rfl)|(simp only[X_,Z_,AP_,AR_,U_,AK_,AL_,rowS,ints];done)) rfl))))
noncomputable def lnR:LoopR:=⟨#[20],fnC Tryz.f8 [1,1,1,1,0,1,0,0],fnC Tryz.f8 [1,1,1,1,0,1,0,1]⟩
theorem lround_v:YldS lnR:=by
 intro B s hB
 have e1:(⟨putPs lt50 lnR.ps.toList [st s],[(950,.slc 9 1 (B.map rowS)),(100000,.lp false lnR lt50),(100001,.var [.own 950])]⟩:VS)=lasg_r_A s B lnR:=by kernel_rfl
 have e2:(⟨(lasg_r_Z s B lnR).t,put1 100000 (.lp true lnR lt50) (lasg_r_Z s B lnR).o⟩:VS)=lbody_r_A s B lnR:=by kernel_rfl
 have e3:put1 100000 (.lp false lnR lt50) (lbody_r_Z s B lnR).o=[(951,.slc 9 1 ((B++[s]).map rowS)),(100000,.lp false lnR lt50),(100001,.var [.own 951])]:=by kernel_rfl
 have l1:look (lasg_r_Z s B lnR).o 100000=some (.lp false lnR lt50):=by kernel_rfl
 have l2:look (lbody_r_Z s B lnR).o 100000=some (.lp true lnR lt50):=by kernel_rfl
 have l0:look [(950,Blk.slc 9 1 (B.map rowS)),(100000,.lp false lnR lt50),(100001,.var [.own 950])] 100000=some (.lp false lnR lt50):=by kernel_rfl
 rw[←e3]
 refine VY.of (R:=lnR) (t:=lt50) (t':=lt50) (t'':=lt50) (t1:=(lasg_r_Z s B lnR).t) (o1:=(lasg_r_Z s B lnR).o) (t2:=(lbody_r_Z s B lnR).t) (o2:=(lbody_r_Z s B lnR).o) rfl l0 (fun q=>?_) l1 (fun q=>?_) l2
 ·rw[e1];exact lasg_r s B lnR q
 ·rw[e2];exact lbody_r s B lnR hB q
noncomputable def lnI (u:Bun) (T:List (List Int)):VS:=stt 26 [(6,.ptr 6 0 0),(19,.clo 32 [.ptr 960 0 0,.ptr 961 0 0])] [(6,.var [.own 900]),(900,.slc 9 1 (([]:List ByteArray).map rowS)),(960,.var [.sl 1 (T.map intsC)]),(961,.var (bunC u))]
noncomputable def lnZ (u:Bun) (T:List (List Int)) (L:List ByteArray):VS:=stt 26 [(6,.ptr 6 0 0),(19,.clo 32 [.ptr 960 0 0,.ptr 961 0 0])] [(6,.var [.own 980]),(960,.var [.sl 1 (T.map intsC)]),(961,.var (bunC u)),(980,.slc 9 1 (L.map rowS))]
def vrangeG (P:Program) (gv:Operand) (ps:Array Tmp) (asg body:Code) (σ:VS) (dr:List Nat) (kl kp:Nat) (ren out:List (Nat×Nat)) (r:AV) (o':List (Nat×Blk)) (G:List GI):Option (List Prop×VS):=match vrange P gv ps asg body σ dr kl kp ren out r o' with
 | some (ob,σ1)=>match ghosts G σ1 with
  | some (ob2,σ2)=>some (ob++ob2,σ2)
  | none=>none
 | none=>none
theorem VT.rangeG {P:Program} {gv:Operand} {ps:Array Tmp} {asg body:Code} {σ σ':VS} {dr:List Nat} {kl kp:Nat} {ren out:List (Nat×Nat)} {r:AV} {o':List (Nat×Blk)} {G:List GI} {ob:List Prop} (h:vrangeG P gv ps asg body σ dr kl kp ren out r o' G=some (ob,σ')) (hob:All ob):VT P (.rangeFunc gv ps asg body) σ .normal σ':=by
 unfold vrangeG at h
 split at h
 ·rename_i ob1 σ1 h1
  split at h
  ·rename_i ob2 σ2 h2
   injection h with h;injection h with a1 a2;subst a1 a2
   exact (VT.range h1 (All.app hob).1).post h2 (All.app hob).2
  ·cases h
 ·cases h
theorem lncode:fnC Tryz.f8 [1,1,1,1,0,1,0]=.rangeFunc (.tmp 19) #[20] (fnC Tryz.f8 [1,1,1,1,0,1,0,0]) (fnC Tryz.f8 [1,1,1,1,0,1,0,1]):=by kernel_rfl
abbrev lnL (u:Bun) (T:List (List Int)):List ByteArray:=mdK [joinS [⟨#[98,117,110,100,108,101]⟩,shS u.inp,⟨#[99,108,97,115,115,101,115]⟩,dg u.cl,⟨#[109,111,100,101,108,115]⟩,dg ((K_ mdlC u.m).length:Int),⟨#[99,111,115,116]⟩,dg (endT T T.length).al]] u T u.m.length
theorem lnL_eq (u:Bun):lnL u (tabK u u.m.length)=linesU u:=by
 unfold lnL linesU
 rw[joinS_b,T_]
theorem lrange_v (u:Bun) (T:List (List Int)) (ok:u.Ok) (sm:u.Sm) (hT:TB T) (hl:T.length=u.m.length) (ht:∀ j,j<u.m.length→(T.getD j default).length=(u.m.getD j default).l.length) (h:∀ j,j<u.m.length→MOK (u.m.getD j default).l u.inp):VT L_ (fnC Tryz.f8 [1,1,1,1,0,1,0]) (lnI u T) .normal (lnZ u T (lnL u T)):=by
 rw[lncode]
 have hv:=lnz_v u T lnR lround_v ok sm hT hl ht h
 have key:vrangeG L_ (.tmp 19) #[20] (fnC Tryz.f8 [1,1,1,1,0,1,0,0]) (fnC Tryz.f8 [1,1,1,1,0,1,0,1]) (lnI u T) [19] 970 100000 [(900,950),(970,100000),(6,100001),(960,100002),(961,100003)] [(951,980)] (.tup []) [(951,.slc 9 1 ((lnL u T).map rowS)),(100000,.lp false lnR lt50),(100001,.var [.own 951]),(100002,.var [.sl 1 (T.map intsC)]),(100003,.var (bunC u))] [.sort]=some ([VM L_ 32 [.yl 100000,.ptr 100002 0 0,.ptr 100003 0 0] [(950,.slc 9 1 (([]:List ByteArray).map rowS)),(100000,.lp false lnR lt50),(100001,.var [.own 950]),(100002,.var [.sl 1 (T.map intsC)]),(100003,.var (bunC u))] (.tup []) [(951,.slc 9 1 ((lnL u T).map rowS)),(100000,.lp false lnR lt50),(100001,.var [.own 951]),(100002,.var [.sl 1 (T.map intsC)]),(100003,.var (bunC u))]],lnZ u T (lnL u T)):=by
  kernel_rfl
 exact VT.rangeG key ⟨hv,trivial⟩
theorem lines_w (u:Bun) (v:VBun u):VC L_ 8 ([bun u]) (.tup [strs (lnL u (tabK u u.m.length)),i64 0]):=by
 have q0:=v.ok
 have q1:=v.sm
 have q2:=q1.l
 have q4:=v.s
 have q5:=tabK_bd q1 _ (AU_ _)
 have q6:=tabK_len u u.m.length
 have q7:∀ j,j<u.m.length→((tabK u u.m.length).getD j default).length=(u.m.getD j default).l.length:=fun j hj=>by rw[tabK_get u hj,rowK_len]
 have q8:∀ l∈tabK u u.m.length,l.length≤1000:=fun l hl=>by have:=(q5 l hl).1;omega
 have oz0:=@new_y (u) v
 have oz2:=@tabl_v (u) (tabK u u.m.length) (inW u u.m.length) (by omega) q8
 have oz3:=@lines50_v (u) (tabK u u.m.length)
 have oz4:=@lrange_v (u) (tabK u u.m.length) q0 q1 q5 q6 q7 q4
 exact cR_ [r_,.r [] [.callm [] [(951,20000)] (rM oz0) (oM oz0)],r_,d_,r_,.r [] [.callm [(20000,100000)] [] (rM oz2) (oM oz2),.callm [] [(951,20001),(952,20002)] (rM oz3) (oM oz3)],.code [.any (rg [(0,6),(8,7),(16,3)]),.drop [1,20000],.ren 20002 961,.ren 20001 960,.nilc 900 9 1 6 0,.sort] (Exit.normal) (zO oz4),r_] _ Tryz.func8 (.d5 oz0 z1_ oz2 oz3 oz4)
theorem lines_y (u:Bun) (v:VBun u):VC L_ 8 [bun u] (.tup [strs (linesU u),i64 0]):=by
 have:=lines_w u v
 rw[lnL_eq] at this;exact this
theorem lines_n (u:Bun) (ok:u.Ok) (sm:u.Sm) (h:(bunE u).w≠0):VC L_ 8 ([bun u]) (.tup [nilv,i64 (bunE u).w]):=by
 have q8:((bunE u).w != 0)=true:=by simpa using h
 have oz0:=@new_n (u) ok sm h
 exact cR_ [r_,.r [] [cr oz0],r_,b_,r_] _ Tryz.func8 (.d2 oz0 q8)
def cntI (c:Int) (l:List Blc):Nat→Int
 | 0=>c
 | k+1=>cntI c l k+(1+((K_ nodC (l.getD k default).n).length:Int))
theorem cntI_eq (c:Int) (l:List Blc):∀ k,cntI c l k=c+(cnB l k:Int)
 | 0=>by rw[cntI,cnB];omega
 | k+1=>by rw[cntI,cntI_eq c l k,cnB,T_];omega
noncomputable def rcnt_i_I (u:Bun) (L:List ByteArray) (i:Nat) (c:Int) (k:Nat):VS:=stt 66 [(1,.ptr 1 0 0),(3,strs L),(5,i64 (cntI c (u.m.getD i default).l k)),(6,i64 i),(7,i64 k)] [(1,.var (bunC u))]
noncomputable def rcnt_i_Z (u:Bun) (L:List ByteArray) (i:Nat) (c:Int):VS:=rcnt_i_I u L i c ((u.m.getD i default).l.length)
theorem rcnt_i_s (u:Bun) (L:List ByteArray) (i:Nat) (c:Int) (hi:i<u.m.length) (hl:(u.m.getD i default).l.length≤8) (sm:∀ x∈(u.m.getD i default).l,x.Sm) (hc:0≤c∧c≤1000) (k:Nat) (hk:k<(u.m.getD i default).l.length):VT L_ (fnC Tryz.f5 [1,1,1,1,1,0,1,0,0,1,0,0,1,1,0,0]) (rcnt_i_I u L i c k) .normal (rcnt_i_I u L i c (k+1)):=by
 have q1:=(getD_in sm hk).l
 have q2:=cnB_le (fun x hx=>(sm x hx).l) k (by omega)
 have q3:=cntI_eq c (u.m.getD i default).l k
 have q4:(K_ nodC ((u.m.getD i default).l.getD k default).n).length≤12:=by rw[T_];exact q1
 have oz0:=(s_ (0≤(↑i:Int)))
 have oz1:=(map_at (mdlC) (default) (l:=u.m) (i:=i) hi)
 have oz6:=(map_at (blcC) (default) (l:=(u.m.getD i default).l) (i:=k) hk)
 have oz7:=(i6n (1+((K_ nodC ((u.m.getD i default).l.getD k default).n).length:Int)) (by omega))
 have oz8:=(i6n (cntI c (u.m.getD i default).l k+(1+((K_ nodC ((u.m.getD i default).l.getD k default).n).length:Int))) (by omega))
 have oz10:=(N_ (k:=.i64) (show ((cntI c (u.m.getD i default).l k+(1+((K_ nodC ((u.m.getD i default).l.getD k default).n).length:Int))):Int)=(cntI c (u.m.getD i default).l (k+1)) from (by rfl)))
 exact tR_ [.r [] [.row (sO oz1)],b_,.r [] [.row (sO oz1),.row (sO oz6),.n (nO oz7),.n (nO oz8)],.r [] [.n ((↑k:Int)+1)]] [.any (rg [(34,25)]),.weak 5 (wO oz10),.weak 7 (i64 (↑(k+1):Int)),.sort] (.c8 oz0 oz1 (show decide ((↑k:Int)<((K_ blcC (u.m.getD i default).l).length:Int))=true by (simp at *;omega)) oz0 oz1 (s_ (0≤(↑k:Int))) oz6 oz7<|.d4 oz8 (i6n ((↑k:Int)+1) (by omega)) oz10 (wS_ k))
theorem rcnt_i_e (u:Bun) (L:List ByteArray) (i:Nat) (c:Int) (hi:i<u.m.length) (hl:(u.m.getD i default).l.length≤8) (sm:∀ x∈(u.m.getD i default).l,x.Sm) (hc:0≤c∧c≤1000):VT L_ (fnC Tryz.f5 [1,1,1,1,1,0,1,0,0,1,0,0,1,1,0,0]) (rcnt_i_I u L i c ((u.m.getD i default).l.length)) (.exit 2) (rcnt_i_Z u L i c):=by
 have oz1:=(map_at (mdlC) (default) (l:=u.m) (i:=i) hi)
 exact tR_ [.r [] [.row (sO oz1)],d_] [.any (rg [(34,9)]),.sort] (.d3 (s_ (0≤(↑i:Int))) oz1 (show decide ((↑(u.m.getD i default).l.length:Int)<((K_ blcC (u.m.getD i default).l).length:Int))=false by (simp;done)))
theorem rcnt_i (u:Bun) (L:List ByteArray) (i:Nat) (c:Int) (hi:i<u.m.length) (hl:(u.m.getD i default).l.length≤8) (sm:∀ x∈(u.m.getD i default).l,x.Sm) (hc:0≤c∧c≤1000):VT L_ (fnC Tryz.f5 [1,1,1,1,1,0,1,0,0,1,0,0,1,1,0]) (rcnt_i_I u L i c 0) (.exit 2) (rcnt_i_Z u L i c) :=
 VT.loop (fun k=>rcnt_i_I u L i c k) ((u.m.getD i default).l.length) (fun k hk=>rcnt_i_s u L i c hi hl sm hc k hk) (rcnt_i_e u L i c hi hl sm hc) (by intro h;cases h)
noncomputable def rcnt_o_I (u:Bun) (L:List ByteArray) (k:Nat):VS:=stt 66 [(1,.ptr 1 0 0),(3,strs L),(5,i64 (1+(cnM u k:Int))),(6,i64 k)] [(1,.var (bunC u))]
noncomputable def rcnt_o_Z (u:Bun) (L:List ByteArray):VS:=rcnt_o_I u L (u.m.length)
theorem rcnt_o_s (u:Bun) (L:List ByteArray) (sm:u.Sm) (k:Nat) (hk:k<u.m.length):VT L_ (fnC Tryz.f5 [1,1,1,1,1,0,1,0,0]) (rcnt_o_I u L k) .normal (rcnt_o_I u L (k+1)):=by
 have q0:=sm.l
 have q1:=(getD_in sm.m hk).2
 have q2:=(getD_in sm.m hk).1
 have q3:=cnM_le sm k (by omega)
 have oz3:=@rcnt_i (u) (L) (k) (1+(↑(cnM u k):Int)+1) hk q2 q1 (by omega)
 have oz5:=(N_ (k:=.i64) (show ((cntI (1+(↑(cnM u k):Int)+1) (u.m.getD k default).l (u.m.getD k default).l.length):Int)=(1+(↑(cnM u (k+1)):Int)) from (by (rw[cntI_eq,cnM];omega))))
 exact tR_ [r_,b_,.r [] [.n (1+(↑(cnM u k):Int)+1)],r_,.code [.any (rg [(25,5),(32,2)]),.weak 7 (i64 (↑0:Int)),.sort] (BM_ 2) (zO oz3),.r [] [.n ((↑k:Int)+1)]] [.any [7,30,31],.weak 5 (wO oz5),.weak 6 (i64 (↑(k+1):Int)),.sort] (.d7 (show decide ((↑k:Int)<((K_ mdlC u.m).length:Int))=true by (simp;omega)) (i6n (1+(↑(cnM u k):Int)+1) (by omega)) w0_ oz3 (i6n ((↑k:Int)+1) (by omega)) oz5 (wS_ k))
theorem rcnt_o_e (u:Bun) (L:List ByteArray) (sm:u.Sm):VT L_ (fnC Tryz.f5 [1,1,1,1,1,0,1,0,0]) (rcnt_o_I u L (u.m.length)) (.exit 0) (rcnt_o_Z u L):=by
 exact tR_ [r_,d_] [.any (rg [(25,5)]),.sort] (.d (show decide ((u.m.length:Int)<((K_ mdlC u.m).length:Int))=false by (simp;done)))
theorem rcnt_o (u:Bun) (L:List ByteArray) (sm:u.Sm):VT L_ (fnC Tryz.f5 [1,1,1,1,1,0,1,0]) (rcnt_o_I u L 0) (.exit 0) (rcnt_o_Z u L) :=
 VT.loop (fun k=>rcnt_o_I u L k) (u.m.length) (fun k hk=>rcnt_o_s u L sm k hk) (rcnt_o_e u L sm) (by intro h;cases h)
theorem reportCounts_f (u:Bun) (h:bunS u=false):VC L_ 5 ([bun u]) (bv true):=by
 have oz0:=@few31_v (u)
 have oz2:=@known50_v
 exact cR_ [r_,.r [] [cr oz0],b_,.r [] [cr oz2]] _ Tryz.func5 (.d3 oz0 (show (!bunS u)=true by (simp;omega)) oz2)
theorem reportCounts_n (u:Bun) (ok:u.Ok) (few:bunS u=true) (h:(bunE u).w≠0):VC L_ 5 ([bun u]) (bv true):=by
 have sm:=Bun.sm few
 have oz0:=@few31_v (u)
 have oz2:=@lines_n (u) ok sm h
 have oz4:=z0_
 have oz5:=@known50_v
 exact cR_ [r_,.r [] [cr oz0],d_,.r [] [cr oz2],r_,b_,.r [] [e_,cr oz5,e_]] _ Tryz.func5 (.d7 oz0 (show (!bunS u)=false by (simp;omega)) oz2 (show ((bunE u).w != 0)=true by (simp;omega)) oz4 oz5 oz4)
theorem reportCounts_y (u:Bun) (few:bunS u=true) (v:VBun u):VC L_ 5 ([bun u]) (bv true):=by
 have q0:=v.sm
 have q2:=(linesU_len v.sm).1
 have oz0:=@few31_v (u)
 have oz2:=@lines_y (u) v
 have oz6:=@rcnt_o (u) (linesU u) q0
 have oz7:=@known50_v
 exact (cR_ [r_,.r [] [cr oz0],d_,.r [] [cr oz2],r_,d_,r_,r_,.code [.any (rg [(0,1),(2,1),(4,1),(8,3),(12,7)]),.weak 5 (i64 (1+(↑(cnM u 0):Int))),.weak 6 (i64 (↑0:Int)),.sort] (BM_ 0) (zO oz6),.r [] [o_,cr oz7,.sel 1]] (bv (((K_ rowS (linesU u)).length:Int)==1+(↑(cnM u u.m.length):Int) || false)) Tryz.func5 (.d8 oz0 (show (!bunS u)=false by (simp;omega)) oz2 z1_ (N_ (k:=.i64) (show ((1):Int)=(1+(↑(cnM u 0):Int)) from (by rfl))) w0_ oz6 oz7)).weak (D_ _) (Weak.bool (by (simp;omega)))
theorem reportCounts_v (u:Bun) (ok:u.Ok):VC L_ 5 [bun u] (bv true):=by
 cases few:bunS u with
 | false=>exact reportCounts_f u few
 | true =>
  by_cases h:(bunE u).w=0
  ·exact reportCounts_y u few (VBun.of ok few h)
  ·exact reportCounts_n u ok few h
end Go.Proofs.YtdmkhinckljddaaGreatDoor
