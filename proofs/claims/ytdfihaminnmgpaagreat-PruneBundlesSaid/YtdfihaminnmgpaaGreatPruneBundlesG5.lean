/- A part of this claim. No condition. -/
import Derived.Test.YtdfihaminnmgpaaGreatPruneBundlesG4
set_option maxRecDepth 100000
set_option maxHeartbeats 2000000
set_option linter.unusedVariables false
set_option linter.unusedSimpArgs false
set_option linter.unnecessarySimpa false
namespace Go.Proofs.YtdfihaminnmgpaaGreat
open Go.RowKit
open BlkW renaming rows→BU_
open Bool renaming and_eq_true→O_,and_eq_false_iff→P_,or_eq_false_iff→Q_,not_eq_false'→T_,not_eq_true'→U_,or_eq_true→X_,and_true→B_,false_and→AD_,not_eq_eq_eq_not→BL_,true_and→BN_,not_false→BP_,and_false→BR_,not_true→BS_,false_or→BT_,false_eq_true→BV_,or_false→BW_,true_eq_false→CH_
open Exit renaming exit→AA_,ret→DN_
open Int renaming mul_nonneg→BK_,toNat_natCast→BO_,not_lt→CO_,mul_le_mul_of_nonneg_right→CQ_,not_le→CF_
open List renaming map→K_,length_map→S_,getD_eq_getElem?_getD→Z_,map_replicate→A_,map_append→C_,map_cons→D_,map_take→AK_,map_drop→AL_,map_nil→AM_,map_set→AN_,getElem?_map→AR_,length_append→AX_,length_take→AE_,length_range→AG_,length_replicate→AH_,length_cons→AJ_,range→BM_,map_eq_nil_iff→BQ_,length_drop→BZ_,length_set→BA_,length_nil→BB_,all_eq_true→CZ_
open Nat renaming le_refl→AT_,zero_add→BX_,add_mul→BI_
open Tryz renaming prog→N_
open Value renaming slice→AY_
open Weak renaming int→M_,tup→AS_,agg→AV_,bool→DK_
open WeakL renaming refl→Y_
def Rng.In8 (a:Rng):Prop:=Go.Proofs.YtdfihaminnmgpaaGreat.In8 a.lo∧Go.Proofs.YtdfihaminnmgpaaGreat.In8 a.hi
def nodeR (n:Nod) (a b:Rng):Rng×Int :=
 if checkE n≠0 then (⟨0,0⟩,checkE n) else if a.lo>a.hi∨(n.kd=6∧b.lo>b.hi) then (⟨0,0⟩,2)
 else if n.kd=1∨n.kd=2∨n.kd=3 then sumG n a
 else if n.kd=6 then (⟨joinE a.lo b.lo n,joinE a.hi b.hi n⟩,0)
 else if n.kd=7 then (⟨oneN a.lo n,oneN a.hi n⟩,0)
 else if n.kd=8∧n.np>0 then (⟨min a.lo n.za,max a.hi n.za⟩,0) else (a,0)
noncomputable def ends64_l_I (a:Int) (l:List Int) (k:Nat):VS:=stt 27 [(6,i64 (foldR a l k).lo),(7,i64 (foldR a l k).hi),(12,ints .i64 l),(13,i64 l.length),(14,i64 k)] []
noncomputable def ends64_l_Z (a:Int) (l:List Int):VS:=ends64_l_I a l (l.length)
theorem ends64_l_s (a:Int) (l:List Int) (hl:l.length≤1000) (k:Nat) (hk:k<l.length):VT N_ (fnC Tryz.f182 [1,1,0,1,0,0]) (ends64_l_I a l k) .normal (ends64_l_I a l (k+1)):=by
 have oz4:=(M_ (k:=.i64) (show ((if l.getD k 0<(foldR a l k).lo then l.getD k 0 else (foldR a l k).lo):Int)=((foldR a l (k+1)).lo) from (by (simp only[foldR];split<;>omega))))
 have oz5:=(M_ (k:=.i64) (show ((if l.getD k 0>(foldR a l k).hi then l.getD k 0 else (foldR a l k).hi):Int)=((foldR a l (k+1)).hi) from (by (simp only[foldR];split<;>omega))))
 exact tR_ [r_,b_,.r [] [.row [i64 (l.getD k 0)]],r_,.r [] [.n ((↑k:Int)+1)]] [.any (rg [(9,1),(15,10)]),.weak 6 (wO oz4),.weak 7 (wO oz5),.weak 14 (i64 (↑(k+1):Int)),.sort] (.d7 (decide_eq_true (p:=((↑k:Int)<(l.length:Int))) (by omega)) (s_ (0≤(↑k:Int))) (map_at (row1 .i64) (0) (l:=l) (i:=k) hk) (i6n ((↑k:Int)+1) (by omega)) oz4 oz5 (wS_ k))
theorem ends64_l_e (a:Int) (l:List Int) (hl:l.length≤1000):VT N_ (fnC Tryz.f182 [1,1,0,1,0,0]) (ends64_l_I a l (l.length)) (.exit 0) (ends64_l_Z a l):=by
 exact tR_ [r_,d_] [.any [15],.sort] (.d (decide_eq_false (p:=((l.length:Int)<(l.length:Int))) (by omega)))
theorem ends64_l (a:Int) (l:List Int) (hl:l.length≤1000):VT N_ (fnC Tryz.f182 [1,1,0,1,0]) (ends64_l_I a l 0) (.exit 0) (ends64_l_Z a l) :=
 VT.loop (fun k=>ends64_l_I a l k) (l.length) (fun k hk=>ends64_l_s a l hl k hk) (ends64_l_e a l hl) (by intro h;cases h)
theorem ends64_v (a:Int) (l:List Int) (hl:l.length≤1000):VC N_ 182 ([i64 a,ints .i64 l]) (.tup [i64 (foldR a l l.length).lo,i64 (foldR a l l.length).hi]):=by
 have oz1:=(M_ (k:=.i64) (show ((((K_ (row1 .i64) l).length:Int)):Int)=((l.length:Int)) from (by (simp;done))))
 have oz3:=@ends64_l (a) (l) hl
 exact cR_ [r_,r_,r_,.code [.any [0,1,4,5,10,11],.weak 7 (i64 (foldR a l 0).hi),.weak 13 (wO oz1),.weak 14 (i64 (↑0:Int)),.sort] (AA_ 0) (zO oz3),r_] _ Tryz.func182 (.d4 (M_ (k:=.i64) (show ((a):Int)=((foldR a l 0).hi) from (by rfl))) oz1 w0_ oz3)
theorem ends64_1 (a b:Int):VC N_ 182 [i64 a,.sl 1 [[i64 b]]] (.tup [i64 (min a b),i64 (max a b)]):=ends64_v a [b] (by simp)
noncomputable def ends8_l_I (a:Int) (l:List Int) (k:Nat):VS:=stt 27 [(6,i8 (foldR a l k).lo),(7,i8 (foldR a l k).hi),(12,ints .i8 l),(13,i64 l.length),(14,i64 k)] []
noncomputable def ends8_l_Z (a:Int) (l:List Int):VS:=ends8_l_I a l (l.length)
theorem ends8_l_s (a:Int) (l:List Int) (hl:l.length≤1000) (k:Nat) (hk:k<l.length):VT N_ (fnC Tryz.f216 [1,1,0,1,0,0]) (ends8_l_I a l k) .normal (ends8_l_I a l (k+1)):=by
 have oz4:=(M_ (k:=.i8) (show ((if l.getD k 0<(foldR a l k).lo then l.getD k 0 else (foldR a l k).lo):Int)=((foldR a l (k+1)).lo) from (by (simp only[foldR];split<;>omega))))
 have oz5:=(M_ (k:=.i8) (show ((if l.getD k 0>(foldR a l k).hi then l.getD k 0 else (foldR a l k).hi):Int)=((foldR a l (k+1)).hi) from (by (simp only[foldR];split<;>omega))))
 exact tR_ [r_,b_,.r [] [.row [i8 (l.getD k 0)]],r_,.r [] [.n ((↑k:Int)+1)]] [.any (rg [(9,1),(15,10)]),.weak 6 (wO oz4),.weak 7 (wO oz5),.weak 14 (i64 (↑(k+1):Int)),.sort] (.d7 (decide_eq_true (p:=((↑k:Int)<(l.length:Int))) (by omega)) (s_ (0≤(↑k:Int))) (map_at (row1 .i8) (0) (l:=l) (i:=k) hk) (i6n ((↑k:Int)+1) (by omega)) oz4 oz5 (wS_ k))
theorem ends8_l_e (a:Int) (l:List Int) (hl:l.length≤1000):VT N_ (fnC Tryz.f216 [1,1,0,1,0,0]) (ends8_l_I a l (l.length)) (.exit 0) (ends8_l_Z a l):=by
 exact tR_ [r_,d_] [.any [15],.sort] (.d (decide_eq_false (p:=((l.length:Int)<(l.length:Int))) (by omega)))
theorem ends8_l (a:Int) (l:List Int) (hl:l.length≤1000):VT N_ (fnC Tryz.f216 [1,1,0,1,0]) (ends8_l_I a l 0) (.exit 0) (ends8_l_Z a l) :=
 VT.loop (fun k=>ends8_l_I a l k) (l.length) (fun k hk=>ends8_l_s a l hl k hk) (ends8_l_e a l hl) (by intro h;cases h)
theorem ends8_v (a:Int) (l:List Int) (hl:l.length≤1000):VC N_ 216 ([i8 a,ints .i8 l]) (.tup [i8 (foldR a l l.length).lo,i8 (foldR a l l.length).hi]):=by
 have oz1:=(M_ (k:=.i64) (show ((((K_ (row1 .i8) l).length:Int)):Int)=((l.length:Int)) from (by (simp;done))))
 have oz3:=@ends8_l (a) (l) hl
 exact cR_ [r_,r_,r_,.code [.any [0,1,4,5,10,11],.weak 7 (i8 (foldR a l 0).hi),.weak 13 (wO oz1),.weak 14 (i64 (↑0:Int)),.sort] (AA_ 0) (zO oz3),r_] _ Tryz.func216 (.d4 (M_ (k:=.i8) (show ((a):Int)=((foldR a l 0).hi) from (by rfl))) oz1 w0_ oz3)
theorem ends8_2 (a b c:Int):VC N_ 216 [i8 a,.sl 1 [[i8 b],[i8 c]]] (.tup [i8 (min (min a b) c),i8 (max (max a b) c)]):=ends8_v a [b,c] (by simp)
theorem over_v (a b c:Int)  : VC N_ 206 ([i8 a,.sl 1 [[i8 b],[i8 c]]]) (rch ⟨min (min a b) c,max (max a b) c⟩):=by
 have oz0:=@ends8_2 (a) (b) (c)
 exact cR_ [r_,.r [] [cr oz0],r_] _ Tryz.func206 (.d oz0)
theorem gnode_v (n:Nod) (a b:Rng) (ok:n.Ok) (ha:a.In8) (hb:b.In8) (wl:n.w.length≤100000) (bl:n.b.length≤100000):VC N_ 183 ([nod n,rch a,rch b]) (.tup [rch (nodeR n a b).1,i64 (nodeR n a b).2]):=by
 have ok_kd:=ok.kd
 obtain ⟨p1,p2⟩:=id ha
 obtain ⟨p3,p4⟩:=id hb
 have oz0:=@check_v (n) wl bl ok_kd
 rcases bft (checkE n != 0) with hc0|hc0
 ·have gc0:¬checkE n=0:=bdt hc0
  exact (cR_ [r_,.r [] [cr oz0],r_,b_,r_] (AV.tup [AV.agg [i8 0,i8 0],i64 (checkE n)]) Tryz.func183 (.d2 oz0 hc0)).weak (Y_ _) (AS_ (.cons (AV_ (.cons (M_ (by (unfold nodeR;(repeat first|rw[i_ (by omega)]|rw[j_ (by omega)])))) (.cons (M_ (by (unfold nodeR;(repeat first|rw[i_ (by omega)]|rw[j_ (by omega)])))) .nil))) (.cons (M_ (by (unfold nodeR;(repeat first|rw[i_ (by omega)]|rw[j_ (by omega)])))) .nil)))
 ·have gc0:checkE n=0:=bdf hc0
  have oz2:=@upside_v (a.lo) (a.hi)
  have oz3:=@upside_v (b.lo) (b.hi)
  rcases bft (decide (a.lo>a.hi) || n.kd==6&&decide (b.lo>b.hi)) with hc1|hc1
  ·have gc1:a.lo>a.hi∨n.kd=6∧b.lo>b.hi:=gc0_ hc1
   exact (cR_ [r_,.r [] [cr oz0],r_,d_,.r [] [cr oz2,o_,o_,o_,o_,o_,o_,cr oz3,o_,.sel 2,.sel 1],b_,r_] (AV.tup [AV.agg [i8 0,i8 0],i64 2]) Tryz.func183 (.d5 oz0 hc0 oz2 oz3 hc1)).weak (Y_ _) (AS_ (.cons (AV_ (.cons (M_ (by (unfold nodeR;(repeat first|rw[i_ (by omega)]|rw[j_ (by omega)])))) (.cons (M_ (by (unfold nodeR;(repeat first|rw[i_ (by omega)]|rw[j_ (by omega)])))) .nil))) (.cons (M_ (by (unfold nodeR;(repeat first|rw[i_ (by omega)]|rw[j_ (by omega)])))) .nil)))
  ·have gc1:¬a.lo>a.hi∧(¬n.kd=6∨¬b.lo>b.hi):=gc0_ hc1
   have oz5:=@sumsK_v (n.kd)
   rcases bft (n.kd==1 || n.kd==2 || n.kd==3) with hc2|hc2
   ·have gc2:(n.kd=1∨n.kd=2)∨n.kd=3:=gc0_ hc2
    have oz7:=@summed_v (n) (a) ok p1 p2 wl bl
    exact (cR_ [r_,.r [] [cr oz0],r_,d_,.r [] [cr oz2,o_,o_,o_,o_,o_,o_,cr oz3,o_,.sel 2,.sel 1],d_,.r [] [cr oz5],b_,.r [] [cr oz7]] (AV.tup [AV.agg [i8 (sumG n a).fst.lo,i8 (sumG n a).fst.hi],i64 (sumG n a).snd]) Tryz.func183 (.d8 oz0 hc0 oz2 oz3 hc1 oz5 hc2 oz7)).weak (Y_ _) (AS_ (.cons (AV_ (.cons (M_ (by (unfold nodeR;(repeat first|rw[i_ (by omega)]|rw[j_ (by omega)])))) (.cons (M_ (by (unfold nodeR;(repeat first|rw[i_ (by omega)]|rw[j_ (by omega)])))) .nil))) (.cons (M_ (by (unfold nodeR;(repeat first|rw[i_ (by omega)]|rw[j_ (by omega)])))) .nil)))
   ·have gc2:(¬n.kd=1∧¬n.kd=2)∧¬n.kd=3:=gc0_ hc2
    rcases bft (n.kd==6) with hc3|hc3
    ·have gc3:n.kd=6:=bet hc3
     have oz8:=@joinOne_v (a.lo) (b.lo) (n) ok p1 p3
     have oz9:=@joinOne_v (a.hi) (b.hi) (n) ok p2 p4
     exact (cR_ [r_,.r [] [cr oz0],r_,d_,.r [] [cr oz2,o_,o_,o_,o_,o_,o_,cr oz3,o_,.sel 2,.sel 1],d_,.r [] [cr oz5],d_,r_,b_,.r [] [cr oz8,cr oz9]] (AV.tup [AV.agg [i8 (joinE a.lo b.lo n),i8 (joinE a.hi b.hi n)],i64 0]) Tryz.func183 (.c8 oz0 hc0 oz2 oz3 hc1 oz5 hc2 hc3<|.d2 oz8 oz9)).weak (Y_ _) (AS_ (.cons (AV_ (.cons (M_ (by (unfold nodeR;(repeat first|rw[i_ (by omega)]|rw[j_ (by omega)])))) (.cons (M_ (by (unfold nodeR;(repeat first|rw[i_ (by omega)]|rw[j_ (by omega)])))) .nil))) (.cons (M_ (by (unfold nodeR;(repeat first|rw[i_ (by omega)]|rw[j_ (by omega)])))) .nil)))
    ·have gc3:¬n.kd=6:=bef hc3
     rcases bft (n.kd==7) with hc4|hc4
     ·have gc4:n.kd=7:=bet hc4
      have oz9:=@actOne_w (a.lo) (n) ok p1
      have oz10:=@actOne_w (a.hi) (n) ok p2
      exact (cR_ [r_,.r [] [cr oz0],r_,d_,.r [] [cr oz2,o_,o_,o_,o_,o_,o_,cr oz3,o_,.sel 2,.sel 1],d_,.r [] [cr oz5],d_,r_,d_,r_,b_,.r [] [cr oz9,cr oz10]] (AV.tup [AV.agg [i8 (oneN a.lo n),i8 (oneN a.hi n)],i64 0]) Tryz.func183 (.c8 oz0 hc0 oz2 oz3 hc1 oz5 hc2 hc3<|.d3 hc4 oz9 oz10)).weak (Y_ _) (AS_ (.cons (AV_ (.cons (M_ (by (unfold nodeR;(repeat first|rw[i_ (by omega)]|rw[j_ (by omega)])))) (.cons (M_ (by (unfold nodeR;(repeat first|rw[i_ (by omega)]|rw[j_ (by omega)])))) .nil))) (.cons (M_ (by (unfold nodeR;(repeat first|rw[i_ (by omega)]|rw[j_ (by omega)])))) .nil)))
     ·have gc4:¬n.kd=7:=bef hc4
      rcases bft (n.kd==8&&decide (n.np>0)) with hc5|hc5
      ·have gc5:n.kd=8∧n.np>0:=gc0_ hc5
       have oz10:=@over_v (n.za) (a.lo) (a.hi)
       exact (cR_ [r_,.r [] [cr oz0],r_,d_,.r [] [cr oz2,o_,o_,o_,o_,o_,o_,cr oz3,o_,.sel 2,.sel 1],d_,.r [] [cr oz5],d_,r_,d_,r_,d_,.r [] [o_,o_,o_,.sel 2],b_,.r [] [cr oz10]] (AV.tup [AV.agg [i8 (Rng.mk (min (min n.za a.lo) a.hi) (max (max n.za a.lo) a.hi)).lo,i8 (Rng.mk (min (min n.za a.lo) a.hi) (max (max n.za a.lo) a.hi)).hi],i64 0]) Tryz.func183 (.c8 oz0 hc0 oz2 oz3 hc1 oz5 hc2 hc3<|.d3 hc4 hc5 oz10)).weak (Y_ _) (AS_ (.cons (AV_ (.cons (M_ (by (unfold nodeR;(repeat first|rw[i_ (by omega)]|rw[j_ (by omega)]);dsimp only;omega))) (.cons (M_ (by (unfold nodeR;(repeat first|rw[i_ (by omega)]|rw[j_ (by omega)]);dsimp only;omega))) .nil))) (.cons (M_ (by (unfold nodeR;(repeat first|rw[i_ (by omega)]|rw[j_ (by omega)])))) .nil)))
      ·have gc5:¬n.kd=8∨¬n.np>0:=gc0_ hc5
       exact (cR_ [r_,.r [] [cr oz0],r_,d_,.r [] [cr oz2,o_,o_,o_,o_,o_,o_,cr oz3,o_,.sel 2,.sel 1],d_,.r [] [cr oz5],d_,r_,d_,r_,d_,.r [] [o_,o_,o_,.sel 2],d_,r_] (AV.tup [AV.agg [i8 a.lo,i8 a.hi],i64 0]) Tryz.func183 (.c8 oz0 hc0 oz2 oz3 hc1 oz5 hc2 hc3<|.d2 hc4 hc5)).weak (Y_ _) (AS_ (.cons (AV_ (.cons (M_ (by (unfold nodeR;(repeat first|rw[i_ (by omega)]|rw[j_ (by omega)])))) (.cons (M_ (by (unfold nodeR;(repeat first|rw[i_ (by omega)]|rw[j_ (by omega)])))) .nil))) (.cons (M_ (by (unfold nodeR;(repeat first|rw[i_ (by omega)]|rw[j_ (by omega)])))) .nil)))
def stepR (n:Nod) (L:List Rng):Rng×Int:=if thereB n L.length=true then nodeR n (L.getD n.na.toNat default) (L.getD (secN n).toNat default) else (⟨0,0⟩,8)
theorem gstep_v (n:Nod) (L:List Rng) (ok:n.Ok) (okL:∀ r∈L,r.In8) (hL:L.length≤100) (wl:n.w.length≤100000) (bl:n.b.length≤100000):VC N_ 153 ([nod n,.sl 2 (L.map rchC)]) (.tup [rch (stepR n L).1,i64 (stepR n L).2]):=by
 have q1:=@there_iff n L.length
 have q2:(K_ rchC L).length=L.length:=S_ _
 have q3:=fun (h:n.na.toNat<L.length)=>getD_in okL h
 have q4:=fun (h:(secN n).toNat<L.length)=>getD_in okL h
 have q5:n.kd=6→secN n=n.nb:=fun h=>i_ h
 have q6:¬ n.kd=6→secN n=n.na:=fun h=>j_ h
 rcases bft (n.kd==6) with hc0|hc0
 ·have gc0:n.kd=6:=bet hc0
  have oz1:=@ends64_1 (n.na) (n.nb)
  rcases bft (decide (min n.na n.nb<0) || decide (max n.na n.nb≥((K_ rchC L).length:Int))) with hc1|hc1
  ·have gc1:min n.na n.nb<0∨max n.na n.nb≥((K_ rchC L).length:Int):=gc0_ hc1
   exact (cR_ [r_,r_,r_,b_,r_,.r [] [cr oz1],.r [] [o_,o_,o_,o_,.sel 1],b_,r_] (AV.tup [AV.agg [i8 0,i8 0],i64 8]) Tryz.func153 (.d3 hc0 oz1 hc1)).weak (Y_ _) (AS_ (.cons (AV_ (.cons (M_ (by (unfold stepR;rw[j_ (by rw[q1];omega)]))) (.cons (M_ (by (unfold stepR;rw[j_ (by rw[q1];omega)]))) .nil))) (.cons (M_ (by (unfold stepR;rw[j_ (by rw[q1];omega)]))) .nil)))
  ·have gc1:¬min n.na n.nb<0∧¬max n.na n.nb≥((K_ rchC L).length:Int):=gc0_ hc1
   have oz4:=(map_at (rchC) (default) (l:=L) (i:=n.na.toNat) (by omega))
   have oz6:=(map_at (rchC) (default) (l:=L) (i:=n.nb.toNat) (by omega))
   have oz7:=@gnode_v (n) (L.getD n.na.toNat default) (L.getD n.nb.toNat default) ok (by (exact q3 (by omega))) (by (rw[←q5 (by omega)];exact q4 (by rw[q5 (by omega)];omega))) wl bl
   exact (cR_ [r_,r_,r_,b_,r_,.r [] [cr oz1],.r [] [o_,o_,o_,o_,.sel 1],d_,.r [] [.row (sO oz4),.row (sO oz6),cr oz7]] (AV.tup [AV.agg [i8 (nodeR n (L.getD n.na.toNat default) (L.getD n.nb.toNat default)).fst.lo,i8 (nodeR n (L.getD n.na.toNat default) (L.getD n.nb.toNat default)).fst.hi],i64 (nodeR n (L.getD n.na.toNat default) (L.getD n.nb.toNat default)).snd]) Tryz.func153 (.d8 hc0 oz1 hc1 (s_ (0≤n.na)) oz4 (s_ (0≤n.nb)) oz6 oz7)).weak (Y_ _) (AS_ (.cons (AV_ (.cons (M_ (by (unfold stepR;rw[q5 (by omega),i_ (by rw[q1];omega)]))) (.cons (M_ (by (unfold stepR;rw[q5 (by omega),i_ (by rw[q1];omega)]))) .nil))) (.cons (M_ (by (unfold stepR;rw[q5 (by omega),i_ (by rw[q1];omega)]))) .nil)))
 ·have gc0:¬n.kd=6:=bef hc0
  have oz1:=@ends64_1 (n.na) (n.na)
  rcases bft (decide (min n.na n.na<0) || decide (max n.na n.na≥((K_ rchC L).length:Int))) with hc1|hc1
  ·have gc1:min n.na n.na<0∨max n.na n.na≥((K_ rchC L).length:Int):=gc0_ hc1
   exact (cR_ [r_,r_,r_,d_,.r [] [cr oz1],.r [] [o_,o_,o_,o_,.sel 1],b_,r_] (AV.tup [AV.agg [i8 0,i8 0],i64 8]) Tryz.func153 (.d3 hc0 oz1 hc1)).weak (Y_ _) (AS_ (.cons (AV_ (.cons (M_ (by (unfold stepR;rw[j_ (by rw[q1];omega)]))) (.cons (M_ (by (unfold stepR;rw[j_ (by rw[q1];omega)]))) .nil))) (.cons (M_ (by (unfold stepR;rw[j_ (by rw[q1];omega)]))) .nil)))
  ·have gc1:¬min n.na n.na<0∧¬max n.na n.na≥((K_ rchC L).length:Int):=gc0_ hc1
   have oz3:=(s_ (0≤n.na))
   have oz4:=(map_at (rchC) (default) (l:=L) (i:=n.na.toNat) (by omega))
   have oz7:=@gnode_v (n) (L.getD n.na.toNat default) (L.getD n.na.toNat default) ok (by (exact q3 (by omega))) (by (exact q3 (by omega))) wl bl
   exact (cR_ [r_,r_,r_,d_,.r [] [cr oz1],.r [] [o_,o_,o_,o_,.sel 1],d_,.r [] [.row (sO oz4),.row (sO oz4),cr oz7]] (AV.tup [AV.agg [i8 (nodeR n (L.getD n.na.toNat default) (L.getD n.na.toNat default)).fst.lo,i8 (nodeR n (L.getD n.na.toNat default) (L.getD n.na.toNat default)).fst.hi],i64 (nodeR n (L.getD n.na.toNat default) (L.getD n.na.toNat default)).snd]) Tryz.func153 (.d8 hc0 oz1 hc1 oz3 oz4 oz3 oz4 oz7)).weak (Y_ _) (AS_ (.cons (AV_ (.cons (M_ (by (unfold stepR;rw[q6 (by omega),i_ (by rw[q1];omega)]))) (.cons (M_ (by (unfold stepR;rw[q6 (by omega),i_ (by rw[q1];omega)]))) .nil))) (.cons (M_ (by (unfold stepR;rw[q6 (by omega),i_ (by rw[q1];omega)]))) .nil)))
def FOK (l:List Nod) (a:Rng):Prop:=0<l.length∧l.length≤8∧a.lo≤a.hi∧∀ k,k<l.length→errL stepR l a k=0
theorem nodeR_in {n:Nod} {a b:Rng} (ok:n.Ok) (ha:a.In8) (hb:b.In8):(nodeR n a b).1.In8:=by
 have hz:Rng.In8 ⟨0,0⟩:=⟨⟨by dsimp only;decide,by dsimp only;decide⟩,⟨by dsimp only;decide,by dsimp only;decide⟩⟩
 have held:∀ x m s z,In8 (heldQ x m s z n.lo n.hi):=fun x m s z=>by
  unfold heldQ;split
  ·exact clamp_in _ ok.lo ok.hi
  ·exact ⟨by decide,by decide⟩
 unfold nodeR
 split
 ·exact hz
 ·split
  ·exact hz
  ·split
   ·unfold sumG;split
    ·unfold afterE
     have h1:=held (held32 (bothR (spansN n a) (spansN n a).length).lo) n.qm n.qs n.qz
     have h2:=held (held32 (bothR (spansN n a) (spansN n a).length).hi) n.qm n.qs n.qz
     constructor<;>dsimp only<;>omega
    ·exact hz
   ·split
    ·have hj:∀ x y,In8 (joinE x y n):=fun x y=>by
      unfold joinE;split
      ·exact clamp_in _ ok.lo ok.hi
      ·exact ⟨by decide,by decide⟩
     exact ⟨hj _ _,hj _ _⟩
    ·split
     ·exact ⟨held _ _ _ _,held _ _ _ _⟩
     ·obtain ⟨p1,p2⟩:=ha
      have p3:=ok.za
      split
      ·constructor<;>dsimp only<;>omega
      ·exact ⟨p1,p2⟩
theorem stepR_in {n:Nod} {L:List Rng} (ok:n.Ok) (hL:∀ r∈L,r.In8):(stepR n L).1.In8:=by
 unfold stepR
 split
 ·rename_i h
  have h:=there_iff.1 h
  exact nodeR_in ok (getD_in hL (by omega)) (getD_in hL (by omega))
 ·exact ⟨⟨by dsimp only;decide,by dsimp only;decide⟩,⟨by dsimp only;decide,by dsimp only;decide⟩⟩
theorem flow_in {l:List Nod} {a:Rng} (okl:∀ n∈l,n.Ok) (ha:a.In8) {k:Nat} (hk:k≤l.length):∀ r∈growL stepR l a k,r.In8 :=
 growL_all (n:=k) ha (fun j hj h=>stepR_in (getD_in okl (by omega)) h) k (AT_ _)
noncomputable def flow_ly_I (l:List Nod) (a:Rng) (k:Nat):VS:=stt 50 [(0,.sl 19 (l.map nodC)),(7,.own 900),(25,.sl 19 (l.map nodC)),(26,i64 l.length),(27,i64 k)] [(900,.slc 216 2 ((growL stepR l a k).map rchC))]
noncomputable def flow_ly_Z (l:List Nod) (a:Rng):VS:=flow_ly_I l a (l.length)
theorem flow_ly_s (l:List Nod) (a:Rng) (okl:∀ n∈l,n.Ok) (wl:∀ n∈l,n.w.length≤100000∧n.b.length≤100000) (ha:a.In8) (f8:l.length≤8) (h:∀ k,k<l.length→errL stepR l a k=0) (k:Nat) (hk:k<l.length):VT N_ (fnC Tryz.f127 [1,1,1,0,1,0,0]) (flow_ly_I l a k) .normal (flow_ly_I l a (k+1)):=by
 have q:=h k hk
 have q1:=growL_len stepR l a k
 have q2:=flow_in okl ha (Nat.le_of_lt hk)
 have q3:=getD_in okl hk
 have q4:=getD_in wl hk
 obtain ⟨q5,q6⟩:=q4
 unfold errL at q
 have oz2:=(map_at (nodC) (default) (l:=l) (i:=k) hk)
 have oz3:=@gstep_v (l.getD k default) (growL stepR l a k) q3 q2 (by omega) q5 q6
 exact tR_ [r_,b_,.r [] [.row (sO oz2)],.r [] [cr oz3],r_,d_,r_,.r [] [.n ((↑k:Int)+1)]] [.any (rg [(8,4),(28,12),(42,5)]),.drop [9,10,44],.ren 45 900,.weak 27 (i64 (↑(k+1):Int)),.blk 900 (Blk.slc 216 2 (K_ rchC (growL stepR l a (k+1)))),.sort] (.c8 (decide_eq_true (p:=((↑k:Int)<(l.length:Int))) (by omega)) (s_ (0≤(↑k:Int))) oz2 oz3 (show ((stepR (l.getD k default) (growL stepR l a k)).snd != 0)=false by (simp at *;omega)) (show ((K_ rchC (growL stepR l a k)).length+1)*2≤140737488355328 by (simp;omega)) (show (K_ rchC (growL stepR l a k)).length+1≤9223372036854775807 by (simp;omega)) (i6n ((↑k:Int)+1) (by omega))<|.d2 (wS_ k) (show BlkW (Blk.slc 216 2 (K_ rchC (growL stepR l a k)++[[i8 (stepR (l.getD k default) (growL stepR l a k)).fst.lo,i8 (stepR (l.getD k default) (growL stepR l a k)).fst.hi]])) (Blk.slc 216 2 (K_ rchC (growL stepR l a (k+1)))) from (BU_ (e:=216) (z:=2) (rows_to (rchC) (r:=K_ rchC (growL stepR l a k)++[[i8 (stepR (l.getD k default) (growL stepR l a k)).fst.lo,i8 (stepR (l.getD k default) (growL stepR l a k)).fst.hi]]) (l:=growL stepR l a k++[Rng.mk (stepR (l.getD k default) (growL stepR l a k)).fst.lo (stepR (l.getD k default) (growL stepR l a k)).fst.hi]) (m:=growL stepR l a (k+1)) (by first|(simp only[C_,D_,AM_,AN_,A_,AK_,AL_];done)|rfl|(simp only[C_,D_,AM_,AN_,A_,AK_,AL_];rfl)|(simp only[C_,D_,AM_,AN_,A_,AK_,AL_,rchC,ints];done)) (show (growL stepR l a k++[Rng.mk (stepR (l.getD k default) (growL stepR l a k)).fst.lo (stepR (l.getD k default) (growL stepR l a k)).fst.hi])=(growL stepR l a (k+1)) from (by rfl))))))
theorem flow_ly_e (l:List Nod) (a:Rng) (okl:∀ n∈l,n.Ok) (wl:∀ n∈l,n.w.length≤100000∧n.b.length≤100000) (ha:a.In8) (f8:l.length≤8) (h:∀ k,k<l.length→errL stepR l a k=0):VT N_ (fnC Tryz.f127 [1,1,1,0,1,0,0]) (flow_ly_I l a (l.length)) (.exit 1) (flow_ly_Z l a):=by
 exact tR_ [r_,d_] [.any [28],.sort] (.d (decide_eq_false (p:=((l.length:Int)<(l.length:Int))) (by omega)))
theorem flow_ly (l:List Nod) (a:Rng) (okl:∀ n∈l,n.Ok) (wl:∀ n∈l,n.w.length≤100000∧n.b.length≤100000) (ha:a.In8) (f8:l.length≤8) (h:∀ k,k<l.length→errL stepR l a k=0):VT N_ (fnC Tryz.f127 [1,1,1,0,1,0]) (flow_ly_I l a 0) (.exit 1) (flow_ly_Z l a) :=
 VT.loop (fun k=>flow_ly_I l a k) (l.length) (fun k hk=>flow_ly_s l a okl wl ha f8 h k hk) (flow_ly_e l a okl wl ha f8 h) (by intro h;cases h)
noncomputable def flow_ln_I (l:List Nod) (a:Rng) (m:Nat) (k:Nat):VS:=stt 50 [(0,.sl 19 (l.map nodC)),(7,.own 900),(25,.sl 19 (l.map nodC)),(26,i64 l.length),(27,i64 k)] [(900,.slc 216 2 ((growL stepR l a k).map rchC))]
noncomputable def flow_ln_Z (l:List Nod) (a:Rng) (m:Nat):VS:=stt 50 [(4,nilv),(5,i64 m),(6,i64 (errL stepR l a m))] []
theorem flow_ln_s (l:List Nod) (a:Rng) (m:Nat) (okl:∀ n∈l,n.Ok) (wl:∀ n∈l,n.w.length≤100000∧n.b.length≤100000) (ha:a.In8) (f8:l.length≤8) (hm:m<l.length) (hf:errL stepR l a m≠0) (h:∀ k,k<m→errL stepR l a k=0) (k:Nat) (hk:k<m):VT N_ (fnC Tryz.f127 [1,1,1,0,1,0,0]) (flow_ln_I l a m k) .normal (flow_ln_I l a m (k+1)):=by
 have q:=h k hk
 have q1:=growL_len stepR l a k
 have q2:=flow_in okl ha (s_ (k≤l.length))
 have q3:=getD_in okl (s_ (k<l.length))
 have q4:=getD_in wl (s_ (k<l.length))
 obtain ⟨q5,q6⟩:=q4
 unfold errL at q
 have oz2:=(map_at (nodC) (default) (l:=l) (i:=k) (by omega))
 have oz3:=@gstep_v (l.getD k default) (growL stepR l a k) q3 q2 (by omega) q5 q6
 exact tR_ [r_,b_,.r [] [.row (sO oz2)],.r [] [cr oz3],r_,d_,r_,.r [] [.n ((↑k:Int)+1)]] [.any (rg [(8,4),(28,12),(42,5)]),.drop [9,10,44],.ren 45 900,.weak 27 (i64 (↑(k+1):Int)),.blk 900 (Blk.slc 216 2 (K_ rchC (growL stepR l a (k+1)))),.sort] (.c8 (decide_eq_true (p:=((↑k:Int)<(l.length:Int))) (by omega)) (s_ (0≤(↑k:Int))) oz2 oz3 (show ((stepR (l.getD k default) (growL stepR l a k)).snd != 0)=false by (simp at *;omega)) (show ((K_ rchC (growL stepR l a k)).length+1)*2≤140737488355328 by (simp;omega)) (show (K_ rchC (growL stepR l a k)).length+1≤9223372036854775807 by (simp;omega)) (i6n ((↑k:Int)+1) (by omega))<|.d2 (wS_ k) (show BlkW (Blk.slc 216 2 (K_ rchC (growL stepR l a k)++[[i8 (stepR (l.getD k default) (growL stepR l a k)).fst.lo,i8 (stepR (l.getD k default) (growL stepR l a k)).fst.hi]])) (Blk.slc 216 2 (K_ rchC (growL stepR l a (k+1)))) from (BU_ (e:=216) (z:=2) (rows_to (rchC) (r:=K_ rchC (growL stepR l a k)++[[i8 (stepR (l.getD k default) (growL stepR l a k)).fst.lo,i8 (stepR (l.getD k default) (growL stepR l a k)).fst.hi]]) (l:=growL stepR l a k++[Rng.mk (stepR (l.getD k default) (growL stepR l a k)).fst.lo (stepR (l.getD k default) (growL stepR l a k)).fst.hi]) (m:=growL stepR l a (k+1)) (by first|(simp only[C_,D_,AM_,AN_,A_,AK_,AL_];done)|rfl|(simp only[C_,D_,AM_,AN_,A_,AK_,AL_];rfl)|(simp only[C_,D_,AM_,AN_,A_,AK_,AL_,rchC,ints];done)) (show (growL stepR l a k++[Rng.mk (stepR (l.getD k default) (growL stepR l a k)).fst.lo (stepR (l.getD k default) (growL stepR l a k)).fst.hi])=(growL stepR l a (k+1)) from (by rfl))))))
theorem flow_ln_e (l:List Nod) (a:Rng) (m:Nat) (okl:∀ n∈l,n.Ok) (wl:∀ n∈l,n.w.length≤100000∧n.b.length≤100000) (ha:a.In8) (f8:l.length≤8) (hm:m<l.length) (hf:errL stepR l a m≠0) (h:∀ k,k<m→errL stepR l a k=0):VT N_ (fnC Tryz.f127 [1,1,1,0,1,0,0]) (flow_ln_I l a m (m)) (.ret) (flow_ln_Z l a m):=by
 have q1:=growL_len stepR l a m
 have q2:=flow_in okl ha (Nat.le_of_lt hm)
 have q3:=getD_in okl hm
 have q4:=getD_in wl hm
 obtain ⟨q5,q6⟩:=q4
 unfold errL at hf
 have oz2:=(map_at (nodC) (default) (l:=l) (i:=m) hm)
 have oz3:=@gstep_v (l.getD m default) (growL stepR l a m) q3 q2 (by omega) q5 q6
 have oz5:=(M_ (k:=.i64) (show (((stepR (l.getD m default) (growL stepR l a m)).snd):Int)=(errL stepR l a m) from (by rfl)))
 exact tR_ [r_,b_,.r [] [.row (sO oz2)],.r [] [cr oz3],r_,b_,r_] [.any (rg [(0,1),(7,5),(25,17)]),.drop [900,9,10],.weak 6 (wO oz5),.sort] (.d6 (decide_eq_true (p:=((↑m:Int)<(l.length:Int))) (by omega)) (s_ (0≤(↑m:Int))) oz2 oz3 (show ((stepR (l.getD m default) (growL stepR l a m)).snd != 0)=true by (simp at *;omega)) oz5)
theorem flow_ln (l:List Nod) (a:Rng) (m:Nat) (okl:∀ n∈l,n.Ok) (wl:∀ n∈l,n.w.length≤100000∧n.b.length≤100000) (ha:a.In8) (f8:l.length≤8) (hm:m<l.length) (hf:errL stepR l a m≠0) (h:∀ k,k<m→errL stepR l a k=0):VT N_ (fnC Tryz.f127 [1,1,1,0,1,0]) (flow_ln_I l a m 0) (.ret) (flow_ln_Z l a m) :=
 VT.loop (fun k=>flow_ln_I l a m k) (m) (fun k hk=>flow_ln_s l a m okl wl ha f8 hm hf h k hk) (flow_ln_e l a m okl wl ha f8 hm hf h) (by intro h;cases h)
theorem flow_y (l:List Nod) (a:Rng) (okl:∀ n∈l,n.Ok) (wl:∀ n∈l,n.w.length≤100000∧n.b.length≤100000) (ha:a.In8) (h:FOK l a):VC N_ 127 ([.sl 19 (l.map nodC),rch a]) (.tup [.sl 2 ((growL stepR l a l.length).map rchC),i64 l.length,i64 0]):=by
 obtain ⟨q2,q3,q1,q4⟩:=id h
 have oz2:=@upside_v (a.lo) (a.hi)
 have oz6:=@flow_ly (l) (a) okl wl ha q3 q4
 exact (cR_ [r_,r_,d_,r_,d_,.r [] [cr oz2],d_,r_,r_,.code [.any (rg [(1,1),(3,4),(12,13)]),.drop [3],.ren 24 900,.weak 26 (i64 (l.length:Int)),.weak 27 (i64 (↑0:Int)),.sort] (AA_ 1) (zO oz6),r_] (AV.tup [AV.sl 2 (K_ rchC (growL stepR l a l.length)),i64 ((K_ nodC l).length:Int),i64 0]) Tryz.func127 (.d7 (show (((K_ nodC l).length:Int)==0)=false by (simp only[E_,F_,I_,J_,ne_eq,H_,G_,U_,T_,BL_,BS_,BP_,Classical.not_not,CO_,CF_,O_,P_,X_,Q_,B_,BN_,BR_,AD_,BW_,BT_,eqNums,S_,AX_,AJ_,BB_,BA_,AH_,AE_,BZ_,AG_,BO_,BX_,BQ_];(first|done|with_reducible assumption|omega|contradiction))) (show decide (((K_ nodC l).length:Int)>8)=false by (simp;omega)) oz2 (decide_eq_false (p:=(a.lo>a.hi)) (by omega)) (M_ (k:=.i64) (show ((((K_ nodC l).length:Int)):Int)=((l.length:Int)) from (by (simp;done)))) w0_ oz6)).weak (Y_ _) (AS_ (.cons (.refl _) (.cons (M_ (by (simp;done))) (.cons (.refl _) .nil))))
theorem flow_m (l:List Nod) (a:Rng) (m:Nat) (okl:∀ n∈l,n.Ok) (wl:∀ n∈l,n.w.length≤100000∧n.b.length≤100000) (ha:a.In8) (i:a.lo≤a.hi) (f8:l.length≤8) (hm:m<l.length) (hf:errL stepR l a m≠0) (h:∀ k,k<m→errL stepR l a k=0):VC N_ 127 ([.sl 19 (l.map nodC),rch a]) (.tup [nilv,i64 m,i64 (errL stepR l a m)]):=by
 have oz2:=@upside_v (a.lo) (a.hi)
 have oz6:=@flow_ln (l) (a) (m) okl wl ha f8 hm hf h
 exact cR_ [r_,r_,d_,r_,d_,.r [] [cr oz2],d_,r_,r_,.code [.any (rg [(1,1),(3,4),(12,13)]),.drop [3],.ren 24 900,.weak 26 (i64 (l.length:Int)),.weak 27 (i64 (↑0:Int)),.sort] (DN_) (zO oz6)] _ Tryz.func127 (.d7 (show (((K_ nodC l).length:Int)==0)=false by (simp only[E_,F_,I_,J_,ne_eq,H_,G_,U_,T_,BL_,BS_,BP_,Classical.not_not,CO_,CF_,O_,P_,X_,Q_,B_,BN_,BR_,AD_,BW_,BT_,eqNums,S_,AX_,AJ_,BB_,BA_,AH_,AE_,BZ_,AG_,BO_,BX_,BQ_];(first|done|with_reducible assumption|omega|contradiction))) (show decide (((K_ nodC l).length:Int)>8)=false by (simp;omega)) oz2 (decide_eq_false (p:=(a.lo>a.hi)) (by omega)) (M_ (k:=.i64) (show ((((K_ nodC l).length:Int)):Int)=((l.length:Int)) from (by (simp;done)))) w0_ oz6)
def flowB (l:List Nod) (a:Rng):Nat→Bool:=fun k=>errL stepR l a k==0
def flowE (l:List Nod) (a:Rng):Int×Int :=
 if l.length=0 then (-1,12) else if 8<l.length then (-1,4) else if a.lo>a.hi then (-1,2)
 else if firstBad (flowB l a) l.length<l.length then (firstBad (flowB l a) l.length,errL stepR l a (firstBad (flowB l a) l.length)) else (l.length,0)
theorem flow_a (l:List Nod) (a:Rng) (hl:l.length≤1000) (h:l.length=0∨8<l.length∨a.lo>a.hi):VC N_ 127 ([.sl 19 (l.map nodC),rch a]) (.tup [nilv,i64 (flowE l a).1,i64 (flowE l a).2]):=by
 rcases bft (((K_ nodC l).length:Int)==0) with hc0|hc0
 ·have gc0:((K_ nodC l).length:Int)=0:=bet hc0
  exact (cR_ [r_,r_,b_,r_] (AV.tup [AV.lit (AY_ none 0 0),i64 (-1),i64 12]) Tryz.func127 (.d hc0)).weak (Y_ _) (AS_ (.cons (.refl _) (.cons (M_ (by (unfold flowE;(try simp only[S_] at *);(repeat first|rw[i_ (by omega)]|rw[j_ (by omega)])))) (.cons (M_ (by (unfold flowE;(try simp only[S_] at *);(repeat first|rw[i_ (by omega)]|rw[j_ (by omega)])))) .nil))))
 ·have gc0:¬((K_ nodC l).length:Int)=0:=bef hc0
  rcases bft (decide (((K_ nodC l).length:Int)>8)) with hc1|hc1
  ·have gc1:=of_decide_eq_true hc1
   exact (cR_ [r_,r_,d_,r_,b_,r_] (AV.tup [AV.lit (AY_ none 0 0),i64 (-1),i64 4]) Tryz.func127 (.d2 hc0 hc1)).weak (Y_ _) (AS_ (.cons (.refl _) (.cons (M_ (by (unfold flowE;(try simp only[S_] at *);(repeat first|rw[i_ (by omega)]|rw[j_ (by omega)])))) (.cons (M_ (by (unfold flowE;(try simp only[S_] at *);(repeat first|rw[i_ (by omega)]|rw[j_ (by omega)])))) .nil))))
  ·have gc1:=of_decide_eq_false hc1
   have oz2:=@upside_v (a.lo) (a.hi)
   exact (cR_ [r_,r_,d_,r_,d_,.r [] [cr oz2],b_,r_] (AV.tup [AV.lit (AY_ none 0 0),i64 (-1),i64 2]) Tryz.func127 (.d4 hc0 hc1 oz2 (show decide (a.lo>a.hi)=true by (simp only[E_,F_,I_,J_,ne_eq,H_,G_,U_,T_,BL_,BS_,BP_,Classical.not_not,CO_,CF_,O_,P_,X_,Q_,B_,BN_,BR_,AD_,BW_,BT_,eqNums,S_,AX_,AJ_,BB_,BA_,AH_,AE_,BZ_,AG_,BO_,BX_,BQ_] at *;(first|done|with_reducible assumption|omega|contradiction))))).weak (Y_ _) (AS_ (.cons (.refl _) (.cons (M_ (by (unfold flowE;(try simp only[S_] at *);(repeat first|rw[i_ (by omega)]|rw[j_ (by omega)])))) (.cons (M_ (by (unfold flowE;(try simp only[S_] at *);(repeat first|rw[i_ (by omega)]|rw[j_ (by omega)])))) .nil))))
theorem flowE_y {l:List Nod} {a:Rng} (h:FOK l a):flowE l a=((l.length:Int),0):=by
 obtain ⟨q2,q3,q1,q4⟩:=h
 unfold flowE
 rw[j_ (by omega),j_ (by omega),j_ (by omega),firstBad_all fun k hk=>by simpa [flowB] using q4 k hk,j_ (by omega)]
theorem flowE_at {l:List Nod} {a:Rng} {m:Nat} (i:a.lo≤a.hi) (e:0<l.length) (f:l.length≤8) (hm:m<l.length) (hf:errL stepR l a m≠0) (h:∀ k,k<m→errL stepR l a k=0):flowE l a=((m:Int),errL stepR l a m):=by
 have:=firstBad_at (p:=flowB l a) (m:=m) (by simpa [flowB] using hf) (fun k hk=>by simpa [flowB] using h k hk) hm
 unfold flowE
 rw[j_ (by omega),j_ (by omega),j_ (by omega),this,i_ hm]
theorem FOK.cases (l:List Nod) (a:Rng):FOK l a∨(l.length=0∨8<l.length∨a.lo>a.hi)∨(a.lo≤a.hi∧0<l.length∧l.length≤8∧∃ m,m<l.length∧errL stepR l a m≠0∧∀ k,k<m→errL stepR l a k=0):=by
 by_cases c:l.length=0∨8<l.length∨a.lo>a.hi
 ·exact .inr (.inl c)
 ·rcases all_or (flowB l a) l.length with h|⟨m,h1,h2,h3⟩
  ·exact .inl ⟨by omega,by omega,by omega,fun k hk=>by simpa [flowB] using h k hk⟩
  ·exact .inr (.inr ⟨by omega,by omega,by omega,m,h1,by simpa [flowB] using h2,fun k hk=>by simpa [flowB] using h3 k hk⟩)
theorem flowE_n {l:List Nod} {a:Rng} (h:¬ FOK l a):(flowE l a).2≠0:=by
 rcases FOK.cases l a with q|q|⟨i,e,f,m,h1,h2,h3⟩
 ·exact absurd q h
 ·unfold flowE
  by_cases c1:l.length=0
  ·rw[i_ c1];dsimp only;decide
  ·rw[j_ c1]
   by_cases c2:8<l.length
   ·rw[i_ c2];dsimp only;decide
   ·rw[j_ c2,i_ (by omega)];dsimp only;decide
 ·rw[flowE_at i e f h1 h2 h3];exact h2
theorem flow_n (l:List Nod) (a:Rng) (okl:∀ n∈l,n.Ok) (wl:∀ n∈l,n.w.length≤100000∧n.b.length≤100000) (ha:a.In8) (hl:l.length≤1000) (h:¬ FOK l a):VC N_ 127 [.sl 19 (l.map nodC),rch a] (.tup [nilv,i64 (flowE l a).1,i64 (flowE l a).2]):=by
 rcases FOK.cases l a with q|q|⟨i,e,f,m,h1,h2,h3⟩
 ·exact absurd q h
 ·exact flow_a l a hl q
 ·rw[flowE_at i e f h1 h2 h3];exact flow_m l a m okl wl ha i f h1 h2 h3
def smallB (n:Nod):Bool:=decide (n.w.length≤1000)&&decide (n.b.length≤100)
def fewB (l:List Nod) (d:Nat):Bool:=decide (l.length≤12)&&decide (d≤300)&&l.all smallB
noncomputable def few_ly_I (l:List Nod) (k:Nat):VS:=stt 37 [(0,.sl 19 (l.map nodC)),(5,i64 k)] []
noncomputable def few_ly_Z (l:List Nod):VS:=few_ly_I l (l.length)
theorem few_ly_s (l:List Nod) (hl:l.length≤12) (h:∀ k,k<l.length→smallB (l.getD k default)=true) (k:Nat) (hk:k<l.length):VT N_ (fnC Tryz.f21 [1,1,0,1,0,0]) (few_ly_I l k) .normal (few_ly_I l (k+1)):=by
 have q:=h k hk
 simp only[smallB,O_,E_] at q
 obtain ⟨q1,q2⟩:=q
 have oz1:=(s_ (0≤(↑k:Int)))
 have oz2:=(map_at (nodC) (default) (l:=l) (i:=k) hk)
 exact tR_ [r_,b_,.r [] [.row (sO oz2),o_,o_,o_,.row (sO oz2),o_,o_,o_,o_,.sel 1],d_,.r [] [.n ((↑k:Int)+1)]] [.any (rg [(15,14),(36,1)]),.weak 5 (i64 (↑(k+1):Int)),.sort] (.d8 (show decide ((↑k:Int)<((K_ nodC l).length:Int))=true by (simp;omega)) oz1 oz2 oz1 oz2 (show (decide (((K_ (row1 .i8) (l.getD k default).w).length:Int)>1000) || decide (((K_ (row1 .i32) (l.getD k default).b).length:Int)>100))=false by (simp at *;omega)) (i6n ((↑k:Int)+1) (by omega)) (wS_ k))
theorem few_ly_e (l:List Nod) (hl:l.length≤12) (h:∀ k,k<l.length→smallB (l.getD k default)=true):VT N_ (fnC Tryz.f21 [1,1,0,1,0,0]) (few_ly_I l (l.length)) (.exit 0) (few_ly_Z l):=by
 exact tR_ [r_,d_] [.any (rg [(15,4)]),.sort] (.d (show decide ((l.length:Int)<((K_ nodC l).length:Int))=false by (simp;done)))
theorem few_ly (l:List Nod) (hl:l.length≤12) (h:∀ k,k<l.length→smallB (l.getD k default)=true):VT N_ (fnC Tryz.f21 [1,1,0,1,0]) (few_ly_I l 0) (.exit 0) (few_ly_Z l) :=
 VT.loop (fun k=>few_ly_I l k) (l.length) (fun k hk=>few_ly_s l hl h k hk) (few_ly_e l hl h) (by intro h;cases h)
noncomputable def few_ln_I (l:List Nod) (m:Nat) (k:Nat):VS:=stt 37 [(0,.sl 19 (l.map nodC)),(5,i64 k)] []
noncomputable def few_ln_Z (l:List Nod) (m:Nat):VS:=stt 37 [(4,bv false)] []
theorem few_ln_s (l:List Nod) (m:Nat) (hl:l.length≤12) (hm:m<l.length) (hf:smallB (l.getD m default)=false) (h:∀ k,k<m→smallB (l.getD k default)=true) (k:Nat) (hk:k<m):VT N_ (fnC Tryz.f21 [1,1,0,1,0,0]) (few_ln_I l m k) .normal (few_ln_I l m (k+1)):=by
 have q:=h k hk
 simp only[smallB,O_,E_] at q
 obtain ⟨q1,q2⟩:=q
 have oz1:=(s_ (0≤(↑k:Int)))
 have oz2:=(map_at (nodC) (default) (l:=l) (i:=k) (by omega))
 exact tR_ [r_,b_,.r [] [.row (sO oz2),o_,o_,o_,.row (sO oz2),o_,o_,o_,o_,.sel 1],d_,.r [] [.n ((↑k:Int)+1)]] [.any (rg [(15,14),(36,1)]),.weak 5 (i64 (↑(k+1):Int)),.sort] (.d8 (show decide ((↑k:Int)<((K_ nodC l).length:Int))=true by (simp;omega)) oz1 oz2 oz1 oz2 (show (decide (((K_ (row1 .i8) (l.getD k default).w).length:Int)>1000) || decide (((K_ (row1 .i32) (l.getD k default).b).length:Int)>100))=false by (simp at *;omega)) (i6n ((↑k:Int)+1) (by omega)) (wS_ k))
theorem few_ln_e (l:List Nod) (m:Nat) (hl:l.length≤12) (hm:m<l.length) (hf:smallB (l.getD m default)=false) (h:∀ k,k<m→smallB (l.getD k default)=true):VT N_ (fnC Tryz.f21 [1,1,0,1,0,0]) (few_ln_I l m (m)) (.ret) (few_ln_Z l m):=by
 simp only[smallB,P_,F_] at hf
 have oz1:=(s_ (0≤(↑m:Int)))
 have oz2:=(map_at (nodC) (default) (l:=l) (i:=m) hm)
 exact tR_ [r_,b_,.r [] [.row (sO oz2),o_,o_,o_,.row (sO oz2),o_,o_,o_,o_,.sel 1],b_,r_] [.any (rg [(0,1),(5,1),(15,4),(21,8),(36,1)]),.sort] (.d6 (show decide ((↑m:Int)<((K_ nodC l).length:Int))=true by (simp;omega)) oz1 oz2 oz1 oz2 (show (decide (((K_ (row1 .i8) (l.getD m default).w).length:Int)>1000) || decide (((K_ (row1 .i32) (l.getD m default).b).length:Int)>100))=true by (simp at *;omega)))
theorem few_ln (l:List Nod) (m:Nat) (hl:l.length≤12) (hm:m<l.length) (hf:smallB (l.getD m default)=false) (h:∀ k,k<m→smallB (l.getD k default)=true):VT N_ (fnC Tryz.f21 [1,1,0,1,0]) (few_ln_I l m 0) (.ret) (few_ln_Z l m) :=
 VT.loop (fun k=>few_ln_I l m k) (m) (fun k hk=>few_ln_s l m hl hm hf h k hk) (few_ln_e l m hl hm hf h) (by intro h;cases h)
theorem few_a (l:List Nod) (T:Ten) (h:12<l.length∨300<T.d.length):VC N_ 21 ([.sl 19 (l.map nodC),ten .i8 T]) (bv false):=by
 exact cR_ [r_,.r [] [o_,o_,o_,o_,.sel 1],b_,r_] _ Tryz.func21 (.d (show (decide (((K_ nodC l).length:Int)>12) || decide (((K_ (row1 .i8) T.d).length:Int)>300))=true by (simp;omega)))
theorem few_y (l:List Nod) (T:Ten) (hl:l.length≤12) (hd:T.d.length≤300) (h:∀ k,k<l.length→smallB (l.getD k default)=true):VC N_ 21 ([.sl 19 (l.map nodC),ten .i8 T]) (bv true):=by
 have oz2:=@few_ly (l) hl h
 exact cR_ [r_,.r [] [o_,o_,o_,o_,.sel 1],d_,r_,.code [.any [1,3,4,6,7,8,9,14],.drop [3],.weak 5 (i64 (↑0:Int)),.sort] (AA_ 0) (zO oz2),r_] _ Tryz.func21 (.d3 (show (decide (((K_ nodC l).length:Int)>12) || decide (((K_ (row1 .i8) T.d).length:Int)>300))=false by (simp;omega)) w0_ oz2)
theorem few_n (l:List Nod) (T:Ten) (m:Nat) (hl:l.length≤12) (hd:T.d.length≤300) (hm:m<l.length) (hf:smallB (l.getD m default)=false) (h:∀ k,k<m→smallB (l.getD k default)=true):VC N_ 21 ([.sl 19 (l.map nodC),ten .i8 T]) (bv false):=by
 have oz2:=@few_ln (l) (m) hl hm hf h
 exact cR_ [r_,.r [] [o_,o_,o_,o_,.sel 1],d_,r_,.code [.any [1,3,4,6,7,8,9,14],.drop [3],.weak 5 (i64 (↑0:Int)),.sort] (DN_) (zO oz2)] _ Tryz.func21 (.d3 (show (decide (((K_ nodC l).length:Int)>12) || decide (((K_ (row1 .i8) T.d).length:Int)>300))=false by (simp;omega)) w0_ oz2)
theorem few_v (l:List Nod) (T:Ten):VC N_ 21 [.sl 19 (l.map nodC),ten .i8 T] (bv (fewB l T.d.length)):=by
 unfold fewB
 by_cases h1:l.length≤12
 ·by_cases h2:T.d.length≤300
  ·rw[decide_eq_true h1,decide_eq_true h2]
   rcases all_or (fun k=>smallB (l.getD k default)) l.length with h|⟨m,g1,g2,g3⟩
   ·rw[all_getD.2 h];exact few_y l T h1 h2 h
   ·have:l.all smallB=false:=by
     cases e:l.all smallB with
     | false=>rfl
     | true=>have:=all_getD.1 e m g1;exact absurd (this.symm.trans g2) (by simp)
    rw[this];exact few_n l T m h1 h2 g1 g2 g3
  ·rw[decide_eq_false h2,BR_,AD_];exact few_a l T (.inr (by omega))
 ·rw[decide_eq_false h1,AD_,AD_];exact few_a l T (.inl (by omega))
theorem few_0 (l:List Nod):VC N_ 21 [.sl 19 (l.map nodC),.agg [i64 0,i64 0,i64 0,.sl 1 []]] (bv (fewB l 0)):=few_v l ⟨0,0,0,[]⟩
theorem few_facts {l:List Nod} {d:Nat} (h:fewB l d=true):l.length≤12∧d≤300∧∀ n∈l,n.w.length≤1000∧n.b.length≤100:=by
 simp only[fewB,O_,E_,CZ_,smallB] at h
 exact ⟨h.1.1,h.1.2,fun n hn=>h.2 n hn⟩
theorem few_wide {l:List Nod} {d:Nat} (h:fewB l d=true):∀ n∈l,n.w.length≤100000∧n.b.length≤100000:=fun n hn=>by
 have:=(few_facts h).2.2 n hn;omega
theorem rowsR_both (f:Nat→Rng) (n:Nat):∀ k,k<n→rowsR f (k+1)=bothR ((BM_ n).map f) (k+1):=by
 have g:∀ k,k<n→((BM_ n).map f).getD k default=f k:=fun k hk=>by
  rw[Z_,AR_,List.getElem?_range hk];rfl
 intro k
 induction k with
 | zero=>intro h;rw[rowsR,i_ rfl,bothR,bothR,g 0 h]
 | succ k ih=>intro h;rw[rowsR,j_ (by omega),ih (by omega),bothR.eq_2 _ (k+1),g _ h]
theorem rowsR_spans {n:Nod} {a:Rng} (b0:0<n.b.length) (h:sharedB n.w n.b=true):rowsR (spRow n.w n.b a.lo a.hi n.za (decide (n.np>0))) n.b.length=bothR (spansN n a) (spansN n a).length:=by
 have e:spansN n a=(BM_ n.b.length).map (spRow n.w n.b a.lo a.hi n.za (decide (n.np>0))):=by unfold spansN allR;rw[i_ h]
 rw[e,S_,AG_]
 obtain ⟨m,hm⟩:∃ m,n.b.length=m+1:=⟨n.b.length-1,by omega⟩
 rw[hm];exact rowsR_both _ _ _ (by omega)
theorem sumE_s {n:Nod} {a:Rng} (h:sharedB n.w n.b=true) (hh:((allR n.w n.b a.lo a.hi n.za (decide (n.np>0)) n.b.length).all holdB)=true):sumG n a=(afterE ⟨(rowsR (spRow n.w n.b a.lo a.hi n.za (decide (n.np>0))) n.b.length).lo,(rowsR (spRow n.w n.b a.lo a.hi n.za (decide (n.np>0))) n.b.length).hi⟩ n,0):=by
 rw[sumG_y (by rw[i_ h];exact hh),←rowsR_spans (hd_pos h) h]
theorem sumE_o {n:Nod} {a:Rng} (h:sharedB n.w n.b=true) (hh:((allR n.w n.b a.lo a.hi n.za (decide (n.np>0)) n.b.length).all holdB)=false):sumG n a=(⟨0,0⟩,10):=by
 unfold sumG spansN;rw[i_ h,j_ (by rw[hh];decide)]
theorem sumE_0 {n:Nod} {a:Rng} (h:sharedB n.w n.b=false):sumG n a=(afterE ⟨0,0⟩ n,0):=by
 unfold sumG spansN;rw[h];rfl
theorem nodeR_pad {n:Nod} {a b:Rng} (h1:¬ checkE n≠0) (h2:¬ (a.lo>a.hi∨(n.kd=6∧b.lo>b.hi))) (h3:n.kd=8∧n.np>0):nodeR n a b=(⟨min a.lo n.za,max a.hi n.za⟩,0):=by
 unfold nodeR
 rw[j_ h1,j_ h2,j_ (by omega),j_ (by omega),j_ (by omega),i_ h3]
theorem refGNode_v (n:Nod) (a b:Rng) (ok:n.Ok) (ha:a.In8) (hb:b.In8) (wl:n.w.length≤100000) (bl:n.b.length≤100000):VC N_ 107 ([nod n,rch a,rch b]) (.tup [rch (nodeR n a b).1,i64 (nodeR n a b).2]):=by
 have ok_kd:=ok.kd
 have ok_za:=ok.za
 have ok_w:=ok.w
 have ok_b:=ok.b
 obtain ⟨p1,p2⟩:=id ha
 obtain ⟨p3,p4⟩:=id hb
 have q1:=@hd_pos n.w n.b
 have q2:=@rows_all n.w n.b a.lo a.hi n.za (decide (n.np>0))
 have oz0:=@refCheck_v (n) wl bl ok_kd
 rcases bft (checkE n != 0) with hc0|hc0
 ·have gc0:¬checkE n=0:=bdt hc0
  exact (cR_ [r_,.r [] [cr oz0],r_,b_,r_] (AV.tup [AV.agg [i8 0,i8 0],i64 (checkE n)]) Tryz.func107 (.d2 oz0 hc0)).weak (Y_ _) (AS_ (.cons (AV_ (.cons (M_ (by (unfold nodeR;(repeat first|rw[i_ (by omega)]|rw[j_ (by omega)])))) (.cons (M_ (by (unfold nodeR;(repeat first|rw[i_ (by omega)]|rw[j_ (by omega)])))) .nil))) (.cons (M_ (by (unfold nodeR;(repeat first|rw[i_ (by omega)]|rw[j_ (by omega)])))) .nil)))
 ·have gc0:checkE n=0:=bdf hc0
  rcases bft (decide (a.lo>a.hi) || n.kd==6&&decide (b.lo>b.hi)) with hc1|hc1
  ·have gc1:a.lo>a.hi∨n.kd=6∧b.lo>b.hi:=gc0_ hc1
   exact (cR_ [r_,.r [] [cr oz0],r_,d_,.r [] [o_,o_,o_,o_,o_,o_,o_,o_,o_,o_,.sel 2,.sel 1],b_,r_] (AV.tup [AV.agg [i8 0,i8 0],i64 2]) Tryz.func107 (.d3 oz0 hc0 hc1)).weak (Y_ _) (AS_ (.cons (AV_ (.cons (M_ (by (unfold nodeR;(repeat first|rw[i_ (by omega)]|rw[j_ (by omega)])))) (.cons (M_ (by (unfold nodeR;(repeat first|rw[i_ (by omega)]|rw[j_ (by omega)])))) .nil))) (.cons (M_ (by (unfold nodeR;(repeat first|rw[i_ (by omega)]|rw[j_ (by omega)])))) .nil)))
  ·have gc1:¬a.lo>a.hi∧(¬n.kd=6∨¬b.lo>b.hi):=gc0_ hc1
   rcases bft (n.kd==1 || n.kd==2 || n.kd==3) with hc2|hc2
   ·have gc2:(n.kd=1∨n.kd=2)∨n.kd=3:=gc0_ hc2
    have oz4:=@shared_v (n.w) (n.b) wl bl
    rcases bft (sharedB n.w n.b) with hc3|hc3
    ·have gc3:sharedB n.w n.b=true:=by first|exact hc3|exact of_decide_eq_true hc3|exact of_decide_eq_false hc3|simpa [eqNums] using hc3|(simp[eqNums] at hc3 ⊢;first|done|assumption|omega)
     have oz6:=@rows_v (n.w) (n.b) (a.lo) (a.hi) (n.za) (decide (n.np>0)) ok_w ok_b wl bl (by (exact q1 (by assumption))) p1 p2 ok_za
     rcases bft (!(decide ((rowsR (spRow n.w n.b a.lo a.hi n.za (decide (n.np>0))) n.b.length).lo ≥ -2147483648)&&decide ((rowsR (spRow n.w n.b a.lo a.hi n.za (decide (n.np>0))) n.b.length).hi≤2147483647))) with hc4|hc4
     ·have gc4:¬(rowsR (spRow n.w n.b a.lo a.hi n.za (decide (n.np>0))) n.b.length).lo ≥ -2147483648∨¬(rowsR (spRow n.w n.b a.lo a.hi n.za (decide (n.np>0))) n.b.length).hi≤2147483647:=gc0_ hc4
      exact (cR_ [r_,.r [] [cr oz0],r_,d_,.r [] [o_,o_,o_,o_,o_,o_,o_,o_,o_,o_,.sel 2,.sel 1],d_,.r [] [o_,o_,o_,.sel 1,o_,o_,o_,.sel 1],b_,r_,.r [] [cr oz4],b_,.r [] [cr oz6],r_,b_,r_] (AV.tup [AV.agg [i8 0,i8 0],i64 10]) Tryz.func107 (.d8 oz0 hc0 hc1 hc2 oz4 hc3 oz6 hc4)).weak (Y_ _) (AS_ (.cons (AV_ (.cons (M_ (by (unfold nodeR;(repeat first|rw[i_ (by omega)]|rw[j_ (by omega)]);rw[sumE_o (by assumption) (by rw[←q2 (q1 (by assumption))];simp_all)]<;>rfl))) (.cons (M_ (by (unfold nodeR;(repeat first|rw[i_ (by omega)]|rw[j_ (by omega)]);rw[sumE_o (by assumption) (by rw[←q2 (q1 (by assumption))];simp_all)]<;>rfl))) .nil))) (.cons (M_ (by (unfold nodeR;(repeat first|rw[i_ (by omega)]|rw[j_ (by omega)]);rw[sumE_o (by assumption) (by rw[←q2 (q1 (by assumption))];simp_all)]<;>rfl))) .nil)))
     ·have gc4:(rowsR (spRow n.w n.b a.lo a.hi n.za (decide (n.np>0))) n.b.length).lo ≥ -2147483648∧(rowsR (spRow n.w n.b a.lo a.hi n.za (decide (n.np>0))) n.b.length).hi≤2147483647:=gc0_ hc4
      have oz8:=@refAfter_v (rowsR (spRow n.w n.b a.lo a.hi n.za (decide (n.np>0))) n.b.length) (n) ok
      exact (cR_ [r_,.r [] [cr oz0],r_,d_,.r [] [o_,o_,o_,o_,o_,o_,o_,o_,o_,o_,.sel 2,.sel 1],d_,.r [] [o_,o_,o_,.sel 1,o_,o_,o_,.sel 1],b_,r_,.r [] [cr oz4],b_,.r [] [cr oz6],r_,d_,.r [] [cr oz8],r_] (AV.tup [AV.agg [i8 (afterE (rowsR (spRow n.w n.b a.lo a.hi n.za (decide (n.np>0))) n.b.length) n).lo,i8 (afterE (rowsR (spRow n.w n.b a.lo a.hi n.za (decide (n.np>0))) n.b.length) n).hi],i64 0]) Tryz.func107 (.c8 oz0 hc0 hc1 hc2 oz4 hc3 oz6 hc4<|.d oz8)).weak (Y_ _) (AS_ (.cons (AV_ (.cons (M_ (by (unfold nodeR;(repeat first|rw[i_ (by omega)]|rw[j_ (by omega)]);rw[sumE_s (by assumption) (by rw[←q2 (q1 (by assumption))];simp_all)]<;>rfl))) (.cons (M_ (by (unfold nodeR;(repeat first|rw[i_ (by omega)]|rw[j_ (by omega)]);rw[sumE_s (by assumption) (by rw[←q2 (q1 (by assumption))];simp_all)]<;>rfl))) .nil))) (.cons (M_ (by (unfold nodeR;(repeat first|rw[i_ (by omega)]|rw[j_ (by omega)]);rw[sumE_s (by assumption) (by rw[←q2 (q1 (by assumption))];simp_all)]<;>rfl))) .nil)))
    ·have gc3:sharedB n.w n.b=false:=by first|exact hc3|exact of_decide_eq_true hc3|exact of_decide_eq_false hc3|simpa [eqNums] using hc3|(simp[eqNums] at hc3 ⊢;first|done|assumption|omega)
     have oz7:=@refAfter_v (Rng.mk 0 0) (n) ok
     exact (cR_ [r_,.r [] [cr oz0],r_,d_,.r [] [o_,o_,o_,o_,o_,o_,o_,o_,o_,o_,.sel 2,.sel 1],d_,.r [] [o_,o_,o_,.sel 1,o_,o_,o_,.sel 1],b_,r_,.r [] [cr oz4],d_,r_,d_,.r [] [cr oz7],r_] (AV.tup [AV.agg [i8 (afterE (Rng.mk 0 0) n).lo,i8 (afterE (Rng.mk 0 0) n).hi],i64 0]) Tryz.func107 (.d8 oz0 hc0 hc1 hc2 oz4 hc3 z2_ oz7)).weak (Y_ _) (AS_ (.cons (AV_ (.cons (M_ (by (unfold nodeR;(repeat first|rw[i_ (by omega)]|rw[j_ (by omega)]);rw[sumE_0 (by assumption)]<;>rfl))) (.cons (M_ (by (unfold nodeR;(repeat first|rw[i_ (by omega)]|rw[j_ (by omega)]);rw[sumE_0 (by assumption)]<;>rfl))) .nil))) (.cons (M_ (by (unfold nodeR;(repeat first|rw[i_ (by omega)]|rw[j_ (by omega)]);rw[sumE_0 (by assumption)]<;>rfl))) .nil)))
   ·have gc2:(¬n.kd=1∧¬n.kd=2)∧¬n.kd=3:=gc0_ hc2
    rcases bft (n.kd==6) with hc3|hc3
    ·have gc3:n.kd=6:=bet hc3
     have oz5:=@refJoinOne_v (a.lo) (b.lo) (n) ok p1 p3
     have oz6:=@refJoinOne_v (a.hi) (b.hi) (n) ok p2 p4
     exact (cR_ [r_,.r [] [cr oz0],r_,d_,.r [] [o_,o_,o_,o_,o_,o_,o_,o_,o_,o_,.sel 2,.sel 1],d_,.r [] [o_,o_,o_,.sel 1,o_,o_,o_,.sel 1],d_,r_,b_,.r [] [cr oz5,cr oz6]] (AV.tup [AV.agg [i8 (joinE a.lo b.lo n),i8 (joinE a.hi b.hi n)],i64 0]) Tryz.func107 (.d7 oz0 hc0 hc1 hc2 hc3 oz5 oz6)).weak (Y_ _) (AS_ (.cons (AV_ (.cons (M_ (by (unfold nodeR;(repeat first|rw[i_ (by omega)]|rw[j_ (by omega)])))) (.cons (M_ (by (unfold nodeR;(repeat first|rw[i_ (by omega)]|rw[j_ (by omega)])))) .nil))) (.cons (M_ (by (unfold nodeR;(repeat first|rw[i_ (by omega)]|rw[j_ (by omega)])))) .nil)))
    ·have gc3:¬n.kd=6:=bef hc3
     rcases bft (n.kd==7) with hc4|hc4
     ·have gc4:n.kd=7:=bet hc4
      have oz6:=@refActOne_v (a.lo) (n) ok p1
      have oz7:=@refActOne_v (a.hi) (n) ok p2
      exact (cR_ [r_,.r [] [cr oz0],r_,d_,.r [] [o_,o_,o_,o_,o_,o_,o_,o_,o_,o_,.sel 2,.sel 1],d_,.r [] [o_,o_,o_,.sel 1,o_,o_,o_,.sel 1],d_,r_,d_,r_,b_,.r [] [cr oz6,cr oz7]] (AV.tup [AV.agg [i8 (oneN a.lo n),i8 (oneN a.hi n)],i64 0]) Tryz.func107 (.d8 oz0 hc0 hc1 hc2 hc3 hc4 oz6 oz7)).weak (Y_ _) (AS_ (.cons (AV_ (.cons (M_ (by (unfold nodeR;(repeat first|rw[i_ (by omega)]|rw[j_ (by omega)])))) (.cons (M_ (by (unfold nodeR;(repeat first|rw[i_ (by omega)]|rw[j_ (by omega)])))) .nil))) (.cons (M_ (by (unfold nodeR;(repeat first|rw[i_ (by omega)]|rw[j_ (by omega)])))) .nil)))
     ·have gc4:¬n.kd=7:=bef hc4
      rcases bft (n.kd==8&&decide (n.np>0)) with hc5|hc5
      ·have gc5:n.kd=8∧n.np>0:=gc0_ hc5
       exact (cR_ [r_,.r [] [cr oz0],r_,d_,.r [] [o_,o_,o_,o_,o_,o_,o_,o_,o_,o_,.sel 2,.sel 1],d_,.r [] [o_,o_,o_,.sel 1,o_,o_,o_,.sel 1],d_,r_,d_,r_,d_,.r [] [o_,o_,o_,.sel 2],b_,r_] (AV.tup [AV.agg [i8 (if n.za<a.lo then n.za else a.lo),i8 (if n.za>a.hi then n.za else a.hi)],i64 0]) Tryz.func107 (.d7 oz0 hc0 hc1 hc2 hc3 hc4 hc5)).weak (Y_ _) (AS_ (.cons (AV_ (.cons (M_ (by (rw[nodeR_pad (by omega) (by omega) (by omega)];dsimp only;omega))) (.cons (M_ (by (rw[nodeR_pad (by omega) (by omega) (by omega)];dsimp only;omega))) .nil))) (.cons (M_ (by (unfold nodeR;(repeat first|rw[i_ (by omega)]|rw[j_ (by omega)])))) .nil)))
      ·have gc5:¬n.kd=8∨¬n.np>0:=gc0_ hc5
       exact (cR_ [r_,.r [] [cr oz0],r_,d_,.r [] [o_,o_,o_,o_,o_,o_,o_,o_,o_,o_,.sel 2,.sel 1],d_,.r [] [o_,o_,o_,.sel 1,o_,o_,o_,.sel 1],d_,r_,d_,r_,d_,.r [] [o_,o_,o_,.sel 2],d_,r_] (AV.tup [AV.agg [i8 a.lo,i8 a.hi],i64 0]) Tryz.func107 (.d7 oz0 hc0 hc1 hc2 hc3 hc4 hc5)).weak (Y_ _) (AS_ (.cons (AV_ (.cons (M_ (by (unfold nodeR;(repeat first|rw[i_ (by omega)]|rw[j_ (by omega)])))) (.cons (M_ (by (unfold nodeR;(repeat first|rw[i_ (by omega)]|rw[j_ (by omega)])))) .nil))) (.cons (M_ (by (unfold nodeR;(repeat first|rw[i_ (by omega)]|rw[j_ (by omega)])))) .nil)))
theorem stepR_6 {n:Nod} {L:List Rng} (h:thereB n ((K_ rchC L).length:Int)=true) (h6:n.kd=6):stepR n L=nodeR n (L.getD n.na.toNat default) (L.getD n.nb.toNat default):=by
 rw[S_] at h
 unfold stepR;rw[i_ h];unfold secN;rw[i_ h6]
theorem stepR_1 {n:Nod} {L:List Rng} (h:thereB n ((K_ rchC L).length:Int)=true) (h6:¬ n.kd=6):stepR n L=nodeR n (L.getD n.na.toNat default) (L.getD n.na.toNat default):=by
 rw[S_] at h
 unfold stepR;rw[i_ h];unfold secN;rw[j_ h6]
theorem stepR_0 {n:Nod} {L:List Rng} (h:thereB n ((K_ rchC L).length:Int)=false):stepR n L=(⟨0,0⟩,8):=by
 rw[S_] at h
 unfold stepR;rw[h];rfl
theorem stepR_ok {n:Nod} {L:List Rng} (h:(stepR n L).2=0):thereB n ((K_ rchC L).length:Int)=true:=by
 cases e:thereB n ((K_ rchC L).length:Int) with
 | true=>rfl
 | false=>rw[stepR_0 e] at h;cases h
theorem stepR_at {n:Nod} {L:List Rng} (okL:∀ r∈L,r.In8) (h:thereB n ((K_ rchC L).length:Int)=true):(0≤n.na∧n.na<L.length∧n.na.toNat<L.length∧(n.kd=6→0≤n.nb∧n.nb<L.length∧n.nb.toNat<L.length))∧(L.getD n.na.toNat default).In8∧(n.kd=6→(L.getD n.nb.toNat default).In8):=by
 rw[S_] at h
 have h:=there_iff.1 h
 have h6:n.kd=6→secN n=n.nb:=fun h=>i_ h
 refine ⟨⟨by omega,by omega,by omega,fun e=>by have:=h6 e;omega⟩,getD_in okL (by omega),fun e=>getD_in okL (by have:=h6 e;omega)⟩
noncomputable def rflow_ly_I (l:List Nod) (a:Rng) (k:Nat):VS:=stt 77 [(0,.sl 19 (l.map nodC)),(7,.own 900),(8,i64 k)] [(900,.slc 153 2 ((growL stepR l a k).map rchC))]
noncomputable def rflow_ly_Z (l:List Nod) (a:Rng):VS:=rflow_ly_I l a (l.length)
theorem rflow_ly_s (l:List Nod) (a:Rng) (okl:∀ n∈l,n.Ok) (wl:∀ n∈l,n.w.length≤100000∧n.b.length≤100000) (ha:a.In8) (f8:l.length≤8) (h:∀ k,k<l.length→errL stepR l a k=0) (k:Nat) (hk:k<l.length):VT N_ (fnC Tryz.f74 [1,1,1,1,1,0,1,0,0]) (rflow_ly_I l a k) .normal (rflow_ly_I l a (k+1)):=by
 have q:=h k hk
 have q1:=growL_len stepR l a k
 have q2:=flow_in okl ha (Nat.le_of_lt hk)
 have q3:=getD_in okl hk
 have q4:=getD_in wl hk
 obtain ⟨q5,q6⟩:=q4
 have q8:(K_ rchC (growL stepR l a k)).length=(growL stepR l a k).length:=S_ _
 unfold errL at q
 have qt:=stepR_ok q
 obtain ⟨qa,qb,qc⟩:=stepR_at (n:=l.getD k default) q2 qt
 have s6:=stepR_6 qt
 have s1:=stepR_1 qt
 have oz0:=(show decide ((↑k:Int)<((K_ nodC l).length:Int))=true by (simp;omega))
 have oz1:=(s_ (0≤(↑k:Int)))
 have oz2:=(map_at (nodC) (default) (l:=l) (i:=k) hk)
 have oz3:=@refThere_v (l.getD k default) (((K_ rchC (growL stepR l a k)).length:Int))
 have oz4:=(show (!thereB (l.getD k default) ((K_ rchC (growL stepR l a k)).length:Int))=false by (rw[qt];rfl))
 have oz5:=(s_ (0≤(l.getD k default).na))
 have oz6:=(s_ ((l.getD k default).na<((K_ rchC (growL stepR l a k)).length:Int)))
 have oz7:=(map_at (rchC) (default) (l:=growL stepR l a k) (i:=(l.getD k default).na.toNat) (by omega))
 rcases bft ((l.getD k default).kd==6) with hc0|hc0
 ·have gc0:(l.getD k default).kd=6:=bet hc0
  have oz11:=(map_at (rchC) (default) (l:=growL stepR l a k) (i:=(l.getD k default).nb.toNat) (by omega))
  have oz15:=@refGNode_v (l.getD k default) ((growL stepR l a k).getD (l.getD k default).na.toNat default) ((growL stepR l a k).getD (l.getD k default).nb.toNat default) q3 qb (by (exact qc (by omega))) q5 q6
  exact tR_ [r_,b_,.r [] [.row (sO oz2)],.r [] [cr oz3],d_,.r [] [.row (sO oz7)],r_,b_,.r [] [.row (sO oz11)],.r [] [.row (sO oz7),cr oz15],r_,d_,r_,.r [] [.n ((↑k:Int)+1)]] [.any (rg [(9,4),(26,15),(42,26),(70,4)]),.drop [9,10,11,72],.ren 73 900,.weak 8 (i64 (↑(k+1):Int)),.blk 900 (Blk.slc 153 2 (K_ rchC (growL stepR l a (k+1)))),.sort] (.c8 oz0 oz1 oz2 oz3 oz4 oz5 oz6 oz7<|.c8 hc0 (s_ (0≤(l.getD k default).nb)) (s_ ((l.getD k default).nb<((K_ rchC (growL stepR l a k)).length:Int))) oz11 oz5 oz6 oz7 oz15<|.d6 (show ((nodeR (l.getD k default) ((growL stepR l a k).getD (l.getD k default).na.toNat default) ((growL stepR l a k).getD (l.getD k default).nb.toNat default)).snd != 0)=false by (rw[s6 (by omega)] at q;rw[q];rfl)) (s_ (((K_ rchC (growL stepR l a k)).length+1)*2≤140737488355328)) (s_ ((K_ rchC (growL stepR l a k)).length+1≤9223372036854775807)) (i6n ((↑k:Int)+1) (by omega)) (wS_ k) (show BlkW (Blk.slc 153 2 (K_ rchC (growL stepR l a k)++[[i8 (nodeR (l.getD k default) ((growL stepR l a k).getD (l.getD k default).na.toNat default) ((growL stepR l a k).getD (l.getD k default).nb.toNat default)).fst.lo,i8 (nodeR (l.getD k default) ((growL stepR l a k).getD (l.getD k default).na.toNat default) ((growL stepR l a k).getD (l.getD k default).nb.toNat default)).fst.hi]])) (Blk.slc 153 2 (K_ rchC (growL stepR l a (k+1)))) from (BU_ (e:=153) (z:=2) (rows_to (rchC) (r:=K_ rchC (growL stepR l a k)++[[i8 (nodeR (l.getD k default) ((growL stepR l a k).getD (l.getD k default).na.toNat default) ((growL stepR l a k).getD (l.getD k default).nb.toNat default)).fst.lo,i8 (nodeR (l.getD k default) ((growL stepR l a k).getD (l.getD k default).na.toNat default) ((growL stepR l a k).getD (l.getD k default).nb.toNat default)).fst.hi]]) (l:=growL stepR l a k++[Rng.mk (nodeR (l.getD k default) ((growL stepR l a k).getD (l.getD k default).na.toNat default) ((growL stepR l a k).getD (l.getD k default).nb.toNat default)).fst.lo (nodeR (l.getD k default) ((growL stepR l a k).getD (l.getD k default).na.toNat default) ((growL stepR l a k).getD (l.getD k default).nb.toNat default)).fst.hi]) (m:=growL stepR l a (k+1)) (by first|(simp only[C_,D_,AM_,AN_,A_,AK_,AL_];done)|rfl|(simp only[C_,D_,AM_,AN_,A_,AK_,AL_];rfl)|(simp only[C_,D_,AM_,AN_,A_,AK_,AL_,rchC,ints];done)) (show (growL stepR l a k++[Rng.mk (nodeR (l.getD k default) ((growL stepR l a k).getD (l.getD k default).na.toNat default) ((growL stepR l a k).getD (l.getD k default).nb.toNat default)).fst.lo (nodeR (l.getD k default) ((growL stepR l a k).getD (l.getD k default).na.toNat default) ((growL stepR l a k).getD (l.getD k default).nb.toNat default)).fst.hi])=(growL stepR l a (k+1)) from (by (rw[growL,s6 (by omega)])))))))
 ·have gc0:¬(l.getD k default).kd=6:=bef hc0
  have oz12:=@refGNode_v (l.getD k default) ((growL stepR l a k).getD (l.getD k default).na.toNat default) ((growL stepR l a k).getD (l.getD k default).na.toNat default) q3 qb qb q5 q6
  exact tR_ [r_,b_,.r [] [.row (sO oz2)],.r [] [cr oz3],d_,.r [] [.row (sO oz7)],r_,d_,.r [] [.row (sO oz7),cr oz12],r_,d_,r_,.r [] [.n ((↑k:Int)+1)]] [.any (rg [(9,4),(26,15),(42,8),(55,13),(70,4)]),.drop [9,10,11,72],.ren 73 900,.weak 8 (i64 (↑(k+1):Int)),.blk 900 (Blk.slc 153 2 (K_ rchC (growL stepR l a (k+1)))),.sort] (.c8 oz0 oz1 oz2 oz3 oz4 oz5 oz6 oz7<|.c8 hc0 oz5 oz6 oz7 oz12 (show ((nodeR (l.getD k default) ((growL stepR l a k).getD (l.getD k default).na.toNat default) ((growL stepR l a k).getD (l.getD k default).na.toNat default)).snd != 0)=false by (rw[s1 (by omega)] at q;rw[q];rfl)) (s_ (((K_ rchC (growL stepR l a k)).length+1)*2≤140737488355328)) (s_ ((K_ rchC (growL stepR l a k)).length+1≤9223372036854775807))<|.d3 (i6n ((↑k:Int)+1) (by omega)) (wS_ k) (show BlkW (Blk.slc 153 2 (K_ rchC (growL stepR l a k)++[[i8 (nodeR (l.getD k default) ((growL stepR l a k).getD (l.getD k default).na.toNat default) ((growL stepR l a k).getD (l.getD k default).na.toNat default)).fst.lo,i8 (nodeR (l.getD k default) ((growL stepR l a k).getD (l.getD k default).na.toNat default) ((growL stepR l a k).getD (l.getD k default).na.toNat default)).fst.hi]])) (Blk.slc 153 2 (K_ rchC (growL stepR l a (k+1)))) from (BU_ (e:=153) (z:=2) (rows_to (rchC) (r:=K_ rchC (growL stepR l a k)++[[i8 (nodeR (l.getD k default) ((growL stepR l a k).getD (l.getD k default).na.toNat default) ((growL stepR l a k).getD (l.getD k default).na.toNat default)).fst.lo,i8 (nodeR (l.getD k default) ((growL stepR l a k).getD (l.getD k default).na.toNat default) ((growL stepR l a k).getD (l.getD k default).na.toNat default)).fst.hi]]) (l:=growL stepR l a k++[Rng.mk (nodeR (l.getD k default) ((growL stepR l a k).getD (l.getD k default).na.toNat default) ((growL stepR l a k).getD (l.getD k default).na.toNat default)).fst.lo (nodeR (l.getD k default) ((growL stepR l a k).getD (l.getD k default).na.toNat default) ((growL stepR l a k).getD (l.getD k default).na.toNat default)).fst.hi]) (m:=growL stepR l a (k+1)) (by first|(simp only[C_,D_,AM_,AN_,A_,AK_,AL_];done)|rfl|(simp only[C_,D_,AM_,AN_,A_,AK_,AL_];rfl)|(simp only[C_,D_,AM_,AN_,A_,AK_,AL_,rchC,ints];done)) (show (growL stepR l a k++[Rng.mk (nodeR (l.getD k default) ((growL stepR l a k).getD (l.getD k default).na.toNat default) ((growL stepR l a k).getD (l.getD k default).na.toNat default)).fst.lo (nodeR (l.getD k default) ((growL stepR l a k).getD (l.getD k default).na.toNat default) ((growL stepR l a k).getD (l.getD k default).na.toNat default)).fst.hi])=(growL stepR l a (k+1)) from (by (rw[growL,s1 (by omega)])))))))
theorem rflow_ly_e (l:List Nod) (a:Rng) (okl:∀ n∈l,n.Ok) (wl:∀ n∈l,n.w.length≤100000∧n.b.length≤100000) (ha:a.In8) (f8:l.length≤8) (h:∀ k,k<l.length→errL stepR l a k=0):VT N_ (fnC Tryz.f74 [1,1,1,1,1,0,1,0,0]) (rflow_ly_I l a (l.length)) (.exit 0) (rflow_ly_Z l a):=by
 exact tR_ [r_,d_] [.any (rg [(26,4)]),.sort] (.d (show decide ((l.length:Int)<((K_ nodC l).length:Int))=false by (simp;done)))
theorem rflow_ly (l:List Nod) (a:Rng) (okl:∀ n∈l,n.Ok) (wl:∀ n∈l,n.w.length≤100000∧n.b.length≤100000) (ha:a.In8) (f8:l.length≤8) (h:∀ k,k<l.length→errL stepR l a k=0):VT N_ (fnC Tryz.f74 [1,1,1,1,1,0,1,0]) (rflow_ly_I l a 0) (.exit 0) (rflow_ly_Z l a) :=
 VT.loop (fun k=>rflow_ly_I l a k) (l.length) (fun k hk=>rflow_ly_s l a okl wl ha f8 h k hk) (rflow_ly_e l a okl wl ha f8 h) (by intro h;cases h)
noncomputable def rflow_ln_I (l:List Nod) (a:Rng) (m:Nat) (k:Nat):VS:=stt 77 [(0,.sl 19 (l.map nodC)),(7,.own 900),(8,i64 k)] [(900,.slc 153 2 ((growL stepR l a k).map rchC))]
noncomputable def rflow_ln_Z (l:List Nod) (a:Rng) (m:Nat):VS:=stt 77 [(4,nilv),(5,i64 m),(6,i64 (errL stepR l a m))] []
theorem rflow_ln_s (l:List Nod) (a:Rng) (m:Nat) (okl:∀ n∈l,n.Ok) (wl:∀ n∈l,n.w.length≤100000∧n.b.length≤100000) (ha:a.In8) (f8:l.length≤8) (hm:m<l.length) (hf:errL stepR l a m≠0) (h:∀ k,k<m→errL stepR l a k=0) (k:Nat) (hk:k<m):VT N_ (fnC Tryz.f74 [1,1,1,1,1,0,1,0,0]) (rflow_ln_I l a m k) .normal (rflow_ln_I l a m (k+1)):=by
 have q:=h k hk
 have q1:=growL_len stepR l a k
 have q2:=flow_in okl ha (s_ (k≤l.length))
 have q3:=getD_in okl (s_ (k<l.length))
 have q4:=getD_in wl (s_ (k<l.length))
 obtain ⟨q5,q6⟩:=q4
 have q8:(K_ rchC (growL stepR l a k)).length=(growL stepR l a k).length:=S_ _
 unfold errL at q
 have qt:=stepR_ok q
 obtain ⟨qa,qb,qc⟩:=stepR_at (n:=l.getD k default) q2 qt
 have s6:=stepR_6 qt
 have s1:=stepR_1 qt
 have oz0:=(show decide ((↑k:Int)<((K_ nodC l).length:Int))=true by (simp;omega))
 have oz1:=(s_ (0≤(↑k:Int)))
 have oz2:=(map_at (nodC) (default) (l:=l) (i:=k) (by omega))
 have oz3:=@refThere_v (l.getD k default) (((K_ rchC (growL stepR l a k)).length:Int))
 have oz4:=(show (!thereB (l.getD k default) ((K_ rchC (growL stepR l a k)).length:Int))=false by (rw[qt];rfl))
 have oz5:=(s_ (0≤(l.getD k default).na))
 have oz6:=(s_ ((l.getD k default).na<((K_ rchC (growL stepR l a k)).length:Int)))
 have oz7:=(map_at (rchC) (default) (l:=growL stepR l a k) (i:=(l.getD k default).na.toNat) (by omega))
 rcases bft ((l.getD k default).kd==6) with hc0|hc0
 ·have gc0:(l.getD k default).kd=6:=bet hc0
  have oz11:=(map_at (rchC) (default) (l:=growL stepR l a k) (i:=(l.getD k default).nb.toNat) (by omega))
  have oz15:=@refGNode_v (l.getD k default) ((growL stepR l a k).getD (l.getD k default).na.toNat default) ((growL stepR l a k).getD (l.getD k default).nb.toNat default) q3 qb (by (exact qc (by omega))) q5 q6
  exact tR_ [r_,b_,.r [] [.row (sO oz2)],.r [] [cr oz3],d_,.r [] [.row (sO oz7)],r_,b_,.r [] [.row (sO oz11)],.r [] [.row (sO oz7),cr oz15],r_,d_,r_,.r [] [.n ((↑k:Int)+1)]] [.any (rg [(9,4),(26,15),(42,26),(70,4)]),.drop [9,10,11,72],.ren 73 900,.weak 8 (i64 (↑(k+1):Int)),.blk 900 (Blk.slc 153 2 (K_ rchC (growL stepR l a (k+1)))),.sort] (.c8 oz0 oz1 oz2 oz3 oz4 oz5 oz6 oz7<|.c8 hc0 (s_ (0≤(l.getD k default).nb)) (s_ ((l.getD k default).nb<((K_ rchC (growL stepR l a k)).length:Int))) oz11 oz5 oz6 oz7 oz15<|.d6 (show ((nodeR (l.getD k default) ((growL stepR l a k).getD (l.getD k default).na.toNat default) ((growL stepR l a k).getD (l.getD k default).nb.toNat default)).snd != 0)=false by (rw[s6 (by omega)] at q;rw[q];rfl)) (s_ (((K_ rchC (growL stepR l a k)).length+1)*2≤140737488355328)) (s_ ((K_ rchC (growL stepR l a k)).length+1≤9223372036854775807)) (i6n ((↑k:Int)+1) (by omega)) (wS_ k) (show BlkW (Blk.slc 153 2 (K_ rchC (growL stepR l a k)++[[i8 (nodeR (l.getD k default) ((growL stepR l a k).getD (l.getD k default).na.toNat default) ((growL stepR l a k).getD (l.getD k default).nb.toNat default)).fst.lo,i8 (nodeR (l.getD k default) ((growL stepR l a k).getD (l.getD k default).na.toNat default) ((growL stepR l a k).getD (l.getD k default).nb.toNat default)).fst.hi]])) (Blk.slc 153 2 (K_ rchC (growL stepR l a (k+1)))) from (BU_ (e:=153) (z:=2) (rows_to (rchC) (r:=K_ rchC (growL stepR l a k)++[[i8 (nodeR (l.getD k default) ((growL stepR l a k).getD (l.getD k default).na.toNat default) ((growL stepR l a k).getD (l.getD k default).nb.toNat default)).fst.lo,i8 (nodeR (l.getD k default) ((growL stepR l a k).getD (l.getD k default).na.toNat default) ((growL stepR l a k).getD (l.getD k default).nb.toNat default)).fst.hi]]) (l:=growL stepR l a k++[Rng.mk (nodeR (l.getD k default) ((growL stepR l a k).getD (l.getD k default).na.toNat default) ((growL stepR l a k).getD (l.getD k default).nb.toNat default)).fst.lo (nodeR (l.getD k default) ((growL stepR l a k).getD (l.getD k default).na.toNat default) ((growL stepR l a k).getD (l.getD k default).nb.toNat default)).fst.hi]) (m:=growL stepR l a (k+1)) (by first|(simp only[C_,D_,AM_,AN_,A_,AK_,AL_];done)|rfl|(simp only[C_,D_,AM_,AN_,A_,AK_,AL_];rfl)|(simp only[C_,D_,AM_,AN_,A_,AK_,AL_,rchC,ints];done)) (show (growL stepR l a k++[Rng.mk (nodeR (l.getD k default) ((growL stepR l a k).getD (l.getD k default).na.toNat default) ((growL stepR l a k).getD (l.getD k default).nb.toNat default)).fst.lo (nodeR (l.getD k default) ((growL stepR l a k).getD (l.getD k default).na.toNat default) ((growL stepR l a k).getD (l.getD k default).nb.toNat default)).fst.hi])=(growL stepR l a (k+1)) from (by (rw[growL,s6 (by omega)])))))))
 ·have gc0:¬(l.getD k default).kd=6:=bef hc0
  have oz12:=@refGNode_v (l.getD k default) ((growL stepR l a k).getD (l.getD k default).na.toNat default) ((growL stepR l a k).getD (l.getD k default).na.toNat default) q3 qb qb q5 q6
  exact tR_ [r_,b_,.r [] [.row (sO oz2)],.r [] [cr oz3],d_,.r [] [.row (sO oz7)],r_,d_,.r [] [.row (sO oz7),cr oz12],r_,d_,r_,.r [] [.n ((↑k:Int)+1)]] [.any (rg [(9,4),(26,15),(42,8),(55,13),(70,4)]),.drop [9,10,11,72],.ren 73 900,.weak 8 (i64 (↑(k+1):Int)),.blk 900 (Blk.slc 153 2 (K_ rchC (growL stepR l a (k+1)))),.sort] (.c8 oz0 oz1 oz2 oz3 oz4 oz5 oz6 oz7<|.c8 hc0 oz5 oz6 oz7 oz12 (show ((nodeR (l.getD k default) ((growL stepR l a k).getD (l.getD k default).na.toNat default) ((growL stepR l a k).getD (l.getD k default).na.toNat default)).snd != 0)=false by (rw[s1 (by omega)] at q;rw[q];rfl)) (s_ (((K_ rchC (growL stepR l a k)).length+1)*2≤140737488355328)) (s_ ((K_ rchC (growL stepR l a k)).length+1≤9223372036854775807))<|.d3 (i6n ((↑k:Int)+1) (by omega)) (wS_ k) (show BlkW (Blk.slc 153 2 (K_ rchC (growL stepR l a k)++[[i8 (nodeR (l.getD k default) ((growL stepR l a k).getD (l.getD k default).na.toNat default) ((growL stepR l a k).getD (l.getD k default).na.toNat default)).fst.lo,i8 (nodeR (l.getD k default) ((growL stepR l a k).getD (l.getD k default).na.toNat default) ((growL stepR l a k).getD (l.getD k default).na.toNat default)).fst.hi]])) (Blk.slc 153 2 (K_ rchC (growL stepR l a (k+1)))) from (BU_ (e:=153) (z:=2) (rows_to (rchC) (r:=K_ rchC (growL stepR l a k)++[[i8 (nodeR (l.getD k default) ((growL stepR l a k).getD (l.getD k default).na.toNat default) ((growL stepR l a k).getD (l.getD k default).na.toNat default)).fst.lo,i8 (nodeR (l.getD k default) ((growL stepR l a k).getD (l.getD k default).na.toNat default) ((growL stepR l a k).getD (l.getD k default).na.toNat default)).fst.hi]]) (l:=growL stepR l a k++[Rng.mk (nodeR (l.getD k default) ((growL stepR l a k).getD (l.getD k default).na.toNat default) ((growL stepR l a k).getD (l.getD k default).na.toNat default)).fst.lo (nodeR (l.getD k default) ((growL stepR l a k).getD (l.getD k default).na.toNat default) ((growL stepR l a k).getD (l.getD k default).na.toNat default)).fst.hi]) (m:=growL stepR l a (k+1)) (by first|(simp only[C_,D_,AM_,AN_,A_,AK_,AL_];done)|rfl|(simp only[C_,D_,AM_,AN_,A_,AK_,AL_];rfl)|(simp only[C_,D_,AM_,AN_,A_,AK_,AL_,rchC,ints];done)) (show (growL stepR l a k++[Rng.mk (nodeR (l.getD k default) ((growL stepR l a k).getD (l.getD k default).na.toNat default) ((growL stepR l a k).getD (l.getD k default).na.toNat default)).fst.lo (nodeR (l.getD k default) ((growL stepR l a k).getD (l.getD k default).na.toNat default) ((growL stepR l a k).getD (l.getD k default).na.toNat default)).fst.hi])=(growL stepR l a (k+1)) from (by (rw[growL,s1 (by omega)])))))))
theorem rflow_ln_e (l:List Nod) (a:Rng) (m:Nat) (okl:∀ n∈l,n.Ok) (wl:∀ n∈l,n.w.length≤100000∧n.b.length≤100000) (ha:a.In8) (f8:l.length≤8) (hm:m<l.length) (hf:errL stepR l a m≠0) (h:∀ k,k<m→errL stepR l a k=0):VT N_ (fnC Tryz.f74 [1,1,1,1,1,0,1,0,0]) (rflow_ln_I l a m (m)) (.ret) (rflow_ln_Z l a m):=by
 have q1:=growL_len stepR l a m
 have q2:=flow_in okl ha (Nat.le_of_lt hm)
 have q3:=getD_in okl hm
 have q4:=getD_in wl hm
 obtain ⟨q5,q6⟩:=q4
 have q8:(K_ rchC (growL stepR l a m)).length=(growL stepR l a m).length:=S_ _
 have qa:=fun h=>stepR_at (n:=l.getD m default) q2 h
 have s6:=@stepR_6 (l.getD m default) (growL stepR l a m)
 have s1:=@stepR_1 (l.getD m default) (growL stepR l a m)
 have s0:=@stepR_0 (l.getD m default) (growL stepR l a m)
 have q:errL stepR l a m=(stepR (l.getD m default) (growL stepR l a m)).2:=rfl
 unfold errL at hf
 have oz0:=(show decide ((↑m:Int)<((K_ nodC l).length:Int))=true by (simp;omega))
 have oz1:=(s_ (0≤(↑m:Int)))
 have oz2:=(map_at (nodC) (default) (l:=l) (i:=m) hm)
 have oz3:=@refThere_v (l.getD m default) (((K_ rchC (growL stepR l a m)).length:Int))
 rcases bft (!thereB (l.getD m default) ((K_ rchC (growL stepR l a m)).length:Int)) with hc0|hc0
 ·have gc0:thereB (l.getD m default) ((K_ rchC (growL stepR l a m)).length:Int)=false:=by first|exact hc0|exact of_decide_eq_true hc0|exact of_decide_eq_false hc0|simpa [eqNums] using hc0|(simp[eqNums] at hc0 ⊢;first|done|assumption|omega)
  exact tR_ [r_,b_,.r [] [.row (sO oz2)],.r [] [cr oz3],b_,r_] [.any (rg [(0,1),(7,3),(26,4),(32,10)]),.drop [900,9],.weak 6 (i64 (errL stepR l a m)),.sort] (.d6 oz0 oz1 oz2 oz3 hc0 (M_ (k:=.i64) (show ((8):Int)=(errL stepR l a m) from (by (rw[q,s0 (by simp_all)])))))
 ·have gc0:thereB (l.getD m default) ((K_ rchC (growL stepR l a m)).length:Int)=true:=by first|exact hc0|exact of_decide_eq_true hc0|exact of_decide_eq_false hc0|simpa [eqNums] using hc0|(simp[eqNums] at hc0 ⊢;first|done|assumption|omega)
  have oz5:=(show 0≤(l.getD m default).na by (have:=qa (by assumption);omega))
  have oz6:=(show (l.getD m default).na<((K_ rchC (growL stepR l a m)).length:Int) by (have:=qa (by assumption);omega))
  have oz7:=(map_at (rchC) (default) (l:=growL stepR l a m) (i:=(l.getD m default).na.toNat) (by (have:=qa (by assumption);omega)))
  rcases bft ((l.getD m default).kd==6) with hc1|hc1
  ·have gc1:(l.getD m default).kd=6:=bet hc1
   have oz11:=(map_at (rchC) (default) (l:=growL stepR l a m) (i:=(l.getD m default).nb.toNat) (by (have:=qa (by assumption);omega)))
   have oz15:=@refGNode_v (l.getD m default) ((growL stepR l a m).getD (l.getD m default).na.toNat default) ((growL stepR l a m).getD (l.getD m default).nb.toNat default) q3 (by (have:=qa (by assumption);exact this.2.1)) (by (have:=qa (by assumption);exact this.2.2 (by omega))) q5 q6
   have oz17:=(M_ (k:=.i64) (show (((nodeR (l.getD m default) ((growL stepR l a m).getD (l.getD m default).na.toNat default) ((growL stepR l a m).getD (l.getD m default).nb.toNat default)).snd):Int)=(errL stepR l a m) from (by (rw[q,s6 (by assumption) (by omega)]))))
   exact tR_ [r_,b_,.r [] [.row (sO oz2)],.r [] [cr oz3],d_,.r [] [.row (sO oz7)],r_,b_,.r [] [.row (sO oz11)],.r [] [.row (sO oz7),cr oz15],r_,b_,r_] [.any (rg [(0,1),(7,6),(26,4),(32,9),(42,28)]),.drop [900,9,10,11],.weak 6 (wO oz17),.sort] (.c8 oz0 oz1 oz2 oz3 hc0 oz5 oz6 oz7<|.c8 hc1 (show 0≤(l.getD m default).nb by (have:=qa (by assumption);omega)) (show (l.getD m default).nb<((K_ rchC (growL stepR l a m)).length:Int) by (have:=qa (by assumption);omega)) oz11 oz5 oz6 oz7 oz15<|.d2 (show ((nodeR (l.getD m default) ((growL stepR l a m).getD (l.getD m default).na.toNat default) ((growL stepR l a m).getD (l.getD m default).nb.toNat default)).snd != 0)=true by (rw[s6 (by assumption) (by omega)] at hf;rw[J_];exact hf)) oz17)
  ·have gc1:¬(l.getD m default).kd=6:=bef hc1
   have oz12:=@refGNode_v (l.getD m default) ((growL stepR l a m).getD (l.getD m default).na.toNat default) ((growL stepR l a m).getD (l.getD m default).na.toNat default) q3 (by (have:=qa (by assumption);exact this.2.1)) (by (have:=qa (by assumption);exact this.2.1)) q5 q6
   have oz14:=(M_ (k:=.i64) (show (((nodeR (l.getD m default) ((growL stepR l a m).getD (l.getD m default).na.toNat default) ((growL stepR l a m).getD (l.getD m default).na.toNat default)).snd):Int)=(errL stepR l a m) from (by (rw[q,s1 (by assumption) (by omega)]))))
   exact tR_ [r_,b_,.r [] [.row (sO oz2)],.r [] [cr oz3],d_,.r [] [.row (sO oz7)],r_,d_,.r [] [.row (sO oz7),cr oz12],r_,b_,r_] [.any (rg [(0,1),(7,6),(26,4),(32,9),(42,8),(55,15)]),.drop [900,9,10,11],.weak 6 (wO oz14),.sort] (.c8 oz0 oz1 oz2 oz3 hc0 oz5 oz6 oz7<|.d7 hc1 oz5 oz6 oz7 oz12 (show ((nodeR (l.getD m default) ((growL stepR l a m).getD (l.getD m default).na.toNat default) ((growL stepR l a m).getD (l.getD m default).na.toNat default)).snd != 0)=true by (rw[s1 (by assumption) (by omega)] at hf;rw[J_];exact hf)) oz14)
theorem rflow_ln (l:List Nod) (a:Rng) (m:Nat) (okl:∀ n∈l,n.Ok) (wl:∀ n∈l,n.w.length≤100000∧n.b.length≤100000) (ha:a.In8) (f8:l.length≤8) (hm:m<l.length) (hf:errL stepR l a m≠0) (h:∀ k,k<m→errL stepR l a k=0):VT N_ (fnC Tryz.f74 [1,1,1,1,1,0,1,0]) (rflow_ln_I l a m 0) (.ret) (rflow_ln_Z l a m) :=
 VT.loop (fun k=>rflow_ln_I l a m k) (m) (fun k hk=>rflow_ln_s l a m okl wl ha f8 hm hf h k hk) (rflow_ln_e l a m okl wl ha f8 hm hf h) (by intro h;cases h)
theorem rflow_y (l:List Nod) (a:Rng) (okl:∀ n∈l,n.Ok) (wl:∀ n∈l,n.w.length≤100000∧n.b.length≤100000) (ha:a.In8) (h:FOK l a):VC N_ 74 ([.sl 19 (l.map nodC),rch a]) (.tup [.sl 2 ((growL stepR l a l.length).map rchC),i64 l.length,i64 0]):=by
 obtain ⟨q2,q3,q1,q4⟩:=id h
 have oz4:=@rflow_ly (l) (a) okl wl ha q3 q4
 exact (cR_ [r_,r_,d_,r_,d_,r_,d_,r_,r_,.code [.any (rg [(1,1),(3,4),(13,13)]),.drop [3],.ren 25 900,.weak 8 (i64 (↑0:Int)),.sort] (AA_ 0) (zO oz4),r_] (AV.tup [AV.sl 2 (K_ rchC (growL stepR l a l.length)),i64 ((K_ nodC l).length:Int),i64 0]) Tryz.func74 (.d5 (show (((K_ nodC l).length:Int)==0)=false by (simp only[E_,F_,I_,J_,ne_eq,H_,G_,U_,T_,BL_,BS_,BP_,Classical.not_not,CO_,CF_,O_,P_,X_,Q_,B_,BN_,BR_,AD_,BW_,BT_,eqNums,S_,AX_,AJ_,BB_,BA_,AH_,AE_,BZ_,AG_,BO_,BX_,BQ_];(first|done|with_reducible assumption|omega|contradiction))) (show decide (((K_ nodC l).length:Int)>8)=false by (simp;omega)) (decide_eq_false (p:=(a.lo>a.hi)) (by omega)) w0_ oz4)).weak (Y_ _) (AS_ (.cons (.refl _) (.cons (M_ (by (simp;done))) (.cons (.refl _) .nil))))
theorem rflow_m (l:List Nod) (a:Rng) (m:Nat) (okl:∀ n∈l,n.Ok) (wl:∀ n∈l,n.w.length≤100000∧n.b.length≤100000) (ha:a.In8) (i:a.lo≤a.hi) (f8:l.length≤8) (hm:m<l.length) (hf:errL stepR l a m≠0) (h:∀ k,k<m→errL stepR l a k=0):VC N_ 74 ([.sl 19 (l.map nodC),rch a]) (.tup [nilv,i64 m,i64 (errL stepR l a m)]):=by
 have oz4:=@rflow_ln (l) (a) (m) okl wl ha f8 hm hf h
 exact cR_ [r_,r_,d_,r_,d_,r_,d_,r_,r_,.code [.any (rg [(1,1),(3,4),(13,13)]),.drop [3],.ren 25 900,.weak 8 (i64 (↑0:Int)),.sort] (DN_) (zO oz4)] _ Tryz.func74 (.d5 (show (((K_ nodC l).length:Int)==0)=false by (simp only[E_,F_,I_,J_,ne_eq,H_,G_,U_,T_,BL_,BS_,BP_,Classical.not_not,CO_,CF_,O_,P_,X_,Q_,B_,BN_,BR_,AD_,BW_,BT_,eqNums,S_,AX_,AJ_,BB_,BA_,AH_,AE_,BZ_,AG_,BO_,BX_,BQ_];(first|done|with_reducible assumption|omega|contradiction))) (show decide (((K_ nodC l).length:Int)>8)=false by (simp;omega)) (decide_eq_false (p:=(a.lo>a.hi)) (by omega)) w0_ oz4)
theorem rflow_a (l:List Nod) (a:Rng) (hl:l.length≤1000) (h:l.length=0∨8<l.length∨a.lo>a.hi):VC N_ 74 ([.sl 19 (l.map nodC),rch a]) (.tup [nilv,i64 (flowE l a).1,i64 (flowE l a).2]):=by
 rcases bft (((K_ nodC l).length:Int)==0) with hc0|hc0
 ·have gc0:((K_ nodC l).length:Int)=0:=bet hc0
  exact (cR_ [r_,r_,b_,r_] (AV.tup [AV.lit (AY_ none 0 0),i64 (-1),i64 12]) Tryz.func74 (.d hc0)).weak (Y_ _) (AS_ (.cons (.refl _) (.cons (M_ (by (unfold flowE;(try simp only[S_] at *);(repeat first|rw[i_ (by omega)]|rw[j_ (by omega)])))) (.cons (M_ (by (unfold flowE;(try simp only[S_] at *);(repeat first|rw[i_ (by omega)]|rw[j_ (by omega)])))) .nil))))
 ·have gc0:¬((K_ nodC l).length:Int)=0:=bef hc0
  rcases bft (decide (((K_ nodC l).length:Int)>8)) with hc1|hc1
  ·have gc1:=of_decide_eq_true hc1
   exact (cR_ [r_,r_,d_,r_,b_,r_] (AV.tup [AV.lit (AY_ none 0 0),i64 (-1),i64 4]) Tryz.func74 (.d2 hc0 hc1)).weak (Y_ _) (AS_ (.cons (.refl _) (.cons (M_ (by (unfold flowE;(try simp only[S_] at *);(repeat first|rw[i_ (by omega)]|rw[j_ (by omega)])))) (.cons (M_ (by (unfold flowE;(try simp only[S_] at *);(repeat first|rw[i_ (by omega)]|rw[j_ (by omega)])))) .nil))))
  ·have gc1:=of_decide_eq_false hc1
   exact (cR_ [r_,r_,d_,r_,d_,r_,b_,r_] (AV.tup [AV.lit (AY_ none 0 0),i64 (-1),i64 2]) Tryz.func74 (.d3 hc0 hc1 (show decide (a.lo>a.hi)=true by (simp only[E_,F_,I_,J_,ne_eq,H_,G_,U_,T_,BL_,BS_,BP_,Classical.not_not,CO_,CF_,O_,P_,X_,Q_,B_,BN_,BR_,AD_,BW_,BT_,eqNums,S_,AX_,AJ_,BB_,BA_,AH_,AE_,BZ_,AG_,BO_,BX_,BQ_] at *;(first|done|with_reducible assumption|omega|contradiction))))).weak (Y_ _) (AS_ (.cons (.refl _) (.cons (M_ (by (unfold flowE;(try simp only[S_] at *);(repeat first|rw[i_ (by omega)]|rw[j_ (by omega)])))) (.cons (M_ (by (unfold flowE;(try simp only[S_] at *);(repeat first|rw[i_ (by omega)]|rw[j_ (by omega)])))) .nil))))
theorem rflow_n (l:List Nod) (a:Rng) (okl:∀ n∈l,n.Ok) (wl:∀ n∈l,n.w.length≤100000∧n.b.length≤100000) (ha:a.In8) (hl:l.length≤1000) (h:¬ FOK l a):VC N_ 74 [.sl 19 (l.map nodC),rch a] (.tup [nilv,i64 (flowE l a).1,i64 (flowE l a).2]):=by
 rcases FOK.cases l a with q|q|⟨i,e,f,m,h1,h2,h3⟩
 ·exact absurd q h
 ·exact rflow_a l a hl q
 ·rw[flowE_at i e f h1 h2 h3];exact rflow_m l a m okl wl ha i f h1 h2 h3
def Shp.Rt (s:Shp):Prop:=0<elems s.h s.x s.c
abbrev zsh:Shp:=⟨0,0,0⟩
theorem zsh_ok:zsh.Ok:=by constructor<;>exact ⟨by decide,by decide⟩
theorem Shp.Rt.ok {s:Shp} (h:s.Rt):s.Ok:=by
 have:=elems_ok h
 exact ⟨⟨by omega,by omega⟩,⟨by omega,by omega⟩,⟨by omega,by omega⟩⟩
def Told (r:Shp×Int):Prop:=(r.2=0∧r.1.Rt)∨(r.2≠0∧r.1=zsh)
theorem slideE_told (t:Shp) (k s p o:Int):Told (slideE t k s p o):=by
 unfold slideE
 split
 ·exact .inr ⟨by dsimp only;decide,rfl⟩
 ·split
  ·exact .inr ⟨by assumption,rfl⟩
  ·split
   ·exact .inr ⟨by assumption,rfl⟩
   ·split
    ·exact .inr ⟨by dsimp only;decide,rfl⟩
    ·rename_i h;exact .inl ⟨rfl,Classical.not_not.1 h⟩
theorem convE_told (t:Shp) (n:Nod):Told (convE t n):=by
 have q:=slideE_told t n.nk n.ns n.np n.no
 unfold convE
 split
 ·exact .inr ⟨by assumption,rfl⟩
 ·split
  ·exact .inr ⟨by dsimp only;decide,rfl⟩
  ·rcases q with q|q
   ·exact .inl ⟨rfl,q.2⟩
   ·exact absurd q.1 (by assumption)
theorem depthE_told (t:Shp) (n:Nod):Told (depthE t n):=by
 have q:=slideE_told t n.nk n.ns n.np t.c
 unfold depthE
 split
 ·exact .inr ⟨by assumption,rfl⟩
 ·split
  ·exact .inr ⟨by dsimp only;decide,rfl⟩
  ·rcases q with q|q
   ·exact .inl ⟨rfl,q.2⟩
   ·exact absurd q.1 (by assumption)
theorem denseE_told (t:Shp) (n:Nod):Told (denseE t n):=by
 unfold denseE
 split
 ·exact .inr ⟨by dsimp only;decide,rfl⟩
 ·split
  ·exact .inr ⟨by dsimp only;decide,rfl⟩
  ·rename_i h _
   have:=elems_in 1 1 n.no
   exact .inl ⟨rfl,by unfold Shp.Rt;dsimp only;omega⟩
theorem aroundE_told (a:Shp) (p:Int):Told (aroundE a p):=by
 unfold aroundE
 split
 ·exact .inr ⟨by dsimp only;decide,rfl⟩
 ·split
  ·exact .inr ⟨by dsimp only;decide,rfl⟩
  ·have:=elems_in (a.h+2*p) (a.x+2*p) a.c
   exact .inl ⟨rfl,by unfold Shp.Rt;dsimp only;omega⟩
theorem flat_rt {n:Int} (h0:0<n) (h:n≤1024):0<elems 1 1 n:=by
 unfold elems;rw[i_ (by omega)];omega
theorem shapeE_told (n:Nod) (a b:Shp):Told (shapeE n a b):=by
 unfold shapeE
 split
 ·exact convE_told a n
 ·split
  ·exact depthE_told a n
  ·split
   ·exact denseE_told a n
   ·split
    ·exact slideE_told a n.nk n.ns n.np a.c
    ·split
     ·exact .inr ⟨by dsimp only;decide,rfl⟩
     ·split
      ·exact .inr ⟨by dsimp only;decide,rfl⟩
      ·rename_i h
       have q:=elems_in a.h a.x a.c
       split
       ·exact (.inl ⟨rfl,show 0<elems 1 1 (elems a.h a.x a.c) from flat_rt (by omega) q.2⟩)
       ·split
        ·exact aroundE_told a n.np
        ·exact .inl ⟨rfl,by unfold Shp.Rt;dsimp only;omega⟩
theorem nextE_told (n:Nod) (L:List Shp):Told (nextE n L):=by
 unfold nextE
 split
 ·exact .inr ⟨by assumption,rfl⟩
 ·split
  ·exact shapeE_told _ _ _
  ·exact .inr ⟨by dsimp only;decide,rfl⟩
theorem Told.ok {r:Shp×Int} (h:Told r):r.1.Ok:=by
 rcases h with h|h
 ·exact h.2.ok
 ·rw[h.2];exact zsh_ok
structure SOK (l:List Nod) (a:Shp):Prop where
 i:a.Rt
 e:0<l.length
 f:l.length≤8
 k:∀ k,k<l.length→errL nextE l a k=0
def shapesB (l:List Nod) (a:Shp):Nat→Bool:=fun k=>errL nextE l a k==0
def shapesE (l:List Nod) (a:Shp):Int×Int :=
 if ¬ 0<elems a.h a.x a.c then (-1,5) else if l.length=0 then (-1,12) else if 8<l.length then (-1,4)
 else if firstBad (shapesB l a) l.length<l.length then (firstBad (shapesB l a) l.length,errL nextE l a (firstBad (shapesB l a) l.length)) else (l.length,0)
theorem shapesE_y {l:List Nod} {a:Shp} (h:SOK l a):shapesE l a=((l.length:Int),0):=by
 have h0:=h.i
 unfold Shp.Rt at h0
 have h1:=h.e
 have h2:=h.f
 unfold shapesE
 rw[j_ (by omega),j_ (by omega),j_ (by omega),firstBad_all fun k hk=>by simpa [shapesB] using h.k k hk,j_ (by omega)]
theorem shapesE_at {l:List Nod} {a:Shp} {m:Nat} (i:a.Rt) (e:0<l.length) (f:l.length≤8) (hm:m<l.length) (hf:errL nextE l a m≠0) (h:∀ k,k<m→errL nextE l a k=0):shapesE l a=((m:Int),errL nextE l a m):=by
 unfold Shp.Rt at i
 have:=firstBad_at (p:=shapesB l a) (m:=m) (by simpa [shapesB] using hf) (fun k hk=>by simpa [shapesB] using h k hk) hm
 unfold shapesE
 rw[j_ (by omega),j_ (by omega),j_ (by omega),this,i_ hm]
theorem SOK.cases (l:List Nod) (a:Shp):SOK l a∨¬ a.Rt∨l.length=0∨8<l.length∨(a.Rt∧0<l.length∧l.length≤8∧∃ m,m<l.length∧errL nextE l a m≠0∧∀ k,k<m→errL nextE l a k=0):=by
 by_cases i:a.Rt
 ·by_cases e:0<l.length
  ·by_cases f:l.length≤8
   ·rcases all_or (shapesB l a) l.length with h|⟨m,h1,h2,h3⟩
    ·exact .inl ⟨i,e,f,fun k hk=>by simpa [shapesB] using h k hk⟩
    ·exact .inr (.inr (.inr (.inr ⟨i,e,f,m,h1,by simpa [shapesB] using h2,fun k hk=>by simpa [shapesB] using h3 k hk⟩)))
   ·exact .inr (.inr (.inr (.inl (by omega))))
  ·exact .inr (.inr (.inl (by omega)))
 ·exact .inr (.inl i)
theorem shapesE_n {l:List Nod} {a:Shp} (h:¬ SOK l a):(shapesE l a).2≠0:=by
 rcases SOK.cases l a with q|q|q|q|⟨i,e,f,m,h1,h2,h3⟩
 ·exact absurd q h
 ·have e:shapesE l a=(-1,5):=by unfold shapesE;exact i_ q
  rw[e];decide
 ·unfold shapesE
  by_cases c1:¬ 0<elems a.h a.x a.c
  ·rw[i_ c1];dsimp only;decide
  ·rw[j_ c1,i_ q];dsimp only;decide
 ·unfold shapesE
  by_cases c1:¬ 0<elems a.h a.x a.c
  ·rw[i_ c1];dsimp only;decide
  ·rw[j_ c1,j_ (by omega),i_ q];dsimp only;decide
 ·rw[shapesE_at i e f h1 h2 h3];exact h2
theorem grow_ok {l:List Nod} {a:Shp} (i:a.Ok) (k:Nat):∀ s∈growL nextE l a k,s.Ok :=
 growL_all (n:=k) i (fun j _ _=>(nextE_told _ _).ok) k (AT_ _)
noncomputable def shapes_ly_I (l:List Nod) (a:Shp) (k:Nat):VS:=stt 51 [(0,.sl 19 (l.map nodC)),(7,.own 900),(26,.sl 19 (l.map nodC)),(27,i64 l.length),(28,i64 k)] [(900,.slc 23 3 ((growL nextE l a k).map shpC))]
noncomputable def shapes_ly_Z (l:List Nod) (a:Shp):VS:=shapes_ly_I l a (l.length)
theorem shapes_ly_s (l:List Nod) (a:Shp) (okl:∀ n∈l,n.Ok) (wl:∀ n∈l,n.w.length≤100000∧n.b.length≤100000) (i:a.Ok) (f8:l.length≤8) (h:∀ k,k<l.length→errL nextE l a k=0) (k:Nat) (hk:k<l.length):VT N_ (fnC Tryz.f89 [1,1,1,0,1,0,0]) (shapes_ly_I l a k) .normal (shapes_ly_I l a (k+1)):=by
 have q:=h k hk
 have q1:=growL_len nextE l a k
 have q2:=grow_ok (l:=l) i k
 have q3:=getD_in okl hk
 have q4:=getD_in wl hk
 obtain ⟨q5,q6⟩:=q4
 unfold errL at q
 have oz2:=(map_at (nodC) (default) (l:=l) (i:=k) hk)
 have oz3:=@next_v (l.getD k default) (growL nextE l a k) q3 q2 (by omega) q5 q6
 exact tR_ [r_,b_,.r [] [.row (sO oz2)],.r [] [cr oz3],r_,d_,r_,.r [] [.n ((↑k:Int)+1)]] [.any (rg [(8,4),(29,12),(43,5)]),.drop [9,10,45],.ren 46 900,.weak 28 (i64 (↑(k+1):Int)),.blk 900 (Blk.slc 23 3 (K_ shpC (growL nextE l a (k+1)))),.sort] (.c8 (decide_eq_true (p:=((↑k:Int)<(l.length:Int))) (by omega)) (s_ (0≤(↑k:Int))) oz2 oz3 (show ((nextE (l.getD k default) (growL nextE l a k)).snd != 0)=false by (simp at *;omega)) (show ((K_ shpC (growL nextE l a k)).length+1)*24≤140737488355328 by (simp;omega)) (show (K_ shpC (growL nextE l a k)).length+1≤9223372036854775807 by (simp;omega)) (i6n ((↑k:Int)+1) (by omega))<|.d2 (wS_ k) (show BlkW (Blk.slc 23 3 (K_ shpC (growL nextE l a k)++[[i64 (nextE (l.getD k default) (growL nextE l a k)).fst.h,i64 (nextE (l.getD k default) (growL nextE l a k)).fst.x,i64 (nextE (l.getD k default) (growL nextE l a k)).fst.c]])) (Blk.slc 23 3 (K_ shpC (growL nextE l a (k+1)))) from (BU_ (e:=23) (z:=3) (rows_to (shpC) (r:=K_ shpC (growL nextE l a k)++[[i64 (nextE (l.getD k default) (growL nextE l a k)).fst.h,i64 (nextE (l.getD k default) (growL nextE l a k)).fst.x,i64 (nextE (l.getD k default) (growL nextE l a k)).fst.c]]) (l:=growL nextE l a k++[Shp.mk (nextE (l.getD k default) (growL nextE l a k)).fst.h (nextE (l.getD k default) (growL nextE l a k)).fst.x (nextE (l.getD k default) (growL nextE l a k)).fst.c]) (m:=growL nextE l a (k+1)) (by first|(simp only[C_,D_,AM_,AN_,A_,AK_,AL_];done)|rfl|(simp only[C_,D_,AM_,AN_,A_,AK_,AL_];rfl)|(simp only[C_,D_,AM_,AN_,A_,AK_,AL_,shpC,ints];done)) (show (growL nextE l a k++[Shp.mk (nextE (l.getD k default) (growL nextE l a k)).fst.h (nextE (l.getD k default) (growL nextE l a k)).fst.x (nextE (l.getD k default) (growL nextE l a k)).fst.c])=(growL nextE l a (k+1)) from (by rfl))))))
theorem shapes_ly_e (l:List Nod) (a:Shp) (okl:∀ n∈l,n.Ok) (wl:∀ n∈l,n.w.length≤100000∧n.b.length≤100000) (i:a.Ok) (f8:l.length≤8) (h:∀ k,k<l.length→errL nextE l a k=0):VT N_ (fnC Tryz.f89 [1,1,1,0,1,0,0]) (shapes_ly_I l a (l.length)) (.exit 1) (shapes_ly_Z l a):=by
 exact tR_ [r_,d_] [.any [29],.sort] (.d (decide_eq_false (p:=((l.length:Int)<(l.length:Int))) (by omega)))
theorem shapes_ly (l:List Nod) (a:Shp) (okl:∀ n∈l,n.Ok) (wl:∀ n∈l,n.w.length≤100000∧n.b.length≤100000) (i:a.Ok) (f8:l.length≤8) (h:∀ k,k<l.length→errL nextE l a k=0):VT N_ (fnC Tryz.f89 [1,1,1,0,1,0]) (shapes_ly_I l a 0) (.exit 1) (shapes_ly_Z l a) :=
 VT.loop (fun k=>shapes_ly_I l a k) (l.length) (fun k hk=>shapes_ly_s l a okl wl i f8 h k hk) (shapes_ly_e l a okl wl i f8 h) (by intro h;cases h)
noncomputable def shapes_ln_I (l:List Nod) (a:Shp) (m:Nat) (k:Nat):VS:=stt 51 [(0,.sl 19 (l.map nodC)),(7,.own 900),(26,.sl 19 (l.map nodC)),(27,i64 l.length),(28,i64 k)] [(900,.slc 23 3 ((growL nextE l a k).map shpC))]
noncomputable def shapes_ln_Z (l:List Nod) (a:Shp) (m:Nat):VS:=stt 51 [(4,nilv),(5,i64 m),(6,i64 (errL nextE l a m))] []
theorem shapes_ln_s (l:List Nod) (a:Shp) (m:Nat) (okl:∀ n∈l,n.Ok) (wl:∀ n∈l,n.w.length≤100000∧n.b.length≤100000) (i:a.Ok) (f8:l.length≤8) (hm:m<l.length) (hf:errL nextE l a m≠0) (h:∀ k,k<m→errL nextE l a k=0) (k:Nat) (hk:k<m):VT N_ (fnC Tryz.f89 [1,1,1,0,1,0,0]) (shapes_ln_I l a m k) .normal (shapes_ln_I l a m (k+1)):=by
 have q:=h k hk
 have q1:=growL_len nextE l a k
 have q2:=grow_ok (l:=l) i k
 have q3:=getD_in okl (s_ (k<l.length))
 have q4:=getD_in wl (s_ (k<l.length))
 obtain ⟨q5,q6⟩:=q4
 unfold errL at q
 have oz2:=(map_at (nodC) (default) (l:=l) (i:=k) (by omega))
 have oz3:=@next_v (l.getD k default) (growL nextE l a k) q3 q2 (by omega) q5 q6
 exact tR_ [r_,b_,.r [] [.row (sO oz2)],.r [] [cr oz3],r_,d_,r_,.r [] [.n ((↑k:Int)+1)]] [.any (rg [(8,4),(29,12),(43,5)]),.drop [9,10,45],.ren 46 900,.weak 28 (i64 (↑(k+1):Int)),.blk 900 (Blk.slc 23 3 (K_ shpC (growL nextE l a (k+1)))),.sort] (.c8 (decide_eq_true (p:=((↑k:Int)<(l.length:Int))) (by omega)) (s_ (0≤(↑k:Int))) oz2 oz3 (show ((nextE (l.getD k default) (growL nextE l a k)).snd != 0)=false by (simp at *;omega)) (show ((K_ shpC (growL nextE l a k)).length+1)*24≤140737488355328 by (simp;omega)) (show (K_ shpC (growL nextE l a k)).length+1≤9223372036854775807 by (simp;omega)) (i6n ((↑k:Int)+1) (by omega))<|.d2 (wS_ k) (show BlkW (Blk.slc 23 3 (K_ shpC (growL nextE l a k)++[[i64 (nextE (l.getD k default) (growL nextE l a k)).fst.h,i64 (nextE (l.getD k default) (growL nextE l a k)).fst.x,i64 (nextE (l.getD k default) (growL nextE l a k)).fst.c]])) (Blk.slc 23 3 (K_ shpC (growL nextE l a (k+1)))) from (BU_ (e:=23) (z:=3) (rows_to (shpC) (r:=K_ shpC (growL nextE l a k)++[[i64 (nextE (l.getD k default) (growL nextE l a k)).fst.h,i64 (nextE (l.getD k default) (growL nextE l a k)).fst.x,i64 (nextE (l.getD k default) (growL nextE l a k)).fst.c]]) (l:=growL nextE l a k++[Shp.mk (nextE (l.getD k default) (growL nextE l a k)).fst.h (nextE (l.getD k default) (growL nextE l a k)).fst.x (nextE (l.getD k default) (growL nextE l a k)).fst.c]) (m:=growL nextE l a (k+1)) (by first|(simp only[C_,D_,AM_,AN_,A_,AK_,AL_];done)|rfl|(simp only[C_,D_,AM_,AN_,A_,AK_,AL_];rfl)|(simp only[C_,D_,AM_,AN_,A_,AK_,AL_,shpC,ints];done)) (show (growL nextE l a k++[Shp.mk (nextE (l.getD k default) (growL nextE l a k)).fst.h (nextE (l.getD k default) (growL nextE l a k)).fst.x (nextE (l.getD k default) (growL nextE l a k)).fst.c])=(growL nextE l a (k+1)) from (by rfl))))))
theorem shapes_ln_e (l:List Nod) (a:Shp) (m:Nat) (okl:∀ n∈l,n.Ok) (wl:∀ n∈l,n.w.length≤100000∧n.b.length≤100000) (i:a.Ok) (f8:l.length≤8) (hm:m<l.length) (hf:errL nextE l a m≠0) (h:∀ k,k<m→errL nextE l a k=0):VT N_ (fnC Tryz.f89 [1,1,1,0,1,0,0]) (shapes_ln_I l a m (m)) (.ret) (shapes_ln_Z l a m):=by
 have q1:=growL_len nextE l a m
 have q2:=grow_ok (l:=l) i m
 have q3:=getD_in okl hm
 have q4:=getD_in wl hm
 obtain ⟨q5,q6⟩:=q4
 unfold errL at hf
 have oz2:=(map_at (nodC) (default) (l:=l) (i:=m) hm)
 have oz3:=@next_v (l.getD m default) (growL nextE l a m) q3 q2 (by omega) q5 q6
 have oz5:=(M_ (k:=.i64) (show (((nextE (l.getD m default) (growL nextE l a m)).snd):Int)=(errL nextE l a m) from (by rfl)))
 exact tR_ [r_,b_,.r [] [.row (sO oz2)],.r [] [cr oz3],r_,b_,r_] [.any (rg [(0,1),(7,5),(26,17)]),.drop [900,9,10],.weak 6 (wO oz5),.sort] (.d6 (decide_eq_true (p:=((↑m:Int)<(l.length:Int))) (by omega)) (s_ (0≤(↑m:Int))) oz2 oz3 (show ((nextE (l.getD m default) (growL nextE l a m)).snd != 0)=true by (simp at *;omega)) oz5)
theorem shapes_ln (l:List Nod) (a:Shp) (m:Nat) (okl:∀ n∈l,n.Ok) (wl:∀ n∈l,n.w.length≤100000∧n.b.length≤100000) (i:a.Ok) (f8:l.length≤8) (hm:m<l.length) (hf:errL nextE l a m≠0) (h:∀ k,k<m→errL nextE l a k=0):VT N_ (fnC Tryz.f89 [1,1,1,0,1,0]) (shapes_ln_I l a m 0) (.ret) (shapes_ln_Z l a m) :=
 VT.loop (fun k=>shapes_ln_I l a m k) (m) (fun k hk=>shapes_ln_s l a m okl wl i f8 hm hf h k hk) (shapes_ln_e l a m okl wl i f8 hm hf h) (by intro h;cases h)
theorem shapes_y (l:List Nod) (a:Shp) (okl:∀ n∈l,n.Ok) (wl:∀ n∈l,n.w.length≤100000∧n.b.length≤100000) (h:SOK l a):VC N_ 89 ([.sl 19 (l.map nodC),shp a]) (.tup [.sl 3 ((growL nextE l a l.length).map shpC),i64 l.length,i64 0]):=by
 have q1:=h.i
 have q2:=h.e
 have q3:=h.f
 have q4:=h.k
 have q5:=q1.ok
 unfold Shp.Rt at q1
 have oz0:=@sRight_v (a) q5
 have oz6:=@shapes_ly (l) (a) okl wl q5 q3 q4
 exact (cR_ [r_,.r [] [cr oz0],d_,r_,d_,r_,d_,r_,r_,.code [.any (rg [(1,1),(3,4),(12,14)]),.drop [3],.ren 25 900,.weak 27 (i64 (l.length:Int)),.weak 28 (i64 (↑0:Int)),.sort] (AA_ 1) (zO oz6),r_] (AV.tup [AV.sl 3 (K_ shpC (growL nextE l a l.length)),i64 ((K_ nodC l).length:Int),i64 0]) Tryz.func89 (.d7 oz0 (show (!decide (0<elems a.h a.x a.c))=false by (simp;omega)) (show (((K_ nodC l).length:Int)==0)=false by (simp only[E_,F_,I_,J_,ne_eq,H_,G_,U_,T_,BL_,BS_,BP_,Classical.not_not,CO_,CF_,O_,P_,X_,Q_,B_,BN_,BR_,AD_,BW_,BT_,eqNums,S_,AX_,AJ_,BB_,BA_,AH_,AE_,BZ_,AG_,BO_,BX_,BQ_];(first|done|with_reducible assumption|omega|contradiction))) (show decide (((K_ nodC l).length:Int)>8)=false by (simp;omega)) (M_ (k:=.i64) (show ((((K_ nodC l).length:Int)):Int)=((l.length:Int)) from (by (simp;done)))) w0_ oz6)).weak (Y_ _) (AS_ (.cons (.refl _) (.cons (M_ (by (simp;done))) (.cons (.refl _) .nil))))
theorem shapes_a (l:List Nod) (a:Shp) (i:a.Ok) (hl:l.length≤1000) (h:¬ 0<elems a.h a.x a.c∨l.length=0∨8<l.length):VC N_ 89 ([.sl 19 (l.map nodC),shp a]) (.tup [nilv,i64 (shapesE l a).1,i64 (shapesE l a).2]):=by
 have q:=elems_in a.h a.x a.c
 have oz0:=@sRight_v (a) i
 rcases bft (!decide (0<elems a.h a.x a.c)) with hc0|hc0
 ·have gc0:=bnt hc0
  exact (cR_ [r_,.r [] [cr oz0],b_,r_] (AV.tup [AV.lit (AY_ none 0 0),i64 (-1),i64 5]) Tryz.func89 (.d2 oz0 hc0)).weak (Y_ _) (AS_ (.cons (.refl _) (.cons (M_ (by (unfold shapesE;(try simp only[S_] at *);(repeat first|rw[i_ (by omega)]|rw[j_ (by omega)])))) (.cons (M_ (by (unfold shapesE;(try simp only[S_] at *);(repeat first|rw[i_ (by omega)]|rw[j_ (by omega)])))) .nil))))
 ·have gc0:=bnf hc0
  rcases bft (((K_ nodC l).length:Int)==0) with hc1|hc1
  ·have gc1:((K_ nodC l).length:Int)=0:=bet hc1
   exact (cR_ [r_,.r [] [cr oz0],d_,r_,b_,r_] (AV.tup [AV.lit (AY_ none 0 0),i64 (-1),i64 12]) Tryz.func89 (.d3 oz0 hc0 hc1)).weak (Y_ _) (AS_ (.cons (.refl _) (.cons (M_ (by (unfold shapesE;(try simp only[S_] at *);(repeat first|rw[i_ (by omega)]|rw[j_ (by omega)])))) (.cons (M_ (by (unfold shapesE;(try simp only[S_] at *);(repeat first|rw[i_ (by omega)]|rw[j_ (by omega)])))) .nil))))
  ·have gc1:¬((K_ nodC l).length:Int)=0:=bef hc1
   exact (cR_ [r_,.r [] [cr oz0],d_,r_,d_,r_,b_,r_] (AV.tup [AV.lit (AY_ none 0 0),i64 (-1),i64 4]) Tryz.func89 (.d4 oz0 hc0 hc1 (show decide (((K_ nodC l).length:Int)>8)=true by (simp only[E_,F_,I_,J_,ne_eq,H_,G_,U_,T_,BL_,BS_,BP_,Classical.not_not,CO_,CF_,O_,P_,X_,Q_,B_,BN_,BR_,AD_,BW_,BT_,eqNums,S_,AX_,AJ_,BB_,BA_,AH_,AE_,BZ_,AG_,BO_,BX_,BQ_] at *;(first|done|with_reducible assumption|omega|contradiction))))).weak (Y_ _) (AS_ (.cons (.refl _) (.cons (M_ (by (unfold shapesE;(try simp only[S_] at *);(repeat first|rw[i_ (by omega)]|rw[j_ (by omega)])))) (.cons (M_ (by (unfold shapesE;(try simp only[S_] at *);(repeat first|rw[i_ (by omega)]|rw[j_ (by omega)])))) .nil))))
theorem shapes_m (l:List Nod) (a:Shp) (m:Nat) (okl:∀ n∈l,n.Ok) (wl:∀ n∈l,n.w.length≤100000∧n.b.length≤100000) (i:0<elems a.h a.x a.c) (f8:l.length≤8) (hm:m<l.length) (hf:errL nextE l a m≠0) (h:∀ k,k<m→errL nextE l a k=0):VC N_ 89 ([.sl 19 (l.map nodC),shp a]) (.tup [nilv,i64 m,i64 (errL nextE l a m)]):=by
 have q:=Shp.Rt.ok i
 have oz0:=@sRight_v (a) q
 have oz6:=@shapes_ln (l) (a) (m) okl wl q f8 hm hf h
 exact cR_ [r_,.r [] [cr oz0],d_,r_,d_,r_,d_,r_,r_,.code [.any (rg [(1,1),(3,4),(12,14)]),.drop [3],.ren 25 900,.weak 27 (i64 (l.length:Int)),.weak 28 (i64 (↑0:Int)),.sort] (DN_) (zO oz6)] _ Tryz.func89 (.d7 oz0 (show (!decide (0<elems a.h a.x a.c))=false by (simp;omega)) (show (((K_ nodC l).length:Int)==0)=false by (simp only[E_,F_,I_,J_,ne_eq,H_,G_,U_,T_,BL_,BS_,BP_,Classical.not_not,CO_,CF_,O_,P_,X_,Q_,B_,BN_,BR_,AD_,BW_,BT_,eqNums,S_,AX_,AJ_,BB_,BA_,AH_,AE_,BZ_,AG_,BO_,BX_,BQ_];(first|done|with_reducible assumption|omega|contradiction))) (show decide (((K_ nodC l).length:Int)>8)=false by (simp;omega)) (M_ (k:=.i64) (show ((((K_ nodC l).length:Int)):Int)=((l.length:Int)) from (by (simp;done)))) w0_ oz6)
theorem shapes_n (l:List Nod) (a:Shp) (okl:∀ n∈l,n.Ok) (wl:∀ n∈l,n.w.length≤100000∧n.b.length≤100000) (i:a.Ok) (hl:l.length≤1000) (h:¬ SOK l a):VC N_ 89 [.sl 19 (l.map nodC),shp a] (.tup [nilv,i64 (shapesE l a).1,i64 (shapesE l a).2]):=by
 rcases SOK.cases l a with q|q|q|q|⟨i',e,f,m,h1,h2,h3⟩
 ·exact absurd q h
 ·exact shapes_a l a i hl (.inl q)
 ·exact shapes_a l a i hl (.inr (.inl q))
 ·exact shapes_a l a i hl (.inr (.inr q))
 ·rw[shapesE_at i' e f h1 h2 h3];exact shapes_m l a m okl wl i' f h1 h2 h3
theorem nextE_c {n:Nod} {L:List Shp} (h:checkE n≠0):nextE n L=(⟨0,0,0⟩,checkE n):=i_ h
theorem nextE_0 {n:Nod} {L:List Shp} (h:checkE n=0) (g:thereB n ((K_ shpC L).length:Int)=false):nextE n L=(⟨0,0,0⟩,8):=by
 rw[S_] at g;unfold nextE;rw[j_ (by simp[h]),j_ (by simp[g])]
theorem nextE_6 {n:Nod} {L:List Shp} (h:checkE n=0) (g:thereB n ((K_ shpC L).length:Int)=true):nextE n L=shapeE n (L.getD n.na.toNat default) (L.getD (secN n).toNat default):=by
 rw[S_] at g;unfold nextE;rw[j_ (by simp[h]),i_ g]
theorem nextE_ok {n:Nod} {L:List Shp} (q:(nextE n L).2=0):checkE n=0∧thereB n ((K_ shpC L).length:Int)=true∧nextE n L=shapeE n (L.getD n.na.toNat default) (L.getD (secN n).toNat default):=by
 by_cases h:checkE n=0
 ·cases g:thereB n ((K_ shpC L).length:Int) with
  | false=>rw[nextE_0 h g] at q;cases q
  | true=>exact ⟨h,rfl,nextE_6 h g⟩
 ·rw[nextE_c h] at q;exact absurd q h
theorem there_at {n:Nod} {L:List Shp} (okL:∀ r∈L,r.Ok) (h:thereB n ((K_ shpC L).length:Int)=true):(0≤n.na∧n.na<L.length∧n.na.toNat<L.length∧0≤secN n∧secN n<L.length∧(secN n).toNat<L.length)∧(L.getD n.na.toNat default).Ok∧(L.getD (secN n).toNat default).Ok:=by
 rw[S_] at h
 have h:=there_iff.1 h
 exact ⟨⟨by omega,by omega,by omega,by omega,by omega,by omega⟩,getD_in okL (by omega),getD_in okL (by omega)⟩
noncomputable def rshapes_ly_I (l:List Nod) (a:Shp) (k:Nat):VS:=stt 72 [(0,.sl 19 (l.map nodC)),(7,.own 900),(8,i64 k)] [(900,.slc 23 3 ((growL nextE l a k).map shpC))]
noncomputable def rshapes_ly_Z (l:List Nod) (a:Shp):VS:=rshapes_ly_I l a (l.length)
theorem rshapes_ly_s (l:List Nod) (a:Shp) (okl:∀ n∈l,n.Ok) (wl:∀ n∈l,n.w.length≤100000∧n.b.length≤100000) (i:a.Ok) (f8:l.length≤8) (h:∀ k,k<l.length→errL nextE l a k=0) (k:Nat) (hk:k<l.length):VT N_ (fnC Tryz.f46 [1,1,1,1,1,0,1,0,0]) (rshapes_ly_I l a k) .normal (rshapes_ly_I l a (k+1)):=by
 have q:=h k hk
 have q1:=growL_len nextE l a k
 have q2:=grow_ok (l:=l) i k
 have q3:=getD_in okl hk
 have qz:=q3.kd
 have q4:=getD_in wl hk
 obtain ⟨q5,q6⟩:=q4
 have q8:(K_ shpC (growL nextE l a k)).length=(growL nextE l a k).length:=S_ _
 unfold errL at q
 obtain ⟨c1,c2,c3⟩:=nextE_ok q
 obtain ⟨c4,c5,c6⟩:=there_at q2 c2
 rw[c3] at q
 have oz2:=(map_at (nodC) (default) (l:=l) (i:=k) hk)
 have oz3:=@refCheck_v (l.getD k default) q5 q6 qz
 have oz5:=@refThere_v (l.getD k default) (((K_ shpC (growL nextE l a k)).length:Int))
 have oz9:=(map_at (shpC) (default) (l:=growL nextE l a k) (i:=(l.getD k default).na.toNat) (by omega))
 have oz10:=@refSecond_v (l.getD k default)
 have oz13:=(map_at (shpC) (default) (l:=growL nextE l a k) (i:=(secN (l.getD k default)).toNat) (by omega))
 have oz14:=@refKshape_v (l.getD k default) ((growL nextE l a k).getD (l.getD k default).na.toNat default) ((growL nextE l a k).getD (secN (l.getD k default)).toNat default) c5 c6 q3
 exact tR_ [r_,b_,.r [] [.row (sO oz2)],.r [] [cr oz3],r_,d_,.r [] [cr oz5],d_,.r [] [.row (sO oz9),cr oz10,.row (sO oz13),cr oz14],r_,d_,r_,.r [] [.n ((↑k:Int)+1)]] [.any (rg [(9,4),(24,14),(40,5),(46,17),(65,4)]),.drop [9,11,67],.ren 68 900,.weak 8 (i64 (↑(k+1):Int)),.blk 900 (Blk.slc 23 3 (K_ shpC (growL nextE l a (k+1)))),.sort] (.c8 (show decide ((↑k:Int)<((K_ nodC l).length:Int))=true by (simp;omega)) (s_ (0≤(↑k:Int))) oz2 oz3 (show (checkE (l.getD k default) != 0)=false by (rw[c1];rfl)) oz5 (show (!thereB (l.getD k default) ((K_ shpC (growL nextE l a k)).length:Int))=false by (rw[c2];rfl)) (s_ (0≤(l.getD k default).na))<|.c8 (s_ ((l.getD k default).na<((K_ shpC (growL nextE l a k)).length:Int))) oz9 oz10 (s_ (0≤secN (l.getD k default))) (s_ (secN (l.getD k default)<((K_ shpC (growL nextE l a k)).length:Int))) oz13 oz14 (show ((shapeE (l.getD k default) ((growL nextE l a k).getD (l.getD k default).na.toNat default) ((growL nextE l a k).getD (secN (l.getD k default)).toNat default)).snd != 0)=false by (rw[q];rfl))<|.d5 (s_ (((K_ shpC (growL nextE l a k)).length+1)*24≤140737488355328)) (s_ ((K_ shpC (growL nextE l a k)).length+1≤9223372036854775807)) (i6n ((↑k:Int)+1) (by omega)) (wS_ k) (show BlkW (Blk.slc 23 3 (K_ shpC (growL nextE l a k)++[[i64 (shapeE (l.getD k default) ((growL nextE l a k).getD (l.getD k default).na.toNat default) ((growL nextE l a k).getD (secN (l.getD k default)).toNat default)).fst.h,i64 (shapeE (l.getD k default) ((growL nextE l a k).getD (l.getD k default).na.toNat default) ((growL nextE l a k).getD (secN (l.getD k default)).toNat default)).fst.x,i64 (shapeE (l.getD k default) ((growL nextE l a k).getD (l.getD k default).na.toNat default) ((growL nextE l a k).getD (secN (l.getD k default)).toNat default)).fst.c]])) (Blk.slc 23 3 (K_ shpC (growL nextE l a (k+1)))) from (BU_ (e:=23) (z:=3) (rows_to (shpC) (r:=K_ shpC (growL nextE l a k)++[[i64 (shapeE (l.getD k default) ((growL nextE l a k).getD (l.getD k default).na.toNat default) ((growL nextE l a k).getD (secN (l.getD k default)).toNat default)).fst.h,i64 (shapeE (l.getD k default) ((growL nextE l a k).getD (l.getD k default).na.toNat default) ((growL nextE l a k).getD (secN (l.getD k default)).toNat default)).fst.x,i64 (shapeE (l.getD k default) ((growL nextE l a k).getD (l.getD k default).na.toNat default) ((growL nextE l a k).getD (secN (l.getD k default)).toNat default)).fst.c]]) (l:=growL nextE l a k++[Shp.mk (shapeE (l.getD k default) ((growL nextE l a k).getD (l.getD k default).na.toNat default) ((growL nextE l a k).getD (secN (l.getD k default)).toNat default)).fst.h (shapeE (l.getD k default) ((growL nextE l a k).getD (l.getD k default).na.toNat default) ((growL nextE l a k).getD (secN (l.getD k default)).toNat default)).fst.x (shapeE (l.getD k default) ((growL nextE l a k).getD (l.getD k default).na.toNat default) ((growL nextE l a k).getD (secN (l.getD k default)).toNat default)).fst.c]) (m:=growL nextE l a (k+1)) (by first|(simp only[C_,D_,AM_,AN_,A_,AK_,AL_];done)|rfl|(simp only[C_,D_,AM_,AN_,A_,AK_,AL_];rfl)|(simp only[C_,D_,AM_,AN_,A_,AK_,AL_,shpC,ints];done)) (show (growL nextE l a k++[Shp.mk (shapeE (l.getD k default) ((growL nextE l a k).getD (l.getD k default).na.toNat default) ((growL nextE l a k).getD (secN (l.getD k default)).toNat default)).fst.h (shapeE (l.getD k default) ((growL nextE l a k).getD (l.getD k default).na.toNat default) ((growL nextE l a k).getD (secN (l.getD k default)).toNat default)).fst.x (shapeE (l.getD k default) ((growL nextE l a k).getD (l.getD k default).na.toNat default) ((growL nextE l a k).getD (secN (l.getD k default)).toNat default)).fst.c])=(growL nextE l a (k+1)) from (by (rw[growL,c3])))))))
theorem rshapes_ly_e (l:List Nod) (a:Shp) (okl:∀ n∈l,n.Ok) (wl:∀ n∈l,n.w.length≤100000∧n.b.length≤100000) (i:a.Ok) (f8:l.length≤8) (h:∀ k,k<l.length→errL nextE l a k=0):VT N_ (fnC Tryz.f46 [1,1,1,1,1,0,1,0,0]) (rshapes_ly_I l a (l.length)) (.exit 0) (rshapes_ly_Z l a):=by
 exact tR_ [r_,d_] [.any (rg [(24,4)]),.sort] (.d (show decide ((l.length:Int)<((K_ nodC l).length:Int))=false by (simp;done)))
theorem rshapes_ly (l:List Nod) (a:Shp) (okl:∀ n∈l,n.Ok) (wl:∀ n∈l,n.w.length≤100000∧n.b.length≤100000) (i:a.Ok) (f8:l.length≤8) (h:∀ k,k<l.length→errL nextE l a k=0):VT N_ (fnC Tryz.f46 [1,1,1,1,1,0,1,0]) (rshapes_ly_I l a 0) (.exit 0) (rshapes_ly_Z l a) :=
 VT.loop (fun k=>rshapes_ly_I l a k) (l.length) (fun k hk=>rshapes_ly_s l a okl wl i f8 h k hk) (rshapes_ly_e l a okl wl i f8 h) (by intro h;cases h)
noncomputable def rshapes_ln_I (l:List Nod) (a:Shp) (m:Nat) (k:Nat):VS:=stt 72 [(0,.sl 19 (l.map nodC)),(7,.own 900),(8,i64 k)] [(900,.slc 23 3 ((growL nextE l a k).map shpC))]
noncomputable def rshapes_ln_Z (l:List Nod) (a:Shp) (m:Nat):VS:=stt 72 [(4,nilv),(5,i64 m),(6,i64 (errL nextE l a m))] []
theorem rshapes_ln_s (l:List Nod) (a:Shp) (m:Nat) (okl:∀ n∈l,n.Ok) (wl:∀ n∈l,n.w.length≤100000∧n.b.length≤100000) (i:a.Ok) (f8:l.length≤8) (hm:m<l.length) (hf:errL nextE l a m≠0) (h:∀ k,k<m→errL nextE l a k=0) (k:Nat) (hk:k<m):VT N_ (fnC Tryz.f46 [1,1,1,1,1,0,1,0,0]) (rshapes_ln_I l a m k) .normal (rshapes_ln_I l a m (k+1)):=by
 have q:=h k hk
 have q1:=growL_len nextE l a k
 have q2:=grow_ok (l:=l) i k
 have q3:=getD_in okl (s_ (k<l.length))
 have qz:=q3.kd
 have q4:=getD_in wl (s_ (k<l.length))
 obtain ⟨q5,q6⟩:=q4
 have q8:(K_ shpC (growL nextE l a k)).length=(growL nextE l a k).length:=S_ _
 unfold errL at q
 obtain ⟨c1,c2,c3⟩:=nextE_ok q
 obtain ⟨c4,c5,c6⟩:=there_at q2 c2
 rw[c3] at q
 have oz2:=(map_at (nodC) (default) (l:=l) (i:=k) (by omega))
 have oz3:=@refCheck_v (l.getD k default) q5 q6 qz
 have oz5:=@refThere_v (l.getD k default) (((K_ shpC (growL nextE l a k)).length:Int))
 have oz9:=(map_at (shpC) (default) (l:=growL nextE l a k) (i:=(l.getD k default).na.toNat) (by omega))
 have oz10:=@refSecond_v (l.getD k default)
 have oz13:=(map_at (shpC) (default) (l:=growL nextE l a k) (i:=(secN (l.getD k default)).toNat) (by omega))
 have oz14:=@refKshape_v (l.getD k default) ((growL nextE l a k).getD (l.getD k default).na.toNat default) ((growL nextE l a k).getD (secN (l.getD k default)).toNat default) c5 c6 q3
 exact tR_ [r_,b_,.r [] [.row (sO oz2)],.r [] [cr oz3],r_,d_,.r [] [cr oz5],d_,.r [] [.row (sO oz9),cr oz10,.row (sO oz13),cr oz14],r_,d_,r_,.r [] [.n ((↑k:Int)+1)]] [.any (rg [(9,4),(24,14),(40,5),(46,17),(65,4)]),.drop [9,11,67],.ren 68 900,.weak 8 (i64 (↑(k+1):Int)),.blk 900 (Blk.slc 23 3 (K_ shpC (growL nextE l a (k+1)))),.sort] (.c8 (show decide ((↑k:Int)<((K_ nodC l).length:Int))=true by (simp;omega)) (s_ (0≤(↑k:Int))) oz2 oz3 (show (checkE (l.getD k default) != 0)=false by (rw[c1];rfl)) oz5 (show (!thereB (l.getD k default) ((K_ shpC (growL nextE l a k)).length:Int))=false by (rw[c2];rfl)) (s_ (0≤(l.getD k default).na))<|.c8 (s_ ((l.getD k default).na<((K_ shpC (growL nextE l a k)).length:Int))) oz9 oz10 (s_ (0≤secN (l.getD k default))) (s_ (secN (l.getD k default)<((K_ shpC (growL nextE l a k)).length:Int))) oz13 oz14 (show ((shapeE (l.getD k default) ((growL nextE l a k).getD (l.getD k default).na.toNat default) ((growL nextE l a k).getD (secN (l.getD k default)).toNat default)).snd != 0)=false by (rw[q];rfl))<|.d5 (s_ (((K_ shpC (growL nextE l a k)).length+1)*24≤140737488355328)) (s_ ((K_ shpC (growL nextE l a k)).length+1≤9223372036854775807)) (i6n ((↑k:Int)+1) (by omega)) (wS_ k) (show BlkW (Blk.slc 23 3 (K_ shpC (growL nextE l a k)++[[i64 (shapeE (l.getD k default) ((growL nextE l a k).getD (l.getD k default).na.toNat default) ((growL nextE l a k).getD (secN (l.getD k default)).toNat default)).fst.h,i64 (shapeE (l.getD k default) ((growL nextE l a k).getD (l.getD k default).na.toNat default) ((growL nextE l a k).getD (secN (l.getD k default)).toNat default)).fst.x,i64 (shapeE (l.getD k default) ((growL nextE l a k).getD (l.getD k default).na.toNat default) ((growL nextE l a k).getD (secN (l.getD k default)).toNat default)).fst.c]])) (Blk.slc 23 3 (K_ shpC (growL nextE l a (k+1)))) from (BU_ (e:=23) (z:=3) (rows_to (shpC) (r:=K_ shpC (growL nextE l a k)++[[i64 (shapeE (l.getD k default) ((growL nextE l a k).getD (l.getD k default).na.toNat default) ((growL nextE l a k).getD (secN (l.getD k default)).toNat default)).fst.h,i64 (shapeE (l.getD k default) ((growL nextE l a k).getD (l.getD k default).na.toNat default) ((growL nextE l a k).getD (secN (l.getD k default)).toNat default)).fst.x,i64 (shapeE (l.getD k default) ((growL nextE l a k).getD (l.getD k default).na.toNat default) ((growL nextE l a k).getD (secN (l.getD k default)).toNat default)).fst.c]]) (l:=growL nextE l a k++[Shp.mk (shapeE (l.getD k default) ((growL nextE l a k).getD (l.getD k default).na.toNat default) ((growL nextE l a k).getD (secN (l.getD k default)).toNat default)).fst.h (shapeE (l.getD k default) ((growL nextE l a k).getD (l.getD k default).na.toNat default) ((growL nextE l a k).getD (secN (l.getD k default)).toNat default)).fst.x (shapeE (l.getD k default) ((growL nextE l a k).getD (l.getD k default).na.toNat default) ((growL nextE l a k).getD (secN (l.getD k default)).toNat default)).fst.c]) (m:=growL nextE l a (k+1)) (by first|(simp only[C_,D_,AM_,AN_,A_,AK_,AL_];done)|rfl|(simp only[C_,D_,AM_,AN_,A_,AK_,AL_];rfl)|(simp only[C_,D_,AM_,AN_,A_,AK_,AL_,shpC,ints];done)) (show (growL nextE l a k++[Shp.mk (shapeE (l.getD k default) ((growL nextE l a k).getD (l.getD k default).na.toNat default) ((growL nextE l a k).getD (secN (l.getD k default)).toNat default)).fst.h (shapeE (l.getD k default) ((growL nextE l a k).getD (l.getD k default).na.toNat default) ((growL nextE l a k).getD (secN (l.getD k default)).toNat default)).fst.x (shapeE (l.getD k default) ((growL nextE l a k).getD (l.getD k default).na.toNat default) ((growL nextE l a k).getD (secN (l.getD k default)).toNat default)).fst.c])=(growL nextE l a (k+1)) from (by (rw[growL,c3])))))))
theorem rshapes_ln_e (l:List Nod) (a:Shp) (m:Nat) (okl:∀ n∈l,n.Ok) (wl:∀ n∈l,n.w.length≤100000∧n.b.length≤100000) (i:a.Ok) (f8:l.length≤8) (hm:m<l.length) (hf:errL nextE l a m≠0) (h:∀ k,k<m→errL nextE l a k=0):VT N_ (fnC Tryz.f46 [1,1,1,1,1,0,1,0,0]) (rshapes_ln_I l a m (m)) (.ret) (rshapes_ln_Z l a m):=by
 have q1:=growL_len nextE l a m
 have q2:=grow_ok (l:=l) i m
 have q3:=getD_in okl hm
 have qz:=q3.kd
 have q4:=getD_in wl hm
 obtain ⟨q5,q6⟩:=q4
 have q8:(K_ shpC (growL nextE l a m)).length=(growL nextE l a m).length:=S_ _
 have qa:=fun h=>there_at (n:=l.getD m default) q2 h
 have e0:=@nextE_c (l.getD m default) (growL nextE l a m)
 have e1:=@nextE_0 (l.getD m default) (growL nextE l a m)
 have e2:=@nextE_6 (l.getD m default) (growL nextE l a m)
 have q:errL nextE l a m=(nextE (l.getD m default) (growL nextE l a m)).2:=rfl
 unfold errL at hf
 have oz0:=(show decide ((↑m:Int)<((K_ nodC l).length:Int))=true by (simp;omega))
 have oz1:=(s_ (0≤(↑m:Int)))
 have oz2:=(map_at (nodC) (default) (l:=l) (i:=m) hm)
 have oz3:=@refCheck_v (l.getD m default) q5 q6 qz
 rcases bft (checkE (l.getD m default) != 0) with hc0|hc0
 ·have gc0:¬checkE (l.getD m default)=0:=bdt hc0
  exact tR_ [r_,b_,.r [] [.row (sO oz2)],.r [] [cr oz3],r_,b_,r_] [.any (rg [(0,1),(7,4),(24,4),(30,10)]),.drop [900,9],.weak 6 (i64 (errL nextE l a m)),.sort] (.d6 oz0 oz1 oz2 oz3 hc0 (M_ (k:=.i64) (show ((checkE (l.getD m default)):Int)=(errL nextE l a m) from (by (rw[q,e0 (by omega)])))))
 ·have gc0:checkE (l.getD m default)=0:=bdf hc0
  have oz5:=@refThere_v (l.getD m default) (((K_ shpC (growL nextE l a m)).length:Int))
  rcases bft (!thereB (l.getD m default) ((K_ shpC (growL nextE l a m)).length:Int)) with hc1|hc1
  ·have gc1:thereB (l.getD m default) ((K_ shpC (growL nextE l a m)).length:Int)=false:=by first|exact hc1|exact of_decide_eq_true hc1|exact of_decide_eq_false hc1|simpa [eqNums] using hc1|(simp[eqNums] at hc1 ⊢;first|done|assumption|omega)
   exact tR_ [r_,b_,.r [] [.row (sO oz2)],.r [] [cr oz3],r_,d_,.r [] [cr oz5],b_,r_] [.any (rg [(0,1),(7,4),(24,4),(30,8),(40,6)]),.drop [900,9],.weak 6 (i64 (errL nextE l a m)),.sort] (.d8 oz0 oz1 oz2 oz3 hc0 oz5 hc1 (M_ (k:=.i64) (show ((8):Int)=(errL nextE l a m) from (by (rw[q,e1 (by omega) (by simp_all)])))))
  ·have gc1:thereB (l.getD m default) ((K_ shpC (growL nextE l a m)).length:Int)=true:=by first|exact hc1|exact of_decide_eq_true hc1|exact of_decide_eq_false hc1|simpa [eqNums] using hc1|(simp[eqNums] at hc1 ⊢;first|done|assumption|omega)
   have oz9:=(map_at (shpC) (default) (l:=growL nextE l a m) (i:=(l.getD m default).na.toNat) (by (have:=qa (by assumption);omega)))
   have oz10:=@refSecond_v (l.getD m default)
   have oz13:=(map_at (shpC) (default) (l:=growL nextE l a m) (i:=(secN (l.getD m default)).toNat) (by (have:=qa (by assumption);omega)))
   have oz14:=@refKshape_v (l.getD m default) ((growL nextE l a m).getD (l.getD m default).na.toNat default) ((growL nextE l a m).getD (secN (l.getD m default)).toNat default) (by (have:=qa (by assumption);exact this.2.1)) (by (have:=qa (by assumption);exact this.2.2)) q3
   have oz16:=(M_ (k:=.i64) (show (((shapeE (l.getD m default) ((growL nextE l a m).getD (l.getD m default).na.toNat default) ((growL nextE l a m).getD (secN (l.getD m default)).toNat default)).snd):Int)=(errL nextE l a m) from (by (rw[q,e2 (by omega) (by assumption)]))))
   exact tR_ [r_,b_,.r [] [.row (sO oz2)],.r [] [cr oz3],r_,d_,.r [] [cr oz5],d_,.r [] [.row (sO oz9),cr oz10,.row (sO oz13),cr oz14],r_,b_,r_] [.any (rg [(0,1),(7,6),(24,4),(30,8),(40,5),(46,19)]),.drop [900,9,11],.weak 6 (wO oz16),.sort] (.c8 oz0 oz1 oz2 oz3 hc0 oz5 hc1 (show 0≤(l.getD m default).na by (have:=qa (by assumption);omega))<|.c8 (show (l.getD m default).na<((K_ shpC (growL nextE l a m)).length:Int) by (have:=qa (by assumption);omega)) oz9 oz10 (show 0≤secN (l.getD m default) by (have:=qa (by assumption);omega)) (show secN (l.getD m default)<((K_ shpC (growL nextE l a m)).length:Int) by (have:=qa (by assumption);omega)) oz13 oz14 (show ((shapeE (l.getD m default) ((growL nextE l a m).getD (l.getD m default).na.toNat default) ((growL nextE l a m).getD (secN (l.getD m default)).toNat default)).snd != 0)=true by (rw[e2 (by omega) (by assumption)] at hf;rw[J_];exact hf))<|.d oz16)
theorem rshapes_ln (l:List Nod) (a:Shp) (m:Nat) (okl:∀ n∈l,n.Ok) (wl:∀ n∈l,n.w.length≤100000∧n.b.length≤100000) (i:a.Ok) (f8:l.length≤8) (hm:m<l.length) (hf:errL nextE l a m≠0) (h:∀ k,k<m→errL nextE l a k=0):VT N_ (fnC Tryz.f46 [1,1,1,1,1,0,1,0]) (rshapes_ln_I l a m 0) (.ret) (rshapes_ln_Z l a m) :=
 VT.loop (fun k=>rshapes_ln_I l a m k) (m) (fun k hk=>rshapes_ln_s l a m okl wl i f8 hm hf h k hk) (rshapes_ln_e l a m okl wl i f8 hm hf h) (by intro h;cases h)
theorem rshapes_y (l:List Nod) (a:Shp) (okl:∀ n∈l,n.Ok) (wl:∀ n∈l,n.w.length≤100000∧n.b.length≤100000) (h:SOK l a):VC N_ 46 ([.sl 19 (l.map nodC),shp a]) (.tup [.sl 3 ((growL nextE l a l.length).map shpC),i64 l.length,i64 0]):=by
 have q1:=h.i
 have q2:=h.e
 have q3:=h.f
 have q4:=h.k
 have q5:=q1.ok
 obtain ⟨p1,p2,p3⟩:=id q5
 unfold Shp.Rt at q1
 have oz0:=@refElems_v (a.h) (a.x) (a.c) p1 p2 p3
 have oz5:=@rshapes_ly (l) (a) okl wl q5 q3 q4
 exact (cR_ [r_,.r [] [cr oz0],d_,r_,d_,r_,d_,r_,r_,.code [.any (rg [(1,1),(3,4),(13,11)]),.drop [3],.ren 23 900,.weak 8 (i64 (↑0:Int)),.sort] (AA_ 0) (zO oz5),r_] (AV.tup [AV.sl 3 (K_ shpC (growL nextE l a l.length)),i64 ((K_ nodC l).length:Int),i64 0]) Tryz.func46 (.d6 oz0 (show (elems a.h a.x a.c==0)=false by (refine decide_eq_false ?_;omega)) (show (((K_ nodC l).length:Int)==0)=false by (simp only[E_,F_,I_,J_,ne_eq,H_,G_,U_,T_,BL_,BS_,BP_,Classical.not_not,CO_,CF_,O_,P_,X_,Q_,B_,BN_,BR_,AD_,BW_,BT_,eqNums,S_,AX_,AJ_,BB_,BA_,AH_,AE_,BZ_,AG_,BO_,BX_,BQ_];(first|done|with_reducible assumption|omega|contradiction))) (show decide (((K_ nodC l).length:Int)>8)=false by (simp;omega)) w0_ oz5)).weak (Y_ _) (AS_ (.cons (.refl _) (.cons (M_ (by (simp;done))) (.cons (.refl _) .nil))))
theorem rshapes_a (l:List Nod) (a:Shp) (i:a.Ok) (hl:l.length≤1000) (h:¬ 0<elems a.h a.x a.c∨l.length=0∨8<l.length):VC N_ 46 ([.sl 19 (l.map nodC),shp a]) (.tup [nilv,i64 (shapesE l a).1,i64 (shapesE l a).2]):=by
 have q:=elems_in a.h a.x a.c
 obtain ⟨p1,p2,p3⟩:=id i
 have oz0:=@refElems_v (a.h) (a.x) (a.c) p1 p2 p3
 rcases bft (elems a.h a.x a.c==0) with hc0|hc0
 ·have gc0:elems a.h a.x a.c=0:=bet hc0
  exact (cR_ [r_,.r [] [cr oz0],b_,r_] (AV.tup [AV.lit (AY_ none 0 0),i64 (-1),i64 5]) Tryz.func46 (.d2 oz0 hc0)).weak (Y_ _) (AS_ (.cons (.refl _) (.cons (M_ (by (unfold shapesE;(try simp only[S_] at *);(repeat first|rw[i_ (by omega)]|rw[j_ (by omega)])))) (.cons (M_ (by (unfold shapesE;(try simp only[S_] at *);(repeat first|rw[i_ (by omega)]|rw[j_ (by omega)])))) .nil))))
 ·have gc0:¬elems a.h a.x a.c=0:=bef hc0
  rcases bft (((K_ nodC l).length:Int)==0) with hc1|hc1
  ·have gc1:((K_ nodC l).length:Int)=0:=bet hc1
   exact (cR_ [r_,.r [] [cr oz0],d_,r_,b_,r_] (AV.tup [AV.lit (AY_ none 0 0),i64 (-1),i64 12]) Tryz.func46 (.d3 oz0 hc0 hc1)).weak (Y_ _) (AS_ (.cons (.refl _) (.cons (M_ (by (unfold shapesE;(try simp only[S_] at *);(repeat first|rw[i_ (by omega)]|rw[j_ (by omega)])))) (.cons (M_ (by (unfold shapesE;(try simp only[S_] at *);(repeat first|rw[i_ (by omega)]|rw[j_ (by omega)])))) .nil))))
  ·have gc1:¬((K_ nodC l).length:Int)=0:=bef hc1
   exact (cR_ [r_,.r [] [cr oz0],d_,r_,d_,r_,b_,r_] (AV.tup [AV.lit (AY_ none 0 0),i64 (-1),i64 4]) Tryz.func46 (.d4 oz0 hc0 hc1 (show decide (((K_ nodC l).length:Int)>8)=true by (simp only[E_,F_,I_,J_,ne_eq,H_,G_,U_,T_,BL_,BS_,BP_,Classical.not_not,CO_,CF_,O_,P_,X_,Q_,B_,BN_,BR_,AD_,BW_,BT_,eqNums,S_,AX_,AJ_,BB_,BA_,AH_,AE_,BZ_,AG_,BO_,BX_,BQ_] at *;(first|done|with_reducible assumption|omega|contradiction))))).weak (Y_ _) (AS_ (.cons (.refl _) (.cons (M_ (by (unfold shapesE;(try simp only[S_] at *);(repeat first|rw[i_ (by omega)]|rw[j_ (by omega)])))) (.cons (M_ (by (unfold shapesE;(try simp only[S_] at *);(repeat first|rw[i_ (by omega)]|rw[j_ (by omega)])))) .nil))))
theorem rshapes_m (l:List Nod) (a:Shp) (m:Nat) (okl:∀ n∈l,n.Ok) (wl:∀ n∈l,n.w.length≤100000∧n.b.length≤100000) (i:0<elems a.h a.x a.c) (f8:l.length≤8) (hm:m<l.length) (hf:errL nextE l a m≠0) (h:∀ k,k<m→errL nextE l a k=0):VC N_ 46 ([.sl 19 (l.map nodC),shp a]) (.tup [nilv,i64 m,i64 (errL nextE l a m)]):=by
 have q:=Shp.Rt.ok i
 obtain ⟨p1,p2,p3⟩:=id q
 have oz0:=@refElems_v (a.h) (a.x) (a.c) p1 p2 p3
 have oz5:=@rshapes_ln (l) (a) (m) okl wl q f8 hm hf h
 exact cR_ [r_,.r [] [cr oz0],d_,r_,d_,r_,d_,r_,r_,.code [.any (rg [(1,1),(3,4),(13,11)]),.drop [3],.ren 23 900,.weak 8 (i64 (↑0:Int)),.sort] (DN_) (zO oz5)] _ Tryz.func46 (.d6 oz0 (show (elems a.h a.x a.c==0)=false by (refine decide_eq_false ?_;omega)) (show (((K_ nodC l).length:Int)==0)=false by (simp only[E_,F_,I_,J_,ne_eq,H_,G_,U_,T_,BL_,BS_,BP_,Classical.not_not,CO_,CF_,O_,P_,X_,Q_,B_,BN_,BR_,AD_,BW_,BT_,eqNums,S_,AX_,AJ_,BB_,BA_,AH_,AE_,BZ_,AG_,BO_,BX_,BQ_];(first|done|with_reducible assumption|omega|contradiction))) (show decide (((K_ nodC l).length:Int)>8)=false by (simp;omega)) w0_ oz5)
theorem rshapes_n (l:List Nod) (a:Shp) (okl:∀ n∈l,n.Ok) (wl:∀ n∈l,n.w.length≤100000∧n.b.length≤100000) (i:a.Ok) (hl:l.length≤1000) (h:¬ SOK l a):VC N_ 46 [.sl 19 (l.map nodC),shp a] (.tup [nilv,i64 (shapesE l a).1,i64 (shapesE l a).2]):=by
 rcases SOK.cases l a with q|q|q|q|⟨i',e,f,m,h1,h2,h3⟩
 ·exact absurd q h
 ·exact rshapes_a l a i hl (.inl q)
 ·exact rshapes_a l a i hl (.inr (.inl q))
 ·exact rshapes_a l a i hl (.inr (.inr q))
 ·rw[shapesE_at i' e f h1 h2 h3];exact rshapes_m l a m okl wl i' f h1 h2 h3
abbrev shpsL (l:List Nod) (a:Shp):List Shp:=growL nextE l a l.length
def lastS (l:List Nod) (a:Shp):Shp:=(shpsL l a).getD l.length default
theorem shpsL_len (l:List Nod) (a:Shp):(shpsL l a).length=l.length+1:=growL_len nextE l a l.length
theorem lastS_ok {l:List Nod} {a:Shp} (h:a.Ok):(lastS l a).Ok:=getD_in (grow_ok (l:=l) h l.length) (show l.length<(shpsL l a).length by rw[shpsL_len];omega)
theorem lastS_i {l:List Nod} {a:Shp} {i:Nat} (hi:i=l.length):(growL nextE l a l.length).getD i default=lastS l a:=by subst hi;rfl
structure Blc where
 n:List Nod
 ex:Bool
 w:List Int
 b:List Int
 nd:Int
abbrev blcC (x:Blc):List AV:=[.sl 19 (x.n.map nodC),bv x.ex,ints .i8 x.w,ints .i32 x.b,i32 x.nd]
structure Blc.Ok (x:Blc):Prop where
 n:∀ d∈x.n,Nod.Ok d
 w:∀ v∈x.w,In8 v
 b:∀ v∈x.b,In32 v
 nd:In32 x.nd
instance:Inhabited Blc:=⟨⟨[],false,[],[],0⟩⟩
structure Mdl where
 l:List Blc
abbrev mdlC (m:Mdl):List AV:=[.sl 5 (m.l.map blcC)]
structure Mdl.Ok (m:Mdl):Prop where
 l:∀ d∈m.l,Blc.Ok d
instance:Inhabited Mdl:=⟨⟨[]⟩⟩
structure Bun where
 h:Int
 x:Int
 c:Int
 cl:Int
 m:List Mdl
abbrev bunC (u:Bun):List AV:=[i64 u.h,i64 u.x,i64 u.c,i64 u.cl,.sl 1 (u.m.map mdlC)]
structure Bun.Ok (u:Bun):Prop where
 h:In64 u.h
 x:In64 u.x
 c:In64 u.c
 cl:In64 u.cl
 m:∀ d∈u.m,Mdl.Ok d
abbrev Bun.inp (u:Bun):Shp:=⟨u.h,u.x,u.c⟩
abbrev blc (x:Blc):AV:=.agg (blcC x)
abbrev bun (u:Bun):AV:=.agg (bunC u)
def blcS (x:Blc):Bool:=fewB x.n 0&&decide (x.w.length≤4000)&&decide (x.b.length≤100)
def mdlS (m:Mdl):Bool:=decide (m.l.length≤8)&&m.l.all blcS
def bunS (u:Bun):Bool:=decide (u.m.length≤4)&&u.m.all mdlS
theorem blcS_iff {x:Blc}:blcS x=true↔fewB x.n 0=true∧x.w.length≤4000∧x.b.length≤100:=by
 simp only[blcS,O_,E_,and_assoc]
theorem mdlS_iff {m:Mdl}:mdlS m=true↔m.l.length≤8∧∀ k,k<m.l.length→blcS (m.l.getD k default)=true:=by
 simp only[mdlS,O_,E_,all_getD]
noncomputable def few31_iy_I (u:Bun) (K:Int) (l:List Blc) (k:Nat):VS:=stt 60 [(1,.ptr 1 0 0),(3,i64 K),(4,.sl 5 (l.map blcC)),(5,i64 k)] [(1,.var (bunC u))]
noncomputable def few31_iy_Z (u:Bun) (K:Int) (l:List Blc):VS:=few31_iy_I u K l (l.length)
theorem few31_iy_s (u:Bun) (K:Int) (l:List Blc) (hl:l.length≤8) (h:∀ k,k<l.length→blcS (l.getD k default)=true) (k:Nat) (hk:k<l.length):VT N_ (fnC Tryz.f7 [1,1,0,1,0,0,1,0,0,1,1,1,0,0]) (few31_iy_I u K l k) .normal (few31_iy_I u K l (k+1)):=by
 have q:=blcS_iff.1 (h k hk)
 obtain ⟨q1,q2,q3⟩:=q
 have oz1:=(s_ (0≤(↑k:Int)))
 have oz2:=(map_at (blcC) (default) (l:=l) (i:=k) hk)
 have oz4:=@few_0 ((l.getD k default).n)
 exact tR_ [r_,b_,.r [] [.row (sO oz2),ca oz4,o_,o_,o_,.row (sO oz2),o_,o_,o_,o_,o_,.sel 1,o_,o_,o_,.row (sO oz2),o_,o_,o_,o_,o_,.sel 1],d_,.r [] [.n ((↑k:Int)+1)]] [.any (rg [(26,15),(49,2),(59,1)]),.weak 5 (i64 (↑(k+1):Int)),.sort] (.c8 (show decide ((↑k:Int)<((K_ blcC l).length:Int))=true by (simp;omega)) oz1 oz2 (show WeakL [AV.sl 19 (K_ nodC (l.getD k default).n),AV.agg [i64 0,i64 0,i64 0,AV.lit (AY_ none 0 0)]] [AV.sl 19 (K_ nodC (l.getD k default).n),AV.agg [i64 0,i64 0,i64 0,AV.sl 1 []]] from (.cons (.refl _) (.cons (AV_ (.cons (.refl _) (.cons (.refl _) (.cons (.refl _) (.cons (Weak.nil _) .nil))))) .nil))) oz4 oz1 oz2 oz1<|.d4 oz2 (show (!fewB (l.getD k default).n 0 || decide (((K_ (row1 .i8) (l.getD k default).w).length:Int)>4000) || decide (((K_ (row1 .i32) (l.getD k default).b).length:Int)>100))=false by (rw[q1];simp only[BS_,BT_,Q_,F_,S_];omega)) (i6n ((↑k:Int)+1) (by omega)) (wS_ k))
theorem few31_iy_e (u:Bun) (K:Int) (l:List Blc) (hl:l.length≤8) (h:∀ k,k<l.length→blcS (l.getD k default)=true):VT N_ (fnC Tryz.f7 [1,1,0,1,0,0,1,0,0,1,1,1,0,0]) (few31_iy_I u K l (l.length)) (.exit 2) (few31_iy_Z u K l):=by
 exact tR_ [r_,d_] [.any (rg [(26,4)]),.sort] (.d (show decide ((l.length:Int)<((K_ blcC l).length:Int))=false by (simp;done)))
theorem few31_iy (u:Bun) (K:Int) (l:List Blc) (hl:l.length≤8) (h:∀ k,k<l.length→blcS (l.getD k default)=true):VT N_ (fnC Tryz.f7 [1,1,0,1,0,0,1,0,0,1,1,1,0]) (few31_iy_I u K l 0) (.exit 2) (few31_iy_Z u K l) :=
 VT.loop (fun k=>few31_iy_I u K l k) (l.length) (fun k hk=>few31_iy_s u K l hl h k hk) (few31_iy_e u K l hl h) (by intro h;cases h)
noncomputable def few31_in_I (u:Bun) (K:Int) (l:List Blc) (m:Nat) (k:Nat):VS:=stt 60 [(1,.ptr 1 0 0),(3,i64 K),(4,.sl 5 (l.map blcC)),(5,i64 k)] [(1,.var (bunC u))]
noncomputable def few31_in_Z (u:Bun) (K:Int) (l:List Blc) (m:Nat):VS:=stt 60 [(2,bv false)] []
theorem few31_in_s (u:Bun) (K:Int) (l:List Blc) (m:Nat) (hl:l.length≤8) (hm:m<l.length) (hf:blcS (l.getD m default)=false) (h:∀ k,k<m→blcS (l.getD k default)=true) (k:Nat) (hk:k<m):VT N_ (fnC Tryz.f7 [1,1,0,1,0,0,1,0,0,1,1,1,0,0]) (few31_in_I u K l m k) .normal (few31_in_I u K l m (k+1)):=by
 have q:=blcS_iff.1 (h k hk)
 obtain ⟨q1,q2,q3⟩:=q
 have oz1:=(s_ (0≤(↑k:Int)))
 have oz2:=(map_at (blcC) (default) (l:=l) (i:=k) (by omega))
 have oz4:=@few_0 ((l.getD k default).n)
 exact tR_ [r_,b_,.r [] [.row (sO oz2),ca oz4,o_,o_,o_,.row (sO oz2),o_,o_,o_,o_,o_,.sel 1,o_,o_,o_,.row (sO oz2),o_,o_,o_,o_,o_,.sel 1],d_,.r [] [.n ((↑k:Int)+1)]] [.any (rg [(26,15),(49,2),(59,1)]),.weak 5 (i64 (↑(k+1):Int)),.sort] (.c8 (show decide ((↑k:Int)<((K_ blcC l).length:Int))=true by (simp;omega)) oz1 oz2 (show WeakL [AV.sl 19 (K_ nodC (l.getD k default).n),AV.agg [i64 0,i64 0,i64 0,AV.lit (AY_ none 0 0)]] [AV.sl 19 (K_ nodC (l.getD k default).n),AV.agg [i64 0,i64 0,i64 0,AV.sl 1 []]] from (.cons (.refl _) (.cons (AV_ (.cons (.refl _) (.cons (.refl _) (.cons (.refl _) (.cons (Weak.nil _) .nil))))) .nil))) oz4 oz1 oz2 oz1<|.d4 oz2 (show (!fewB (l.getD k default).n 0 || decide (((K_ (row1 .i8) (l.getD k default).w).length:Int)>4000) || decide (((K_ (row1 .i32) (l.getD k default).b).length:Int)>100))=false by (rw[q1];simp only[BS_,BT_,Q_,F_,S_];omega)) (i6n ((↑k:Int)+1) (by omega)) (wS_ k))
theorem few31_in_e (u:Bun) (K:Int) (l:List Blc) (m:Nat) (hl:l.length≤8) (hm:m<l.length) (hf:blcS (l.getD m default)=false) (h:∀ k,k<m→blcS (l.getD k default)=true):VT N_ (fnC Tryz.f7 [1,1,0,1,0,0,1,0,0,1,1,1,0,0]) (few31_in_I u K l m (m)) (.ret) (few31_in_Z u K l m):=by
 have q0:fewB (l.getD m default).n 0=true→¬ ((l.getD m default).w.length≤4000∧(l.getD m default).b.length≤100):=fun c d=>by rw[blcS_iff.2 ⟨c,d⟩] at hf;cases hf
 have oz1:=(s_ (0≤(↑m:Int)))
 have oz2:=(map_at (blcC) (default) (l:=l) (i:=m) hm)
 have oz4:=@few_0 ((l.getD m default).n)
 exact tR_ [r_,b_,.r [] [.row (sO oz2),ca oz4,o_,o_,o_,.row (sO oz2),o_,o_,o_,o_,o_,.sel 1,o_,o_,o_,.row (sO oz2),o_,o_,o_,o_,o_,.sel 1],b_,r_] [.any (rg [(1,1),(3,3),(26,4),(32,9),(49,2),(59,1)]),.drop [1],.sort] (.c8 (show decide ((↑m:Int)<((K_ blcC l).length:Int))=true by (simp;omega)) oz1 oz2 (show WeakL [AV.sl 19 (K_ nodC (l.getD m default).n),AV.agg [i64 0,i64 0,i64 0,AV.lit (AY_ none 0 0)]] [AV.sl 19 (K_ nodC (l.getD m default).n),AV.agg [i64 0,i64 0,i64 0,AV.sl 1 []]] from (.cons (.refl _) (.cons (AV_ (.cons (.refl _) (.cons (.refl _) (.cons (.refl _) (.cons (Weak.nil _) .nil))))) .nil))) oz4 oz1 oz2 oz1<|.d2 oz2 (show (!fewB (l.getD m default).n 0 || decide (((K_ (row1 .i8) (l.getD m default).w).length:Int)>4000) || decide (((K_ (row1 .i32) (l.getD m default).b).length:Int)>100))=true by (cases ef:fewB (l.getD m default).n 0 with|false=>rfl|true=>(have q9:=q0 ef;simp only[BS_,BT_,X_,E_,S_];omega))))
theorem few31_in (u:Bun) (K:Int) (l:List Blc) (m:Nat) (hl:l.length≤8) (hm:m<l.length) (hf:blcS (l.getD m default)=false) (h:∀ k,k<m→blcS (l.getD k default)=true):VT N_ (fnC Tryz.f7 [1,1,0,1,0,0,1,0,0,1,1,1,0]) (few31_in_I u K l m 0) (.ret) (few31_in_Z u K l m) :=
 VT.loop (fun k=>few31_in_I u K l m k) (m) (fun k hk=>few31_in_s u K l m hl hm hf h k hk) (few31_in_e u K l m hl hm hf h) (by intro h;cases h)
noncomputable def few31_oy_I (u:Bun) (k:Nat):VS:=stt 60 [(1,.ptr 1 0 0),(3,i64 k)] [(1,.var (bunC u))]
noncomputable def few31_oy_Z (u:Bun):VS:=few31_oy_I u (u.m.length)
theorem few31_oy_s (u:Bun) (hl:u.m.length≤4) (h:∀ k,k<u.m.length→mdlS (u.m.getD k default)=true) (k:Nat) (hk:k<u.m.length):VT N_ (fnC Tryz.f7 [1,1,0,1,0,0]) (few31_oy_I u k) .normal (few31_oy_I u (k+1)):=by
 have q:=mdlS_iff.1 (h k hk)
 obtain ⟨q1,q2⟩:=q
 have oz2:=(map_at (mdlC) (default) (l:=u.m) (i:=k) hk)
 have oz5:=@few31_iy (u) ((↑k:Int)) ((u.m.getD k default).l) q1 q2
 exact tR_ [r_,b_,.r [] [.row (sO oz2)],r_,d_,r_,.code [.any (rg [(10,5),(17,9)]),.weak 5 (i64 (↑0:Int)),.sort] (AA_ 2) (zO oz5),.r [] [.n ((↑k:Int)+1)]] [.any [4,5,15,16],.weak 3 (i64 (↑(k+1):Int)),.sort] (.d8 (show decide ((↑k:Int)<((K_ mdlC u.m).length:Int))=true by (simp;omega)) (s_ (0≤(↑k:Int))) oz2 (show decide (((K_ blcC (u.m.getD k default).l).length:Int)>8)=false by (simp at *;omega)) w0_ oz5 (i6n ((↑k:Int)+1) (by omega)) (wS_ k))
theorem few31_oy_e (u:Bun) (hl:u.m.length≤4) (h:∀ k,k<u.m.length→mdlS (u.m.getD k default)=true):VT N_ (fnC Tryz.f7 [1,1,0,1,0,0]) (few31_oy_I u (u.m.length)) (.exit 0) (few31_oy_Z u):=by
 exact tR_ [r_,d_] [.any (rg [(10,5)]),.sort] (.d (show decide ((u.m.length:Int)<((K_ mdlC u.m).length:Int))=false by (simp;done)))
theorem few31_oy (u:Bun) (hl:u.m.length≤4) (h:∀ k,k<u.m.length→mdlS (u.m.getD k default)=true):VT N_ (fnC Tryz.f7 [1,1,0,1,0]) (few31_oy_I u 0) (.exit 0) (few31_oy_Z u) :=
 VT.loop (fun k=>few31_oy_I u k) (u.m.length) (fun k hk=>few31_oy_s u hl h k hk) (few31_oy_e u hl h) (by intro h;cases h)
noncomputable def few31_oa_I (u:Bun) (m:Nat) (k:Nat):VS:=stt 60 [(1,.ptr 1 0 0),(3,i64 k)] [(1,.var (bunC u))]
noncomputable def few31_oa_Z (u:Bun) (m:Nat):VS:=stt 60 [(2,bv false)] []
theorem few31_oa_s (u:Bun) (m:Nat) (hl:u.m.length≤4) (hm:m<u.m.length) (hf:8<(u.m.getD m default).l.length) (h:∀ k,k<m→mdlS (u.m.getD k default)=true) (k:Nat) (hk:k<m):VT N_ (fnC Tryz.f7 [1,1,0,1,0,0]) (few31_oa_I u m k) .normal (few31_oa_I u m (k+1)):=by
 have q:=mdlS_iff.1 (h k hk)
 obtain ⟨q1,q2⟩:=q
 have oz2:=(map_at (mdlC) (default) (l:=u.m) (i:=k) (by omega))
 have oz5:=@few31_iy (u) ((↑k:Int)) ((u.m.getD k default).l) q1 q2
 exact tR_ [r_,b_,.r [] [.row (sO oz2)],r_,d_,r_,.code [.any (rg [(10,5),(17,9)]),.weak 5 (i64 (↑0:Int)),.sort] (AA_ 2) (zO oz5),.r [] [.n ((↑k:Int)+1)]] [.any [4,5,15,16],.weak 3 (i64 (↑(k+1):Int)),.sort] (.d8 (show decide ((↑k:Int)<((K_ mdlC u.m).length:Int))=true by (simp;omega)) (s_ (0≤(↑k:Int))) oz2 (show decide (((K_ blcC (u.m.getD k default).l).length:Int)>8)=false by (simp at *;omega)) w0_ oz5 (i6n ((↑k:Int)+1) (by omega)) (wS_ k))
theorem few31_oa_e (u:Bun) (m:Nat) (hl:u.m.length≤4) (hm:m<u.m.length) (hf:8<(u.m.getD m default).l.length) (h:∀ k,k<m→mdlS (u.m.getD k default)=true):VT N_ (fnC Tryz.f7 [1,1,0,1,0,0]) (few31_oa_I u m (m)) (.ret) (few31_oa_Z u m):=by
 have oz2:=(map_at (mdlC) (default) (l:=u.m) (i:=m) hm)
 exact tR_ [r_,b_,.r [] [.row (sO oz2)],r_,b_,r_] [.any (rg [(1,1),(3,2),(10,5),(17,9)]),.drop [1],.sort] (.d4 (show decide ((↑m:Int)<((K_ mdlC u.m).length:Int))=true by (simp;omega)) (s_ (0≤(↑m:Int))) oz2 (show decide (((K_ blcC (u.m.getD m default).l).length:Int)>8)=true by (simp at *;omega)))
theorem few31_oa (u:Bun) (m:Nat) (hl:u.m.length≤4) (hm:m<u.m.length) (hf:8<(u.m.getD m default).l.length) (h:∀ k,k<m→mdlS (u.m.getD k default)=true):VT N_ (fnC Tryz.f7 [1,1,0,1,0]) (few31_oa_I u m 0) (.ret) (few31_oa_Z u m) :=
 VT.loop (fun k=>few31_oa_I u m k) (m) (fun k hk=>few31_oa_s u m hl hm hf h k hk) (few31_oa_e u m hl hm hf h) (by intro h;cases h)
noncomputable def few31_ob_I (u:Bun) (m j:Nat) (k:Nat):VS:=stt 60 [(1,.ptr 1 0 0),(3,i64 k)] [(1,.var (bunC u))]
noncomputable def few31_ob_Z (u:Bun) (m j:Nat):VS:=stt 60 [(2,bv false)] []
theorem few31_ob_s (u:Bun) (m j:Nat) (hl:u.m.length≤4) (hm:m<u.m.length) (hs:(u.m.getD m default).l.length≤8) (hj:j<(u.m.getD m default).l.length) (hf:blcS ((u.m.getD m default).l.getD j default)=false) (hb:∀ k,k<j→blcS ((u.m.getD m default).l.getD k default)=true) (h:∀ k,k<m→mdlS (u.m.getD k default)=true) (k:Nat) (hk:k<m):VT N_ (fnC Tryz.f7 [1,1,0,1,0,0]) (few31_ob_I u m j k) .normal (few31_ob_I u m j (k+1)):=by
 have q:=mdlS_iff.1 (h k hk)
 obtain ⟨q1,q2⟩:=q
 have oz2:=(map_at (mdlC) (default) (l:=u.m) (i:=k) (by omega))
 have oz5:=@few31_iy (u) ((↑k:Int)) ((u.m.getD k default).l) q1 q2
 exact tR_ [r_,b_,.r [] [.row (sO oz2)],r_,d_,r_,.code [.any (rg [(10,5),(17,9)]),.weak 5 (i64 (↑0:Int)),.sort] (AA_ 2) (zO oz5),.r [] [.n ((↑k:Int)+1)]] [.any [4,5,15,16],.weak 3 (i64 (↑(k+1):Int)),.sort] (.d8 (show decide ((↑k:Int)<((K_ mdlC u.m).length:Int))=true by (simp;omega)) (s_ (0≤(↑k:Int))) oz2 (show decide (((K_ blcC (u.m.getD k default).l).length:Int)>8)=false by (simp at *;omega)) w0_ oz5 (i6n ((↑k:Int)+1) (by omega)) (wS_ k))
theorem few31_ob_e (u:Bun) (m j:Nat) (hl:u.m.length≤4) (hm:m<u.m.length) (hs:(u.m.getD m default).l.length≤8) (hj:j<(u.m.getD m default).l.length) (hf:blcS ((u.m.getD m default).l.getD j default)=false) (hb:∀ k,k<j→blcS ((u.m.getD m default).l.getD k default)=true) (h:∀ k,k<m→mdlS (u.m.getD k default)=true):VT N_ (fnC Tryz.f7 [1,1,0,1,0,0]) (few31_ob_I u m j (m)) (.ret) (few31_ob_Z u m j):=by
 have oz2:=(map_at (mdlC) (default) (l:=u.m) (i:=m) hm)
 have oz5:=@few31_in (u) ((↑m:Int)) ((u.m.getD m default).l) (j) hs hj hf hb
 exact tR_ [r_,b_,.r [] [.row (sO oz2)],r_,d_,r_,.code [.any (rg [(10,5),(17,9)]),.weak 5 (i64 (↑0:Int)),.sort] (DN_) (zO oz5)] [.sort] (.d6 (show decide ((↑m:Int)<((K_ mdlC u.m).length:Int))=true by (simp;omega)) (s_ (0≤(↑m:Int))) oz2 (show decide (((K_ blcC (u.m.getD m default).l).length:Int)>8)=false by (simp at *;omega)) w0_ oz5)
theorem few31_ob (u:Bun) (m j:Nat) (hl:u.m.length≤4) (hm:m<u.m.length) (hs:(u.m.getD m default).l.length≤8) (hj:j<(u.m.getD m default).l.length) (hf:blcS ((u.m.getD m default).l.getD j default)=false) (hb:∀ k,k<j→blcS ((u.m.getD m default).l.getD k default)=true) (h:∀ k,k<m→mdlS (u.m.getD k default)=true):VT N_ (fnC Tryz.f7 [1,1,0,1,0]) (few31_ob_I u m j 0) (.ret) (few31_ob_Z u m j) :=
 VT.loop (fun k=>few31_ob_I u m j k) (m) (fun k hk=>few31_ob_s u m j hl hm hs hj hf hb h k hk) (few31_ob_e u m j hl hm hs hj hf hb h) (by intro h;cases h)
theorem few31_a (u:Bun) (h:4<u.m.length):VC N_ 7 ([bun u]) (bv false):=by
 exact cR_ [r_,r_,b_,r_] _ Tryz.func7 (.d (show decide (((K_ mdlC u.m).length:Int)>4)=true by (simp;omega)))
theorem few31_y (u:Bun) (hl:u.m.length≤4) (h:∀ k,k<u.m.length→mdlS (u.m.getD k default)=true):VC N_ 7 ([bun u]) (bv true):=by
 have oz2:=@few31_oy (u) hl h
 exact cR_ [r_,r_,d_,r_,.code [.any [0,2,6,7,8,9],.weak 3 (i64 (↑0:Int)),.sort] (AA_ 0) (zO oz2),r_] _ Tryz.func7 (.d3 (show decide (((K_ mdlC u.m).length:Int)>4)=false by (simp;omega)) w0_ oz2)
theorem few31_na (u:Bun) (m:Nat) (hl:u.m.length≤4) (hm:m<u.m.length) (hf:8<(u.m.getD m default).l.length) (h:∀ k,k<m→mdlS (u.m.getD k default)=true):VC N_ 7 ([bun u]) (bv false):=by
 have oz2:=@few31_oa (u) (m) hl hm hf h
 exact cR_ [r_,r_,d_,r_,.code [.any [0,2,6,7,8,9],.weak 3 (i64 (↑0:Int)),.sort] (DN_) (zO oz2)] _ Tryz.func7 (.d3 (show decide (((K_ mdlC u.m).length:Int)>4)=false by (simp;omega)) w0_ oz2)
theorem few31_nb (u:Bun) (m j:Nat) (hl:u.m.length≤4) (hm:m<u.m.length) (hs:(u.m.getD m default).l.length≤8) (hj:j<(u.m.getD m default).l.length) (hf:blcS ((u.m.getD m default).l.getD j default)=false) (hb:∀ k,k<j→blcS ((u.m.getD m default).l.getD k default)=true) (h:∀ k,k<m→mdlS (u.m.getD k default)=true):VC N_ 7 ([bun u]) (bv false):=by
 have oz2:=@few31_ob (u) (m) (j) hl hm hs hj hf hb h
 exact cR_ [r_,r_,d_,r_,.code [.any [0,2,6,7,8,9],.weak 3 (i64 (↑0:Int)),.sort] (DN_) (zO oz2)] _ Tryz.func7 (.d3 (show decide (((K_ mdlC u.m).length:Int)>4)=false by (simp;omega)) w0_ oz2)
theorem few31_v (u:Bun):VC N_ 7 [bun u] (bv (bunS u)):=by
 unfold bunS
 by_cases h1:u.m.length≤4
 ·rw[decide_eq_true h1,BN_]
  rcases all_or (fun k=>mdlS (u.m.getD k default)) u.m.length with h|⟨m,g1,g2,g3⟩
  ·rw[all_getD.2 h];exact few31_y u h1 h
  ·have:u.m.all mdlS=false:=by
    cases e:u.m.all mdlS with
    | false=>rfl
    | true=>have:=all_getD.1 e m g1;exact absurd (this.symm.trans g2) (by simp)
   rw[this]
   by_cases h2:8<(u.m.getD m default).l.length
   ·exact few31_na u m h1 g1 h2 g3
   ·rcases all_or (fun k=>blcS ((u.m.getD m default).l.getD k default)) (u.m.getD m default).l.length with h|⟨j,j1,j2,j3⟩
    ·exfalso
     have:mdlS (u.m.getD m default)=true:=mdlS_iff.2 ⟨by omega,h⟩
     exact absurd (this.symm.trans g2) (by simp)
    ·exact few31_nb u m j h1 g1 (by omega) j1 j2 j3 g3
 ·rw[decide_eq_false h1,AD_];exact few31_a u (by omega)
theorem blc_facts {x:Blc} (h:blcS x=true):x.n.length≤12∧(∀ n∈x.n,n.w.length≤1000∧n.b.length≤100)∧(∀ n∈x.n,n.w.length≤100000∧n.b.length≤100000)∧x.w.length≤4000∧x.b.length≤100:=by
 have h:=blcS_iff.1 h
 exact ⟨(few_facts h.1).1,(few_facts h.1).2.2,few_wide h.1,h.2.1,h.2.2⟩
abbrev fullR:Rng:=⟨-128,127⟩
theorem fullR_in:fullR.In8:=⟨⟨by decide,by decide⟩,⟨by decide,by decide⟩⟩
abbrev rchsL (l:List Nod):List Rng:=growL stepR l fullR l.length
def lastR (l:List Nod):Rng:=(rchsL l).getD l.length default
theorem rchsL_len (l:List Nod):(rchsL l).length=l.length+1:=growL_len stepR l fullR l.length
theorem lastR_in {l:List Nod} (okl:∀ n∈l,n.Ok):(lastR l).In8:=getD_in (flow_in okl fullR_in (AT_ _)) (show l.length<(rchsL l).length by rw[rchsL_len];omega)
theorem lastR_i {l:List Nod} {i:Nat} (hi:i=l.length):(growL stepR l fullR l.length).getD i default=lastR l:=by subst hi;rfl
def verdE (s:Shp) (w b:List Int) (nd cl:Int):Int :=
 if elems s.h s.x s.c=0 then 5 else if cl<2∨16<cl then 2
 else if (w.length:Int)≠cl*elems s.h s.x s.c∨16384<(w.length:Int)∨(b.length:Int)≠cl then 9 else if nd<0 then 11 else 0
theorem clel_bd {cl:Int} (s:Shp) (h:2≤cl∧cl≤16):0≤cl*elems s.h s.x s.c∧cl*elems s.h s.x s.c≤16384:=by
 have h1:=elems_in s.h s.x s.c
 have:=mul_bd (A:=16) (B:=1024) (a:=cl) (by omega) (by omega) h1.1 h1.2
 omega
theorem vcheck_v (s:Shp) (w b:List Int) (nd cl:Int) (ok:s.Ok) (wl:w.length≤100000) (bl:b.length≤100000):VC N_ 155 ([shp s,.agg (hedC w b nd),i64 cl]) (i64 (verdE s w b nd cl)):=by
 obtain ⟨p1,p2,p3⟩:=id ok
 have q1:=elems_in s.h s.x s.c
 have q2:=@clel_bd cl s
 have oz0:=@elems_v (s.h) (s.x) (s.c) p1 p2 p3
 rcases bft (elems s.h s.x s.c==0) with hc0|hc0
 ·have gc0:elems s.h s.x s.c=0:=bet hc0
  exact (cR_ [r_,.r [] [cr oz0],r_,b_,r_] (i64 5) Tryz.func155 (.d2 oz0 hc0)).weak (Y_ _) (M_ (by (unfold verdE;(try simp only[S_] at *);(repeat first|rw[i_ (by omega)]|rw[j_ (by omega)]))))
 ·have gc0:¬elems s.h s.x s.c=0:=bef hc0
  rcases bft (decide (cl<2) || decide (cl>16)) with hc1|hc1
  ·have gc1:cl<2∨cl>16:=gc0_ hc1
   exact (cR_ [r_,.r [] [cr oz0],r_,d_,.r [] [o_,o_,.sel 1],b_,r_] (i64 2) Tryz.func155 (.d3 oz0 hc0 hc1)).weak (Y_ _) (M_ (by (unfold verdE;(try simp only[S_] at *);(repeat first|rw[i_ (by omega)]|rw[j_ (by omega)]))))
  ·have gc1:¬cl<2∧¬cl>16:=gc0_ hc1
   have oz3:=(i6n (cl*elems s.h s.x s.c) (by omega))
   rcases bft (((K_ (row1 .i8) w).length:Int) != cl*elems s.h s.x s.c || decide (((K_ (row1 .i8) w).length:Int)>16384) || ((K_ (row1 .i32) b).length:Int) != cl) with hc2|hc2
   ·have gc2:(¬((K_ (row1 .i8) w).length:Int)=cl*elems s.h s.x s.c∨((K_ (row1 .i8) w).length:Int)>16384)∨¬((K_ (row1 .i32) b).length:Int)=cl:=gc0_ hc2
    exact (cR_ [r_,.r [] [cr oz0],r_,d_,.r [] [o_,o_,.sel 1],d_,.r [] [.n (nO oz3),o_,o_,o_,o_,.sel 1,o_,o_,o_,o_,o_,.sel 1],b_,r_] (i64 9) Tryz.func155 (.d5 oz0 hc0 hc1 oz3 hc2)).weak (Y_ _) (M_ (by (unfold verdE;(try simp only[S_] at *);(repeat first|rw[i_ (by omega)]|rw[j_ (by omega)]))))
   ·have gc2:(((K_ (row1 .i8) w).length:Int)=cl*elems s.h s.x s.c∧¬((K_ (row1 .i8) w).length:Int)>16384)∧((K_ (row1 .i32) b).length:Int)=cl:=gc0_ hc2
    rcases bft (decide (nd<0)) with hc3|hc3
    ·have gc3:=of_decide_eq_true hc3
     exact (cR_ [r_,.r [] [cr oz0],r_,d_,.r [] [o_,o_,.sel 1],d_,.r [] [.n (nO oz3),o_,o_,o_,o_,.sel 1,o_,o_,o_,o_,o_,.sel 1],d_,r_,b_,r_] (i64 11) Tryz.func155 (.d6 oz0 hc0 hc1 oz3 hc2 hc3)).weak (Y_ _) (M_ (by (unfold verdE;(try simp only[S_] at *);(repeat first|rw[i_ (by omega)]|rw[j_ (by omega)]))))
    ·have gc3:=of_decide_eq_false hc3
     exact (cR_ [r_,.r [] [cr oz0],r_,d_,.r [] [o_,o_,.sel 1],d_,.r [] [.n (nO oz3),o_,o_,o_,o_,.sel 1,o_,o_,o_,o_,o_,.sel 1],d_,r_,d_,r_] (i64 0) Tryz.func155 (.d6 oz0 hc0 hc1 oz3 hc2 hc3)).weak (Y_ _) (M_ (by (unfold verdE;(try simp only[S_] at *);(repeat first|rw[i_ (by omega)]|rw[j_ (by omega)]))))
theorem refVcheck_v (s:Shp) (w b:List Int) (nd cl:Int) (ok:s.Ok) (wl:w.length≤100000) (bl:b.length≤100000):VC N_ 75 ([shp s,.agg (hedC w b nd),i64 cl]) (i64 (verdE s w b nd cl)):=by
 obtain ⟨p1,p2,p3⟩:=id ok
 have q1:=elems_in s.h s.x s.c
 have q2:=@clel_bd cl s
 have oz0:=@refElems_v (s.h) (s.x) (s.c) p1 p2 p3
 rcases bft (elems s.h s.x s.c==0) with hc0|hc0
 ·have gc0:elems s.h s.x s.c=0:=bet hc0
  exact (cR_ [r_,.r [] [cr oz0],b_,r_] (i64 5) Tryz.func75 (.d2 oz0 hc0)).weak (Y_ _) (M_ (by (unfold verdE;(try simp only[S_] at *);(repeat first|rw[i_ (by omega)]|rw[j_ (by omega)]))))
 ·have gc0:¬elems s.h s.x s.c=0:=bef hc0
  rcases bft (decide (cl<2) || decide (cl>16)) with hc1|hc1
  ·have gc1:cl<2∨cl>16:=gc0_ hc1
   exact (cR_ [r_,.r [] [cr oz0],d_,.r [] [o_,o_,.sel 1],b_,r_] (i64 2) Tryz.func75 (.d3 oz0 hc0 hc1)).weak (Y_ _) (M_ (by (unfold verdE;(try simp only[S_] at *);(repeat first|rw[i_ (by omega)]|rw[j_ (by omega)]))))
  ·have gc1:¬cl<2∧¬cl>16:=gc0_ hc1
   have oz4:=(i6n (cl*elems s.h s.x s.c) (by omega))
   rcases bft (((K_ (row1 .i8) w).length:Int) != cl*elems s.h s.x s.c || decide (((K_ (row1 .i8) w).length:Int)>16384) || ((K_ (row1 .i32) b).length:Int) != cl) with hc2|hc2
   ·have gc2:(¬((K_ (row1 .i8) w).length:Int)=cl*elems s.h s.x s.c∨((K_ (row1 .i8) w).length:Int)>16384)∨¬((K_ (row1 .i32) b).length:Int)=cl:=gc0_ hc2
    exact (cR_ [r_,.r [] [cr oz0],d_,.r [] [o_,o_,.sel 1],d_,.r [] [cr oz0,.n (nO oz4),o_,o_,o_,o_,.sel 1,o_,o_,o_,o_,o_,.sel 1],b_,r_] (i64 9) Tryz.func75 (.d6 oz0 hc0 hc1 oz0 oz4 hc2)).weak (Y_ _) (M_ (by (unfold verdE;(try simp only[S_] at *);(repeat first|rw[i_ (by omega)]|rw[j_ (by omega)]))))
   ·have gc2:(((K_ (row1 .i8) w).length:Int)=cl*elems s.h s.x s.c∧¬((K_ (row1 .i8) w).length:Int)>16384)∧((K_ (row1 .i32) b).length:Int)=cl:=gc0_ hc2
    rcases bft (decide (nd<0)) with hc3|hc3
    ·have gc3:=of_decide_eq_true hc3
     exact (cR_ [r_,.r [] [cr oz0],d_,.r [] [o_,o_,.sel 1],d_,.r [] [cr oz0,.n (nO oz4),o_,o_,o_,o_,.sel 1,o_,o_,o_,o_,o_,.sel 1],d_,r_,b_,r_] (i64 11) Tryz.func75 (.d7 oz0 hc0 hc1 oz0 oz4 hc2 hc3)).weak (Y_ _) (M_ (by (unfold verdE;(try simp only[S_] at *);(repeat first|rw[i_ (by omega)]|rw[j_ (by omega)]))))
    ·have gc3:=of_decide_eq_false hc3
     exact (cR_ [r_,.r [] [cr oz0],d_,.r [] [o_,o_,.sel 1],d_,.r [] [cr oz0,.n (nO oz4),o_,o_,o_,o_,.sel 1,o_,o_,o_,o_,o_,.sel 1],d_,r_,d_,r_] (i64 0) Tryz.func75 (.d7 oz0 hc0 hc1 oz0 oz4 hc2 hc3)).weak (Y_ _) (M_ (by (unfold verdE;(try simp only[S_] at *);(repeat first|rw[i_ (by omega)]|rw[j_ (by omega)]))))
theorem bare_v (w b:List Int) (nd:Int) (wl:w.length≤100000) (bl:b.length≤100000):VC N_ 154 ([.agg (hedC w b nd)]) (bv (decide (w.length=0∧b.length=0∧nd=0))):=by
 exact (cR_ [r_,.r [] [o_,o_,o_,o_,.sel 2,o_,o_,o_,.sel 2]] (bv (((K_ (row1 .i8) w).length:Int)==0&&((K_ (row1 .i32) b).length:Int)==0&&nd==0)) Tryz.func154 (.n)).weak (Y_ _) (DK_ (by (rw[Bool.eq_iff_iff];simp only[E_,F_,I_,J_,ne_eq,H_,G_,U_,T_,BL_,BS_,BP_,Classical.not_not,CO_,CF_,O_,P_,X_,Q_,B_,BN_,BR_,AD_,BW_,BT_,eqNums,S_,AX_,AJ_,BB_,BA_,AH_,AE_,BZ_,AG_,BO_,BX_,BQ_,BV_,CH_,false_iff,true_iff,iff_false,iff_true] at *;first|done|omega)))
def exitE (x:Blc) (out:Shp) (r:Rng) (cl:Int) (last:Bool):Int :=
 if x.ex=false∧(last=true∨¬ (x.w.length=0∧x.b.length=0∧x.nd=0)) then 11 else if x.ex=false then 0
 else if verdE out x.w x.b x.nd cl≠0 then verdE out x.w x.b x.nd cl else headE x.w x.b r.lo r.hi
theorem vexit_v (x:Blc) (out:Shp) (r:Rng) (cl:Int) (last:Bool) (ok:x.Ok) (oks:out.Ok) (hr:r.In8) (wl:x.w.length≤100000) (bl:x.b.length≤100000):VC N_ 128 ([blc x,shp out,rch r,i64 cl,bv last]) (i64 (exitE x out r cl last)):=by
 have q1:=ok.w
 have q2:=ok.b
 obtain ⟨q3,q4⟩:=id hr
 rcases bft (last && !x.ex) with hc0|hc0
 ·have gc0:last=true∧x.ex=false:=gc0_ hc0
  exact (cR_ [r_,.r [] [o_,o_,o_,.sel 2],b_,b_,r_] (i64 11) Tryz.func128 (.d2 hc0 hc0)).weak (Y_ _) (M_ (by (unfold exitE;simp_all;done)))
 ·have gc0:last=false∨x.ex=true:=gc0_ hc0
  have oz1:=@bare_v (x.w) (x.b) (x.nd) wl bl
  rcases bft (!x.ex && !decide (x.w.length=0∧x.b.length=0∧x.nd=0)) with hc1|hc1
  ·have gc1:x.ex=false∧¬(x.w.length=0∧x.b.length=0∧x.nd=0):=gc0_ hc1
   exact (cR_ [r_,.r [] [o_,o_,o_,.sel 2],d_,.r [] [o_,o_,o_,cr oz1,o_,.sel 2],b_,r_] (i64 11) Tryz.func128 (.d3 hc0 oz1 hc1)).weak (Y_ _) (M_ (by (unfold exitE;simp_all;done)))
  ·have gc1:x.ex=true∨x.w.length=0∧x.b.length=0∧x.nd=0:=gc0_ hc1
   rcases bft (!x.ex) with hc2|hc2
   ·have gc2:x.ex=false:=by first|exact hc2|exact of_decide_eq_true hc2|exact of_decide_eq_false hc2|simpa [eqNums] using hc2|(simp[eqNums] at hc2 ⊢;first|done|assumption|omega)
    exact (cR_ [r_,.r [] [o_,o_,o_,.sel 2],d_,.r [] [o_,o_,o_,cr oz1,o_,.sel 2],d_,r_,b_,r_] (i64 0) Tryz.func128 (.d4 hc0 oz1 hc1 hc2)).weak (Y_ _) (M_ (by (unfold exitE;simp_all;done)))
   ·have gc2:x.ex=true:=by first|exact hc2|exact of_decide_eq_true hc2|exact of_decide_eq_false hc2|simpa [eqNums] using hc2|(simp[eqNums] at hc2 ⊢;first|done|assumption|omega)
    have oz4:=@vcheck_v (out) (x.w) (x.b) (x.nd) (cl) oks wl bl
    rcases bft (verdE out x.w x.b x.nd cl != 0) with hc3|hc3
    ·have gc3:¬verdE out x.w x.b x.nd cl=0:=bdt hc3
     exact (cR_ [r_,.r [] [o_,o_,o_,.sel 2],d_,.r [] [o_,o_,o_,cr oz1,o_,.sel 2],d_,r_,d_,.r [] [cr oz4],r_,b_,r_] (i64 (verdE out x.w x.b x.nd cl)) Tryz.func128 (.d6 hc0 oz1 hc1 hc2 oz4 hc3)).weak (Y_ _) (M_ (by (unfold exitE;simp_all;done)))
    ·have gc3:verdE out x.w x.b x.nd cl=0:=bdf hc3
     have oz6:=@ghead_v (x.w) (x.b) (x.nd) (r.lo) (r.hi) q1 q2 wl bl q3 q4
     exact (cR_ [r_,.r [] [o_,o_,o_,.sel 2],d_,.r [] [o_,o_,o_,cr oz1,o_,.sel 2],d_,r_,d_,.r [] [cr oz4],r_,d_,.r [] [cr oz6]] (i64 (headE x.w x.b r.lo r.hi)) Tryz.func128 (.d7 hc0 oz1 hc1 hc2 oz4 hc3 oz6)).weak (Y_ _) (M_ (by (unfold exitE;simp_all;done)))
def validE (x:Blc) (a:Shp) (cl:Int) (last:Bool):Int×Int :=
 if (shapesE x.n a).2≠0 then shapesE x.n a else if (flowE x.n fullR).2≠0 then flowE x.n fullR
 else if exitE x (lastS x.n a) (lastR x.n) cl last≠0 then (-1,exitE x (lastS x.n a) (lastR x.n) cl last) else ((x.n.length:Int),0)
theorem validE_s {x:Blc} {a:Shp} {cl:Int} {last:Bool} (h:¬ SOK x.n a):validE x a cl last=shapesE x.n a:=i_ (shapesE_n h)
theorem validE_f {x:Blc} {a:Shp} {cl:Int} {last:Bool} (h:SOK x.n a) (g:¬ FOK x.n fullR):validE x a cl last=flowE x.n fullR:=by
 unfold validE;rw[j_ (by rw[shapesE_y h];simp),i_ (flowE_n g)]
theorem validE_y {x:Blc} {a:Shp} {cl:Int} {last:Bool} (h:SOK x.n a) (g:FOK x.n fullR):validE x a cl last=if exitE x (lastS x.n a) (lastR x.n) cl last≠0 then (-1,exitE x (lastS x.n a) (lastR x.n) cl last) else ((x.n.length:Int),0):=by
 unfold validE;rw[j_ (by rw[shapesE_y h];simp),j_ (by rw[flowE_y g];simp)]
structure Blc.Sm (x:Blc):Prop where
 l:x.n.length≤12
 s:∀ n∈x.n,n.w.length≤100000∧n.b.length≤100000
 w:x.w.length≤100000
 b:x.b.length≤100000
theorem Blc.sm {x:Blc} (h:blcS x=true):x.Sm:=by
 have q:=blc_facts h
 exact ⟨q.1,q.2.2.1,by omega,by omega⟩
theorem vblock_s (x:Blc) (a:Shp) (cl:Int) (last:Bool) (ok:x.Ok) (oka:a.Ok) (sm:x.Sm) (h:¬ SOK x.n a):VC N_ 88 ([blc x,shp a,i64 cl,bv last]) (.tup [i64 (validE x a cl last).1,i64 (validE x a cl last).2]):=by
 have q1:=ok.n
 obtain ⟨q2,q3,q4,q5⟩:=id sm
 have q6:=shapesE_n h
 have q7:=@validE_s x a cl last h
 have oz0:=@shapes_n (x.n) (a) q1 q3 oka (by omega) h
 exact (cR_ [r_,.r [] [cr oz0],r_,b_,r_] (AV.tup [i64 (shapesE x.n a).fst,i64 (shapesE x.n a).snd]) Tryz.func88 (.d2 oz0 (show ((shapesE x.n a).snd != 0)=true by (simp;omega)))).weak (Y_ _) (AS_ (.cons (M_ (by (rw[q7]))) (.cons (M_ (by (rw[q7]))) .nil)))
theorem vblock_f (x:Blc) (a:Shp) (cl:Int) (last:Bool) (ok:x.Ok) (oka:a.Ok) (sm:x.Sm) (h:SOK x.n a) (g:¬ FOK x.n fullR):VC N_ 88 ([blc x,shp a,i64 cl,bv last]) (.tup [i64 (validE x a cl last).1,i64 (validE x a cl last).2]):=by
 have q1:=ok.n
 obtain ⟨q2,q3,q4,q5⟩:=id sm
 have q6:=flowE_n g
 have q7:=@validE_f x a cl last h g
 have q8:=fullR_in
 have oz0:=@shapes_y (x.n) (a) q1 q3 h
 have oz2:=@flow_n (x.n) (Rng.mk (-128) 127) q1 q3 q8 (by omega) g
 exact (cR_ [r_,.r [] [cr oz0],r_,d_,.r [] [cr oz2],r_,b_,r_] (AV.tup [i64 (flowE x.n (Rng.mk (-128) 127)).fst,i64 (flowE x.n (Rng.mk (-128) 127)).snd]) Tryz.func88 (.d4 oz0 z2_ oz2 (show ((flowE x.n (Rng.mk (-128) 127)).snd != 0)=true by (simp;omega)))).weak (Y_ _) (AS_ (.cons (M_ (by (rw[q7]))) (.cons (M_ (by (rw[q7]))) .nil)))
theorem vblock_y (x:Blc) (a:Shp) (cl:Int) (last:Bool) (ok:x.Ok) (oka:a.Ok) (sm:x.Sm) (h:SOK x.n a) (g:FOK x.n fullR):VC N_ 88 ([blc x,shp a,i64 cl,bv last]) (.tup [i64 (validE x a cl last).1,i64 (validE x a cl last).2]):=by
 have q1:=ok.n
 obtain ⟨q2,q3,q4,q5⟩:=id sm
 have q7:=@validE_y x a cl last h g
 have q8:=fullR_in
 have l1:=shpsL_len x.n a
 have l2:=rchsL_len x.n
 have l3:(K_ shpC (shpsL x.n a)).length=(shpsL x.n a).length:=S_ _
 have l4:(K_ rchC (rchsL x.n)).length=(rchsL x.n).length:=S_ _
 have l5:(K_ nodC x.n).length=x.n.length:=S_ _
 have s1:=@lastS_i x.n a
 have s2:=@lastR_i x.n
 have s3:=lastS_ok (l:=x.n) oka
 have s4:=lastR_in q1
 have oz0:=@shapes_y (x.n) (a) q1 q3 h
 have oz1:=z2_
 have oz2:=@flow_y (x.n) (Rng.mk (-128) 127) q1 q3 q8 g
 have oz4:=(s_ (0≤((K_ nodC x.n).length:Int)))
 have oz5:=(map_at (shpC) (default) (l:=growL nextE x.n a x.n.length) (i:=(K_ nodC x.n).length) (by (simp_all;done)))
 have oz7:=(map_at (rchC) (default) (l:=growL stepR x.n (Rng.mk (-128) 127) x.n.length) (i:=(K_ nodC x.n).length) (by (simp_all;done)))
 have oz8:=@vexit_v (x) ((growL nextE x.n a x.n.length).getD (K_ nodC x.n).length default) ((growL stepR x.n (Rng.mk (-128) 127) x.n.length).getD (K_ nodC x.n).length default) (cl) (last) ok (by (rw[s1 (by omega)];exact s3)) (by (rw[s2 (by omega)];exact s4)) q4 q5
 rcases bft (exitE x ((growL nextE x.n a x.n.length).getD (K_ nodC x.n).length default) ((growL stepR x.n (Rng.mk (-128) 127) x.n.length).getD (K_ nodC x.n).length default) cl last != 0) with hc0|hc0
 ·have gc0:¬exitE x ((growL nextE x.n a x.n.length).getD (K_ nodC x.n).length default) ((growL stepR x.n (Rng.mk (-128) 127) x.n.length).getD (K_ nodC x.n).length default) cl last=0:=bdt hc0
  exact (cR_ [r_,.r [] [cr oz0],r_,d_,.r [] [cr oz2],r_,d_,.r [] [.row (sO oz5),.row (sO oz7),cr oz8],r_,b_,r_] (AV.tup [i64 (-1),i64 (exitE x ((growL nextE x.n a x.n.length).getD (K_ nodC x.n).length default) ((growL stepR x.n (Rng.mk (-128) 127) x.n.length).getD (K_ nodC x.n).length default) cl last)]) Tryz.func88 (.c8 oz0 oz1 oz2 oz1 oz4 oz5 oz4 oz7<|.d2 oz8 hc0)).weak (Y_ _) (AS_ (.cons (M_ (by (rw[q7,i_ (by simp_all)]))) (.cons (M_ (by (simp_all;done))) .nil)))
 ·have gc0:exitE x ((growL nextE x.n a x.n.length).getD (K_ nodC x.n).length default) ((growL stepR x.n (Rng.mk (-128) 127) x.n.length).getD (K_ nodC x.n).length default) cl last=0:=bdf hc0
  exact (cR_ [r_,.r [] [cr oz0],r_,d_,.r [] [cr oz2],r_,d_,.r [] [.row (sO oz5),.row (sO oz7),cr oz8],r_,d_,r_] (AV.tup [i64 ((K_ nodC x.n).length:Int),i64 0]) Tryz.func88 (.c8 oz0 oz1 oz2 oz1 oz4 oz5 oz4 oz7<|.d2 oz8 hc0)).weak (Y_ _) (AS_ (.cons (M_ (by (simp_all;done))) (.cons (M_ (by (rw[q7,j_ (by simp_all)]))) .nil)))
structure CvOk (T:Ten) (n:Nod):Prop where
 ok:T.Ok
 okn:n.Ok
 r:tenRight T=true
 e:(convE ⟨T.h,T.x,T.c⟩ n).2=0
theorem convE_ok {t:Shp} {n:Nod} (h:(convE t n).2=0):(slideE t n.nk n.ns n.np n.no).2=0∧(n.w.length:Int)=n.no*n.nk*n.nk*t.c∧n.w.length≤16384∧(n.b.length:Int)=n.no∧(convE t n).1=(slideE t n.nk n.ns n.np n.no).1:=by
 unfold convE at h ⊢
 split at h
 ·rename_i h1;exact absurd h h1
 ·split at h
  ·simp at h
  ·rename_i h1 h2
   rw[j_ h1,j_ h2]
   exact ⟨by omega,by omega,by omega,by omega,rfl⟩
structure CvN (T:Ten) (n:Nod):Prop where
 h1:1≤T.h
 h16:T.h≤16
 x1:1≤T.x
 x16:T.x≤16
 c1:1≤T.c
 k1:1≤n.nk
 k5:n.nk≤5
 s1:1≤n.ns
 s4:n.ns≤4
 p0:0≤n.np
 p4:n.np≤4
 o1:1≤n.no
 o2:n.no≤1024
 wl:(n.w.length:Int)=n.no*n.nk*n.nk*T.c
 w2:n.w.length≤16384
 bl:(n.b.length:Int)=n.no
 dl:(T.d.length:Int)=T.h*T.x*T.c
 d2:T.d.length≤1024
 sh:(convE ⟨T.h,T.x,T.c⟩ n).1.h=(T.h+2*n.np-n.nk)/n.ns+1
 sx:(convE ⟨T.h,T.x,T.c⟩ n).1.x=(T.x+2*n.np-n.nk)/n.ns+1
 sc:(convE ⟨T.h,T.x,T.c⟩ n).1.c=n.no
 he:1≤(convE ⟨T.h,T.x,T.c⟩ n).1.h∧(convE ⟨T.h,T.x,T.c⟩ n).1.h≤16
 xe:1≤(convE ⟨T.h,T.x,T.c⟩ n).1.x∧(convE ⟨T.h,T.x,T.c⟩ n).1.x≤16
 el:(convE ⟨T.h,T.x,T.c⟩ n).1.h*(convE ⟨T.h,T.x,T.c⟩ n).1.x*n.no≤1024
 en:elems (convE ⟨T.h,T.x,T.c⟩ n).1.h (convE ⟨T.h,T.x,T.c⟩ n).1.x (convE ⟨T.h,T.x,T.c⟩ n).1.c=(convE ⟨T.h,T.x,T.c⟩ n).1.h*(convE ⟨T.h,T.x,T.c⟩ n).1.x*n.no
theorem CvOk.n {T:Ten} {n:Nod} (h:CvOk T n):CvN T n:=by
 obtain ⟨ok,okn,r,e⟩:=h
 obtain ⟨e1,e2,e3,e4,e5⟩:=convE_ok e
 obtain ⟨a1,a2,a3,a4,a5,a6,a7,a8,a9,a10,a11,a12⟩:=slideE_ok e1
 have c:=elems_ok a12
 unfold tenRight at r
 rw[O_,E_,E_] at r
 have b':=elems_ok r.1
 have e5':(convE ⟨T.h,T.x,T.c⟩ n).1=⟨(T.h+2*n.np-n.nk)/n.ns+1,(T.x+2*n.np-n.nk)/n.ns+1,n.no⟩:=e5.trans a11
 have e2':(n.w.length:Int)=n.no*n.nk*n.nk*T.c:=e2
 clear e5 a11 e2 a9 a10
 have c':1≤(T.h+2*n.np-n.nk)/n.ns+1∧(T.h+2*n.np-n.nk)/n.ns+1≤16∧1≤(T.x+2*n.np-n.nk)/n.ns+1∧(T.x+2*n.np-n.nk)/n.ns+1≤16∧1≤n.no∧n.no≤1024∧((T.h+2*n.np-n.nk)/n.ns+1)*((T.x+2*n.np-n.nk)/n.ns+1)*n.no≤1024 ∧
  elems ((T.h+2*n.np-n.nk)/n.ns+1) ((T.x+2*n.np-n.nk)/n.ns+1) n.no=((T.h+2*n.np-n.nk)/n.ns+1)*((T.x+2*n.np-n.nk)/n.ns+1)*n.no:=c
 clear c
 refine ⟨by omega,by omega,by omega,by omega,by omega,by omega,by omega,by omega,by omega,by omega,by omega,by omega,by omega,e2',e3,e4,by omega,by omega,by rw[e5'],by rw[e5'],by rw[e5'],?_,?_,?_,?_⟩<;>rw[e5']<;>simp only<;>omega
theorem wat {T:Ten} {n:Nod} (h:CvN T n) {o i:Int} (o0:0≤o) (o1:o<n.no) (i0:0≤i) (i1:i<n.nk) :
  (0≤o*n.nk∧o*n.nk≤16384)∧(0≤(o*n.nk+i)*n.nk∧(o*n.nk+i)*n.nk≤16384)∧0≤(o*n.nk+i)*n.nk*T.c∧(o*n.nk+i)*n.nk*T.c+n.nk*T.c≤n.w.length:=by
 obtain ⟨h1,h16,x1,x16,c1,k1,k5,s1,s4,p0,p4,n1,n2,wl,w2,bl,dl,d2,sh,sx,sc,he,xe,el,en⟩:=h
 have a:=idx_bd (a:=o) (m:=n.no) (b:=i) (n:=n.nk) o0 o1 i0 i1
 have a0:0≤o*n.nk:=BK_ o0 (by omega)
 have b:=idx_bd (a:=o*n.nk+i) (m:=n.no*n.nk) (b:=n.nk-1) (n:=n.nk) (by omega) (by omega) (by omega) (by omega)
 have b0:0≤(o*n.nk+i)*n.nk:=BK_ (by omega) (by omega)
 have c:((o*n.nk+i)*n.nk+n.nk)*T.c≤n.no*n.nk*n.nk*T.c:=CQ_ (by omega) (by omega)
 have c0:0≤(o*n.nk+i)*n.nk*T.c:=BK_ b0 (by omega)
 have d:=mul_bd (a:=n.no) (A:=1024) (b:=n.nk) (B:=5) (by omega) (by omega) (by omega) (by omega)
 have e:n.no*n.nk*n.nk*1≤n.no*n.nk*n.nk*T.c:=Int.mul_le_mul_of_nonneg_left (by omega) (BK_ (by omega) (by omega))
 have g:n.no*n.nk*1≤n.no*n.nk*n.nk:=Int.mul_le_mul_of_nonneg_left (by omega) (by omega)
 rw[Int.add_mul] at c
 omega
theorem dat {T:Ten} {n:Nod} (h:CvN T n) {y:Int} (y0:0≤y) (y1:y<T.h):0≤y*T.x∧(y*T.x+T.x)*T.c≤T.d.length:=by
 obtain ⟨h1,h16,x1,x16,c1,k1,k5,s1,s4,p0,p4,n1,n2,wl,w2,bl,dl,d2,sh,sx,sc,he,xe,el,en⟩:=h
 have a:=idx_bd (a:=y) (m:=T.h) (b:=T.x-1) (n:=T.x) y0 y1 (by omega) (by omega)
 have a0:0≤y*T.x:=BK_ y0 (by omega)
 have c:(y*T.x+T.x)*T.c≤T.h*T.x*T.c:=CQ_ (by omega) (by omega)
 omega
def sumAcc (T:Ten) (n:Nod) (h w o:Int):Nat→Int
 | 0=>gt n.b o
 | i+1=>if 0≤h*n.ns+(i:Int)-n.np∧h*n.ns+(i:Int)-n.np<T.h then IntKind.i32.wrap (sumAcc T n h w o i+rowAcc T n ((o*n.nk+(i:Int))*n.nk*T.c) (h*n.ns+(i:Int)-n.np) (w*n.ns-n.np) n.nk.toNat) else sumAcc T n h w o i
abbrev cvS (T:Ten) (n:Nod) (h w o:Int):Int:=sumAcc T n h w o n.nk.toNat
def outL (T:Ten) (n:Nod):Nat→List Int
 | 0=>[]
 | i+1=>outL T n i++(BM_ n.no.toNat).map fun (o:Nat)=>cvS T n ((i:Int)/(convE ⟨T.h,T.x,T.c⟩ n).1.x) ((i:Int) % (convE ⟨T.h,T.x,T.c⟩ n).1.x) (o:Int)
theorem outL_len (T:Ten) (n:Nod):∀ i,(outL T n i).length=i*n.no.toNat
 | 0=>by simp[outL]
 | i+1=>by rw[outL,AX_,outL_len T n i,BI_];simp
def convOf (T:Ten) (n:Nod):Ten×Int:=if tenRight T=false then (⟨0,0,0,[]⟩,5) else if (convE ⟨T.h,T.x,T.c⟩ n).2≠0 then (⟨0,0,0,[]⟩,(convE ⟨T.h,T.x,T.c⟩ n).2) else (⟨(convE ⟨T.h,T.x,T.c⟩ n).1.h,(convE ⟨T.h,T.x,T.c⟩ n).1.x,(convE ⟨T.h,T.x,T.c⟩ n).1.c,outL T n ((convE ⟨T.h,T.x,T.c⟩ n).1.h*(convE ⟨T.h,T.x,T.c⟩ n).1.x).toNat⟩,0)
end Go.Proofs.YtdfihaminnmgpaaGreat
