/- A part of this claim. No condition. -/
import Derived.Test.YtdmkhinckljddaaGreatDoorReportLinesG4
set_option maxRecDepth 100000
set_option maxHeartbeats 2000000
set_option linter.unusedVariables false
set_option linter.unusedSimpArgs false
set_option linter.unnecessarySimpa false
namespace Go.Proofs.YtdmkhinckljddaaGreatDoor
open Go.RowKit
open BlkW renaming rows→BZ_
open Bool renaming and_eq_true→O_,and_eq_false_iff→P_,or_eq_false_iff→R_,not_eq_false'→T_,not_eq_true'→U_,or_eq_true→W_,and_true→B_,false_and→AG_,not_eq_eq_eq_not→AH_,not_false→AJ_,not_true→BM_,false_or→BN_,and_false→BO_,true_and→BU_,or_false→BY_
open Exit renaming exit→AI_
open Int renaming toNat_natCast→AF_,tmod_eq_emod_of_nonneg→BG_,tdiv_eq_ediv_of_nonneg→BH_,not_lt→BI_,not_le→CZ_
open IntWalk renaming i32_in→CX_
open List renaming map→K_,length_map→Q_,map_replicate→V_,map_append→X_,map_cons→Z_,map_take→D_,map_drop→AK_,map_nil→AL_,map_set→AM_,length_cons→AO_,length_nil→AS_,length_append→AW_,length_replicate→AB_,eq_nil_of_length_eq_zero→AE_,take→BK_,drop→BL_,map_eq_nil_iff→BQ_,length_take→BT_,length_range→BV_,length_drop→BX_,length_set→BA_
open Nat renaming le_refl→AV_,zero_add→BR_
open Tryz renaming prog→N_
open Value renaming slice→AC_
open Weak renaming int→M_,tup→AZ_,agg→AD_
open WeakL renaming refl→A_
def Shp.Rt (s:Shp):Prop:=0<elems s.h s.x s.c
abbrev zsh:Shp:=⟨0,0,0⟩
theorem zsh_ok:zsh.Ok:=by constructor<;>exact ⟨by decide,by decide⟩
theorem Shp.Rt.ok {s:Shp} (h:s.Rt):s.Ok:=by
 have:=elems_ok h
 exact ⟨⟨by omega,by omega⟩,⟨by omega,by omega⟩,⟨by omega,by omega⟩⟩
def Told (r:Shp×Int):Prop:=(r.2=0∧r.1.Rt)∨(r.2≠0∧r.1=zsh)
theorem slideE_told (t:Shp) (k s p o:Int):Told (slideE t k s p o):=by
 unfold slideE
 split
 ·exact .inr ⟨by dsimp only;decide,rfl⟩
 ·split
  ·exact .inr ⟨by assumption,rfl⟩
  ·split
   ·exact .inr ⟨by assumption,rfl⟩
   ·split
    ·exact .inr ⟨by dsimp only;decide,rfl⟩
    ·rename_i h;exact .inl ⟨rfl,Classical.not_not.1 h⟩
theorem convE_told (t:Shp) (n:Nod):Told (convE t n):=by
 have q:=slideE_told t n.nk n.ns n.np n.no
 unfold convE
 split
 ·exact .inr ⟨by assumption,rfl⟩
 ·split
  ·exact .inr ⟨by dsimp only;decide,rfl⟩
  ·rcases q with q|q
   ·exact .inl ⟨rfl,q.2⟩
   ·exact absurd q.1 (by assumption)
theorem depthE_told (t:Shp) (n:Nod):Told (depthE t n):=by
 have q:=slideE_told t n.nk n.ns n.np t.c
 unfold depthE
 split
 ·exact .inr ⟨by assumption,rfl⟩
 ·split
  ·exact .inr ⟨by dsimp only;decide,rfl⟩
  ·rcases q with q|q
   ·exact .inl ⟨rfl,q.2⟩
   ·exact absurd q.1 (by assumption)
theorem denseE_told (t:Shp) (n:Nod):Told (denseE t n):=by
 unfold denseE
 split
 ·exact .inr ⟨by dsimp only;decide,rfl⟩
 ·split
  ·exact .inr ⟨by dsimp only;decide,rfl⟩
  ·rename_i h _
   have:=elems_in 1 1 n.no
   exact .inl ⟨rfl,by unfold Shp.Rt;dsimp only;omega⟩
theorem aroundE_told (a:Shp) (p:Int):Told (aroundE a p):=by
 unfold aroundE
 split
 ·exact .inr ⟨by dsimp only;decide,rfl⟩
 ·split
  ·exact .inr ⟨by dsimp only;decide,rfl⟩
  ·have:=elems_in (a.h+2*p) (a.x+2*p) a.c
   exact .inl ⟨rfl,by unfold Shp.Rt;dsimp only;omega⟩
theorem flat_rt {n:Int} (h0:0<n) (h:n≤1024):0<elems 1 1 n:=by
 unfold elems;rw[i_ (by omega)];omega
theorem shapeE_told (n:Nod) (a b:Shp):Told (shapeE n a b):=by
 unfold shapeE
 split
 ·exact convE_told a n
 ·split
  ·exact depthE_told a n
  ·split
   ·exact denseE_told a n
   ·split
    ·exact slideE_told a n.nk n.ns n.np a.c
    ·split
     ·exact .inr ⟨by dsimp only;decide,rfl⟩
     ·split
      ·exact .inr ⟨by dsimp only;decide,rfl⟩
      ·rename_i h
       have q:=elems_in a.h a.x a.c
       split
       ·exact (.inl ⟨rfl,show 0<elems 1 1 (elems a.h a.x a.c) from flat_rt (by omega) q.2⟩)
       ·split
        ·exact aroundE_told a n.np
        ·exact .inl ⟨rfl,by unfold Shp.Rt;dsimp only;omega⟩
theorem nextE_told (n:Nod) (L:List Shp):Told (nextE n L):=by
 unfold nextE
 split
 ·exact .inr ⟨by assumption,rfl⟩
 ·split
  ·exact shapeE_told _ _ _
  ·exact .inr ⟨by dsimp only;decide,rfl⟩
theorem Told.ok {r:Shp×Int} (h:Told r):r.1.Ok:=by
 rcases h with h|h
 ·exact h.2.ok
 ·rw[h.2];exact zsh_ok
structure SOK (l:List Nod) (a:Shp):Prop where
 i:a.Rt
 e:0<l.length
 f:l.length≤8
 k:∀ k,k<l.length→errL nextE l a k=0
def shapesB (l:List Nod) (a:Shp):Nat→Bool:=fun k=>errL nextE l a k==0
def shapesE (l:List Nod) (a:Shp):Int×Int :=
 if ¬ 0<elems a.h a.x a.c then (-1,5) else if l.length=0 then (-1,12) else if 8<l.length then (-1,4)
 else if firstBad (shapesB l a) l.length<l.length then (firstBad (shapesB l a) l.length,errL nextE l a (firstBad (shapesB l a) l.length)) else (l.length,0)
theorem shapesE_y {l:List Nod} {a:Shp} (h:SOK l a):shapesE l a=((l.length:Int),0):=by
 have h0:=h.i
 unfold Shp.Rt at h0
 have h1:=h.e
 have h2:=h.f
 unfold shapesE
 rw[j_ (by omega),j_ (by omega),j_ (by omega),firstBad_all fun k hk=>by simpa [shapesB] using h.k k hk,j_ (by omega)]
theorem shapesE_at {l:List Nod} {a:Shp} {m:Nat} (i:a.Rt) (e:0<l.length) (f:l.length≤8) (hm:m<l.length) (hf:errL nextE l a m≠0) (h:∀ k,k<m→errL nextE l a k=0):shapesE l a=((m:Int),errL nextE l a m):=by
 unfold Shp.Rt at i
 have:=firstBad_at (p:=shapesB l a) (m:=m) (by simpa [shapesB] using hf) (fun k hk=>by simpa [shapesB] using h k hk) hm
 unfold shapesE
 rw[j_ (by omega),j_ (by omega),j_ (by omega),this,i_ hm]
theorem SOK.cases (l:List Nod) (a:Shp):SOK l a∨¬ a.Rt∨l.length=0∨8<l.length∨(a.Rt∧0<l.length∧l.length≤8∧∃ m,m<l.length∧errL nextE l a m≠0∧∀ k,k<m→errL nextE l a k=0):=by
 by_cases i:a.Rt
 ·by_cases e:0<l.length
  ·by_cases f:l.length≤8
   ·rcases all_or (shapesB l a) l.length with h|⟨m,h1,h2,h3⟩
    ·exact .inl ⟨i,e,f,fun k hk=>by simpa [shapesB] using h k hk⟩
    ·exact .inr (.inr (.inr (.inr ⟨i,e,f,m,h1,by simpa [shapesB] using h2,fun k hk=>by simpa [shapesB] using h3 k hk⟩)))
   ·exact .inr (.inr (.inr (.inl (by omega))))
  ·exact .inr (.inr (.inl (by omega)))
 ·exact .inr (.inl i)
theorem shapesE_n {l:List Nod} {a:Shp} (h:¬ SOK l a):(shapesE l a).2≠0:=by
 rcases SOK.cases l a with q|q|q|q|⟨i,e,f,m,h1,h2,h3⟩
 ·exact absurd q h
 ·have e:shapesE l a=(-1,5):=by unfold shapesE;exact i_ q
  rw[e];decide
 ·unfold shapesE
  by_cases c1:¬ 0<elems a.h a.x a.c
  ·rw[i_ c1];dsimp only;decide
  ·rw[j_ c1,i_ q];dsimp only;decide
 ·unfold shapesE
  by_cases c1:¬ 0<elems a.h a.x a.c
  ·rw[i_ c1];dsimp only;decide
  ·rw[j_ c1,j_ (by omega),i_ q];dsimp only;decide
 ·rw[shapesE_at i e f h1 h2 h3];exact h2
theorem grow_ok {l:List Nod} {a:Shp} (i:a.Ok) (k:Nat):∀ s∈growL nextE l a k,s.Ok :=
 growL_all (n:=k) i (fun j _ _=>(nextE_told _ _).ok) k (AV_ _)
noncomputable def shapes_ly_I (l:List Nod) (a:Shp) (k:Nat):VS:=stt 51 [(0,.sl 19 (l.map nodC)),(7,.own 900),(26,.sl 19 (l.map nodC)),(27,i64 l.length),(28,i64 k)] [(900,.slc 23 3 ((growL nextE l a k).map shpC))]
noncomputable def shapes_ly_Z (l:List Nod) (a:Shp):VS:=shapes_ly_I l a (l.length)
theorem shapes_ly_s (l:List Nod) (a:Shp) (okl:∀ n∈l,n.Ok) (wl:∀ n∈l,n.w.length≤100000∧n.b.length≤100000) (i:a.Ok) (f8:l.length≤8) (h:∀ k,k<l.length→errL nextE l a k=0) (k:Nat) (hk:k<l.length):VT N_ (fnC Tryz.f53 [1,1,1,0,1,0,0]) (shapes_ly_I l a k) .normal (shapes_ly_I l a (k+1)):=by
 have q:=h k hk
 have q1:=growL_len nextE l a k
 have q2:=grow_ok (l:=l) i k
 have q3:=getD_in okl hk
 have q4:=getD_in wl hk
 obtain ⟨q5,q6⟩:=q4
 unfold errL at q
 have oz2:=(map_at (nodC) (default) (l:=l) (i:=k) hk)
 have oz3:=@next_v (l.getD k default) (growL nextE l a k) q3 q2 (by omega) q5 q6
 exact tR_ [r_,b_,.r [] [.row (sO oz2)],.r [] [cr oz3],r_,d_,r_,.r [] [.n ((↑k:Int)+1)]] [.any (rg [(8,4),(29,12),(43,5)]),.drop [9,10,45],.ren 46 900,.weak 28 (i64 (↑(k+1):Int)),.blk 900 (Blk.slc 23 3 (K_ shpC (growL nextE l a (k+1)))),.sort] (.c8 (decide_eq_true (p:=((↑k:Int)<(l.length:Int))) (by omega)) (s_ (0≤(↑k:Int))) oz2 oz3 (show ((nextE (l.getD k default) (growL nextE l a k)).snd != 0)=false by (simp at *;omega)) (show ((K_ shpC (growL nextE l a k)).length+1)*24≤140737488355328 by (simp;omega)) (show (K_ shpC (growL nextE l a k)).length+1≤9223372036854775807 by (simp;omega)) (i6n ((↑k:Int)+1) (by omega))<|.d2 (wS_ k) (show BlkW (Blk.slc 23 3 (K_ shpC (growL nextE l a k)++[[i64 (nextE (l.getD k default) (growL nextE l a k)).fst.h,i64 (nextE (l.getD k default) (growL nextE l a k)).fst.x,i64 (nextE (l.getD k default) (growL nextE l a k)).fst.c]])) (Blk.slc 23 3 (K_ shpC (growL nextE l a (k+1)))) from (BZ_ (e:=23) (z:=3) (rows_to (shpC) (r:=K_ shpC (growL nextE l a k)++[[i64 (nextE (l.getD k default) (growL nextE l a k)).fst.h,i64 (nextE (l.getD k default) (growL nextE l a k)).fst.x,i64 (nextE (l.getD k default) (growL nextE l a k)).fst.c]]) (l:=growL nextE l a k++[Shp.mk (nextE (l.getD k default) (growL nextE l a k)).fst.h (nextE (l.getD k default) (growL nextE l a k)).fst.x (nextE (l.getD k default) (growL nextE l a k)).fst.c]) (m:=growL nextE l a (k+1)) (by first|(simp only[X_,Z_,AL_,AM_,V_,D_,AK_];done)|rfl|(simp only[X_,Z_,AL_,AM_,V_,D_,AK_];rfl)|(simp only[X_,Z_,AL_,AM_,V_,D_,AK_,shpC,ints];done)) (show (growL nextE l a k++[Shp.mk (nextE (l.getD k default) (growL nextE l a k)).fst.h (nextE (l.getD k default) (growL nextE l a k)).fst.x (nextE (l.getD k default) (growL nextE l a k)).fst.c])=(growL nextE l a (k+1)) from (by rfl))))))
theorem shapes_ly_e (l:List Nod) (a:Shp) (okl:∀ n∈l,n.Ok) (wl:∀ n∈l,n.w.length≤100000∧n.b.length≤100000) (i:a.Ok) (f8:l.length≤8) (h:∀ k,k<l.length→errL nextE l a k=0):VT N_ (fnC Tryz.f53 [1,1,1,0,1,0,0]) (shapes_ly_I l a (l.length)) (.exit 1) (shapes_ly_Z l a):=by
 exact tR_ [r_,d_] [.any [29],.sort] (.d (decide_eq_false (p:=((l.length:Int)<(l.length:Int))) (by omega)))
theorem shapes_ly (l:List Nod) (a:Shp) (okl:∀ n∈l,n.Ok) (wl:∀ n∈l,n.w.length≤100000∧n.b.length≤100000) (i:a.Ok) (f8:l.length≤8) (h:∀ k,k<l.length→errL nextE l a k=0):VT N_ (fnC Tryz.f53 [1,1,1,0,1,0]) (shapes_ly_I l a 0) (.exit 1) (shapes_ly_Z l a) :=
 VT.loop (fun k=>shapes_ly_I l a k) (l.length) (fun k hk=>shapes_ly_s l a okl wl i f8 h k hk) (shapes_ly_e l a okl wl i f8 h) (by intro h;cases h)
noncomputable def shapes_ln_I (l:List Nod) (a:Shp) (m:Nat) (k:Nat):VS:=stt 51 [(0,.sl 19 (l.map nodC)),(7,.own 900),(26,.sl 19 (l.map nodC)),(27,i64 l.length),(28,i64 k)] [(900,.slc 23 3 ((growL nextE l a k).map shpC))]
noncomputable def shapes_ln_Z (l:List Nod) (a:Shp) (m:Nat):VS:=stt 51 [(4,nilv),(5,i64 m),(6,i64 (errL nextE l a m))] []
theorem shapes_ln_s (l:List Nod) (a:Shp) (m:Nat) (okl:∀ n∈l,n.Ok) (wl:∀ n∈l,n.w.length≤100000∧n.b.length≤100000) (i:a.Ok) (f8:l.length≤8) (hm:m<l.length) (hf:errL nextE l a m≠0) (h:∀ k,k<m→errL nextE l a k=0) (k:Nat) (hk:k<m):VT N_ (fnC Tryz.f53 [1,1,1,0,1,0,0]) (shapes_ln_I l a m k) .normal (shapes_ln_I l a m (k+1)):=by
 have q:=h k hk
 have q1:=growL_len nextE l a k
 have q2:=grow_ok (l:=l) i k
 have q3:=getD_in okl (s_ (k<l.length))
 have q4:=getD_in wl (s_ (k<l.length))
 obtain ⟨q5,q6⟩:=q4
 unfold errL at q
 have oz2:=(map_at (nodC) (default) (l:=l) (i:=k) (by omega))
 have oz3:=@next_v (l.getD k default) (growL nextE l a k) q3 q2 (by omega) q5 q6
 exact tR_ [r_,b_,.r [] [.row (sO oz2)],.r [] [cr oz3],r_,d_,r_,.r [] [.n ((↑k:Int)+1)]] [.any (rg [(8,4),(29,12),(43,5)]),.drop [9,10,45],.ren 46 900,.weak 28 (i64 (↑(k+1):Int)),.blk 900 (Blk.slc 23 3 (K_ shpC (growL nextE l a (k+1)))),.sort] (.c8 (decide_eq_true (p:=((↑k:Int)<(l.length:Int))) (by omega)) (s_ (0≤(↑k:Int))) oz2 oz3 (show ((nextE (l.getD k default) (growL nextE l a k)).snd != 0)=false by (simp at *;omega)) (show ((K_ shpC (growL nextE l a k)).length+1)*24≤140737488355328 by (simp;omega)) (show (K_ shpC (growL nextE l a k)).length+1≤9223372036854775807 by (simp;omega)) (i6n ((↑k:Int)+1) (by omega))<|.d2 (wS_ k) (show BlkW (Blk.slc 23 3 (K_ shpC (growL nextE l a k)++[[i64 (nextE (l.getD k default) (growL nextE l a k)).fst.h,i64 (nextE (l.getD k default) (growL nextE l a k)).fst.x,i64 (nextE (l.getD k default) (growL nextE l a k)).fst.c]])) (Blk.slc 23 3 (K_ shpC (growL nextE l a (k+1)))) from (BZ_ (e:=23) (z:=3) (rows_to (shpC) (r:=K_ shpC (growL nextE l a k)++[[i64 (nextE (l.getD k default) (growL nextE l a k)).fst.h,i64 (nextE (l.getD k default) (growL nextE l a k)).fst.x,i64 (nextE (l.getD k default) (growL nextE l a k)).fst.c]]) (l:=growL nextE l a k++[Shp.mk (nextE (l.getD k default) (growL nextE l a k)).fst.h (nextE (l.getD k default) (growL nextE l a k)).fst.x (nextE (l.getD k default) (growL nextE l a k)).fst.c]) (m:=growL nextE l a (k+1)) (by first|(simp only[X_,Z_,AL_,AM_,V_,D_,AK_];done)|rfl|(simp only[X_,Z_,AL_,AM_,V_,D_,AK_];rfl)|(simp only[X_,Z_,AL_,AM_,V_,D_,AK_,shpC,ints];done)) (show (growL nextE l a k++[Shp.mk (nextE (l.getD k default) (growL nextE l a k)).fst.h (nextE (l.getD k default) (growL nextE l a k)).fst.x (nextE (l.getD k default) (growL nextE l a k)).fst.c])=(growL nextE l a (k+1)) from (by rfl))))))
theorem shapes_ln_e (l:List Nod) (a:Shp) (m:Nat) (okl:∀ n∈l,n.Ok) (wl:∀ n∈l,n.w.length≤100000∧n.b.length≤100000) (i:a.Ok) (f8:l.length≤8) (hm:m<l.length) (hf:errL nextE l a m≠0) (h:∀ k,k<m→errL nextE l a k=0):VT N_ (fnC Tryz.f53 [1,1,1,0,1,0,0]) (shapes_ln_I l a m (m)) (.ret) (shapes_ln_Z l a m):=by
 have q1:=growL_len nextE l a m
 have q2:=grow_ok (l:=l) i m
 have q3:=getD_in okl hm
 have q4:=getD_in wl hm
 obtain ⟨q5,q6⟩:=q4
 unfold errL at hf
 have oz2:=(map_at (nodC) (default) (l:=l) (i:=m) hm)
 have oz3:=@next_v (l.getD m default) (growL nextE l a m) q3 q2 (by omega) q5 q6
 have oz5:=(M_ (k:=.i64) (show (((nextE (l.getD m default) (growL nextE l a m)).snd):Int)=(errL nextE l a m) from (by rfl)))
 exact tR_ [r_,b_,.r [] [.row (sO oz2)],.r [] [cr oz3],r_,b_,r_] [.any (rg [(0,1),(7,5),(26,17)]),.drop [900,9,10],.weak 6 (wO oz5),.sort] (.d6 (decide_eq_true (p:=((↑m:Int)<(l.length:Int))) (by omega)) (s_ (0≤(↑m:Int))) oz2 oz3 (show ((nextE (l.getD m default) (growL nextE l a m)).snd != 0)=true by (simp at *;omega)) oz5)
theorem shapes_ln (l:List Nod) (a:Shp) (m:Nat) (okl:∀ n∈l,n.Ok) (wl:∀ n∈l,n.w.length≤100000∧n.b.length≤100000) (i:a.Ok) (f8:l.length≤8) (hm:m<l.length) (hf:errL nextE l a m≠0) (h:∀ k,k<m→errL nextE l a k=0):VT N_ (fnC Tryz.f53 [1,1,1,0,1,0]) (shapes_ln_I l a m 0) (.ret) (shapes_ln_Z l a m) :=
 VT.loop (fun k=>shapes_ln_I l a m k) (m) (fun k hk=>shapes_ln_s l a m okl wl i f8 hm hf h k hk) (shapes_ln_e l a m okl wl i f8 hm hf h) (by intro h;cases h)
theorem shapes_y (l:List Nod) (a:Shp) (okl:∀ n∈l,n.Ok) (wl:∀ n∈l,n.w.length≤100000∧n.b.length≤100000) (h:SOK l a):VC N_ 53 ([.sl 19 (l.map nodC),shp a]) (.tup [.sl 3 ((growL nextE l a l.length).map shpC),i64 l.length,i64 0]):=by
 have q1:=h.i
 have q2:=h.e
 have q3:=h.f
 have q4:=h.k
 have q5:=q1.ok
 unfold Shp.Rt at q1
 have oz0:=@sRight_v (a) q5
 have oz6:=@shapes_ly (l) (a) okl wl q5 q3 q4
 exact (cR_ [r_,.r [] [cr oz0],d_,r_,d_,r_,d_,r_,r_,.code [.any (rg [(1,1),(3,4),(12,14)]),.drop [3],.ren 25 900,.weak 27 (i64 (l.length:Int)),.weak 28 (i64 (↑0:Int)),.sort] (AI_ 1) (zO oz6),r_] (AV.tup [AV.sl 3 (K_ shpC (growL nextE l a l.length)),i64 ((K_ nodC l).length:Int),i64 0]) Tryz.func53 (.d7 oz0 (show (!decide (0<elems a.h a.x a.c))=false by (simp;omega)) (show (((K_ nodC l).length:Int)==0)=false by (simp only[E_,F_,I_,J_,ne_eq,H_,G_,U_,T_,AH_,BM_,AJ_,Classical.not_not,BI_,CZ_,O_,P_,W_,R_,B_,BU_,BO_,AG_,BY_,BN_,eqNums,Q_,AW_,AO_,AS_,BA_,AB_,BT_,BX_,BV_,AF_,BR_,BQ_];(first|done|with_reducible assumption|omega|contradiction))) (show decide (((K_ nodC l).length:Int)>8)=false by (simp;omega)) (M_ (k:=.i64) (show ((((K_ nodC l).length:Int)):Int)=((l.length:Int)) from (by (simp;done)))) w0_ oz6)).weak (A_ _) (AZ_ (.cons (.refl _) (.cons (M_ (by (simp;done))) (.cons (.refl _) .nil))))
theorem shapes_a (l:List Nod) (a:Shp) (i:a.Ok) (hl:l.length≤1000) (h:¬ 0<elems a.h a.x a.c∨l.length=0∨8<l.length):VC N_ 53 ([.sl 19 (l.map nodC),shp a]) (.tup [nilv,i64 (shapesE l a).1,i64 (shapesE l a).2]):=by
 have q:=elems_in a.h a.x a.c
 have oz0:=@sRight_v (a) i
 rcases bft (!decide (0<elems a.h a.x a.c)) with hc0|hc0
 ·have gc0:=bnt hc0
  exact (cR_ [r_,.r [] [cr oz0],b_,r_] (AV.tup [AV.lit (AC_ none 0 0),i64 (-1),i64 5]) Tryz.func53 (.d2 oz0 hc0)).weak (A_ _) (AZ_ (.cons (.refl _) (.cons (M_ (by (unfold shapesE;(try simp only[Q_] at *);(repeat first|rw[i_ (by omega)]|rw[j_ (by omega)])))) (.cons (M_ (by (unfold shapesE;(try simp only[Q_] at *);(repeat first|rw[i_ (by omega)]|rw[j_ (by omega)])))) .nil))))
 ·have gc0:=bnf hc0
  rcases bft (((K_ nodC l).length:Int)==0) with hc1|hc1
  ·have gc1:((K_ nodC l).length:Int)=0:=bet hc1
   exact (cR_ [r_,.r [] [cr oz0],d_,r_,b_,r_] (AV.tup [AV.lit (AC_ none 0 0),i64 (-1),i64 12]) Tryz.func53 (.d3 oz0 hc0 hc1)).weak (A_ _) (AZ_ (.cons (.refl _) (.cons (M_ (by (unfold shapesE;(try simp only[Q_] at *);(repeat first|rw[i_ (by omega)]|rw[j_ (by omega)])))) (.cons (M_ (by (unfold shapesE;(try simp only[Q_] at *);(repeat first|rw[i_ (by omega)]|rw[j_ (by omega)])))) .nil))))
  ·have gc1:¬((K_ nodC l).length:Int)=0:=bef hc1
   exact (cR_ [r_,.r [] [cr oz0],d_,r_,d_,r_,b_,r_] (AV.tup [AV.lit (AC_ none 0 0),i64 (-1),i64 4]) Tryz.func53 (.d4 oz0 hc0 hc1 (show decide (((K_ nodC l).length:Int)>8)=true by (simp only[E_,F_,I_,J_,ne_eq,H_,G_,U_,T_,AH_,BM_,AJ_,Classical.not_not,BI_,CZ_,O_,P_,W_,R_,B_,BU_,BO_,AG_,BY_,BN_,eqNums,Q_,AW_,AO_,AS_,BA_,AB_,BT_,BX_,BV_,AF_,BR_,BQ_] at *;(first|done|with_reducible assumption|omega|contradiction))))).weak (A_ _) (AZ_ (.cons (.refl _) (.cons (M_ (by (unfold shapesE;(try simp only[Q_] at *);(repeat first|rw[i_ (by omega)]|rw[j_ (by omega)])))) (.cons (M_ (by (unfold shapesE;(try simp only[Q_] at *);(repeat first|rw[i_ (by omega)]|rw[j_ (by omega)])))) .nil))))
theorem shapes_m (l:List Nod) (a:Shp) (m:Nat) (okl:∀ n∈l,n.Ok) (wl:∀ n∈l,n.w.length≤100000∧n.b.length≤100000) (i:0<elems a.h a.x a.c) (f8:l.length≤8) (hm:m<l.length) (hf:errL nextE l a m≠0) (h:∀ k,k<m→errL nextE l a k=0):VC N_ 53 ([.sl 19 (l.map nodC),shp a]) (.tup [nilv,i64 m,i64 (errL nextE l a m)]):=by
 have q:=Shp.Rt.ok i
 have oz0:=@sRight_v (a) q
 have oz6:=@shapes_ln (l) (a) (m) okl wl q f8 hm hf h
 exact cR_ [r_,.r [] [cr oz0],d_,r_,d_,r_,d_,r_,r_,.code [.any (rg [(1,1),(3,4),(12,14)]),.drop [3],.ren 25 900,.weak 27 (i64 (l.length:Int)),.weak 28 (i64 (↑0:Int)),.sort] (Exit.ret) (zO oz6)] _ Tryz.func53 (.d7 oz0 (show (!decide (0<elems a.h a.x a.c))=false by (simp;omega)) (show (((K_ nodC l).length:Int)==0)=false by (simp only[E_,F_,I_,J_,ne_eq,H_,G_,U_,T_,AH_,BM_,AJ_,Classical.not_not,BI_,CZ_,O_,P_,W_,R_,B_,BU_,BO_,AG_,BY_,BN_,eqNums,Q_,AW_,AO_,AS_,BA_,AB_,BT_,BX_,BV_,AF_,BR_,BQ_];(first|done|with_reducible assumption|omega|contradiction))) (show decide (((K_ nodC l).length:Int)>8)=false by (simp;omega)) (M_ (k:=.i64) (show ((((K_ nodC l).length:Int)):Int)=((l.length:Int)) from (by (simp;done)))) w0_ oz6)
theorem shapes_n (l:List Nod) (a:Shp) (okl:∀ n∈l,n.Ok) (wl:∀ n∈l,n.w.length≤100000∧n.b.length≤100000) (i:a.Ok) (hl:l.length≤1000) (h:¬ SOK l a):VC N_ 53 [.sl 19 (l.map nodC),shp a] (.tup [nilv,i64 (shapesE l a).1,i64 (shapesE l a).2]):=by
 rcases SOK.cases l a with q|q|q|q|⟨i',e,f,m,h1,h2,h3⟩
 ·exact absurd q h
 ·exact shapes_a l a i hl (.inl q)
 ·exact shapes_a l a i hl (.inr (.inl q))
 ·exact shapes_a l a i hl (.inr (.inr q))
 ·rw[shapesE_at i' e f h1 h2 h3];exact shapes_m l a m okl wl i' f h1 h2 h3
theorem nextE_c {n:Nod} {L:List Shp} (h:checkE n≠0):nextE n L=(⟨0,0,0⟩,checkE n):=i_ h
theorem nextE_0 {n:Nod} {L:List Shp} (h:checkE n=0) (g:thereB n ((K_ shpC L).length:Int)=false):nextE n L=(⟨0,0,0⟩,8):=by
 rw[Q_] at g;unfold nextE;rw[j_ (by simp[h]),j_ (by simp[g])]
theorem nextE_6 {n:Nod} {L:List Shp} (h:checkE n=0) (g:thereB n ((K_ shpC L).length:Int)=true):nextE n L=shapeE n (L.getD n.na.toNat default) (L.getD (secN n).toNat default):=by
 rw[Q_] at g;unfold nextE;rw[j_ (by simp[h]),i_ g]
theorem nextE_ok {n:Nod} {L:List Shp} (q:(nextE n L).2=0):checkE n=0∧thereB n ((K_ shpC L).length:Int)=true∧nextE n L=shapeE n (L.getD n.na.toNat default) (L.getD (secN n).toNat default):=by
 by_cases h:checkE n=0
 ·cases g:thereB n ((K_ shpC L).length:Int) with
  | false=>rw[nextE_0 h g] at q;cases q
  | true=>exact ⟨h,rfl,nextE_6 h g⟩
 ·rw[nextE_c h] at q;exact absurd q h
theorem there_at {n:Nod} {L:List Shp} (okL:∀ r∈L,r.Ok) (h:thereB n ((K_ shpC L).length:Int)=true):(0≤n.na∧n.na<L.length∧n.na.toNat<L.length∧0≤secN n∧secN n<L.length∧(secN n).toNat<L.length)∧(L.getD n.na.toNat default).Ok∧(L.getD (secN n).toNat default).Ok:=by
 rw[Q_] at h
 have h:=there_iff.1 h
 exact ⟨⟨by omega,by omega,by omega,by omega,by omega,by omega⟩,getD_in okL (by omega),getD_in okL (by omega)⟩
noncomputable def rshapes_ly_I (l:List Nod) (a:Shp) (k:Nat):VS:=stt 72 [(0,.sl 19 (l.map nodC)),(7,.own 900),(8,i64 k)] [(900,.slc 23 3 ((growL nextE l a k).map shpC))]
noncomputable def rshapes_ly_Z (l:List Nod) (a:Shp):VS:=rshapes_ly_I l a (l.length)
theorem rshapes_ly_s (l:List Nod) (a:Shp) (okl:∀ n∈l,n.Ok) (wl:∀ n∈l,n.w.length≤100000∧n.b.length≤100000) (i:a.Ok) (f8:l.length≤8) (h:∀ k,k<l.length→errL nextE l a k=0) (k:Nat) (hk:k<l.length):VT N_ (fnC Tryz.f23 [1,1,1,1,1,0,1,0,0]) (rshapes_ly_I l a k) .normal (rshapes_ly_I l a (k+1)):=by
 have q:=h k hk
 have q1:=growL_len nextE l a k
 have q2:=grow_ok (l:=l) i k
 have q3:=getD_in okl hk
 have qz:=q3.kd
 have q4:=getD_in wl hk
 obtain ⟨q5,q6⟩:=q4
 have q8:(K_ shpC (growL nextE l a k)).length=(growL nextE l a k).length:=Q_ _
 unfold errL at q
 obtain ⟨c1,c2,c3⟩:=nextE_ok q
 obtain ⟨c4,c5,c6⟩:=there_at q2 c2
 rw[c3] at q
 have oz2:=(map_at (nodC) (default) (l:=l) (i:=k) hk)
 have oz3:=@refCheck_v (l.getD k default) q5 q6 qz
 have oz5:=@refThere_v (l.getD k default) (((K_ shpC (growL nextE l a k)).length:Int))
 have oz9:=(map_at (shpC) (default) (l:=growL nextE l a k) (i:=(l.getD k default).na.toNat) (by omega))
 have oz10:=@refSecond_v (l.getD k default)
 have oz13:=(map_at (shpC) (default) (l:=growL nextE l a k) (i:=(secN (l.getD k default)).toNat) (by omega))
 have oz14:=@refKshape_v (l.getD k default) ((growL nextE l a k).getD (l.getD k default).na.toNat default) ((growL nextE l a k).getD (secN (l.getD k default)).toNat default) c5 c6 q3
 exact tR_ [r_,b_,.r [] [.row (sO oz2)],.r [] [cr oz3],r_,d_,.r [] [cr oz5],d_,.r [] [.row (sO oz9),cr oz10,.row (sO oz13),cr oz14],r_,d_,r_,.r [] [.n ((↑k:Int)+1)]] [.any (rg [(9,4),(24,14),(40,5),(46,17),(65,4)]),.drop [9,11,67],.ren 68 900,.weak 8 (i64 (↑(k+1):Int)),.blk 900 (Blk.slc 23 3 (K_ shpC (growL nextE l a (k+1)))),.sort] (.c8 (show decide ((↑k:Int)<((K_ nodC l).length:Int))=true by (simp;omega)) (s_ (0≤(↑k:Int))) oz2 oz3 (show (checkE (l.getD k default) != 0)=false by (rw[c1];rfl)) oz5 (show (!thereB (l.getD k default) ((K_ shpC (growL nextE l a k)).length:Int))=false by (rw[c2];rfl)) (s_ (0≤(l.getD k default).na))<|.c8 (s_ ((l.getD k default).na<((K_ shpC (growL nextE l a k)).length:Int))) oz9 oz10 (s_ (0≤secN (l.getD k default))) (s_ (secN (l.getD k default)<((K_ shpC (growL nextE l a k)).length:Int))) oz13 oz14 (show ((shapeE (l.getD k default) ((growL nextE l a k).getD (l.getD k default).na.toNat default) ((growL nextE l a k).getD (secN (l.getD k default)).toNat default)).snd != 0)=false by (rw[q];rfl))<|.d5 (s_ (((K_ shpC (growL nextE l a k)).length+1)*24≤140737488355328)) (s_ ((K_ shpC (growL nextE l a k)).length+1≤9223372036854775807)) (i6n ((↑k:Int)+1) (by omega)) (wS_ k) (show BlkW (Blk.slc 23 3 (K_ shpC (growL nextE l a k)++[[i64 (shapeE (l.getD k default) ((growL nextE l a k).getD (l.getD k default).na.toNat default) ((growL nextE l a k).getD (secN (l.getD k default)).toNat default)).fst.h,i64 (shapeE (l.getD k default) ((growL nextE l a k).getD (l.getD k default).na.toNat default) ((growL nextE l a k).getD (secN (l.getD k default)).toNat default)).fst.x,i64 (shapeE (l.getD k default) ((growL nextE l a k).getD (l.getD k default).na.toNat default) ((growL nextE l a k).getD (secN (l.getD k default)).toNat default)).fst.c]])) (Blk.slc 23 3 (K_ shpC (growL nextE l a (k+1)))) from (BZ_ (e:=23) (z:=3) (rows_to (shpC) (r:=K_ shpC (growL nextE l a k)++[[i64 (shapeE (l.getD k default) ((growL nextE l a k).getD (l.getD k default).na.toNat default) ((growL nextE l a k).getD (secN (l.getD k default)).toNat default)).fst.h,i64 (shapeE (l.getD k default) ((growL nextE l a k).getD (l.getD k default).na.toNat default) ((growL nextE l a k).getD (secN (l.getD k default)).toNat default)).fst.x,i64 (shapeE (l.getD k default) ((growL nextE l a k).getD (l.getD k default).na.toNat default) ((growL nextE l a k).getD (secN (l.getD k default)).toNat default)).fst.c]]) (l:=growL nextE l a k++[Shp.mk (shapeE (l.getD k default) ((growL nextE l a k).getD (l.getD k default).na.toNat default) ((growL nextE l a k).getD (secN (l.getD k default)).toNat default)).fst.h (shapeE (l.getD k default) ((growL nextE l a k).getD (l.getD k default).na.toNat default) ((growL nextE l a k).getD (secN (l.getD k default)).toNat default)).fst.x (shapeE (l.getD k default) ((growL nextE l a k).getD (l.getD k default).na.toNat default) ((growL nextE l a k).getD (secN (l.getD k default)).toNat default)).fst.c]) (m:=growL nextE l a (k+1)) (by first|(simp only[X_,Z_,AL_,AM_,V_,D_,AK_];done)|rfl|(simp only[X_,Z_,AL_,AM_,V_,D_,AK_];rfl)|(simp only[X_,Z_,AL_,AM_,V_,D_,AK_,shpC,ints];done)) (show (growL nextE l a k++[Shp.mk (shapeE (l.getD k default) ((growL nextE l a k).getD (l.getD k default).na.toNat default) ((growL nextE l a k).getD (secN (l.getD k default)).toNat default)).fst.h (shapeE (l.getD k default) ((growL nextE l a k).getD (l.getD k default).na.toNat default) ((growL nextE l a k).getD (secN (l.getD k default)).toNat default)).fst.x (shapeE (l.getD k default) ((growL nextE l a k).getD (l.getD k default).na.toNat default) ((growL nextE l a k).getD (secN (l.getD k default)).toNat default)).fst.c])=(growL nextE l a (k+1)) from (by (rw[growL,c3])))))))
theorem rshapes_ly_e (l:List Nod) (a:Shp) (okl:∀ n∈l,n.Ok) (wl:∀ n∈l,n.w.length≤100000∧n.b.length≤100000) (i:a.Ok) (f8:l.length≤8) (h:∀ k,k<l.length→errL nextE l a k=0):VT N_ (fnC Tryz.f23 [1,1,1,1,1,0,1,0,0]) (rshapes_ly_I l a (l.length)) (.exit 0) (rshapes_ly_Z l a):=by
 exact tR_ [r_,d_] [.any (rg [(24,4)]),.sort] (.d (show decide ((l.length:Int)<((K_ nodC l).length:Int))=false by (simp;done)))
theorem rshapes_ly (l:List Nod) (a:Shp) (okl:∀ n∈l,n.Ok) (wl:∀ n∈l,n.w.length≤100000∧n.b.length≤100000) (i:a.Ok) (f8:l.length≤8) (h:∀ k,k<l.length→errL nextE l a k=0):VT N_ (fnC Tryz.f23 [1,1,1,1,1,0,1,0]) (rshapes_ly_I l a 0) (.exit 0) (rshapes_ly_Z l a) :=
 VT.loop (fun k=>rshapes_ly_I l a k) (l.length) (fun k hk=>rshapes_ly_s l a okl wl i f8 h k hk) (rshapes_ly_e l a okl wl i f8 h) (by intro h;cases h)
noncomputable def rshapes_ln_I (l:List Nod) (a:Shp) (m:Nat) (k:Nat):VS:=stt 72 [(0,.sl 19 (l.map nodC)),(7,.own 900),(8,i64 k)] [(900,.slc 23 3 ((growL nextE l a k).map shpC))]
noncomputable def rshapes_ln_Z (l:List Nod) (a:Shp) (m:Nat):VS:=stt 72 [(4,nilv),(5,i64 m),(6,i64 (errL nextE l a m))] []
theorem rshapes_ln_s (l:List Nod) (a:Shp) (m:Nat) (okl:∀ n∈l,n.Ok) (wl:∀ n∈l,n.w.length≤100000∧n.b.length≤100000) (i:a.Ok) (f8:l.length≤8) (hm:m<l.length) (hf:errL nextE l a m≠0) (h:∀ k,k<m→errL nextE l a k=0) (k:Nat) (hk:k<m):VT N_ (fnC Tryz.f23 [1,1,1,1,1,0,1,0,0]) (rshapes_ln_I l a m k) .normal (rshapes_ln_I l a m (k+1)):=by
 have q:=h k hk
 have q1:=growL_len nextE l a k
 have q2:=grow_ok (l:=l) i k
 have q3:=getD_in okl (s_ (k<l.length))
 have qz:=q3.kd
 have q4:=getD_in wl (s_ (k<l.length))
 obtain ⟨q5,q6⟩:=q4
 have q8:(K_ shpC (growL nextE l a k)).length=(growL nextE l a k).length:=Q_ _
 unfold errL at q
 obtain ⟨c1,c2,c3⟩:=nextE_ok q
 obtain ⟨c4,c5,c6⟩:=there_at q2 c2
 rw[c3] at q
 have oz2:=(map_at (nodC) (default) (l:=l) (i:=k) (by omega))
 have oz3:=@refCheck_v (l.getD k default) q5 q6 qz
 have oz5:=@refThere_v (l.getD k default) (((K_ shpC (growL nextE l a k)).length:Int))
 have oz9:=(map_at (shpC) (default) (l:=growL nextE l a k) (i:=(l.getD k default).na.toNat) (by omega))
 have oz10:=@refSecond_v (l.getD k default)
 have oz13:=(map_at (shpC) (default) (l:=growL nextE l a k) (i:=(secN (l.getD k default)).toNat) (by omega))
 have oz14:=@refKshape_v (l.getD k default) ((growL nextE l a k).getD (l.getD k default).na.toNat default) ((growL nextE l a k).getD (secN (l.getD k default)).toNat default) c5 c6 q3
 exact tR_ [r_,b_,.r [] [.row (sO oz2)],.r [] [cr oz3],r_,d_,.r [] [cr oz5],d_,.r [] [.row (sO oz9),cr oz10,.row (sO oz13),cr oz14],r_,d_,r_,.r [] [.n ((↑k:Int)+1)]] [.any (rg [(9,4),(24,14),(40,5),(46,17),(65,4)]),.drop [9,11,67],.ren 68 900,.weak 8 (i64 (↑(k+1):Int)),.blk 900 (Blk.slc 23 3 (K_ shpC (growL nextE l a (k+1)))),.sort] (.c8 (show decide ((↑k:Int)<((K_ nodC l).length:Int))=true by (simp;omega)) (s_ (0≤(↑k:Int))) oz2 oz3 (show (checkE (l.getD k default) != 0)=false by (rw[c1];rfl)) oz5 (show (!thereB (l.getD k default) ((K_ shpC (growL nextE l a k)).length:Int))=false by (rw[c2];rfl)) (s_ (0≤(l.getD k default).na))<|.c8 (s_ ((l.getD k default).na<((K_ shpC (growL nextE l a k)).length:Int))) oz9 oz10 (s_ (0≤secN (l.getD k default))) (s_ (secN (l.getD k default)<((K_ shpC (growL nextE l a k)).length:Int))) oz13 oz14 (show ((shapeE (l.getD k default) ((growL nextE l a k).getD (l.getD k default).na.toNat default) ((growL nextE l a k).getD (secN (l.getD k default)).toNat default)).snd != 0)=false by (rw[q];rfl))<|.d5 (s_ (((K_ shpC (growL nextE l a k)).length+1)*24≤140737488355328)) (s_ ((K_ shpC (growL nextE l a k)).length+1≤9223372036854775807)) (i6n ((↑k:Int)+1) (by omega)) (wS_ k) (show BlkW (Blk.slc 23 3 (K_ shpC (growL nextE l a k)++[[i64 (shapeE (l.getD k default) ((growL nextE l a k).getD (l.getD k default).na.toNat default) ((growL nextE l a k).getD (secN (l.getD k default)).toNat default)).fst.h,i64 (shapeE (l.getD k default) ((growL nextE l a k).getD (l.getD k default).na.toNat default) ((growL nextE l a k).getD (secN (l.getD k default)).toNat default)).fst.x,i64 (shapeE (l.getD k default) ((growL nextE l a k).getD (l.getD k default).na.toNat default) ((growL nextE l a k).getD (secN (l.getD k default)).toNat default)).fst.c]])) (Blk.slc 23 3 (K_ shpC (growL nextE l a (k+1)))) from (BZ_ (e:=23) (z:=3) (rows_to (shpC) (r:=K_ shpC (growL nextE l a k)++[[i64 (shapeE (l.getD k default) ((growL nextE l a k).getD (l.getD k default).na.toNat default) ((growL nextE l a k).getD (secN (l.getD k default)).toNat default)).fst.h,i64 (shapeE (l.getD k default) ((growL nextE l a k).getD (l.getD k default).na.toNat default) ((growL nextE l a k).getD (secN (l.getD k default)).toNat default)).fst.x,i64 (shapeE (l.getD k default) ((growL nextE l a k).getD (l.getD k default).na.toNat default) ((growL nextE l a k).getD (secN (l.getD k default)).toNat default)).fst.c]]) (l:=growL nextE l a k++[Shp.mk (shapeE (l.getD k default) ((growL nextE l a k).getD (l.getD k default).na.toNat default) ((growL nextE l a k).getD (secN (l.getD k default)).toNat default)).fst.h (shapeE (l.getD k default) ((growL nextE l a k).getD (l.getD k default).na.toNat default) ((growL nextE l a k).getD (secN (l.getD k default)).toNat default)).fst.x (shapeE (l.getD k default) ((growL nextE l a k).getD (l.getD k default).na.toNat default) ((growL nextE l a k).getD (secN (l.getD k default)).toNat default)).fst.c]) (m:=growL nextE l a (k+1)) (by first|(simp only[X_,Z_,AL_,AM_,V_,D_,AK_];done)|rfl|(simp only[X_,Z_,AL_,AM_,V_,D_,AK_];rfl)|(simp only[X_,Z_,AL_,AM_,V_,D_,AK_,shpC,ints];done)) (show (growL nextE l a k++[Shp.mk (shapeE (l.getD k default) ((growL nextE l a k).getD (l.getD k default).na.toNat default) ((growL nextE l a k).getD (secN (l.getD k default)).toNat default)).fst.h (shapeE (l.getD k default) ((growL nextE l a k).getD (l.getD k default).na.toNat default) ((growL nextE l a k).getD (secN (l.getD k default)).toNat default)).fst.x (shapeE (l.getD k default) ((growL nextE l a k).getD (l.getD k default).na.toNat default) ((growL nextE l a k).getD (secN (l.getD k default)).toNat default)).fst.c])=(growL nextE l a (k+1)) from (by (rw[growL,c3])))))))
theorem rshapes_ln_e (l:List Nod) (a:Shp) (m:Nat) (okl:∀ n∈l,n.Ok) (wl:∀ n∈l,n.w.length≤100000∧n.b.length≤100000) (i:a.Ok) (f8:l.length≤8) (hm:m<l.length) (hf:errL nextE l a m≠0) (h:∀ k,k<m→errL nextE l a k=0):VT N_ (fnC Tryz.f23 [1,1,1,1,1,0,1,0,0]) (rshapes_ln_I l a m (m)) (.ret) (rshapes_ln_Z l a m):=by
 have q1:=growL_len nextE l a m
 have q2:=grow_ok (l:=l) i m
 have q3:=getD_in okl hm
 have qz:=q3.kd
 have q4:=getD_in wl hm
 obtain ⟨q5,q6⟩:=q4
 have q8:(K_ shpC (growL nextE l a m)).length=(growL nextE l a m).length:=Q_ _
 have qa:=fun h=>there_at (n:=l.getD m default) q2 h
 have e0:=@nextE_c (l.getD m default) (growL nextE l a m)
 have e1:=@nextE_0 (l.getD m default) (growL nextE l a m)
 have e2:=@nextE_6 (l.getD m default) (growL nextE l a m)
 have q:errL nextE l a m=(nextE (l.getD m default) (growL nextE l a m)).2:=rfl
 unfold errL at hf
 have oz0:=(show decide ((↑m:Int)<((K_ nodC l).length:Int))=true by (simp;omega))
 have oz1:=(s_ (0≤(↑m:Int)))
 have oz2:=(map_at (nodC) (default) (l:=l) (i:=m) hm)
 have oz3:=@refCheck_v (l.getD m default) q5 q6 qz
 rcases bft (checkE (l.getD m default) != 0) with hc0|hc0
 ·have gc0:¬checkE (l.getD m default)=0:=bdt hc0
  exact tR_ [r_,b_,.r [] [.row (sO oz2)],.r [] [cr oz3],r_,b_,r_] [.any (rg [(0,1),(7,4),(24,4),(30,10)]),.drop [900,9],.weak 6 (i64 (errL nextE l a m)),.sort] (.d6 oz0 oz1 oz2 oz3 hc0 (M_ (k:=.i64) (show ((checkE (l.getD m default)):Int)=(errL nextE l a m) from (by (rw[q,e0 (by omega)])))))
 ·have gc0:checkE (l.getD m default)=0:=bdf hc0
  have oz5:=@refThere_v (l.getD m default) (((K_ shpC (growL nextE l a m)).length:Int))
  rcases bft (!thereB (l.getD m default) ((K_ shpC (growL nextE l a m)).length:Int)) with hc1|hc1
  ·have gc1:thereB (l.getD m default) ((K_ shpC (growL nextE l a m)).length:Int)=false:=by first|exact hc1|exact of_decide_eq_true hc1|exact of_decide_eq_false hc1|simpa [eqNums] using hc1|(simp[eqNums] at hc1 ⊢;first|done|assumption|omega)
   exact tR_ [r_,b_,.r [] [.row (sO oz2)],.r [] [cr oz3],r_,d_,.r [] [cr oz5],b_,r_] [.any (rg [(0,1),(7,4),(24,4),(30,8),(40,6)]),.drop [900,9],.weak 6 (i64 (errL nextE l a m)),.sort] (.d8 oz0 oz1 oz2 oz3 hc0 oz5 hc1 (M_ (k:=.i64) (show ((8):Int)=(errL nextE l a m) from (by (rw[q,e1 (by omega) (by simp_all)])))))
  ·have gc1:thereB (l.getD m default) ((K_ shpC (growL nextE l a m)).length:Int)=true:=by first|exact hc1|exact of_decide_eq_true hc1|exact of_decide_eq_false hc1|simpa [eqNums] using hc1|(simp[eqNums] at hc1 ⊢;first|done|assumption|omega)
   have oz9:=(map_at (shpC) (default) (l:=growL nextE l a m) (i:=(l.getD m default).na.toNat) (by (have:=qa (by assumption);omega)))
   have oz10:=@refSecond_v (l.getD m default)
   have oz13:=(map_at (shpC) (default) (l:=growL nextE l a m) (i:=(secN (l.getD m default)).toNat) (by (have:=qa (by assumption);omega)))
   have oz14:=@refKshape_v (l.getD m default) ((growL nextE l a m).getD (l.getD m default).na.toNat default) ((growL nextE l a m).getD (secN (l.getD m default)).toNat default) (by (have:=qa (by assumption);exact this.2.1)) (by (have:=qa (by assumption);exact this.2.2)) q3
   have oz16:=(M_ (k:=.i64) (show (((shapeE (l.getD m default) ((growL nextE l a m).getD (l.getD m default).na.toNat default) ((growL nextE l a m).getD (secN (l.getD m default)).toNat default)).snd):Int)=(errL nextE l a m) from (by (rw[q,e2 (by omega) (by assumption)]))))
   exact tR_ [r_,b_,.r [] [.row (sO oz2)],.r [] [cr oz3],r_,d_,.r [] [cr oz5],d_,.r [] [.row (sO oz9),cr oz10,.row (sO oz13),cr oz14],r_,b_,r_] [.any (rg [(0,1),(7,6),(24,4),(30,8),(40,5),(46,19)]),.drop [900,9,11],.weak 6 (wO oz16),.sort] (.c8 oz0 oz1 oz2 oz3 hc0 oz5 hc1 (show 0≤(l.getD m default).na by (have:=qa (by assumption);omega))<|.c8 (show (l.getD m default).na<((K_ shpC (growL nextE l a m)).length:Int) by (have:=qa (by assumption);omega)) oz9 oz10 (show 0≤secN (l.getD m default) by (have:=qa (by assumption);omega)) (show secN (l.getD m default)<((K_ shpC (growL nextE l a m)).length:Int) by (have:=qa (by assumption);omega)) oz13 oz14 (show ((shapeE (l.getD m default) ((growL nextE l a m).getD (l.getD m default).na.toNat default) ((growL nextE l a m).getD (secN (l.getD m default)).toNat default)).snd != 0)=true by (rw[e2 (by omega) (by assumption)] at hf;rw[J_];exact hf))<|.d oz16)
theorem rshapes_ln (l:List Nod) (a:Shp) (m:Nat) (okl:∀ n∈l,n.Ok) (wl:∀ n∈l,n.w.length≤100000∧n.b.length≤100000) (i:a.Ok) (f8:l.length≤8) (hm:m<l.length) (hf:errL nextE l a m≠0) (h:∀ k,k<m→errL nextE l a k=0):VT N_ (fnC Tryz.f23 [1,1,1,1,1,0,1,0]) (rshapes_ln_I l a m 0) (.ret) (rshapes_ln_Z l a m) :=
 VT.loop (fun k=>rshapes_ln_I l a m k) (m) (fun k hk=>rshapes_ln_s l a m okl wl i f8 hm hf h k hk) (rshapes_ln_e l a m okl wl i f8 hm hf h) (by intro h;cases h)
theorem rshapes_y (l:List Nod) (a:Shp) (okl:∀ n∈l,n.Ok) (wl:∀ n∈l,n.w.length≤100000∧n.b.length≤100000) (h:SOK l a):VC N_ 23 ([.sl 19 (l.map nodC),shp a]) (.tup [.sl 3 ((growL nextE l a l.length).map shpC),i64 l.length,i64 0]):=by
 have q1:=h.i
 have q2:=h.e
 have q3:=h.f
 have q4:=h.k
 have q5:=q1.ok
 obtain ⟨p1,p2,p3⟩:=id q5
 unfold Shp.Rt at q1
 have oz0:=@refElems_v (a.h) (a.x) (a.c) p1 p2 p3
 have oz5:=@rshapes_ly (l) (a) okl wl q5 q3 q4
 exact (cR_ [r_,.r [] [cr oz0],d_,r_,d_,r_,d_,r_,r_,.code [.any (rg [(1,1),(3,4),(13,11)]),.drop [3],.ren 23 900,.weak 8 (i64 (↑0:Int)),.sort] (AI_ 0) (zO oz5),r_] (AV.tup [AV.sl 3 (K_ shpC (growL nextE l a l.length)),i64 ((K_ nodC l).length:Int),i64 0]) Tryz.func23 (.d6 oz0 (show (elems a.h a.x a.c==0)=false by (refine decide_eq_false ?_;omega)) (show (((K_ nodC l).length:Int)==0)=false by (simp only[E_,F_,I_,J_,ne_eq,H_,G_,U_,T_,AH_,BM_,AJ_,Classical.not_not,BI_,CZ_,O_,P_,W_,R_,B_,BU_,BO_,AG_,BY_,BN_,eqNums,Q_,AW_,AO_,AS_,BA_,AB_,BT_,BX_,BV_,AF_,BR_,BQ_];(first|done|with_reducible assumption|omega|contradiction))) (show decide (((K_ nodC l).length:Int)>8)=false by (simp;omega)) w0_ oz5)).weak (A_ _) (AZ_ (.cons (.refl _) (.cons (M_ (by (simp;done))) (.cons (.refl _) .nil))))
theorem rshapes_a (l:List Nod) (a:Shp) (i:a.Ok) (hl:l.length≤1000) (h:¬ 0<elems a.h a.x a.c∨l.length=0∨8<l.length):VC N_ 23 ([.sl 19 (l.map nodC),shp a]) (.tup [nilv,i64 (shapesE l a).1,i64 (shapesE l a).2]):=by
 have q:=elems_in a.h a.x a.c
 obtain ⟨p1,p2,p3⟩:=id i
 have oz0:=@refElems_v (a.h) (a.x) (a.c) p1 p2 p3
 rcases bft (elems a.h a.x a.c==0) with hc0|hc0
 ·have gc0:elems a.h a.x a.c=0:=bet hc0
  exact (cR_ [r_,.r [] [cr oz0],b_,r_] (AV.tup [AV.lit (AC_ none 0 0),i64 (-1),i64 5]) Tryz.func23 (.d2 oz0 hc0)).weak (A_ _) (AZ_ (.cons (.refl _) (.cons (M_ (by (unfold shapesE;(try simp only[Q_] at *);(repeat first|rw[i_ (by omega)]|rw[j_ (by omega)])))) (.cons (M_ (by (unfold shapesE;(try simp only[Q_] at *);(repeat first|rw[i_ (by omega)]|rw[j_ (by omega)])))) .nil))))
 ·have gc0:¬elems a.h a.x a.c=0:=bef hc0
  rcases bft (((K_ nodC l).length:Int)==0) with hc1|hc1
  ·have gc1:((K_ nodC l).length:Int)=0:=bet hc1
   exact (cR_ [r_,.r [] [cr oz0],d_,r_,b_,r_] (AV.tup [AV.lit (AC_ none 0 0),i64 (-1),i64 12]) Tryz.func23 (.d3 oz0 hc0 hc1)).weak (A_ _) (AZ_ (.cons (.refl _) (.cons (M_ (by (unfold shapesE;(try simp only[Q_] at *);(repeat first|rw[i_ (by omega)]|rw[j_ (by omega)])))) (.cons (M_ (by (unfold shapesE;(try simp only[Q_] at *);(repeat first|rw[i_ (by omega)]|rw[j_ (by omega)])))) .nil))))
  ·have gc1:¬((K_ nodC l).length:Int)=0:=bef hc1
   exact (cR_ [r_,.r [] [cr oz0],d_,r_,d_,r_,b_,r_] (AV.tup [AV.lit (AC_ none 0 0),i64 (-1),i64 4]) Tryz.func23 (.d4 oz0 hc0 hc1 (show decide (((K_ nodC l).length:Int)>8)=true by (simp only[E_,F_,I_,J_,ne_eq,H_,G_,U_,T_,AH_,BM_,AJ_,Classical.not_not,BI_,CZ_,O_,P_,W_,R_,B_,BU_,BO_,AG_,BY_,BN_,eqNums,Q_,AW_,AO_,AS_,BA_,AB_,BT_,BX_,BV_,AF_,BR_,BQ_] at *;(first|done|with_reducible assumption|omega|contradiction))))).weak (A_ _) (AZ_ (.cons (.refl _) (.cons (M_ (by (unfold shapesE;(try simp only[Q_] at *);(repeat first|rw[i_ (by omega)]|rw[j_ (by omega)])))) (.cons (M_ (by (unfold shapesE;(try simp only[Q_] at *);(repeat first|rw[i_ (by omega)]|rw[j_ (by omega)])))) .nil))))
theorem rshapes_m (l:List Nod) (a:Shp) (m:Nat) (okl:∀ n∈l,n.Ok) (wl:∀ n∈l,n.w.length≤100000∧n.b.length≤100000) (i:0<elems a.h a.x a.c) (f8:l.length≤8) (hm:m<l.length) (hf:errL nextE l a m≠0) (h:∀ k,k<m→errL nextE l a k=0):VC N_ 23 ([.sl 19 (l.map nodC),shp a]) (.tup [nilv,i64 m,i64 (errL nextE l a m)]):=by
 have q:=Shp.Rt.ok i
 obtain ⟨p1,p2,p3⟩:=id q
 have oz0:=@refElems_v (a.h) (a.x) (a.c) p1 p2 p3
 have oz5:=@rshapes_ln (l) (a) (m) okl wl q f8 hm hf h
 exact cR_ [r_,.r [] [cr oz0],d_,r_,d_,r_,d_,r_,r_,.code [.any (rg [(1,1),(3,4),(13,11)]),.drop [3],.ren 23 900,.weak 8 (i64 (↑0:Int)),.sort] (Exit.ret) (zO oz5)] _ Tryz.func23 (.d6 oz0 (show (elems a.h a.x a.c==0)=false by (refine decide_eq_false ?_;omega)) (show (((K_ nodC l).length:Int)==0)=false by (simp only[E_,F_,I_,J_,ne_eq,H_,G_,U_,T_,AH_,BM_,AJ_,Classical.not_not,BI_,CZ_,O_,P_,W_,R_,B_,BU_,BO_,AG_,BY_,BN_,eqNums,Q_,AW_,AO_,AS_,BA_,AB_,BT_,BX_,BV_,AF_,BR_,BQ_];(first|done|with_reducible assumption|omega|contradiction))) (show decide (((K_ nodC l).length:Int)>8)=false by (simp;omega)) w0_ oz5)
theorem rshapes_n (l:List Nod) (a:Shp) (okl:∀ n∈l,n.Ok) (wl:∀ n∈l,n.w.length≤100000∧n.b.length≤100000) (i:a.Ok) (hl:l.length≤1000) (h:¬ SOK l a):VC N_ 23 [.sl 19 (l.map nodC),shp a] (.tup [nilv,i64 (shapesE l a).1,i64 (shapesE l a).2]):=by
 rcases SOK.cases l a with q|q|q|q|⟨i',e,f,m,h1,h2,h3⟩
 ·exact absurd q h
 ·exact rshapes_a l a i hl (.inl q)
 ·exact rshapes_a l a i hl (.inr (.inl q))
 ·exact rshapes_a l a i hl (.inr (.inr q))
 ·rw[shapesE_at i' e f h1 h2 h3];exact rshapes_m l a m okl wl i' f h1 h2 h3
abbrev shpsL (l:List Nod) (a:Shp):List Shp:=growL nextE l a l.length
def lastS (l:List Nod) (a:Shp):Shp:=(shpsL l a).getD l.length default
theorem shpsL_len (l:List Nod) (a:Shp):(shpsL l a).length=l.length+1:=growL_len nextE l a l.length
theorem lastS_ok {l:List Nod} {a:Shp} (h:a.Ok):(lastS l a).Ok:=getD_in (grow_ok (l:=l) h l.length) (show l.length<(shpsL l a).length by rw[shpsL_len];omega)
theorem lastS_i {l:List Nod} {a:Shp} {i:Nat} (hi:i=l.length):(growL nextE l a l.length).getD i default=lastS l a:=by subst hi;rfl
def costE (n:Nod) (a b:Shp):Int :=
 if (shapeE n a b).2≠0 then 0
 else if n.kd=1 then elems (shapeE n a b).1.h (shapeE n a b).1.x (shapeE n a b).1.c*n.nk*n.nk*a.c
 else if n.kd=2∨n.kd=4∨n.kd=5 then elems (shapeE n a b).1.h (shapeE n a b).1.x (shapeE n a b).1.c*n.nk*n.nk
 else if n.kd=3 then elems (shapeE n a b).1.h (shapeE n a b).1.x (shapeE n a b).1.c*elems a.h a.x a.c
 else elems (shapeE n a b).1.h (shapeE n a b).1.x (shapeE n a b).1.c
theorem slide_k {t:Shp} {k s p o:Int} (h:(slideE t k s p o).2=0):1≤k∧k≤5∧1≤t.c∧t.c≤1024:=by
 have h1:=slideE_ok h
 have h2:=elems_ok h1.1
 omega
theorem shapeE_k {n:Nod} {a b:Shp} (h:(shapeE n a b).2=0) (hk:n.kd=1∨n.kd=2∨n.kd=4∨n.kd=5):1≤n.nk∧n.nk≤5∧1≤a.c∧a.c≤1024:=by
 unfold shapeE at h
 split at h
 ·unfold convE at h
  split at h
  ·rename_i c;exact absurd h c
  ·rename_i c;exact slide_k (Classical.not_not.1 c)
 ·split at h
  ·unfold depthE at h
   split at h
   ·rename_i c;exact absurd h c
   ·rename_i c;exact slide_k (Classical.not_not.1 c)
  ·split at h
   ·omega
   ·split at h
    ·exact slide_k h
    ·omega
theorem cost_bd {e k c:Int} (e0:0≤e) (e1:e≤1024) (k0:1≤k) (k1:k≤5) (c0:1≤c) (c1:c≤1024):(0≤e*k∧e*k≤5120)∧(0≤e*k*k∧e*k*k≤25600)∧(0≤e*k*k*c∧e*k*k*c≤26214400):=by
 have a1:=mul_bd (A:=1024) (B:=5) (a:=e) (b:=k) e0 e1 (by omega) k1
 have a2:=mul_bd (A:=5120) (B:=5) (a:=e*k) (b:=k) (by omega) (by omega) (by omega) k1
 have a3:=mul_bd (A:=25600) (B:=1024) (a:=e*k*k) (b:=c) (by omega) (by omega) (by omega) c1
 omega
theorem elems2_bd (a b:Shp):0≤elems a.h a.x a.c*elems b.h b.x b.c∧elems a.h a.x a.c*elems b.h b.x b.c≤1048576:=by
 have h1:=elems_in a.h a.x a.c
 have h2:=elems_in b.h b.x b.c
 have:=mul_bd (A:=1024) (B:=1024) h1.1 h1.2 h2.1 h2.2
 omega
theorem costE_bd (n:Nod) (a b:Shp):0≤costE n a b∧costE n a b≤26214400:=by
 have q1:=elems_in (shapeE n a b).1.h (shapeE n a b).1.x (shapeE n a b).1.c
 have q2:=elems2_bd (shapeE n a b).1 a
 unfold costE
 split
 ·omega
 ·rename_i h
  have h:=Classical.not_not.1 h
  split
  ·have q:=shapeE_k h (by omega)
   have:=cost_bd q1.1 q1.2 q.1 q.2.1 q.2.2.1 q.2.2.2
   omega
  ·split
   ·have q:=shapeE_k h (by omega)
    have:=cost_bd q1.1 q1.2 q.1 q.2.1 q.2.2.1 q.2.2.2
    omega
   ·split<;>omega
theorem work_v (a:Shp) (n:Nod) (ok:a.Ok) (okn:n.Ok) (hk:n.kd=1) (h:(convE a n).2=0):VC N_ 107 ([shp a,nod n]) (i64 (elems (convE a n).1.h (convE a n).1.x (convE a n).1.c*n.nk*n.nk*a.c)):=by
 obtain ⟨p1,p2,p3⟩:=id ok
 have q0:shapeE n a a=convE a n:=i_ hk
 have q1:=elems_in (convE a n).1.h (convE a n).1.x (convE a n).1.c
 have q:=shapeE_k (n:=n) (a:=a) (b:=a) (q0▸h) (.inl hk)
 have q2:=cost_bd q1.1 q1.2 q.1 q.2.1 q.2.2.1 q.2.2.2
 have q3:=(convE_told a n).ok
 obtain ⟨p4,p5,p6⟩:=id q3
 have oz0:=@convShape_v (a) (n) ok okn
 have oz2:=@elems_v ((convE a n).fst.h) ((convE a n).fst.x) ((convE a n).fst.c) p4 p5 p6
 have oz3:=(i6n (elems (convE a n).fst.h (convE a n).fst.x (convE a n).fst.c*n.nk) (by omega))
 have oz4:=(i6n (elems (convE a n).fst.h (convE a n).fst.x (convE a n).fst.c*n.nk*n.nk) (by omega))
 have oz5:=(i6n (elems (convE a n).fst.h (convE a n).fst.x (convE a n).fst.c*n.nk*n.nk*a.c) (by omega))
 exact cR_ [r_,.r [] [cr oz0],r_,d_,.r [] [cr oz2,.n (nO oz3),.n (nO oz4),.n (nO oz5)]] _ Tryz.func107 (.d6 oz0 (show ((convE a n).snd != 0)=false by (simp;omega)) oz2 oz3 oz4 oz5)
theorem costE_1 {n:Nod} {a b:Shp} (h:(shapeE n a b).2=0) (hk:n.kd=1):costE n a b=elems (convE a n).1.h (convE a n).1.x (convE a n).1.c*n.nk*n.nk*a.c:=by
 have e:shapeE n a b=convE a n:=i_ hk
 unfold costE;rw[j_ (by omega),i_ hk,e]
theorem cost_k {n:Nod} {a b:Shp} (h:(shapeE n a b).2=0) (hk:n.kd=1∨n.kd=2∨n.kd=4∨n.kd=5):(0≤elems (shapeE n a b).1.h (shapeE n a b).1.x (shapeE n a b).1.c*n.nk∧elems (shapeE n a b).1.h (shapeE n a b).1.x (shapeE n a b).1.c*n.nk≤5120) ∧
  (0≤elems (shapeE n a b).1.h (shapeE n a b).1.x (shapeE n a b).1.c*n.nk*n.nk∧elems (shapeE n a b).1.h (shapeE n a b).1.x (shapeE n a b).1.c*n.nk*n.nk≤25600) ∧
  (0≤elems (shapeE n a b).1.h (shapeE n a b).1.x (shapeE n a b).1.c*n.nk*n.nk*a.c∧elems (shapeE n a b).1.h (shapeE n a b).1.x (shapeE n a b).1.c*n.nk*n.nk*a.c≤26214400):=by
 have q1:=elems_in (shapeE n a b).1.h (shapeE n a b).1.x (shapeE n a b).1.c
 have q:=shapeE_k h hk
 exact cost_bd q1.1 q1.2 q.1 q.2.1 q.2.2.1 q.2.2.2
theorem costNode_v (n:Nod) (a b:Shp) (okn:n.Ok) (ok:a.Ok) (okb:b.Ok):VC N_ 88 ([nod n,shp a,shp b]) (i64 (costE n a b)):=by
 obtain ⟨p1,p2,p3⟩:=id ok
 have q0:n.kd=1→shapeE n a b=convE a n:=fun h=>i_ h
 have q1:=elems_in (shapeE n a b).1.h (shapeE n a b).1.x (shapeE n a b).1.c
 have q2:=elems2_bd (shapeE n a b).1 a
 have q3:=(shapeE_told n a b).ok
 obtain ⟨p4,p5,p6⟩:=id q3
 have qk:=@cost_k n a b
 have oz0:=@kshape_v (n) (a) (b) ok okb okn
 rcases bft ((shapeE n a b).snd != 0) with hc0|hc0
 ·have gc0:¬(shapeE n a b).snd=0:=bdt hc0
  exact (cR_ [r_,.r [] [cr oz0],r_,b_,r_] (i64 0) Tryz.func88 (.d2 oz0 hc0)).weak (A_ _) (M_ (by (unfold costE;(repeat first|rw[i_ (by omega)]|rw[j_ (by omega)]))))
 ·have gc0:(shapeE n a b).snd=0:=bdf hc0
  have oz2:=@elems_v ((shapeE n a b).fst.h) ((shapeE n a b).fst.x) ((shapeE n a b).fst.c) p4 p5 p6
  rcases bft (n.kd==1) with hc1|hc1
  ·have gc1:n.kd=1:=bet hc1
   have oz4:=@work_v (a) (n) ok okn gc1 (by (rw[←q0 (by omega)];omega))
   exact (cR_ [r_,.r [] [cr oz0],r_,d_,.r [] [cr oz2],r_,r_,b_,.r [] [cr oz4]] (i64 (elems (convE a n).fst.h (convE a n).fst.x (convE a n).fst.c*n.nk*n.nk*a.c)) Tryz.func88 (.d5 oz0 hc0 oz2 hc1 oz4)).weak (A_ _) (M_ (by (exact (costE_1 (by omega) (by omega)).symm)))
  ·have gc1:¬n.kd=1:=bef hc1
   rcases bft (n.kd==2) with hc2|hc2
   ·have gc2:n.kd=2:=bet hc2
    have oz6:=(i6n (elems (shapeE n a b).fst.h (shapeE n a b).fst.x (shapeE n a b).fst.c*n.nk) (by omega))
    have oz7:=(i6n (elems (shapeE n a b).fst.h (shapeE n a b).fst.x (shapeE n a b).fst.c*n.nk*n.nk) (by omega))
    exact (cR_ [r_,.r [] [cr oz0],r_,d_,.r [] [cr oz2],r_,r_,d_,r_,b_,b_,.r [] [.n (nO oz6),.n (nO oz7)]] (i64 (elems (shapeE n a b).fst.h (shapeE n a b).fst.x (shapeE n a b).fst.c*n.nk*n.nk)) Tryz.func88 (.d8 oz0 hc0 oz2 hc1 hc2 hc2 oz6 oz7)).weak (A_ _) (M_ (by (unfold costE;(repeat first|rw[i_ (by omega)]|rw[j_ (by omega)]))))
   ·have gc2:¬n.kd=2:=bef hc2
    rcases bft (n.kd==4) with hc3|hc3
    ·have gc3:n.kd=4:=bet hc3
     have oz7:=(i6n (elems (shapeE n a b).fst.h (shapeE n a b).fst.x (shapeE n a b).fst.c*n.nk) (by omega))
     have oz8:=(i6n (elems (shapeE n a b).fst.h (shapeE n a b).fst.x (shapeE n a b).fst.c*n.nk*n.nk) (by omega))
     exact (cR_ [r_,.r [] [cr oz0],r_,d_,.r [] [cr oz2],r_,r_,d_,r_,d_,r_,b_,b_,.r [] [.n (nO oz7),.n (nO oz8)]] (i64 (elems (shapeE n a b).fst.h (shapeE n a b).fst.x (shapeE n a b).fst.c*n.nk*n.nk)) Tryz.func88 (.c8 oz0 hc0 oz2 hc1 hc2 hc3 hc3 oz7<|.d oz8)).weak (A_ _) (M_ (by (unfold costE;(repeat first|rw[i_ (by omega)]|rw[j_ (by omega)]))))
    ·have gc3:¬n.kd=4:=bef hc3
     rcases bft (n.kd==5) with hc4|hc4
     ·have gc4:n.kd=5:=bet hc4
      have oz7:=(i6n (elems (shapeE n a b).fst.h (shapeE n a b).fst.x (shapeE n a b).fst.c*n.nk) (by omega))
      have oz8:=(i6n (elems (shapeE n a b).fst.h (shapeE n a b).fst.x (shapeE n a b).fst.c*n.nk*n.nk) (by omega))
      exact (cR_ [r_,.r [] [cr oz0],r_,d_,.r [] [cr oz2],r_,r_,d_,r_,d_,r_,d_,r_,b_,.r [] [.n (nO oz7),.n (nO oz8)]] (i64 (elems (shapeE n a b).fst.h (shapeE n a b).fst.x (shapeE n a b).fst.c*n.nk*n.nk)) Tryz.func88 (.c8 oz0 hc0 oz2 hc1 hc2 hc3 hc4 oz7<|.d oz8)).weak (A_ _) (M_ (by (unfold costE;(repeat first|rw[i_ (by omega)]|rw[j_ (by omega)]))))
     ·have gc4:¬n.kd=5:=bef hc4
      rcases bft (n.kd==3) with hc5|hc5
      ·have gc5:n.kd=3:=bet hc5
       have oz8:=@elems_v (a.h) (a.x) (a.c) p1 p2 p3
       have oz9:=(i6n (elems (shapeE n a b).fst.h (shapeE n a b).fst.x (shapeE n a b).fst.c*elems a.h a.x a.c) (by omega))
       exact (cR_ [r_,.r [] [cr oz0],r_,d_,.r [] [cr oz2],r_,r_,d_,r_,d_,r_,d_,r_,d_,r_,b_,.r [] [cr oz8,.n (nO oz9)]] (i64 (elems (shapeE n a b).fst.h (shapeE n a b).fst.x (shapeE n a b).fst.c*elems a.h a.x a.c)) Tryz.func88 (.c8 oz0 hc0 oz2 hc1 hc2 hc3 hc4 hc5<|.d2 oz8 oz9)).weak (A_ _) (M_ (by (unfold costE;(repeat first|rw[i_ (by omega)]|rw[j_ (by omega)]))))
      ·have gc5:¬n.kd=3:=bef hc5
       exact (cR_ [r_,.r [] [cr oz0],r_,d_,.r [] [cr oz2],r_,r_,d_,r_,d_,r_,d_,r_,d_,r_,d_,r_] (i64 (elems (shapeE n a b).fst.h (shapeE n a b).fst.x (shapeE n a b).fst.c)) Tryz.func88 (.d8 oz0 hc0 oz2 hc1 hc2 hc3 hc4 hc5)).weak (A_ _) (M_ (by (unfold costE;(repeat first|rw[i_ (by omega)]|rw[j_ (by omega)]))))
theorem refCostNode_v (n:Nod) (a b:Shp) (okn:n.Ok) (ok:a.Ok) (okb:b.Ok):VC N_ 60 ([nod n,shp a,shp b]) (i64 (costE n a b)):=by
 obtain ⟨p1,p2,p3⟩:=id ok
 have q1:=elems_in (shapeE n a b).1.h (shapeE n a b).1.x (shapeE n a b).1.c
 have q2:=elems2_bd (shapeE n a b).1 a
 have q3:=(shapeE_told n a b).ok
 obtain ⟨p4,p5,p6⟩:=id q3
 have qk:=@cost_k n a b
 have oz0:=@refKshape_v (n) (a) (b) ok okb okn
 rcases bft ((shapeE n a b).snd != 0) with hc0|hc0
 ·have gc0:¬(shapeE n a b).snd=0:=bdt hc0
  exact (cR_ [r_,.r [] [cr oz0],r_,b_,r_] (i64 0) Tryz.func60 (.d2 oz0 hc0)).weak (A_ _) (M_ (by (unfold costE;(repeat first|rw[i_ (by omega)]|rw[j_ (by omega)]))))
 ·have gc0:(shapeE n a b).snd=0:=bdf hc0
  have oz2:=@refElems_v ((shapeE n a b).fst.h) ((shapeE n a b).fst.x) ((shapeE n a b).fst.c) p4 p5 p6
  rcases bft (n.kd==1) with hc1|hc1
  ·have gc1:n.kd=1:=bet hc1
   have oz4:=(i6n (elems (shapeE n a b).fst.h (shapeE n a b).fst.x (shapeE n a b).fst.c*n.nk) (by omega))
   have oz5:=(i6n (elems (shapeE n a b).fst.h (shapeE n a b).fst.x (shapeE n a b).fst.c*n.nk*n.nk) (by omega))
   have oz6:=(i6n (elems (shapeE n a b).fst.h (shapeE n a b).fst.x (shapeE n a b).fst.c*n.nk*n.nk*a.c) (by omega))
   exact (cR_ [r_,.r [] [cr oz0],r_,d_,.r [] [cr oz2],r_,b_,.r [] [.n (nO oz4),.n (nO oz5),.n (nO oz6)]] (i64 (elems (shapeE n a b).fst.h (shapeE n a b).fst.x (shapeE n a b).fst.c*n.nk*n.nk*a.c)) Tryz.func60 (.d7 oz0 hc0 oz2 hc1 oz4 oz5 oz6)).weak (A_ _) (M_ (by (unfold costE;(repeat first|rw[i_ (by omega)]|rw[j_ (by omega)]))))
  ·have gc1:¬n.kd=1:=bef hc1
   rcases bft (n.kd==2 || n.kd==4 || n.kd==5) with hc2|hc2
   ·have gc2:(n.kd=2∨n.kd=4)∨n.kd=5:=gc0_ hc2
    have oz5:=(i6n (elems (shapeE n a b).fst.h (shapeE n a b).fst.x (shapeE n a b).fst.c*n.nk) (by omega))
    have oz6:=(i6n (elems (shapeE n a b).fst.h (shapeE n a b).fst.x (shapeE n a b).fst.c*n.nk*n.nk) (by omega))
    exact (cR_ [r_,.r [] [cr oz0],r_,d_,.r [] [cr oz2],r_,d_,.r [] [o_,o_,o_,.sel 1,o_,o_,o_,.sel 1],b_,.r [] [.n (nO oz5),.n (nO oz6)]] (i64 (elems (shapeE n a b).fst.h (shapeE n a b).fst.x (shapeE n a b).fst.c*n.nk*n.nk)) Tryz.func60 (.d7 oz0 hc0 oz2 hc1 hc2 oz5 oz6)).weak (A_ _) (M_ (by (unfold costE;(repeat first|rw[i_ (by omega)]|rw[j_ (by omega)]))))
   ·have gc2:(¬n.kd=2∧¬n.kd=4)∧¬n.kd=5:=gc0_ hc2
    rcases bft (n.kd==3) with hc3|hc3
    ·have gc3:n.kd=3:=bet hc3
     have oz6:=@refElems_v (a.h) (a.x) (a.c) p1 p2 p3
     have oz7:=(i6n (elems (shapeE n a b).fst.h (shapeE n a b).fst.x (shapeE n a b).fst.c*elems a.h a.x a.c) (by omega))
     exact (cR_ [r_,.r [] [cr oz0],r_,d_,.r [] [cr oz2],r_,d_,.r [] [o_,o_,o_,.sel 1,o_,o_,o_,.sel 1],d_,r_,b_,.r [] [cr oz6,.n (nO oz7)]] (i64 (elems (shapeE n a b).fst.h (shapeE n a b).fst.x (shapeE n a b).fst.c*elems a.h a.x a.c)) Tryz.func60 (.d8 oz0 hc0 oz2 hc1 hc2 hc3 oz6 oz7)).weak (A_ _) (M_ (by (unfold costE;(repeat first|rw[i_ (by omega)]|rw[j_ (by omega)]))))
    ·have gc3:¬n.kd=3:=bef hc3
     exact (cR_ [r_,.r [] [cr oz0],r_,d_,.r [] [cr oz2],r_,d_,.r [] [o_,o_,o_,.sel 1,o_,o_,o_,.sel 1],d_,r_,d_,r_] (i64 (elems (shapeE n a b).fst.h (shapeE n a b).fst.x (shapeE n a b).fst.c)) Tryz.func60 (.d6 oz0 hc0 oz2 hc1 hc2 hc3)).weak (A_ _) (M_ (by (unfold costE;(repeat first|rw[i_ (by omega)]|rw[j_ (by omega)]))))
def costL (l:List Nod) (S:List Shp):Nat→Int
 | 0=>1
 | k+1=>costL l S k+costE (l.getD k default) (S.getD (l.getD k default).na.toNat default) (S.getD (secN (l.getD k default)).toNat default)
theorem costL_bd (l:List Nod) (S:List Shp):∀ k,1≤costL l S k∧costL l S k≤1+26214400*k
 | 0=>by simp[costL]
 | k+1=>by
  have h1:=costL_bd l S k
  have h2:=costE_bd (l.getD k default) (S.getD (l.getD k default).na.toNat default) (S.getD (secN (l.getD k default)).toNat default)
  rw[costL];omega
def exitC (x:Blc) (a:Shp) (cl:Int):Int:=if x.ex=true then min (max cl 0) 16*(elems (lastS x.n a).h (lastS x.n a).x (lastS x.n a).c+1) else 0
def blockC (x:Blc) (a:Shp) (cl:Int):Int:=costL x.n (shpsL x.n a) x.n.length+exitC x a cl
theorem shps_at {l:List Nod} {a:Shp} (h:SOK l a) {k:Nat} (hk:k<l.length):(0≤(l.getD k default).na∧(l.getD k default).na.toNat<(shpsL l a).length∧0≤secN (l.getD k default)∧(secN (l.getD k default)).toNat<(shpsL l a).length∧(l.getD k default).na<(shpsL l a).length∧secN (l.getD k default)<(shpsL l a).length)∧((shpsL l a).getD (l.getD k default).na.toNat default).Ok∧((shpsL l a).getD (secN (l.getD k default)).toNat default).Ok:=by
 have q:=h.k k hk
 unfold errL at q
 obtain ⟨_,c2,_⟩:=nextE_ok q
 have q2:=grow_ok (l:=l) h.i.ok k
 obtain ⟨c4,_,_⟩:=there_at q2 c2
 have q1:=growL_len nextE l a k
 have q3:(shpsL l a).length=l.length+1:=growL_len nextE l a l.length
 have q4:=grow_ok (l:=l) h.i.ok l.length
 exact ⟨⟨by omega,by omega,by omega,by omega,by omega,by omega⟩,getD_in q4 (s_ (_<(shpsL l a).length)),getD_in q4 (s_ (_<(shpsL l a).length))⟩
noncomputable def cblock_l_I (x:Blc) (a:Shp) (cl:Int) (k:Nat):VS:=stt 71 [(2,i64 cl),(3,.ptr 3 0 0),(8,.sl 3 ((shpsL x.n a).map shpC)),(11,i64 (costL x.n (shpsL x.n a) k)),(27,.sl 19 (x.n.map nodC)),(28,i64 x.n.length),(29,i64 k)] [(3,.var (blcC x))]
noncomputable def cblock_l_Z (x:Blc) (a:Shp) (cl:Int):VS:=cblock_l_I x a cl (x.n.length)
theorem cblock_l_s (x:Blc) (a:Shp) (cl:Int) (ok:x.Ok) (h:SOK x.n a) (k:Nat) (hk:k<x.n.length):VT N_ (fnC Tryz.f76 [1,1,1,1,0,1,0,0]) (cblock_l_I x a cl k) .normal (cblock_l_I x a cl (k+1)):=by
 have q1:=costL_bd x.n (shpsL x.n a) k
 have q2:=costE_bd (x.n.getD k default) ((shpsL x.n a).getD (x.n.getD k default).na.toNat default) ((shpsL x.n a).getD (secN (x.n.getD k default)).toNat default)
 have q3:=h.f
 obtain ⟨c4,c5,c6⟩:=shps_at h hk
 have q4:=getD_in ok.n hk
 have q5:(K_ shpC (shpsL x.n a)).length=(shpsL x.n a).length:=Q_ _
 have q6:(x.n.getD k default).kd=6→secN (x.n.getD k default)=(x.n.getD k default).nb:=fun h=>i_ h
 have q7:¬ (x.n.getD k default).kd=6→secN (x.n.getD k default)=(x.n.getD k default).na:=fun h=>j_ h
 have q8:(x.n.getD k default).kd=6→((shpsL x.n a).getD (x.n.getD k default).nb.toNat default).Ok∧(x.n.getD k default).nb<(shpsL x.n a).length∧costE (x.n.getD k default) ((shpsL x.n a).getD (x.n.getD k default).na.toNat default) ((shpsL x.n a).getD (x.n.getD k default).nb.toNat default)≤26214400∧0≤costE (x.n.getD k default) ((shpsL x.n a).getD (x.n.getD k default).na.toNat default) ((shpsL x.n a).getD (x.n.getD k default).nb.toNat default):=fun h=>by rw[←q6 h];exact ⟨c6,by omega,q2.2,q2.1⟩
 have q9:¬ (x.n.getD k default).kd=6→costE (x.n.getD k default) ((shpsL x.n a).getD (x.n.getD k default).na.toNat default) ((shpsL x.n a).getD (x.n.getD k default).na.toNat default)≤26214400∧0≤costE (x.n.getD k default) ((shpsL x.n a).getD (x.n.getD k default).na.toNat default) ((shpsL x.n a).getD (x.n.getD k default).na.toNat default):=fun h=>by
  have q2:=q2;rw[q7 h] at q2;exact ⟨q2.2,q2.1⟩
 have oz0:=(decide_eq_true (p:=((↑k:Int)<(x.n.length:Int))) (by omega))
 have oz1:=(s_ (0≤(↑k:Int)))
 have oz2:=(map_at (nodC) (default) (l:=x.n) (i:=k) hk)
 rcases bft ((x.n.getD k default).kd==6) with hc0|hc0
 ·have gc0:(x.n.getD k default).kd=6:=bet hc0
  have oz5:=(map_at (shpC) (default) (l:=shpsL x.n a) (i:=(x.n.getD k default).na.toNat) (by omega))
  have oz7:=(map_at (shpC) (default) (l:=shpsL x.n a) (i:=(x.n.getD k default).nb.toNat) (by omega))
  have oz8:=@costNode_v (x.n.getD k default) ((shpsL x.n a).getD (x.n.getD k default).na.toNat default) ((shpsL x.n a).getD (x.n.getD k default).nb.toNat default) q4 c5 (by (exact (q8 (by omega)).1))
  have oz9:=(i6n (costL x.n (shpsL x.n a) k+costE (x.n.getD k default) ((shpsL x.n a).getD (x.n.getD k default).na.toNat default) ((shpsL x.n a).getD (x.n.getD k default).nb.toNat default)) (by omega))
  have oz11:=(M_ (k:=.i64) (show ((costL x.n (shpsL x.n a) k+costE (x.n.getD k default) ((shpsL x.n a).getD (x.n.getD k default).na.toNat default) ((shpsL x.n a).getD (x.n.getD k default).nb.toNat default)):Int)=(costL x.n (shpsL x.n a) (k+1)) from (by (rw[costL,q6 (by omega)]))))
  exact tR_ [r_,b_,.r [] [.row (sO oz2)],r_,r_,b_,r_,.r [] [.row (sO oz5),.row (sO oz7),cr oz8,.n (nO oz9)],.r [] [.n ((↑k:Int)+1)]] [.any (rg [(13,2),(30,24)]),.drop [13],.weak 11 (wO oz11),.weak 29 (i64 (↑(k+1):Int)),.sort] (.c8 oz0 oz1 oz2 hc0 (s_ (0≤(x.n.getD k default).na)) oz5 (s_ (0≤(x.n.getD k default).nb)) oz7<|.d5 oz8 oz9 (i6n ((↑k:Int)+1) (by omega)) oz11 (wS_ k))
 ·have gc0:¬(x.n.getD k default).kd=6:=bef hc0
  have oz4:=(s_ (0≤(x.n.getD k default).na))
  have oz5:=(map_at (shpC) (default) (l:=shpsL x.n a) (i:=(x.n.getD k default).na.toNat) (by omega))
  have oz8:=@costNode_v (x.n.getD k default) ((shpsL x.n a).getD (x.n.getD k default).na.toNat default) ((shpsL x.n a).getD (x.n.getD k default).na.toNat default) q4 c5 c5
  have oz9:=(i6n (costL x.n (shpsL x.n a) k+costE (x.n.getD k default) ((shpsL x.n a).getD (x.n.getD k default).na.toNat default) ((shpsL x.n a).getD (x.n.getD k default).na.toNat default)) (by omega))
  have oz11:=(M_ (k:=.i64) (show ((costL x.n (shpsL x.n a) k+costE (x.n.getD k default) ((shpsL x.n a).getD (x.n.getD k default).na.toNat default) ((shpsL x.n a).getD (x.n.getD k default).na.toNat default)):Int)=(costL x.n (shpsL x.n a) (k+1)) from (by (rw[costL,q7 (by omega)]))))
  exact tR_ [r_,b_,.r [] [.row (sO oz2)],r_,r_,d_,.r [] [.row (sO oz5),.row (sO oz5),cr oz8,.n (nO oz9)],.r [] [.n ((↑k:Int)+1)]] [.any (rg [(13,2),(30,8),(40,14)]),.drop [13],.weak 11 (wO oz11),.weak 29 (i64 (↑(k+1):Int)),.sort] (.c8 oz0 oz1 oz2 hc0 oz4 oz5 oz4 oz5<|.d5 oz8 oz9 (i6n ((↑k:Int)+1) (by omega)) oz11 (wS_ k))
theorem cblock_l_e (x:Blc) (a:Shp) (cl:Int) (ok:x.Ok) (h:SOK x.n a):VT N_ (fnC Tryz.f76 [1,1,1,1,0,1,0,0]) (cblock_l_I x a cl (x.n.length)) (.exit 0) (cblock_l_Z x a cl):=by
 exact tR_ [r_,d_] [.any [30],.sort] (.d (decide_eq_false (p:=((x.n.length:Int)<(x.n.length:Int))) (by omega)))
theorem cblock_l (x:Blc) (a:Shp) (cl:Int) (ok:x.Ok) (h:SOK x.n a):VT N_ (fnC Tryz.f76 [1,1,1,1,0,1,0]) (cblock_l_I x a cl 0) (.exit 0) (cblock_l_Z x a cl) :=
 VT.loop (fun k=>cblock_l_I x a cl k) (x.n.length) (fun k hk=>cblock_l_s x a cl ok h k hk) (cblock_l_e x a cl ok h) (by intro h;cases h)
theorem minmax (c:Int):(if 16<(if 0>c then 0 else c) then 16 else (if 0>c then 0 else c))=min (max c 0) 16:=by omega
theorem exitC_bd (x:Blc) (a:Shp) (cl:Int):0≤exitC x a cl∧exitC x a cl≤16400:=by
 have q:=elems_in (lastS x.n a).h (lastS x.n a).x (lastS x.n a).c
 have:=mul_bd (A:=16) (B:=1025) (a:=min (max cl 0) 16) (b:=elems (lastS x.n a).h (lastS x.n a).x (lastS x.n a).c+1) (by omega) (by omega) (by omega) (by omega)
 unfold exitC;split<;>omega
theorem cblock_e {x:Blc} {a:Shp} {cl:Int} (f8:x.n.length≤8) (h:x.ex=true):IntKind.i64.wrap (costL x.n (shpsL x.n a) x.n.length+IntKind.i64.wrap ((if 16<if 0>cl then 0 else cl then 16 else if 0>cl then 0 else cl) *
  IntKind.i64.wrap (elems (lastS x.n a).h (lastS x.n a).x (lastS x.n a).c+1)))=blockC x a cl:=by
 have q:=elems_in (lastS x.n a).h (lastS x.n a).x (lastS x.n a).c
 have q2:=costL_bd x.n (shpsL x.n a) x.n.length
 have q3:=exitC_bd x a cl
 have e:exitC x a cl=min (max cl 0) 16*(elems (lastS x.n a).h (lastS x.n a).x (lastS x.n a).c+1):=i_ h
 rw[i6n (elems (lastS x.n a).h (lastS x.n a).x (lastS x.n a).c+1) (by omega),minmax,←e,i6n (exitC x a cl) (by omega),i6n (costL x.n (shpsL x.n a) x.n.length+exitC x a cl) (by omega)]
 rfl
theorem blockC_n {x:Blc} {a:Shp} {cl:Int} (h:x.ex=false):costL x.n (shpsL x.n a) x.n.length=blockC x a cl:=by
 unfold blockC exitC;rw[h];simp
theorem cblock_y (x:Blc) (a:Shp) (cl:Int) (ok:x.Ok) (ws:∀ n∈x.n,n.w.length≤100000∧n.b.length≤100000) (h:SOK x.n a):VC N_ 76 ([blc x,shp a,i64 cl]) (.tup [i64 (blockC x a cl),i64 0]):=by
 have q1:=ok.n
 have q2:=costL_bd x.n (shpsL x.n a) x.n.length
 have q3:=h.f
 have l1:=shpsL_len x.n a
 have l3:(K_ shpC (shpsL x.n a)).length=(shpsL x.n a).length:=Q_ _
 have ix:(((K_ shpC (shpsL x.n a)).length:Int)-1).toNat=x.n.length:=by omega
 have s3:=lastS_ok (l:=x.n) h.i.ok
 have s4:=@cblock_e x a cl q3
 have oz0:=@shapes_y (x.n) (a) q1 ws h
 have oz1:=z1_
 have oz2:=(M_ (k:=.i64) (show ((1):Int)=(costL x.n (shpsL x.n a) 0) from (by rfl)))
 have oz3:=(M_ (k:=.i64) (show ((((K_ nodC x.n).length:Int)):Int)=((x.n.length:Int)) from (by (simp;done))))
 have oz4:=w0_
 have oz5:=@cblock_l (x) (a) (cl) ok h
 rcases bft (x.ex) with hc0|hc0
 ·have gc0:x.ex=true:=by first|exact hc0|exact of_decide_eq_true hc0|exact of_decide_eq_false hc0|simpa [eqNums] using hc0|(simp[eqNums] at hc0 ⊢;first|done|assumption|omega)
  have oz7:=(i6n (((K_ shpC (shpsL x.n a)).length:Int)-1) (by omega))
  have oz9:=(map_at (shpC) (default) (l:=shpsL x.n a) (i:=(((K_ shpC (shpsL x.n a)).length:Int)-1).toNat) (by omega))
  have oz10:=@elems_v (((shpsL x.n a).getD (((K_ shpC (shpsL x.n a)).length:Int)-1).toNat default).h) (((shpsL x.n a).getD (((K_ shpC (shpsL x.n a)).length:Int)-1).toNat default).x) (((shpsL x.n a).getD (((K_ shpC (shpsL x.n a)).length:Int)-1).toNat default).c) (by (rw[ix];exact s3.h)) (by (rw[ix];exact s3.x)) (by (rw[ix];exact s3.c))
  exact (cR_ [r_,.r [] [cr oz0],r_,d_,r_,r_,.code [.any (rg [(0,2),(4,1),(6,2),(9,2),(15,10),(26,1)]),.drop [4],.weak 11 (wO oz2),.weak 28 (wO oz3),.weak 29 (wO oz4),.sort] (AI_ 0) (zO oz5),r_,b_,.r [] [.n (nO oz7),.row (sO oz9),cr oz10,.w,.w,.w],r_] (AV.tup [i64 (IntKind.i64.wrap (costL x.n (shpsL x.n a) x.n.length+IntKind.i64.wrap ((if 16<if 0>cl then 0 else cl then 16 else if 0>cl then 0 else cl)*IntKind.i64.wrap (elems ((shpsL x.n a).getD (((K_ shpC (shpsL x.n a)).length:Int)-1).toNat default).h ((shpsL x.n a).getD (((K_ shpC (shpsL x.n a)).length:Int)-1).toNat default).x ((shpsL x.n a).getD (((K_ shpC (shpsL x.n a)).length:Int)-1).toNat default).c+1)))),i64 0]) Tryz.func76 (.c8 oz0 oz1 oz2 oz3 oz4 oz5 hc0 oz7<|.d3 (s_ (0≤((K_ shpC (shpsL x.n a)).length:Int)-1)) oz9 oz10)).weak (A_ _) (AZ_ (.cons (M_ (by (rw[ix];exact s4 (by assumption)))) (.cons (.refl _) .nil)))
 ·have gc0:x.ex=false:=by first|exact hc0|exact of_decide_eq_true hc0|exact of_decide_eq_false hc0|simpa [eqNums] using hc0|(simp[eqNums] at hc0 ⊢;first|done|assumption|omega)
  exact (cR_ [r_,.r [] [cr oz0],r_,d_,r_,r_,.code [.any (rg [(0,2),(4,1),(6,2),(9,2),(15,10),(26,1)]),.drop [4],.weak 11 (wO oz2),.weak 28 (wO oz3),.weak 29 (wO oz4),.sort] (AI_ 0) (zO oz5),r_,d_,r_] (AV.tup [i64 (costL x.n (shpsL x.n a) x.n.length),i64 0]) Tryz.func76 (.d7 oz0 oz1 oz2 oz3 oz4 oz5 hc0)).weak (A_ _) (AZ_ (.cons (M_ (by (exact blockC_n (by assumption)))) (.cons (.refl _) .nil)))
theorem cout_y (x:Blc) (a:Shp) (ok:x.Ok) (ws:∀ n∈x.n,n.w.length≤100000∧n.b.length≤100000) (h:SOK x.n a):VC N_ 31 ([blc x,shp a]) (.tup [shp (lastS x.n a),i64 0]):=by
 have q1:=ok.n
 have q3:=h.f
 have l1:=growL_len nextE x.n a x.n.length
 have l3:(K_ shpC (growL nextE x.n a x.n.length)).length=(growL nextE x.n a x.n.length).length:=Q_ _
 have ix:(((K_ shpC (growL nextE x.n a x.n.length)).length:Int)-1).toNat=x.n.length:=by omega
 have oz0:=@shapes_y (x.n) (a) q1 ws h
 have oz2:=(i6n (((K_ shpC (growL nextE x.n a x.n.length)).length:Int)-1) (by omega))
 have oz4:=(map_at (shpC) (default) (l:=growL nextE x.n a x.n.length) (i:=(((K_ shpC (growL nextE x.n a x.n.length)).length:Int)-1).toNat) (by omega))
 exact (cR_ [r_,.r [] [cr oz0],r_,d_,.r [] [.n (nO oz2),.row (sO oz4)]] (AV.tup [AV.agg [i64 ((growL nextE x.n a x.n.length).getD (((K_ shpC (growL nextE x.n a x.n.length)).length:Int)-1).toNat default).h,i64 ((growL nextE x.n a x.n.length).getD (((K_ shpC (growL nextE x.n a x.n.length)).length:Int)-1).toNat default).x,i64 ((growL nextE x.n a x.n.length).getD (((K_ shpC (growL nextE x.n a x.n.length)).length:Int)-1).toNat default).c],i64 0]) Tryz.func31 (.d5 oz0 z1_ oz2 (s_ (0≤((K_ shpC (growL nextE x.n a x.n.length)).length:Int)-1)) oz4)).weak (A_ _) (AZ_ (.cons (AD_ (.cons (M_ (by (rw[ix]<;>rfl))) (.cons (M_ (by (rw[ix]<;>rfl))) (.cons (M_ (by (rw[ix]<;>rfl))) .nil)))) (.cons (.refl _) .nil)))
noncomputable def rcblock_l_I (x:Blc) (a:Shp) (cl:Int) (k:Nat):VS:=stt 90 [(2,i64 cl),(3,.ptr 3 0 0),(7,.ptr 7 0 0),(9,.sl 3 ((shpsL x.n a).map shpC)),(12,i64 (costL x.n (shpsL x.n a) k)),(13,i64 k)] [(3,.var (blcC x)),(7,.var [i64 0,i64 0,i64 0])]
noncomputable def rcblock_l_Z (x:Blc) (a:Shp) (cl:Int):VS:=rcblock_l_I x a cl (x.n.length)
theorem rcblock_l_s (x:Blc) (a:Shp) (cl:Int) (ok:x.Ok) (h:SOK x.n a) (k:Nat) (hk:k<x.n.length):VT N_ (fnC Tryz.f40 [1,1,1,1,0,1,0,0]) (rcblock_l_I x a cl k) .normal (rcblock_l_I x a cl (k+1)):=by
 have q1:=costL_bd x.n (shpsL x.n a) k
 have q2:=costE_bd (x.n.getD k default) ((shpsL x.n a).getD (x.n.getD k default).na.toNat default) ((shpsL x.n a).getD (secN (x.n.getD k default)).toNat default)
 have q3:=h.f
 obtain ⟨c4,c5,c6⟩:=shps_at h hk
 have q4:=getD_in ok.n hk
 have q5:(K_ shpC (shpsL x.n a)).length=(shpsL x.n a).length:=Q_ _
 have q6:(x.n.getD k default).kd=6→secN (x.n.getD k default)=(x.n.getD k default).nb:=fun h=>i_ h
 have q7:¬ (x.n.getD k default).kd=6→secN (x.n.getD k default)=(x.n.getD k default).na:=fun h=>j_ h
 have q8:(x.n.getD k default).kd=6→((shpsL x.n a).getD (x.n.getD k default).nb.toNat default).Ok∧(x.n.getD k default).nb<(shpsL x.n a).length∧costE (x.n.getD k default) ((shpsL x.n a).getD (x.n.getD k default).na.toNat default) ((shpsL x.n a).getD (x.n.getD k default).nb.toNat default)≤26214400∧0≤costE (x.n.getD k default) ((shpsL x.n a).getD (x.n.getD k default).na.toNat default) ((shpsL x.n a).getD (x.n.getD k default).nb.toNat default)∧0≤(x.n.getD k default).nb:=fun h=>by rw[←q6 h];exact ⟨c6,by omega,q2.2,q2.1,by omega⟩
 have q9:¬ (x.n.getD k default).kd=6→costE (x.n.getD k default) ((shpsL x.n a).getD (x.n.getD k default).na.toNat default) ((shpsL x.n a).getD (x.n.getD k default).na.toNat default)≤26214400∧0≤costE (x.n.getD k default) ((shpsL x.n a).getD (x.n.getD k default).na.toNat default) ((shpsL x.n a).getD (x.n.getD k default).na.toNat default):=fun h=>by
  have q2:=q2;rw[q7 h] at q2;exact ⟨q2.2,q2.1⟩
 have oz0:=(show decide ((↑k:Int)<((K_ nodC x.n).length:Int))=true by (simp;omega))
 have oz1:=(s_ (0≤(↑k:Int)))
 have oz2:=(map_at (nodC) (default) (l:=x.n) (i:=k) hk)
 rcases bft ((x.n.getD k default).kd==6) with hc0|hc0
 ·have gc0:(x.n.getD k default).kd=6:=bet hc0
  have oz5:=(map_at (shpC) (default) (l:=shpsL x.n a) (i:=(x.n.getD k default).na.toNat) (by omega))
  have oz7:=(map_at (shpC) (default) (l:=shpsL x.n a) (i:=(x.n.getD k default).nb.toNat) (by omega))
  have oz8:=@refCostNode_v (x.n.getD k default) ((shpsL x.n a).getD (x.n.getD k default).na.toNat default) ((shpsL x.n a).getD (x.n.getD k default).nb.toNat default) q4 c5 (by (exact (q8 (by omega)).1))
  have oz9:=(i6n (costL x.n (shpsL x.n a) k+costE (x.n.getD k default) ((shpsL x.n a).getD (x.n.getD k default).na.toNat default) ((shpsL x.n a).getD (x.n.getD k default).nb.toNat default)) (by omega))
  have oz11:=(M_ (k:=.i64) (show ((costL x.n (shpsL x.n a) k+costE (x.n.getD k default) ((shpsL x.n a).getD (x.n.getD k default).na.toNat default) ((shpsL x.n a).getD (x.n.getD k default).nb.toNat default)):Int)=(costL x.n (shpsL x.n a) (k+1)) from (by (rw[costL,q6 (by omega)]))))
  exact tR_ [r_,b_,.r [] [.row (sO oz2)],r_,b_,.r [] [.row (sO oz5),.row (sO oz7),cr oz8,.n (nO oz9)],.r [] [.n ((↑k:Int)+1)]] [.any (rg [(14,1),(28,29)]),.drop [14],.weak 12 (wO oz11),.weak 13 (i64 (↑(k+1):Int)),.sort] (.c8 oz0 oz1 oz2 hc0 (s_ (0≤(x.n.getD k default).na)) oz5 (s_ (0≤(x.n.getD k default).nb)) oz7<|.d5 oz8 oz9 (i6n ((↑k:Int)+1) (by omega)) oz11 (wS_ k))
 ·have gc0:¬(x.n.getD k default).kd=6:=bef hc0
  have oz4:=(s_ (0≤(x.n.getD k default).na))
  have oz5:=(map_at (shpC) (default) (l:=shpsL x.n a) (i:=(x.n.getD k default).na.toNat) (by omega))
  have oz8:=@refCostNode_v (x.n.getD k default) ((shpsL x.n a).getD (x.n.getD k default).na.toNat default) ((shpsL x.n a).getD (x.n.getD k default).na.toNat default) q4 c5 c5
  have oz9:=(i6n (costL x.n (shpsL x.n a) k+costE (x.n.getD k default) ((shpsL x.n a).getD (x.n.getD k default).na.toNat default) ((shpsL x.n a).getD (x.n.getD k default).na.toNat default)) (by omega))
  have oz11:=(M_ (k:=.i64) (show ((costL x.n (shpsL x.n a) k+costE (x.n.getD k default) ((shpsL x.n a).getD (x.n.getD k default).na.toNat default) ((shpsL x.n a).getD (x.n.getD k default).na.toNat default)):Int)=(costL x.n (shpsL x.n a) (k+1)) from (by (rw[costL,q7 (by omega)]))))
  exact tR_ [r_,b_,.r [] [.row (sO oz2)],r_,d_,.r [] [.row (sO oz5),.row (sO oz5),cr oz8,.n (nO oz9)],.r [] [.n ((↑k:Int)+1)]] [.any (rg [(14,1),(28,15),(57,14)]),.drop [14],.weak 12 (wO oz11),.weak 13 (i64 (↑(k+1):Int)),.sort] (.c8 oz0 oz1 oz2 hc0 oz4 oz5 oz4 oz5<|.d5 oz8 oz9 (i6n ((↑k:Int)+1) (by omega)) oz11 (wS_ k))
theorem rcblock_l_e (x:Blc) (a:Shp) (cl:Int) (ok:x.Ok) (h:SOK x.n a):VT N_ (fnC Tryz.f40 [1,1,1,1,0,1,0,0]) (rcblock_l_I x a cl (x.n.length)) (.exit 0) (rcblock_l_Z x a cl):=by
 exact tR_ [r_,d_] [.any (rg [(28,5)]),.sort] (.d (show decide ((x.n.length:Int)<((K_ nodC x.n).length:Int))=false by (simp;done)))
theorem rcblock_l (x:Blc) (a:Shp) (cl:Int) (ok:x.Ok) (h:SOK x.n a):VT N_ (fnC Tryz.f40 [1,1,1,1,0,1,0]) (rcblock_l_I x a cl 0) (.exit 0) (rcblock_l_Z x a cl) :=
 VT.loop (fun k=>rcblock_l_I x a cl k) (x.n.length) (fun k hk=>rcblock_l_s x a cl ok h k hk) (rcblock_l_e x a cl ok h) (by intro h;cases h)
theorem rcblock_y (x:Blc) (a:Shp) (cl:Int) (ok:x.Ok) (ws:∀ n∈x.n,n.w.length≤100000∧n.b.length≤100000) (h:SOK x.n a):VC N_ 40 ([blc x,shp a,i64 cl]) (.tup [i64 (blockC x a cl),shp (lastS x.n a),i64 0]):=by
 have q1:=ok.n
 have q2:=costL_bd x.n (shpsL x.n a) x.n.length
 have q3:=h.f
 have l1:=shpsL_len x.n a
 have l3:(K_ shpC (shpsL x.n a)).length=(shpsL x.n a).length:=Q_ _
 have ix:(((K_ shpC (shpsL x.n a)).length:Int)-1).toNat=x.n.length:=by omega
 have s3:=lastS_ok (l:=x.n) h.i.ok
 have s4:=@cblock_e x a cl q3
 have oz0:=@rshapes_y (x.n) (a) q1 ws h
 have oz1:=z1_
 have oz2:=(M_ (k:=.i64) (show ((1):Int)=(costL x.n (shpsL x.n a) 0) from (by rfl)))
 have oz3:=w0_
 have oz4:=@rcblock_l (x) (a) (cl) ok h
 have oz5:=(i6n (((K_ shpC (shpsL x.n a)).length:Int)-1) (by omega))
 have oz6:=(s_ (0≤((K_ shpC (shpsL x.n a)).length:Int)-1))
 have oz7:=(map_at (shpC) (default) (l:=shpsL x.n a) (i:=(((K_ shpC (shpsL x.n a)).length:Int)-1).toNat) (by omega))
 rcases bft (x.ex) with hc0|hc0
 ·have gc0:x.ex=true:=by first|exact hc0|exact of_decide_eq_true hc0|exact of_decide_eq_false hc0|simpa [eqNums] using hc0|(simp[eqNums] at hc0 ⊢;first|done|assumption|omega)
  have oz9:=@refElems_v (((shpsL x.n a).getD (((K_ shpC (shpsL x.n a)).length:Int)-1).toNat default).h) (((shpsL x.n a).getD (((K_ shpC (shpsL x.n a)).length:Int)-1).toNat default).x) (((shpsL x.n a).getD (((K_ shpC (shpsL x.n a)).length:Int)-1).toNat default).c) (by (rw[ix];exact s3.h)) (by (rw[ix];exact s3.x)) (by (rw[ix];exact s3.c))
  exact (cR_ [r_,.r [] [cr oz0],r_,d_,r_,r_,.code [.any (rg [(0,2),(4,1),(6,1),(8,1),(10,2),(16,10)]),.drop [4],.weak 12 (wO oz2),.weak 13 (wO oz3),.sort] (AI_ 0) (zO oz4),.r [] [.n (nO oz5),.row (sO oz7)],r_,b_,.r [] [cr oz9,.w,.w,.w],r_] (AV.tup [i64 (IntKind.i64.wrap (costL x.n (shpsL x.n a) x.n.length+IntKind.i64.wrap ((if 16<if 0>cl then 0 else cl then 16 else if 0>cl then 0 else cl)*IntKind.i64.wrap (elems ((shpsL x.n a).getD (((K_ shpC (shpsL x.n a)).length:Int)-1).toNat default).h ((shpsL x.n a).getD (((K_ shpC (shpsL x.n a)).length:Int)-1).toNat default).x ((shpsL x.n a).getD (((K_ shpC (shpsL x.n a)).length:Int)-1).toNat default).c+1)))),AV.agg [i64 ((shpsL x.n a).getD (((K_ shpC (shpsL x.n a)).length:Int)-1).toNat default).h,i64 ((shpsL x.n a).getD (((K_ shpC (shpsL x.n a)).length:Int)-1).toNat default).x,i64 ((shpsL x.n a).getD (((K_ shpC (shpsL x.n a)).length:Int)-1).toNat default).c],i64 0]) Tryz.func40 (.c8 oz0 oz1 oz2 oz3 oz4 oz5 oz6 oz7<|.d2 hc0 oz9)).weak (A_ _) (AZ_ (.cons (M_ (by (rw[ix];exact s4 (by assumption)))) (.cons (AD_ (.cons (M_ (by (rw[ix]<;>rfl))) (.cons (M_ (by (rw[ix]<;>rfl))) (.cons (M_ (by (rw[ix]<;>rfl))) .nil)))) (.cons (.refl _) .nil))))
 ·have gc0:x.ex=false:=by first|exact hc0|exact of_decide_eq_true hc0|exact of_decide_eq_false hc0|simpa [eqNums] using hc0|(simp[eqNums] at hc0 ⊢;first|done|assumption|omega)
  exact (cR_ [r_,.r [] [cr oz0],r_,d_,r_,r_,.code [.any (rg [(0,2),(4,1),(6,1),(8,1),(10,2),(16,10)]),.drop [4],.weak 12 (wO oz2),.weak 13 (wO oz3),.sort] (AI_ 0) (zO oz4),.r [] [.n (nO oz5),.row (sO oz7)],r_,d_,r_] (AV.tup [i64 (costL x.n (shpsL x.n a) x.n.length),AV.agg [i64 ((shpsL x.n a).getD (((K_ shpC (shpsL x.n a)).length:Int)-1).toNat default).h,i64 ((shpsL x.n a).getD (((K_ shpC (shpsL x.n a)).length:Int)-1).toNat default).x,i64 ((shpsL x.n a).getD (((K_ shpC (shpsL x.n a)).length:Int)-1).toNat default).c],i64 0]) Tryz.func40 (.c8 oz0 oz1 oz2 oz3 oz4 oz5 oz6 oz7<|.d hc0)).weak (A_ _) (AZ_ (.cons (M_ (by (exact blockC_n (by assumption)))) (.cons (AD_ (.cons (M_ (by (rw[ix]<;>rfl))) (.cons (M_ (by (rw[ix]<;>rfl))) (.cons (M_ (by (rw[ix]<;>rfl))) .nil)))) (.cons (.refl _) .nil))))
theorem meter_v (a:Shp) (cl:Int)  : VM N_ 52 ([shp a,i64 cl]) ([]) (.clo 75 [.ptr 950 0 0,.ptr 951 0 0]) ([(950,.var (shpC a)),(951,.var [i64 cl])]):=by
 exact mR_ [r_,r_] [.ren 3 951,.ren 2 950,.sort] _ Tryz.func52 (.n)
theorem metered_y (x:Blc) (a:Shp) (cl:Int) (ok:x.Ok) (ws:∀ n∈x.n,n.w.length≤100000∧n.b.length≤100000) (h:SOK x.n a):VM N_ 75 ([blc x,.ptr 100000 0 0,.ptr 100001 0 0]) ([(100000,.var (shpC a)),(100001,.var [i64 cl])]) (.tup [i64 (blockC x a cl),i64 0]) ([(100000,.var (shpC (lastS x.n a))),(100001,.var [i64 cl])]):=by
 have oz0:=@cblock_y (x) (a) (cl) ok ws h
 have oz2:=@cout_y (x) (a) ok ws h
 exact mR_ [r_,.r [] [cr oz0],r_,d_,.r [] [cr oz2],r_] [.drop [3],.sort] _ Tryz.func75 (.d3 oz0 z1_ oz2)
def oneN (v:Int) (n:Nod):Int:=heldQ (v-n.za) n.qm n.qs n.qz n.lo n.hi
theorem actOne_w (v:Int) (n:Nod) (ok:n.Ok) (hv:In8 v):VC N_ 142 ([i8 v,nod n]) (i8 (oneN v n)):=by
 obtain ⟨q1,q2⟩:=id hv
 obtain ⟨q3,q4⟩:=ok.za
 have oz3:=@held_v (v-n.za) (n.qm) (n.qs) (n.qz) (n.lo) (n.hi) (by omega) (by (exact ok.qm)) (by (exact ok.qz)) (by (exact ok.lo)) (by (exact ok.hi))
 exact (cR_ [r_,.r [] [.n v,.n n.za,.n (v-n.za),cr oz3]] (i8 (heldQ (v-n.za) n.qm n.qs n.qz n.lo n.hi)) Tryz.func142 (.d4 (CX_ v (by omega)) (CX_ n.za (by omega)) (CX_ (v-n.za) (by omega)) oz3)).weak (A_ _) (M_ (by rfl))
theorem upside_v (a b:Int)  : VC N_ 102 ([.agg [i8 a,i8 b]]) (bv (decide (a>b))):=by
 exact cR_ [r_,r_] _ Tryz.func102 (.n)
def headE (w b:List Int) (lo hi:Int):Int:=if sharedB w b=true then (if (allR w b lo hi 0 false b.length).all holdB=true then 0 else 10) else 9
abbrev hedC (w b:List Int) (nd:Int):List AV:=[ints .i8 w,ints .i32 b,i32 nd]
theorem hd_ok {w b:List Int} (hw:∀ v∈w,In8 v) (hb:∀ v∈b,In32 v):Nod.Ok ⟨0,0,0,0,0,0,0,0,0,w,b,0,0,0,0,0,0,0,0⟩:=by
 constructor<;>first|assumption|(constructor<;>(dsimp only;decide))
theorem hd_len (w b:List Int) (lo hi:Int):(allR w b lo hi 0 (decide ((0:Int)>0)) (if sharedB w b=true then b.length else 0)).length=if sharedB w b=true then b.length else 0:=by simp[allR]
theorem hd_pos {w b:List Int} (h:sharedB w b=true):0<b.length:=by
 simp only[sharedB,O_,E_] at h;exact h.1
theorem hd_le (w b:List Int) (lo hi:Int) (bl:b.length≤100000):(allR w b lo hi 0 (decide ((0:Int)>0)) (if sharedB w b=true then b.length else 0)).length≤1000000:=by rw[hd_len];split<;>omega
theorem hd_sh {w b:List Int} {lo hi:Int} {x:Bool} (h:(((K_ rngC (allR w b lo hi 0 (decide ((0:Int)>0)) (if sharedB w b=true then b.length else 0))).length:Int)==0)=x):sharedB w b = !x:=by
 rw[Q_,hd_len] at h
 cases e:sharedB w b with
 | true =>
  have:=hd_pos e
  rw[e,i_ rfl] at h
  cases x with
  | true=>simp at h;subst h;simp at this
  | false=>rfl
 | false=>rw[e] at h;subst h;rfl
theorem hd9 {w b:List Int} {lo hi:Int} (h:(((K_ rngC (allR w b lo hi 0 (decide ((0:Int)>0)) (if sharedB w b=true then b.length else 0))).length:Int)==0)=true):9=headE w b lo hi:=by
 unfold headE;rw[hd_sh h];rfl
theorem hd10 {w b:List Int} {lo hi:Int} {y:Bool} (h:(((K_ rngC (allR w b lo hi 0 (decide ((0:Int)>0)) (if sharedB w b=true then b.length else 0))).length:Int)==0)=false) (h2:(!(allR w b lo hi 0 (decide ((0:Int)>0)) (if sharedB w b=true then b.length else 0)).all holdB)=y):(if y=true then 10 else 0)=headE w b lo hi:=by
 have e:=hd_sh h
 unfold headE
 rw[e] at h2 ⊢
 simp only[AJ_,if_true] at h2 ⊢
 rw[show (false:Bool)=decide ((0:Int)>0) from rfl]
 cases y with
 | true=>rw[i_ rfl,j_ (by simpa using h2)]
 | false=>rw[j_ (by simp),i_ (by simpa using h2)]
theorem ghead_v (w b:List Int) (nd lo hi:Int) (hw:∀ v∈w,In8 v) (hb:∀ v∈b,In32 v) (wl:w.length≤100000) (bl:b.length≤100000) (h1:In8 lo) (h2:In8 hi):VC N_ 106 ([.agg (hedC w b nd),.agg [i8 lo,i8 hi]]) (i64 (headE w b lo hi)):=by
 have oz0:=@all_v (Nod.mk 0 0 0 0 0 0 0 0 0 w b 0 0 0 0 0 0 0 0) (lo) (hi) (by (exact hd_ok hw hb)) h1 h2 wl bl
 rcases bft ((↑(K_ rngC (allR w b lo hi 0 (decide (0>0)) (if sharedB w b=true then b.length else 0))).length:Int)==0) with hc0|hc0
 ·have gc0:(↑(K_ rngC (allR w b lo hi 0 (decide (0>0)) (if sharedB w b=true then b.length else 0))).length:Int)=0:=by first|exact hc0|exact of_decide_eq_true hc0|exact of_decide_eq_false hc0|simpa [eqNums] using hc0|(simp[eqNums] at hc0 ⊢;first|done|assumption|omega)
  exact (cR_ [r_,.r [] [cr oz0],r_,b_,r_] (i64 9) Tryz.func106 (.d2 oz0 hc0)).weak (A_ _) (M_ (by (exact hd9 (by assumption))))
 ·have gc0:¬(↑(K_ rngC (allR w b lo hi 0 (decide (0>0)) (if sharedB w b=true then b.length else 0))).length:Int)=0:=by first|exact hc0|exact of_decide_eq_true hc0|exact of_decide_eq_false hc0|simpa [eqNums] using hc0|(simp[eqNums] at hc0 ⊢;first|done|assumption|omega)
  have oz2:=@holds_v (allR w b lo hi 0 (decide (0>0)) (if sharedB w b=true then b.length else 0)) (by (exact hd_le w b lo hi bl))
  rcases bft (!(allR w b lo hi 0 (decide (0>0)) (if sharedB w b=true then b.length else 0)).all holdB) with hc1|hc1
  ·have gc1:(allR w b lo hi 0 (decide (0>0)) (if sharedB w b=true then b.length else 0)).all holdB=false:=by first|exact hc1|exact of_decide_eq_true hc1|exact of_decide_eq_false hc1|simpa [eqNums] using hc1|(simp[eqNums] at hc1 ⊢;first|done|assumption|omega)
   exact (cR_ [r_,.r [] [cr oz0],r_,d_,.r [] [cr oz2],b_,r_] (i64 10) Tryz.func106 (.d4 oz0 hc0 oz2 hc1)).weak (A_ _) (M_ (by (exact hd10 (y:=true) (by assumption) (by assumption))))
  ·have gc1:(allR w b lo hi 0 (decide (0>0)) (if sharedB w b=true then b.length else 0)).all holdB=true:=by first|exact hc1|exact of_decide_eq_true hc1|exact of_decide_eq_false hc1|simpa [eqNums] using hc1|(simp[eqNums] at hc1 ⊢;first|done|assumption|omega)
   exact (cR_ [r_,.r [] [cr oz0],r_,d_,.r [] [cr oz2],d_,r_] (i64 0) Tryz.func106 (.d4 oz0 hc0 oz2 hc1)).weak (A_ _) (M_ (by (exact hd10 (y:=false) (by assumption) (by assumption))))
def rowsR (f:Nat→Rng):Nat→Rng
 | 0=>⟨0,0⟩
 | k+1=>if k=0 then ⟨min (f 0).lo (f 0).lo,max (f 0).hi (f 0).hi⟩ else ⟨min (rowsR f k).lo (f k).lo,max (rowsR f k).hi (f k).hi⟩
theorem shared_v (w b:List Int) (wl:w.length≤100000) (bl:b.length≤100000):VC N_ 81 ([ints .i8 w,ints .i32 b]) (bv (sharedB w b)):=by
 have q4:(b.length:Int)≠0→0≤(w.length:Int) % (b.length:Int)∧(w.length:Int) % (b.length:Int)<(b.length:Int):=fun h=>⟨Int.emod_nonneg _ h,Int.emod_lt_of_pos _ (by omega)⟩
 exact (cR_ [r_,.r [] [o_,o_,o_,o_,p_,.n (((K_ (row1 .i8) w).length:Int) % ((K_ (row1 .i32) b).length:Int)),o_,.sel 2]] (bv (decide (((K_ (row1 .i32) b).length:Int)>0)&&((K_ (row1 .i8) w).length:Int) % ((K_ (row1 .i32) b).length:Int)==0)) Tryz.func81 (.d2 (show decide (((K_ (row1 .i32) b).length:Int)>0)=true→((K_ (row1 .i32) b).length:Int)≠0 from (fun hc0=>have gc0:((K_ (row1 .i32) b).length:Int)>0:=(by first|exact hc0|exact of_decide_eq_true hc0|exact of_decide_eq_false hc0|simpa [eqNums] using hc0|(simp[eqNums] at hc0 ⊢;first|done|assumption|omega));(by omega))) (show decide (((K_ (row1 .i32) b).length:Int)>0)=true→((K_ (row1 .i8) w).length:Int).tmod ((K_ (row1 .i32) b).length:Int)=((K_ (row1 .i8) w).length:Int) % ((K_ (row1 .i32) b).length:Int) from (fun hc0=>have gc0:((K_ (row1 .i32) b).length:Int)>0:=(by first|exact hc0|exact of_decide_eq_true hc0|exact of_decide_eq_false hc0|simpa [eqNums] using hc0|(simp[eqNums] at hc0 ⊢;first|done|assumption|omega));(BG_ (by omega)))))).weak (A_ _) (Weak.bool (by (simp only[Q_,sharedB];rw[Bool.eq_iff_iff];simp only[O_,E_,I_];omega)))
theorem spA_f {v lo hi z:Int} {g:Bool} (h:g=false):spA v lo hi z g=⟨min (v*(lo-z)) (v*(hi-z)),max (v*(lo-z)) (v*(hi-z))⟩:=by subst h;rfl
noncomputable def row24_l_I (w:List Int) (bias lo hi z:Int) (g:Bool) (k:Nat):VS:=stt 72 [(0,ints .i8 w),(2,i8 lo),(3,i8 hi),(4,i8 z),(5,bv g),(14,i64 (rowR w bias lo hi z g k).lo),(15,i64 (rowR w bias lo hi z g k).hi),(16,i64 k)] []
noncomputable def row24_l_Z (w:List Int) (bias lo hi z:Int) (g:Bool):VS:=row24_l_I w bias lo hi z g (w.length)
theorem row24_l_s (w:List Int) (bias lo hi z:Int) (g:Bool) (hw:∀ v∈w,In8 v) (wl:w.length≤1000000) (hb:In32 bias) (h1:In8 lo) (h2:In8 hi) (h3:In8 z) (k:Nat) (hk:k<w.length):VT N_ (fnC Tryz.f96 [1,1,0,1,0,0]) (row24_l_I w bias lo hi z g k) .normal (row24_l_I w bias lo hi z g (k+1)):=by
 have q1:=gt8 hw k
 have q2:=rowR_bd g hw hb h1 h2 h3 k
 have q3:=spA_bd g (v:=w.getD k 0) (gt_of hw (by unfold In8;omega) k) h1 h2 h3
 unfold In8 at h1 h2 h3
 have q4:=prod_bd (a:=w.getD k 0) (b:=lo-z) q1 (by omega)
 have q5:=prod_bd (a:=w.getD k 0) (b:=hi-z) q1 (by omega)
 have oz0:=(show decide ((↑k:Int)<((K_ (row1 .i8) w).length:Int))=true by (simp;omega))
 have oz1:=(s_ (0≤(↑k:Int)))
 have oz2:=(map_at (row1 .i8) (0) (l:=w) (i:=k) hk)
 have oz3:=(i6n (w.getD k 0) (by omega))
 have oz4:=(i6n lo (by omega))
 have oz5:=(i6n z (by omega))
 have oz6:=(i6n (lo-z) (by omega))
 have oz7:=(i6n (w.getD k 0*(lo-z)) (by omega))
 have oz11:=(i6n hi (by omega))
 have oz13:=(i6n (hi-z) (by omega))
 have oz14:=(i6n (w.getD k 0*(hi-z)) (by omega))
 rcases bft (g) with hc0|hc0
 ·have gc0:g=true:=by first|exact hc0|exact of_decide_eq_true hc0|exact of_decide_eq_false hc0|simpa [eqNums] using hc0|(simp[eqNums] at hc0 ⊢;first|done|assumption|omega)
  have oz16:=(i6n ((rowR w bias lo hi z g k).lo+if 0<if w.getD k 0*(hi-z)<w.getD k 0*(lo-z) then w.getD k 0*(hi-z) else w.getD k 0*(lo-z) then 0 else if w.getD k 0*(hi-z)<w.getD k 0*(lo-z) then w.getD k 0*(hi-z) else w.getD k 0*(lo-z)) (by omega))
  have oz17:=(i6n ((rowR w bias lo hi z g k).hi+if 0>if w.getD k 0*(hi-z)>w.getD k 0*(lo-z) then w.getD k 0*(hi-z) else w.getD k 0*(lo-z) then 0 else if w.getD k 0*(hi-z)>w.getD k 0*(lo-z) then w.getD k 0*(hi-z) else w.getD k 0*(lo-z)) (by omega))
  have oz19:=(M_ (k:=.i64) (show (((rowR w bias lo hi z g k).lo+if 0<if w.getD k 0*(hi-z)<w.getD k 0*(lo-z) then w.getD k 0*(hi-z) else w.getD k 0*(lo-z) then 0 else if w.getD k 0*(hi-z)<w.getD k 0*(lo-z) then w.getD k 0*(hi-z) else w.getD k 0*(lo-z)):Int)=((rowR w bias lo hi z g (k+1)).lo) from (by (simp only[rowR,spA,i_ (by assumption:g=true)];(repeat split)<;>omega))))
  have oz20:=(M_ (k:=.i64) (show (((rowR w bias lo hi z g k).hi+if 0>if w.getD k 0*(hi-z)>w.getD k 0*(lo-z) then w.getD k 0*(hi-z) else w.getD k 0*(lo-z) then 0 else if w.getD k 0*(hi-z)>w.getD k 0*(lo-z) then w.getD k 0*(hi-z) else w.getD k 0*(lo-z)):Int)=((rowR w bias lo hi z g (k+1)).hi) from (by (simp only[rowR,spA,i_ (by assumption:g=true)];(repeat split)<;>omega))))
  exact tR_ [r_,b_,.r [] [.row (sO oz2),.n (nO oz3),.n (nO oz4),.n (nO oz5),.n (nO oz6),.n (nO oz7),.row (sO oz2),.n (nO oz3),.n (nO oz11),.n (nO oz5),.n (nO oz13),.n (nO oz14)],r_,r_,b_,r_,r_,.r [] [.n (nO oz16),.n (nO oz17)],.r [] [.n ((↑k:Int)+1)]] [.any (rg [(17,4),(25,45)]),.weak 14 (wO oz19),.weak 15 (wO oz20),.weak 16 (i64 (↑(k+1):Int)),.sort] (.c8 oz0 oz1 oz2 oz3 oz4 oz5 oz6 oz7<|.c8 oz1 oz2 oz3 oz11 oz5 oz13 oz14 hc0<|.d6 oz16 oz17 (i6n ((↑k:Int)+1) (by omega)) oz19 oz20 (wS_ k))
 ·have gc0:g=false:=by first|exact hc0|exact of_decide_eq_true hc0|exact of_decide_eq_false hc0|simpa [eqNums] using hc0|(simp[eqNums] at hc0 ⊢;first|done|assumption|omega)
  have oz16:=(i6n ((rowR w bias lo hi z g k).lo+if w.getD k 0*(hi-z)<w.getD k 0*(lo-z) then w.getD k 0*(hi-z) else w.getD k 0*(lo-z)) (by omega))
  have oz17:=(i6n ((rowR w bias lo hi z g k).hi+if w.getD k 0*(hi-z)>w.getD k 0*(lo-z) then w.getD k 0*(hi-z) else w.getD k 0*(lo-z)) (by omega))
  have oz19:=(M_ (k:=.i64) (show (((rowR w bias lo hi z g k).lo+if w.getD k 0*(hi-z)<w.getD k 0*(lo-z) then w.getD k 0*(hi-z) else w.getD k 0*(lo-z)):Int)=((rowR w bias lo hi z g (k+1)).lo) from (by (rw[rowR,spA_f (by assumption)];dsimp only;split<;>omega))))
  have oz20:=(M_ (k:=.i64) (show (((rowR w bias lo hi z g k).hi+if w.getD k 0*(hi-z)>w.getD k 0*(lo-z) then w.getD k 0*(hi-z) else w.getD k 0*(lo-z)):Int)=((rowR w bias lo hi z g (k+1)).hi) from (by (rw[rowR,spA_f (by assumption)];dsimp only;split<;>omega))))
  exact tR_ [r_,b_,.r [] [.row (sO oz2),.n (nO oz3),.n (nO oz4),.n (nO oz5),.n (nO oz6),.n (nO oz7),.row (sO oz2),.n (nO oz3),.n (nO oz11),.n (nO oz5),.n (nO oz13),.n (nO oz14)],r_,r_,d_,.r [] [.n (nO oz16),.n (nO oz17)],.r [] [.n ((↑k:Int)+1)]] [.any (rg [(17,4),(25,35),(64,6)]),.weak 14 (wO oz19),.weak 15 (wO oz20),.weak 16 (i64 (↑(k+1):Int)),.sort] (.c8 oz0 oz1 oz2 oz3 oz4 oz5 oz6 oz7<|.c8 oz1 oz2 oz3 oz11 oz5 oz13 oz14 hc0<|.d6 oz16 oz17 (i6n ((↑k:Int)+1) (by omega)) oz19 oz20 (wS_ k))
theorem row24_l_e (w:List Int) (bias lo hi z:Int) (g:Bool) (hw:∀ v∈w,In8 v) (wl:w.length≤1000000) (hb:In32 bias) (h1:In8 lo) (h2:In8 hi) (h3:In8 z):VT N_ (fnC Tryz.f96 [1,1,0,1,0,0]) (row24_l_I w bias lo hi z g (w.length)) (.exit 0) (row24_l_Z w bias lo hi z g):=by
 exact tR_ [r_,d_] [.any (rg [(25,4)]),.sort] (.d (show decide ((w.length:Int)<((K_ (row1 .i8) w).length:Int))=false by (simp;done)))
theorem row24_l (w:List Int) (bias lo hi z:Int) (g:Bool) (hw:∀ v∈w,In8 v) (wl:w.length≤1000000) (hb:In32 bias) (h1:In8 lo) (h2:In8 hi) (h3:In8 z):VT N_ (fnC Tryz.f96 [1,1,0,1,0]) (row24_l_I w bias lo hi z g 0) (.exit 0) (row24_l_Z w bias lo hi z g) :=
 VT.loop (fun k=>row24_l_I w bias lo hi z g k) (w.length) (fun k hk=>row24_l_s w bias lo hi z g hw wl hb h1 h2 h3 k hk) (row24_l_e w bias lo hi z g hw wl hb h1 h2 h3) (by intro h;cases h)
theorem row24_v (w:List Int) (bias lo hi z:Int) (g:Bool) (hw:∀ v∈w,In8 v) (wl:w.length≤1000000) (hb:In32 bias) (h1:In8 lo) (h2:In8 hi) (h3:In8 z):VC N_ 96 ([ints .i8 w,i32 bias,i8 lo,i8 hi,i8 z,bv g]) (.tup [i64 (rowR w bias lo hi z g w.length).lo,i64 (rowR w bias lo hi z g w.length).hi]):=by
 obtain ⟨b1,b2⟩:=id hb
 have oz0:=(i6n bias (by omega))
 have oz4:=@row24_l (w) (bias) (lo) (hi) (z) (g) hw wl hb h1 h2 h3
 exact cR_ [r_,.r [] [.n (nO oz0),.n (nO oz0)],r_,.code [.any [1,12,13,21,22,23,24],.weak 15 (i64 (rowR w bias lo hi z g 0).hi),.weak 16 (i64 (↑0:Int)),.sort] (AI_ 0) (zO oz4),r_] _ Tryz.func96 (.d5 oz0 oz0 (M_ (k:=.i64) (show ((bias):Int)=((rowR w bias lo hi z g 0).hi) from (by rfl))) w0_ oz4)
theorem rows_a {f:Nat→Rng} {k:Nat} (h:((k:Int)==0)=true):(if (f k).lo<(f k).lo then (f k).lo else (f k).lo)=(rowsR f (k+1)).lo:=by
 have:k=0:=by simpa using h
 subst this;rw[rowsR,i_ rfl];dsimp only;split<;>omega
theorem rows_b {f:Nat→Rng} {k:Nat} (h:((k:Int)==0)=true):(if (f k).hi>(f k).hi then (f k).hi else (f k).hi)=(rowsR f (k+1)).hi:=by
 have:k=0:=by simpa using h
 subst this;rw[rowsR,i_ rfl];dsimp only;split<;>omega
theorem rows_c {f:Nat→Rng} {k:Nat} (h:((k:Int)==0)=false):(if (f k).lo<(rowsR f k).lo then (f k).lo else (rowsR f k).lo)=(rowsR f (k+1)).lo:=by
 have:¬ k=0:=by simpa using h
 rw[rowsR,j_ this];dsimp only;split<;>omega
theorem rows_d {f:Nat→Rng} {k:Nat} (h:((k:Int)==0)=false):(if (f k).hi>(rowsR f k).hi then (f k).hi else (rowsR f k).hi)=(rowsR f (k+1)).hi:=by
 have:¬ k=0:=by simpa using h
 rw[rowsR,j_ this];dsimp only;split<;>omega
noncomputable def rows_l_I (w b:List Int) (lo hi z:Int) (g:Bool) (k:Nat):VS:=stt 71 [(0,ints .i8 w),(1,ints .i32 b),(2,i8 lo),(3,i8 hi),(4,i8 z),(5,bv g),(15,i64 (rowsR (spRow w b lo hi z g) k).lo),(16,i64 (rowsR (spRow w b lo hi z g) k).hi),(17,i64 ((w.length:Int)/(b.length:Int))),(18,i64 k)] []
noncomputable def rows_l_Z (w b:List Int) (lo hi z:Int) (g:Bool):VS:=rows_l_I w b lo hi z g (b.length)
theorem rows_l_s (w b:List Int) (lo hi z:Int) (g:Bool) (hw:∀ v∈w,In8 v) (hb:∀ v∈b,In32 v) (wl:w.length≤100000) (bl:b.length≤100000) (b0:0<b.length) (h1:In8 lo) (h2:In8 hi) (h3:In8 z) (k:Nat) (hk:k<b.length):VT N_ (fnC Tryz.f82 [1,1,1,0,1,0,0]) (rows_l_I w b lo hi z g k) .normal (rows_l_I w b lo hi z g (k+1)):=by
 have q1:=share_bd (m:=w.length) hk
 have q2:=gt32 hb k
 have oz0:=(show decide ((↑k:Int)<((K_ (row1 .i32) b).length:Int))=true by (simp;omega))
 have oz1:=(i6n ((↑k:Int)*((w.length:Int)/(b.length:Int))) (by omega))
 have oz2:=(i6n ((↑k:Int)+1) (by omega))
 have oz3:=(i6n (((↑k:Int)+1)*((w.length:Int)/(b.length:Int))) (by omega))
 have oz4:=(s_ ((↑k:Int)*((w.length:Int)/(b.length:Int))=(↑((↑k:Int)*((w.length:Int)/(b.length:Int))).toNat:Int)))
 have oz5:=(s_ (((↑k:Int)+1)*((w.length:Int)/(b.length:Int))=(↑(((↑k:Int)+1)*((w.length:Int)/(b.length:Int))).toNat:Int)))
 have oz6:=(s_ (((↑k:Int)*((w.length:Int)/(b.length:Int))).toNat≤(((↑k:Int)+1)*((w.length:Int)/(b.length:Int))).toNat))
 have oz7:=(show (((↑k:Int)+1)*((w.length:Int)/(b.length:Int))).toNat≤(K_ (row1 .i8) w).length by (simp;omega))
 have oz8:=(s_ (0≤(↑k:Int)))
 have oz9:=(map_at (row1 .i32) (0) (l:=b) (i:=k) hk)
 have oz10:=(show WeakL [AV.sl 1 (BK_ ((((↑k:Int)+1)*((w.length:Int)/(b.length:Int))).toNat-((↑k:Int)*((w.length:Int)/(b.length:Int))).toNat) (BL_ ((↑k:Int)*((w.length:Int)/(b.length:Int))).toNat (K_ (row1 .i8) w))),i32 (b.getD k 0),i8 lo,i8 hi,i8 z,bv g] [AV.sl 1 (K_ (row1 .i8) (BK_ ((((↑k:Int)+1)*((w.length:Int)/(b.length:Int))).toNat-((↑k:Int)*((w.length:Int)/(b.length:Int))).toNat) (BL_ ((↑k:Int)*((w.length:Int)/(b.length:Int))).toNat w))),i32 (b.getD k 0),i8 lo,i8 hi,i8 z,bv g] from (.cons (Weak.rows (rows_to (row1 .i8) (r:=BK_ ((((↑k:Int)+1)*((w.length:Int)/(b.length:Int))).toNat-((↑k:Int)*((w.length:Int)/(b.length:Int))).toNat) (BL_ ((↑k:Int)*((w.length:Int)/(b.length:Int))).toNat (K_ (row1 .i8) w))) (l:=BK_ ((((↑k:Int)+1)*((w.length:Int)/(b.length:Int))).toNat-((↑k:Int)*((w.length:Int)/(b.length:Int))).toNat) (BL_ ((↑k:Int)*((w.length:Int)/(b.length:Int))).toNat w)) (m:=BK_ ((((↑k:Int)+1)*((w.length:Int)/(b.length:Int))).toNat-((↑k:Int)*((w.length:Int)/(b.length:Int))).toNat) (BL_ ((↑k:Int)*((w.length:Int)/(b.length:Int))).toNat w)) (by first|(simp only[X_,Z_,AL_,AM_,V_,D_,AK_];done)|rfl|(simp only[X_,Z_,AL_,AM_,V_,D_,AK_];rfl)) rfl)) (.cons (.refl _) (.cons (.refl _) (.cons (.refl _) (.cons (.refl _) (.cons (.refl _) .nil)))))))
 have oz11:=@row24_v (BK_ ((((↑k:Int)+1)*((w.length:Int)/(b.length:Int))).toNat-((↑k:Int)*((w.length:Int)/(b.length:Int))).toNat) (BL_ ((↑k:Int)*((w.length:Int)/(b.length:Int))).toNat w)) (b.getD k 0) (lo) (hi) (z) (g) (by (exact fun v hv=>hw v (mem_td hv))) (by (rw[BT_,BX_];omega)) q2 h1 h2 h3
 rcases bft ((↑k:Int)==0) with hc0|hc0
 ·have gc0:(↑k:Int)=0:=bet hc0
  have oz14:=(M_ (k:=.i64) (show ((if (rowR (BK_ ((((↑k:Int)+1)*((w.length:Int)/(b.length:Int))).toNat-((↑k:Int)*((w.length:Int)/(b.length:Int))).toNat) (BL_ ((↑k:Int)*((w.length:Int)/(b.length:Int))).toNat w)) (b.getD k 0) lo hi z g (BK_ ((((↑k:Int)+1)*((w.length:Int)/(b.length:Int))).toNat-((↑k:Int)*((w.length:Int)/(b.length:Int))).toNat) (BL_ ((↑k:Int)*((w.length:Int)/(b.length:Int))).toNat w)).length).lo<(rowR (BK_ ((((↑k:Int)+1)*((w.length:Int)/(b.length:Int))).toNat-((↑k:Int)*((w.length:Int)/(b.length:Int))).toNat) (BL_ ((↑k:Int)*((w.length:Int)/(b.length:Int))).toNat w)) (b.getD k 0) lo hi z g (BK_ ((((↑k:Int)+1)*((w.length:Int)/(b.length:Int))).toNat-((↑k:Int)*((w.length:Int)/(b.length:Int))).toNat) (BL_ ((↑k:Int)*((w.length:Int)/(b.length:Int))).toNat w)).length).lo then (rowR (BK_ ((((↑k:Int)+1)*((w.length:Int)/(b.length:Int))).toNat-((↑k:Int)*((w.length:Int)/(b.length:Int))).toNat) (BL_ ((↑k:Int)*((w.length:Int)/(b.length:Int))).toNat w)) (b.getD k 0) lo hi z g (BK_ ((((↑k:Int)+1)*((w.length:Int)/(b.length:Int))).toNat-((↑k:Int)*((w.length:Int)/(b.length:Int))).toNat) (BL_ ((↑k:Int)*((w.length:Int)/(b.length:Int))).toNat w)).length).lo else (rowR (BK_ ((((↑k:Int)+1)*((w.length:Int)/(b.length:Int))).toNat-((↑k:Int)*((w.length:Int)/(b.length:Int))).toNat) (BL_ ((↑k:Int)*((w.length:Int)/(b.length:Int))).toNat w)) (b.getD k 0) lo hi z g (BK_ ((((↑k:Int)+1)*((w.length:Int)/(b.length:Int))).toNat-((↑k:Int)*((w.length:Int)/(b.length:Int))).toNat) (BL_ ((↑k:Int)*((w.length:Int)/(b.length:Int))).toNat w)).length).lo):Int)=((rowsR (spRow w b lo hi z g) (k+1)).lo) from (by (refine rows_a (f:=spRow w b lo hi z g) ?_;assumption))))
  have oz15:=(M_ (k:=.i64) (show ((if (rowR (BK_ ((((↑k:Int)+1)*((w.length:Int)/(b.length:Int))).toNat-((↑k:Int)*((w.length:Int)/(b.length:Int))).toNat) (BL_ ((↑k:Int)*((w.length:Int)/(b.length:Int))).toNat w)) (b.getD k 0) lo hi z g (BK_ ((((↑k:Int)+1)*((w.length:Int)/(b.length:Int))).toNat-((↑k:Int)*((w.length:Int)/(b.length:Int))).toNat) (BL_ ((↑k:Int)*((w.length:Int)/(b.length:Int))).toNat w)).length).hi>(rowR (BK_ ((((↑k:Int)+1)*((w.length:Int)/(b.length:Int))).toNat-((↑k:Int)*((w.length:Int)/(b.length:Int))).toNat) (BL_ ((↑k:Int)*((w.length:Int)/(b.length:Int))).toNat w)) (b.getD k 0) lo hi z g (BK_ ((((↑k:Int)+1)*((w.length:Int)/(b.length:Int))).toNat-((↑k:Int)*((w.length:Int)/(b.length:Int))).toNat) (BL_ ((↑k:Int)*((w.length:Int)/(b.length:Int))).toNat w)).length).hi then (rowR (BK_ ((((↑k:Int)+1)*((w.length:Int)/(b.length:Int))).toNat-((↑k:Int)*((w.length:Int)/(b.length:Int))).toNat) (BL_ ((↑k:Int)*((w.length:Int)/(b.length:Int))).toNat w)) (b.getD k 0) lo hi z g (BK_ ((((↑k:Int)+1)*((w.length:Int)/(b.length:Int))).toNat-((↑k:Int)*((w.length:Int)/(b.length:Int))).toNat) (BL_ ((↑k:Int)*((w.length:Int)/(b.length:Int))).toNat w)).length).hi else (rowR (BK_ ((((↑k:Int)+1)*((w.length:Int)/(b.length:Int))).toNat-((↑k:Int)*((w.length:Int)/(b.length:Int))).toNat) (BL_ ((↑k:Int)*((w.length:Int)/(b.length:Int))).toNat w)) (b.getD k 0) lo hi z g (BK_ ((((↑k:Int)+1)*((w.length:Int)/(b.length:Int))).toNat-((↑k:Int)*((w.length:Int)/(b.length:Int))).toNat) (BL_ ((↑k:Int)*((w.length:Int)/(b.length:Int))).toNat w)).length).hi):Int)=((rowsR (spRow w b lo hi z g) (k+1)).hi) from (by (refine rows_b (f:=spRow w b lo hi z g) ?_;assumption))))
  exact tR_ [r_,b_,.r [] [.n (nO oz1),.n (nO oz2),.n (nO oz3),.nats ((↑k:Int)*((w.length:Int)/(b.length:Int))).toNat (((↑k:Int)+1)*((w.length:Int)/(b.length:Int))).toNat,.row (sO oz9),ca oz11],r_,b_,r_,r_,.r [] [.n (nO oz2)]] [.any (rg [(19,2),(26,37)]),.weak 15 (wO oz14),.weak 16 (wO oz15),.weak 18 (i64 (↑(k+1):Int)),.sort] (.c8 oz0 oz1 oz2 oz3 oz4 oz5 oz6 oz7<|.c8 oz8 oz9 oz10 oz11 hc0 oz2 oz14 oz15<|.d (wS_ k))
 ·have gc0:¬(↑k:Int)=0:=bef hc0
  have oz14:=(M_ (k:=.i64) (show ((if (rowR (BK_ ((((↑k:Int)+1)*((w.length:Int)/(b.length:Int))).toNat-((↑k:Int)*((w.length:Int)/(b.length:Int))).toNat) (BL_ ((↑k:Int)*((w.length:Int)/(b.length:Int))).toNat w)) (b.getD k 0) lo hi z g (BK_ ((((↑k:Int)+1)*((w.length:Int)/(b.length:Int))).toNat-((↑k:Int)*((w.length:Int)/(b.length:Int))).toNat) (BL_ ((↑k:Int)*((w.length:Int)/(b.length:Int))).toNat w)).length).lo<(rowsR (spRow w b lo hi z g) k).lo then (rowR (BK_ ((((↑k:Int)+1)*((w.length:Int)/(b.length:Int))).toNat-((↑k:Int)*((w.length:Int)/(b.length:Int))).toNat) (BL_ ((↑k:Int)*((w.length:Int)/(b.length:Int))).toNat w)) (b.getD k 0) lo hi z g (BK_ ((((↑k:Int)+1)*((w.length:Int)/(b.length:Int))).toNat-((↑k:Int)*((w.length:Int)/(b.length:Int))).toNat) (BL_ ((↑k:Int)*((w.length:Int)/(b.length:Int))).toNat w)).length).lo else (rowsR (spRow w b lo hi z g) k).lo):Int)=((rowsR (spRow w b lo hi z g) (k+1)).lo) from (by (refine rows_c (f:=spRow w b lo hi z g) ?_;assumption))))
  have oz15:=(M_ (k:=.i64) (show ((if (rowR (BK_ ((((↑k:Int)+1)*((w.length:Int)/(b.length:Int))).toNat-((↑k:Int)*((w.length:Int)/(b.length:Int))).toNat) (BL_ ((↑k:Int)*((w.length:Int)/(b.length:Int))).toNat w)) (b.getD k 0) lo hi z g (BK_ ((((↑k:Int)+1)*((w.length:Int)/(b.length:Int))).toNat-((↑k:Int)*((w.length:Int)/(b.length:Int))).toNat) (BL_ ((↑k:Int)*((w.length:Int)/(b.length:Int))).toNat w)).length).hi>(rowsR (spRow w b lo hi z g) k).hi then (rowR (BK_ ((((↑k:Int)+1)*((w.length:Int)/(b.length:Int))).toNat-((↑k:Int)*((w.length:Int)/(b.length:Int))).toNat) (BL_ ((↑k:Int)*((w.length:Int)/(b.length:Int))).toNat w)) (b.getD k 0) lo hi z g (BK_ ((((↑k:Int)+1)*((w.length:Int)/(b.length:Int))).toNat-((↑k:Int)*((w.length:Int)/(b.length:Int))).toNat) (BL_ ((↑k:Int)*((w.length:Int)/(b.length:Int))).toNat w)).length).hi else (rowsR (spRow w b lo hi z g) k).hi):Int)=((rowsR (spRow w b lo hi z g) (k+1)).hi) from (by (refine rows_d (f:=spRow w b lo hi z g) ?_;assumption))))
  exact tR_ [r_,b_,.r [] [.n (nO oz1),.n (nO oz2),.n (nO oz3),.nats ((↑k:Int)*((w.length:Int)/(b.length:Int))).toNat (((↑k:Int)+1)*((w.length:Int)/(b.length:Int))).toNat,.row (sO oz9),ca oz11],r_,d_,r_,.r [] [.n (nO oz2)]] [.any (rg [(19,2),(26,29),(57,6)]),.weak 15 (wO oz14),.weak 16 (wO oz15),.weak 18 (i64 (↑(k+1):Int)),.sort] (.c8 oz0 oz1 oz2 oz3 oz4 oz5 oz6 oz7<|.c8 oz8 oz9 oz10 oz11 hc0 oz2 oz14 oz15<|.d (wS_ k))
theorem rows_l_e (w b:List Int) (lo hi z:Int) (g:Bool) (hw:∀ v∈w,In8 v) (hb:∀ v∈b,In32 v) (wl:w.length≤100000) (bl:b.length≤100000) (b0:0<b.length) (h1:In8 lo) (h2:In8 hi) (h3:In8 z):VT N_ (fnC Tryz.f82 [1,1,1,0,1,0,0]) (rows_l_I w b lo hi z g (b.length)) (.exit 0) (rows_l_Z w b lo hi z g):=by
 exact tR_ [r_,d_] [.any (rg [(26,4)]),.sort] (.d (show decide ((b.length:Int)<((K_ (row1 .i32) b).length:Int))=false by (simp;done)))
theorem rows_l (w b:List Int) (lo hi z:Int) (g:Bool) (hw:∀ v∈w,In8 v) (hb:∀ v∈b,In32 v) (wl:w.length≤100000) (bl:b.length≤100000) (b0:0<b.length) (h1:In8 lo) (h2:In8 hi) (h3:In8 z):VT N_ (fnC Tryz.f82 [1,1,1,0,1,0]) (rows_l_I w b lo hi z g 0) (.exit 0) (rows_l_Z w b lo hi z g) :=
 VT.loop (fun k=>rows_l_I w b lo hi z g k) (b.length) (fun k hk=>rows_l_s w b lo hi z g hw hb wl bl b0 h1 h2 h3 k hk) (rows_l_e w b lo hi z g hw hb wl bl b0 h1 h2 h3) (by intro h;cases h)
theorem rows_v (w b:List Int) (lo hi z:Int) (g:Bool) (hw:∀ v∈w,In8 v) (hb:∀ v∈b,In32 v) (wl:w.length≤100000) (bl:b.length≤100000) (b0:0<b.length) (h1:In8 lo) (h2:In8 hi) (h3:In8 z):VC N_ 82 ([ints .i8 w,ints .i32 b,i8 lo,i8 hi,i8 z,bv g]) (.tup [i64 (rowsR (spRow w b lo hi z g) b.length).lo,i64 (rowsR (spRow w b lo hi z g) b.length).hi,bv (decide ((rowsR (spRow w b lo hi z g) b.length).lo ≥ -2147483648)&&decide ((rowsR (spRow w b lo hi z g) b.length).hi≤2147483647))]):=by
 have q1:(0≤(w.length:Int)/(b.length:Int)∧(w.length:Int)/(b.length:Int)≤w.length):=⟨Int.ediv_nonneg (by omega) (by omega),Int.ediv_le_self _ (by omega)⟩
 have oz1:=(show IntKind.i64.wrap (((K_ (row1 .i8) w).length:Int).tdiv ((K_ (row1 .i32) b).length:Int))=((K_ (row1 .i8) w).length:Int)/((K_ (row1 .i32) b).length:Int) from (Eq.trans (congrArg _ (BH_ (by omega))) (by with_reducible exact i6n _ (by simp only[Q_] at *;omega))))
 have oz4:=(M_ (k:=.i64) (show ((((K_ (row1 .i8) w).length:Int)/((K_ (row1 .i32) b).length:Int)):Int)=((w.length:Int)/(b.length:Int)) from (by (simp;done))))
 have oz6:=@rows_l (w) (b) (lo) (hi) (z) (g) hw hb wl bl b0 h1 h2 h3
 exact cR_ [r_,r_,.r [] [.n (((K_ (row1 .i8) w).length:Int)/((K_ (row1 .i32) b).length:Int))],r_,.code [.any (rg [(12,3),(21,5)]),.weak 15 (i64 (rowsR (spRow w b lo hi z g) 0).lo),.weak 16 (i64 (rowsR (spRow w b lo hi z g) 0).hi),.weak 17 (wO oz4),.weak 18 (i64 (↑0:Int)),.sort] (AI_ 0) (zO oz6),.r [] [o_,o_,.sel 2]] _ Tryz.func82 (.d7 (show ((K_ (row1 .i32) b).length:Int)≠0 by (simp only[Q_] at *;omega)) oz1 (M_ (k:=.i64) (show ((0):Int)=((rowsR (spRow w b lo hi z g) 0).lo) from (by rfl))) (M_ (k:=.i64) (show ((0):Int)=((rowsR (spRow w b lo hi z g) 0).hi) from (by rfl))) oz4 w0_ oz6)
theorem rowsR_iff (f:Nat→Rng):∀ k,((rowsR f (k+1)).lo ≥ -2147483648∧(rowsR f (k+1)).hi≤2147483647)↔∀ i,i<k+1→holdB (f i)=true
 | 0=>by
  rw[show rowsR f (0+1)=⟨min (f 0).lo (f 0).lo,max (f 0).hi (f 0).hi⟩ by rw[rowsR,i_ rfl]]
  simp only[holdB,O_,E_]
  constructor
  ·intro h i hi
   rw[show i=0 by omega];omega
  ·intro h;have:=h 0 (by omega);omega
 | k+1=>by
  have ih:=rowsR_iff f k
  rw[rowsR,j_ (by omega)]
  dsimp only
  constructor
  ·intro h i hi
   by_cases e:i=k+1
   ·subst e;simp only[holdB,O_,E_];omega
   ·exact ih.1 (by omega) i (by omega)
  ·intro h
   have h1:=ih.2 fun i hi=>h i (by omega)
   have h2:=h (k+1) (by omega)
   simp only[holdB,O_,E_] at h2
   omega
theorem rows_all {w b:List Int} {lo hi z:Int} {g:Bool} (b0:0<b.length):(decide ((rowsR (spRow w b lo hi z g) b.length).lo ≥ -2147483648)&&decide ((rowsR (spRow w b lo hi z g) b.length).hi≤2147483647))=(allR w b lo hi z g b.length).all holdB:=by
 obtain ⟨n,hn⟩:∃ n,b.length=n+1:=⟨b.length-1,by omega⟩
 rw[hn,Bool.eq_iff_iff,O_,E_,E_,rowsR_iff,allR,List.all_map,List.all_eq_true]
 constructor
 ·intro h i hi;exact h i (List.mem_range.1 hi)
 ·intro h i hi;exact h i (List.mem_range.2 hi)
theorem refHead_v (w b:List Int) (nd lo hi:Int) (hw:∀ v∈w,In8 v) (hb:∀ v∈b,In32 v) (wl:w.length≤100000) (bl:b.length≤100000) (h1:In8 lo) (h2:In8 hi):VC N_ 59 ([.agg (hedC w b nd),.agg [i8 lo,i8 hi]]) (i64 (headE w b lo hi)):=by
 have q1:=@hd_pos w b
 have q2:=@rows_all w b lo hi 0 false
 have oz0:=@shared_v (w) (b) wl bl
 rcases bft (!sharedB w b) with hc0|hc0
 ·have gc0:sharedB w b=false:=by first|exact hc0|exact of_decide_eq_true hc0|exact of_decide_eq_false hc0|simpa [eqNums] using hc0|(simp[eqNums] at hc0 ⊢;first|done|assumption|omega)
  exact (cR_ [r_,.r [] [cr oz0],b_,r_] (i64 9) Tryz.func59 (.d2 oz0 hc0)).weak (A_ _) (M_ (by (unfold headE;simp_all;done)))
 ·have gc0:sharedB w b=true:=by first|exact hc0|exact of_decide_eq_true hc0|exact of_decide_eq_false hc0|simpa [eqNums] using hc0|(simp[eqNums] at hc0 ⊢;first|done|assumption|omega)
  have oz2:=@rows_v (w) (b) (lo) (hi) (0) (false) hw hb wl bl (by (exact q1 (by simp_all))) h1 h2 (by omega)
  rcases bft (!(decide ((rowsR (spRow w b lo hi 0 false) b.length).lo ≥ -2147483648)&&decide ((rowsR (spRow w b lo hi 0 false) b.length).hi≤2147483647))) with hc1|hc1
  ·have gc1:¬(rowsR (spRow w b lo hi 0 false) b.length).lo ≥ -2147483648∨¬(rowsR (spRow w b lo hi 0 false) b.length).hi≤2147483647:=gc0_ hc1
   exact (cR_ [r_,.r [] [cr oz0],d_,.r [] [cr oz2],r_,b_,r_] (i64 10) Tryz.func59 (.d4 oz0 hc0 oz2 hc1)).weak (A_ _) (M_ (by (unfold headE;simp_all;done)))
  ·have gc1:(rowsR (spRow w b lo hi 0 false) b.length).lo ≥ -2147483648∧(rowsR (spRow w b lo hi 0 false) b.length).hi≤2147483647:=gc0_ hc1
   exact (cR_ [r_,.r [] [cr oz0],d_,.r [] [cr oz2],r_,d_,r_] (i64 0) Tryz.func59 (.d4 oz0 hc0 oz2 hc1)).weak (A_ _) (M_ (by (unfold headE;simp_all;done)))
abbrev rchC (r:Rng):List AV:=[i8 r.lo,i8 r.hi]
abbrev rch (r:Rng):AV:=.agg (rchC r)
def bothR (l:List Rng):Nat→Rng
 | 0=>l.getD 0 default
 | k+1=>⟨min (bothR l k).lo (l.getD k default).lo,max (bothR l k).hi (l.getD k default).hi⟩
noncomputable def both_l_I (l:List Rng) (k:Nat):VS:=stt 32 [(2,.ptr 2 0 0),(3,.ptr 3 0 0),(13,.sl 2 (l.map rngC)),(14,i64 l.length),(15,i64 k)] [(2,.var [i64 0,i64 0]),(3,.var (rngC (bothR l k)))]
noncomputable def both_l_Z (l:List Rng):VS:=both_l_I l (l.length)
theorem both_l_s (l:List Rng) (hl:l.length≤1000000) (k:Nat) (hk:k<l.length):VT N_ (fnC Tryz.f147 [1,1,1,0,1,0,0]) (both_l_I l k) .normal (both_l_I l (k+1)):=by
 have oz2:=(map_at (rngC) (default) (l:=l) (i:=k) hk)
 exact tR_ [r_,b_,.r [] [.row (sO oz2)],r_,.r [] [.n ((↑k:Int)+1)]] [.any (rg [(5,1),(16,15)]),.drop [5],.weak 15 (i64 (↑(k+1):Int)),.blk 3 (Blk.var [i64 (bothR l (k+1)).lo,i64 (bothR l (k+1)).hi]),.sort] (.d6 (decide_eq_true (p:=((↑k:Int)<(l.length:Int))) (by omega)) (s_ (0≤(↑k:Int))) oz2 (i6n ((↑k:Int)+1) (by omega)) (wS_ k) (show BlkW (Blk.var [i64 (if (l.getD k default).lo<(bothR l k).lo then (l.getD k default).lo else (bothR l k).lo),i64 (if (l.getD k default).hi>(bothR l k).hi then (l.getD k default).hi else (bothR l k).hi)]) (Blk.var [i64 (bothR l (k+1)).lo,i64 (bothR l (k+1)).hi]) from (BlkW.var (m:=[i64 (bothR l (k+1)).lo,i64 (bothR l (k+1)).hi]) (.cons (M_ (by (simp only[bothR];split<;>omega))) (.cons (M_ (by (simp only[bothR];split<;>omega))) .nil)))))
theorem both_l_e (l:List Rng) (hl:l.length≤1000000):VT N_ (fnC Tryz.f147 [1,1,1,0,1,0,0]) (both_l_I l (l.length)) (.exit 0) (both_l_Z l):=by
 exact tR_ [r_,d_] [.any [16],.sort] (.d (decide_eq_false (p:=((l.length:Int)<(l.length:Int))) (by omega)))
theorem both_l (l:List Rng) (hl:l.length≤1000000):VT N_ (fnC Tryz.f147 [1,1,1,0,1,0]) (both_l_I l 0) (.exit 0) (both_l_Z l) :=
 VT.loop (fun k=>both_l_I l k) (l.length) (fun k hk=>both_l_s l hl k hk) (both_l_e l hl) (by intro h;cases h)
theorem z3_:(0:Int)≤(0:Int):=by omega
theorem both_v (l:List Rng) (hl:l.length≤1000000):VC N_ 147 ([.sl 2 (l.map rngC)]) (rng (bothR l l.length)):=by
 rcases bft (((K_ rngC l).length:Int)==0) with hc0|hc0
 ·have gc0:((K_ rngC l).length:Int)=0:=bet hc0
  exact (cR_ [r_,r_,b_,r_] (AV.agg [i64 0,i64 0]) Tryz.func147 (.d hc0)).weak (A_ _) (AD_ (.cons (M_ (by (have:l=[]:=AE_ (by simp only[Q_] at *;omega);subst this;rfl))) (.cons (M_ (by (have:l=[]:=AE_ (by simp only[Q_] at *;omega);subst this;rfl))) .nil)))
 ·have gc0:¬((K_ rngC l).length:Int)=0:=bef hc0
  have oz2:=(map_at (rngC) (default) (l:=l) (i:=0) (by (simp only[Q_] at *;omega)))
  have oz6:=@both_l (l) hl
  exact cR_ [r_,r_,d_,.r [] [.row (sO oz2)],r_,.code [.any [0,6,7,8,10,11,12],.weak 14 (i64 (l.length:Int)),.weak 15 (i64 (↑0:Int)),.blk 3 (Blk.var [i64 (bothR l 0).lo,i64 (bothR l 0).hi]),.sort] (AI_ 0) (zO oz6),r_] _ Tryz.func147 (.d7 hc0 z3_ oz2 (M_ (k:=.i64) (show ((((K_ rngC l).length:Int)):Int)=((l.length:Int)) from (by (simp;done)))) w0_ (show BlkW (Blk.var [i64 (l.getD 0 default).lo,i64 (l.getD 0 default).hi]) (Blk.var [i64 (bothR l 0).lo,i64 (bothR l 0).hi]) from (BlkW.var (m:=[i64 (bothR l 0).lo,i64 (bothR l 0).hi]) (.cons (M_ (by rfl)) (.cons (M_ (by rfl)) .nil)))) oz6)
def held32 (v:Int):Int:=if 2147483647<if -2147483648>v then -2147483648 else v then 2147483647 else if -2147483648>v then -2147483648 else v
theorem held32_in (v:Int):In32 (held32 v):=by unfold held32 In32;omega
theorem min_if (a b:Int):(if b<a then b else a)=min a b:=by omega
theorem max_if (a b:Int):(if b>a then b else a)=max a b:=by omega
def afterE (r:Rng) (n:Nod):Rng:=⟨min (heldQ (held32 r.lo) n.qm n.qs n.qz n.lo n.hi) (heldQ (held32 r.hi) n.qm n.qs n.qz n.lo n.hi),max (heldQ (held32 r.lo) n.qm n.qs n.qz n.lo n.hi) (heldQ (held32 r.hi) n.qm n.qs n.qz n.lo n.hi)⟩
theorem after_v (r:Rng) (n:Nod) (ok:n.Ok):VC N_ 146 ([rng r,.agg [i32 n.qm,i64 n.qs,i8 n.qz],i8 n.lo,i8 n.hi]) (.tup [i8 (afterE r n).lo,i8 (afterE r n).hi]):=by
 have ok_qm:=ok.qm
 have ok_qz:=ok.qz
 have ok_lo:=ok.lo
 have ok_hi:=ok.hi
 have q1:=held32_in r.lo
 have q2:=held32_in r.hi
 have oz0:=(CX_ (if 2147483647<if -2147483648>r.lo then -2147483648 else r.lo then 2147483647 else if -2147483648>r.lo then -2147483648 else r.lo) (by omega))
 have oz1:=@held_v (if 2147483647<if -2147483648>r.lo then -2147483648 else r.lo then 2147483647 else if -2147483648>r.lo then -2147483648 else r.lo) (n.qm) (n.qs) (n.qz) (n.lo) (n.hi) (by omega) ok_qm ok_qz ok_lo ok_hi
 have oz2:=(CX_ (if 2147483647<if -2147483648>r.hi then -2147483648 else r.hi then 2147483647 else if -2147483648>r.hi then -2147483648 else r.hi) (by omega))
 have oz3:=@held_v (if 2147483647<if -2147483648>r.hi then -2147483648 else r.hi then 2147483647 else if -2147483648>r.hi then -2147483648 else r.hi) (n.qm) (n.qs) (n.qz) (n.lo) (n.hi) (by omega) ok_qm ok_qz ok_lo ok_hi
 exact (cR_ [r_,.r [] [.n (nO oz0),cr oz1],.r [] [.n (nO oz2),cr oz3],r_] (AV.tup [i8 (if heldQ (if 2147483647<if -2147483648>r.hi then -2147483648 else r.hi then 2147483647 else if -2147483648>r.hi then -2147483648 else r.hi) n.qm n.qs n.qz n.lo n.hi<heldQ (if 2147483647<if -2147483648>r.lo then -2147483648 else r.lo then 2147483647 else if -2147483648>r.lo then -2147483648 else r.lo) n.qm n.qs n.qz n.lo n.hi then heldQ (if 2147483647<if -2147483648>r.hi then -2147483648 else r.hi then 2147483647 else if -2147483648>r.hi then -2147483648 else r.hi) n.qm n.qs n.qz n.lo n.hi else heldQ (if 2147483647<if -2147483648>r.lo then -2147483648 else r.lo then 2147483647 else if -2147483648>r.lo then -2147483648 else r.lo) n.qm n.qs n.qz n.lo n.hi),i8 (if heldQ (if 2147483647<if -2147483648>r.hi then -2147483648 else r.hi then 2147483647 else if -2147483648>r.hi then -2147483648 else r.hi) n.qm n.qs n.qz n.lo n.hi>heldQ (if 2147483647<if -2147483648>r.lo then -2147483648 else r.lo then 2147483647 else if -2147483648>r.lo then -2147483648 else r.lo) n.qm n.qs n.qz n.lo n.hi then heldQ (if 2147483647<if -2147483648>r.hi then -2147483648 else r.hi then 2147483647 else if -2147483648>r.hi then -2147483648 else r.hi) n.qm n.qs n.qz n.lo n.hi else heldQ (if 2147483647<if -2147483648>r.lo then -2147483648 else r.lo then 2147483647 else if -2147483648>r.lo then -2147483648 else r.lo) n.qm n.qs n.qz n.lo n.hi)]) Tryz.func146 (.d4 oz0 oz1 oz2 oz3)).weak (A_ _) (AZ_ (.cons (M_ (by (exact min_if _ _))) (.cons (M_ (by (exact max_if _ _))) .nil)))
theorem clamp_in (v:Int) {lo hi:Int} (h1:In8 lo) (h2:In8 hi):In8 (clampI v lo hi):=by
 unfold clampI;split
 ·exact h1
 ·split
  ·exact h2
  ·omega
theorem refHeld_v (a m s z lo hi:Int) (ha:In32 a) (hm:In32 m) (hz:In8 z) (hl:In8 lo) (hh:In8 hi):VC N_ 118 ([i32 a,.agg [i32 m,i64 s,i8 z],i8 lo,i8 hi]) (i8 (heldQ a m s z lo hi)):=by
 have q1:=mul_bd32 a m ha.1 ha.2 hm.1 hm.2
 have q2:=rnd_bd (a*m) s 4611686018427387904 q1.1 q1.2
 have q3:=clamp_in (rnd (a*m) s+z) hl hh
 have oz0:=@refRight_v (m) (s) (z)
 rcases bft (!rightQ m s) with hc0|hc0
 ·have gc0:rightQ m s=false:=by first|exact hc0|exact of_decide_eq_true hc0|exact of_decide_eq_false hc0|simpa [eqNums] using hc0|(simp[eqNums] at hc0 ⊢;first|done|assumption|omega)
  exact (cR_ [r_,.r [] [cr oz0],b_,r_] (i8 0) Tryz.func118 (.d2 oz0 hc0)).weak (A_ _) (M_ (by (unfold heldQ;rw[j_ (by simp_all)])))
 ·have gc0:rightQ m s=true:=by first|exact hc0|exact of_decide_eq_true hc0|exact of_decide_eq_false hc0|simpa [eqNums] using hc0|(simp[eqNums] at hc0 ⊢;first|done|assumption|omega)
  have oz5:=@refRound_v (a*m) (s) (by omega)
  have oz10:=@refSatHeld_v (rnd (a*m) s+z) (lo) (hi)
  have oz11:=(IntWalk.i8_in (clampI (rnd (a*m) s+z) lo hi) (by omega))
  exact (cR_ [r_,.r [] [cr oz0],d_,.r [] [.n a,.n m,.n (a*m),cr oz5,.n z,.n (rnd (a*m) s+z)],.r [] [.n lo,.n hi,cr oz10,.n (nO oz11)]] (i8 (clampI (rnd (a*m) s+z) lo hi)) Tryz.func118 (.c8 oz0 hc0 (i6n a (by omega)) (i6n m (by omega)) (i6n (a*m) (by omega)) oz5 (i6n z (by omega)) (i6n (rnd (a*m) s+z) (by omega))<|.d4 (i6n lo (by omega)) (i6n hi (by omega)) oz10 oz11)).weak (A_ _) (M_ (by (unfold heldQ;rw[i_ (by simp_all)])))
theorem refAfter_v (r:Rng) (n:Nod) (ok:n.Ok):VC N_ 93 ([i64 r.lo,i64 r.hi,.agg [i32 n.qm,i64 n.qs,i8 n.qz],i8 n.lo,i8 n.hi]) (.tup [i8 (afterE r n).lo,i8 (afterE r n).hi]):=by
 have ok_qm:=ok.qm
 have ok_qz:=ok.qz
 have ok_lo:=ok.lo
 have ok_hi:=ok.hi
 have q1:=held32_in r.lo
 have q2:=held32_in r.hi
 have oz0:=(CX_ (if 2147483647<if -2147483648>r.lo then -2147483648 else r.lo then 2147483647 else if -2147483648>r.lo then -2147483648 else r.lo) (by omega))
 have oz1:=@refHeld_v (if 2147483647<if -2147483648>r.lo then -2147483648 else r.lo then 2147483647 else if -2147483648>r.lo then -2147483648 else r.lo) (n.qm) (n.qs) (n.qz) (n.lo) (n.hi) (by omega) ok_qm ok_qz ok_lo ok_hi
 have oz2:=(CX_ (if 2147483647<if -2147483648>r.hi then -2147483648 else r.hi then 2147483647 else if -2147483648>r.hi then -2147483648 else r.hi) (by omega))
 have oz3:=@refHeld_v (if 2147483647<if -2147483648>r.hi then -2147483648 else r.hi then 2147483647 else if -2147483648>r.hi then -2147483648 else r.hi) (n.qm) (n.qs) (n.qz) (n.lo) (n.hi) (by omega) ok_qm ok_qz ok_lo ok_hi
 exact (cR_ [r_,.r [] [.n (nO oz0),cr oz1],.r [] [.n (nO oz2),cr oz3],r_] (AV.tup [i8 (if heldQ (if 2147483647<if -2147483648>r.hi then -2147483648 else r.hi then 2147483647 else if -2147483648>r.hi then -2147483648 else r.hi) n.qm n.qs n.qz n.lo n.hi<heldQ (if 2147483647<if -2147483648>r.lo then -2147483648 else r.lo then 2147483647 else if -2147483648>r.lo then -2147483648 else r.lo) n.qm n.qs n.qz n.lo n.hi then heldQ (if 2147483647<if -2147483648>r.hi then -2147483648 else r.hi then 2147483647 else if -2147483648>r.hi then -2147483648 else r.hi) n.qm n.qs n.qz n.lo n.hi else heldQ (if 2147483647<if -2147483648>r.lo then -2147483648 else r.lo then 2147483647 else if -2147483648>r.lo then -2147483648 else r.lo) n.qm n.qs n.qz n.lo n.hi),i8 (if heldQ (if 2147483647<if -2147483648>r.hi then -2147483648 else r.hi then 2147483647 else if -2147483648>r.hi then -2147483648 else r.hi) n.qm n.qs n.qz n.lo n.hi>heldQ (if 2147483647<if -2147483648>r.lo then -2147483648 else r.lo then 2147483647 else if -2147483648>r.lo then -2147483648 else r.lo) n.qm n.qs n.qz n.lo n.hi then heldQ (if 2147483647<if -2147483648>r.hi then -2147483648 else r.hi then 2147483647 else if -2147483648>r.hi then -2147483648 else r.hi) n.qm n.qs n.qz n.lo n.hi else heldQ (if 2147483647<if -2147483648>r.lo then -2147483648 else r.lo then 2147483647 else if -2147483648>r.lo then -2147483648 else r.lo) n.qm n.qs n.qz n.lo n.hi)]) Tryz.func93 (.d4 oz0 oz1 oz2 oz3)).weak (A_ _) (AZ_ (.cons (M_ (by (exact min_if _ _))) (.cons (M_ (by (exact max_if _ _))) .nil)))
def joinE (x y:Int) (n:Nod):Int:=if (rightQ n.qm n.qs&&rightQ n.rm n.rs)=true then clampI (rnd ((x-n.za)*n.qm) n.qs+rnd ((y-n.zb)*n.rm) n.rs+n.qz) n.lo n.hi else 0
theorem mul_bd9 (a m:Int) (a0 : -255≤a) (a1:a≤255) (hm:In32 m) : -547608330240≤a*m∧a*m≤547608330240:=by
 obtain ⟨m0,m1⟩:=hm
 have h1:(a.natAbs*m.natAbs:Nat)≤255*2147483648:=Nat.mul_le_mul (by omega) (by omega)
 have:=Int.natAbs_mul a m
 omega
theorem joinP (v z m s:Int) (h1:In8 v) (h2:In8 z) (h3:In32 m):(-547608330240≤(v-z)*m∧(v-z)*m≤547608330240) ∧ -547608330240≤rnd ((v-z)*m) s∧rnd ((v-z)*m) s≤547608330240:=by
 have q:=mul_bd9 (v-z) m (by omega) (by omega) h3
 exact ⟨q,rnd_bd _ s _ q.1 q.2⟩
theorem joinMay_v (n:Nod)  : VC N_ 148 ([nod n]) (bv (rightQ n.qm n.qs&&rightQ n.rm n.rs)):=by
 have oz0:=@right_v (n.qm) (n.qs) (n.qz)
 have oz1:=@right_v (n.rm) (n.rs) (n.rz)
 exact cR_ [r_,.r [] [cr oz0,o_,o_,o_,cr oz1,.sel 2]] _ Tryz.func148 (.d2 oz0 oz1)
theorem joinScaled_v (v z m s z2:Int) (h1:In8 v) (h2:In8 z) (h3:In32 m):VC N_ 150 ([i8 v,i8 z,.agg [i32 m,i64 s,i8 z2]]) (i64 (rnd ((v-z)*m) s)):=by
 have oz3:=@scale_v (v-z) (m) (s) (by omega) h3
 exact cR_ [r_,.r [] [.n v,.n z,.n (v-z),cr oz3]] _ Tryz.func150 (.d4 (CX_ v (by omega)) (CX_ z (by omega)) (CX_ (v-z) (by omega)) oz3)
theorem joinOne_v (x y:Int) (n:Nod) (ok:n.Ok) (hx:In8 x) (hy:In8 y):VC N_ 141 ([i8 x,i8 y,nod n]) (i8 (joinE x y n)):=by
 have ok_za:=ok.za
 have ok_zb:=ok.zb
 have ok_qm:=ok.qm
 have ok_rm:=ok.rm
 have ok_lo:=ok.lo
 have ok_hi:=ok.hi
 have ok_qz:=ok.qz
 have q1:=joinP x n.za n.qm n.qs hx ok.za ok.qm
 have q2:=joinP y n.zb n.rm n.rs hy ok.zb ok.rm
 have oz0:=@joinMay_v (n)
 rcases bft (!(rightQ n.qm n.qs&&rightQ n.rm n.rs)) with hc0|hc0
 ·have gc0:rightQ n.qm n.qs=false∨rightQ n.rm n.rs=false:=gc0_ hc0
  exact (cR_ [r_,.r [] [cr oz0],b_,r_] (i8 0) Tryz.func141 (.d2 oz0 hc0)).weak (A_ _) (M_ (by (unfold joinE;rw[j_ (by intro hh;simp only[O_] at hh;simp_all)])))
 ·have gc0:rightQ n.qm n.qs=true∧rightQ n.rm n.rs=true:=gc0_ hc0
  have oz2:=@joinScaled_v (x) (n.za) (n.qm) (n.qs) (n.qz) hx ok_za ok_qm
  have oz3:=@joinScaled_v (y) (n.zb) (n.rm) (n.rs) (n.rz) hy ok_zb ok_rm
  have oz4:=(i6n (rnd ((x-n.za)*n.qm) n.qs+rnd ((y-n.zb)*n.rm) n.rs) (by omega))
  have oz6:=(i6n (rnd ((x-n.za)*n.qm) n.qs+rnd ((y-n.zb)*n.rm) n.rs+n.qz) (by omega))
  have oz7:=@clamp_v (rnd ((x-n.za)*n.qm) n.qs+rnd ((y-n.zb)*n.rm) n.rs+n.qz) (n.lo) (n.hi) ok_lo ok_hi
  exact (cR_ [r_,.r [] [cr oz0],d_,.r [] [cr oz2,cr oz3,.n (nO oz4),.n n.qz,.n (nO oz6),cr oz7]] (i8 (clampI (rnd ((x-n.za)*n.qm) n.qs+rnd ((y-n.zb)*n.rm) n.rs+n.qz) n.lo n.hi)) Tryz.func141 (.d8 oz0 hc0 oz2 oz3 oz4 (i6n n.qz (by omega)) oz6 oz7)).weak (A_ _) (M_ (by (unfold joinE;rw[i_ (by simp_all)])))
theorem refJoinOne_v (x y:Int) (n:Nod) (ok:n.Ok) (hx:In8 x) (hy:In8 y):VC N_ 94 ([i8 x,i8 y,nod n]) (i8 (joinE x y n)):=by
 have ok_za:=ok.za
 have ok_zb:=ok.zb
 have ok_qm:=ok.qm
 have ok_rm:=ok.rm
 have ok_lo:=ok.lo
 have ok_hi:=ok.hi
 have ok_qz:=ok.qz
 have q1:=joinP x n.za n.qm n.qs hx ok.za ok.qm
 have q2:=joinP y n.zb n.rm n.rs hy ok.zb ok.rm
 have q3:=clamp_in (rnd ((x-n.za)*n.qm) n.qs+rnd ((y-n.zb)*n.rm) n.rs+n.qz) ok.lo ok.hi
 have oz0:=@refRight_v (n.qm) (n.qs) (n.qz)
 have oz1:=@refRight_v (n.rm) (n.rs) (n.rz)
 rcases bft (!rightQ n.qm n.qs || !rightQ n.rm n.rs) with hc0|hc0
 ·have gc0:rightQ n.qm n.qs=false∨rightQ n.rm n.rs=false:=gc0_ hc0
  exact (cR_ [r_,.r [] [cr oz0,o_,o_,o_,cr oz1,o_,.sel 1],b_,r_] (i8 0) Tryz.func94 (.d3 oz0 oz1 hc0)).weak (A_ _) (M_ (by (unfold joinE;rw[j_ (by intro hh;simp only[O_] at hh;simp_all)])))
 ·have gc0:rightQ n.qm n.qs=true∧rightQ n.rm n.rs=true:=gc0_ hc0
  have oz8:=@refRound_v ((x-n.za)*n.qm) (n.qs) (by omega)
  have oz14:=@refRound_v ((y-n.zb)*n.rm) (n.rs) (by omega)
  have oz15:=(i6n (rnd ((x-n.za)*n.qm) n.qs+rnd ((y-n.zb)*n.rm) n.rs) (by omega))
  have oz17:=(i6n (rnd ((x-n.za)*n.qm) n.qs+rnd ((y-n.zb)*n.rm) n.rs+n.qz) (by omega))
  have oz20:=@refSatHeld_v (rnd ((x-n.za)*n.qm) n.qs+rnd ((y-n.zb)*n.rm) n.rs+n.qz) (n.lo) (n.hi)
  have oz21:=(IntWalk.i8_in (clampI (rnd ((x-n.za)*n.qm) n.qs+rnd ((y-n.zb)*n.rm) n.rs+n.qz) n.lo n.hi) (by omega))
  exact (cR_ [r_,.r [] [cr oz0,o_,o_,o_,cr oz1,o_,.sel 1],d_,.r [] [.n x,.n n.za,.n (x-n.za),.n n.qm,.n ((x-n.za)*n.qm),cr oz8],.r [] [.n y,.n n.zb,.n (y-n.zb),.n n.rm,.n ((y-n.zb)*n.rm),cr oz14],.r [] [.n (nO oz15),.n n.qz,.n (nO oz17),.n n.lo,.n n.hi,cr oz20,.n (nO oz21)]] (i8 (clampI (rnd ((x-n.za)*n.qm) n.qs+rnd ((y-n.zb)*n.rm) n.rs+n.qz) n.lo n.hi)) Tryz.func94 (.c8 oz0 oz1 hc0 (i6n x (by omega)) (i6n n.za (by omega)) (i6n (x-n.za) (by omega)) (i6n n.qm (by omega)) (i6n ((x-n.za)*n.qm) (by omega))<|.c8 oz8 (i6n y (by omega)) (i6n n.zb (by omega)) (i6n (y-n.zb) (by omega)) (i6n n.rm (by omega)) (i6n ((y-n.zb)*n.rm) (by omega)) oz14 oz15<|.d6 (i6n n.qz (by omega)) oz17 (i6n n.lo (by omega)) (i6n n.hi (by omega)) oz20 oz21)).weak (A_ _) (M_ (by (unfold joinE;rw[i_ (by simp_all)])))
theorem refActOne_v (v:Int) (n:Nod) (ok:n.Ok) (hv:In8 v):VC N_ 95 ([i8 v,nod n]) (i8 (oneN v n)):=by
 have ok_za:=ok.za
 have ok_qm:=ok.qm
 have ok_qz:=ok.qz
 have ok_lo:=ok.lo
 have ok_hi:=ok.hi
 have oz3:=@refHeld_v (v-n.za) (n.qm) (n.qs) (n.qz) (n.lo) (n.hi) (by omega) ok_qm ok_qz ok_lo ok_hi
 exact (cR_ [r_,.r [] [.n v,.n n.za,.n (v-n.za),cr oz3]] (i8 (heldQ (v-n.za) n.qm n.qs n.qz n.lo n.hi)) Tryz.func95 (.d4 (CX_ v (by omega)) (CX_ n.za (by omega)) (CX_ (v-n.za) (by omega)) oz3)).weak (A_ _) (M_ (by rfl))
theorem all_le (w b:List Int) (lo hi z:Int) (g:Bool) (bl:b.length≤100000):(allR w b lo hi z g (if sharedB w b=true then b.length else 0)).length≤1000000:=by
 have:(allR w b lo hi z g (if sharedB w b=true then b.length else 0)).length=if sharedB w b=true then b.length else 0:=by simp[allR]
 rw[this];split<;>omega
def spansN (n:Nod) (a:Rng):List Rng:=allR n.w n.b a.lo a.hi n.za (decide (n.np>0)) (if sharedB n.w n.b=true then n.b.length else 0)
def sumG (n:Nod) (a:Rng):Rng×Int:=if (spansN n a).all holdB=true then (afterE (bothR (spansN n a) (spansN n a).length) n,0) else (⟨0,0⟩,10)
theorem sumG_y {n:Nod} {a:Rng} (h:(allR n.w n.b a.lo a.hi n.za (decide (n.np>0)) (if sharedB n.w n.b=true then n.b.length else 0)).all holdB=true):sumG n a=(afterE (bothR (spansN n a) (spansN n a).length) n,0):=i_ h
theorem summed_v (n:Nod) (a:Rng) (ok:n.Ok) (h1:In8 a.lo) (h2:In8 a.hi) (wl:n.w.length≤100000) (bl:n.b.length≤100000):VC N_ 140 ([nod n,rch a]) (.tup [rch (sumG n a).1,i64 (sumG n a).2]):=by
 have q:=all_le n.w n.b a.lo a.hi n.za (decide (n.np>0)) bl
 have oz0:=@all_v (n) (a.lo) (a.hi) ok h1 h2 wl bl
 have oz1:=@holds_v (allR n.w n.b a.lo a.hi n.za (decide (n.np>0)) (if sharedB n.w n.b=true then n.b.length else 0)) q
 rcases bft (!(allR n.w n.b a.lo a.hi n.za (decide (n.np>0)) (if sharedB n.w n.b=true then n.b.length else 0)).all holdB) with hc0|hc0
 ·have gc0:(allR n.w n.b a.lo a.hi n.za (decide (n.np>0)) (if sharedB n.w n.b=true then n.b.length else 0)).all holdB=false:=by first|exact hc0|exact of_decide_eq_true hc0|exact of_decide_eq_false hc0|simpa [eqNums] using hc0|(simp[eqNums] at hc0 ⊢;first|done|assumption|omega)
  exact (cR_ [r_,.r [] [cr oz0],.r [] [cr oz1],b_,r_] (AV.tup [AV.agg [i8 0,i8 0],i64 10]) Tryz.func140 (.d3 oz0 oz1 hc0)).weak (A_ _) (AZ_ (.cons (AD_ (.cons (M_ (by (unfold sumG spansN;rw[j_ (by simp_all)]))) (.cons (M_ (by (unfold sumG spansN;rw[j_ (by simp_all)]))) .nil))) (.cons (M_ (by (unfold sumG spansN;rw[j_ (by simp_all)]))) .nil)))
 ·have gc0:(allR n.w n.b a.lo a.hi n.za (decide (n.np>0)) (if sharedB n.w n.b=true then n.b.length else 0)).all holdB=true:=by first|exact hc0|exact of_decide_eq_true hc0|exact of_decide_eq_false hc0|simpa [eqNums] using hc0|(simp[eqNums] at hc0 ⊢;first|done|assumption|omega)
  have oz3:=@both_v (allR n.w n.b a.lo a.hi n.za (decide (n.np>0)) (if sharedB n.w n.b=true then n.b.length else 0)) q
  have oz4:=@after_v (bothR (allR n.w n.b a.lo a.hi n.za (decide (n.np>0)) (if sharedB n.w n.b=true then n.b.length else 0)) (allR n.w n.b a.lo a.hi n.za (decide (n.np>0)) (if sharedB n.w n.b=true then n.b.length else 0)).length) (n) ok
  exact (cR_ [r_,.r [] [cr oz0],.r [] [cr oz1],d_,.r [] [cr oz3,cr oz4],r_] (AV.tup [AV.agg [i8 (afterE (bothR (allR n.w n.b a.lo a.hi n.za (decide (n.np>0)) (if sharedB n.w n.b=true then n.b.length else 0)) (allR n.w n.b a.lo a.hi n.za (decide (n.np>0)) (if sharedB n.w n.b=true then n.b.length else 0)).length) n).lo,i8 (afterE (bothR (allR n.w n.b a.lo a.hi n.za (decide (n.np>0)) (if sharedB n.w n.b=true then n.b.length else 0)) (allR n.w n.b a.lo a.hi n.za (decide (n.np>0)) (if sharedB n.w n.b=true then n.b.length else 0)).length) n).hi],i64 0]) Tryz.func140 (.d5 oz0 oz1 hc0 oz3 oz4)).weak (A_ _) (AZ_ (.cons (AD_ (.cons (M_ (by (rw[sumG_y (by assumption)]<;>rfl))) (.cons (M_ (by (rw[sumG_y (by assumption)]<;>rfl))) .nil))) (.cons (M_ (by (rw[sumG_y (by assumption)]<;>rfl))) .nil)))
def Rng.In8 (a:Rng):Prop:=Go.Proofs.YtdmkhinckljddaaGreatDoor.In8 a.lo∧Go.Proofs.YtdmkhinckljddaaGreatDoor.In8 a.hi
def nodeR (n:Nod) (a b:Rng):Rng×Int :=
 if checkE n≠0 then (⟨0,0⟩,checkE n) else if a.lo>a.hi∨(n.kd=6∧b.lo>b.hi) then (⟨0,0⟩,2)
 else if n.kd=1∨n.kd=2∨n.kd=3 then sumG n a
 else if n.kd=6 then (⟨joinE a.lo b.lo n,joinE a.hi b.hi n⟩,0)
 else if n.kd=7 then (⟨oneN a.lo n,oneN a.hi n⟩,0)
 else if n.kd=8∧n.np>0 then (⟨min a.lo n.za,max a.hi n.za⟩,0) else (a,0)
noncomputable def ends64_l_I (a:Int) (l:List Int) (k:Nat):VS:=stt 27 [(6,i64 (foldR a l k).lo),(7,i64 (foldR a l k).hi),(12,ints .i64 l),(13,i64 l.length),(14,i64 k)] []
noncomputable def ends64_l_Z (a:Int) (l:List Int):VS:=ends64_l_I a l (l.length)
theorem ends64_l_s (a:Int) (l:List Int) (hl:l.length≤1000) (k:Nat) (hk:k<l.length):VT N_ (fnC Tryz.f127 [1,1,0,1,0,0]) (ends64_l_I a l k) .normal (ends64_l_I a l (k+1)):=by
 have oz4:=(M_ (k:=.i64) (show ((if l.getD k 0<(foldR a l k).lo then l.getD k 0 else (foldR a l k).lo):Int)=((foldR a l (k+1)).lo) from (by (simp only[foldR];split<;>omega))))
 have oz5:=(M_ (k:=.i64) (show ((if l.getD k 0>(foldR a l k).hi then l.getD k 0 else (foldR a l k).hi):Int)=((foldR a l (k+1)).hi) from (by (simp only[foldR];split<;>omega))))
 exact tR_ [r_,b_,.r [] [.row [i64 (l.getD k 0)]],r_,.r [] [.n ((↑k:Int)+1)]] [.any (rg [(9,1),(15,10)]),.weak 6 (wO oz4),.weak 7 (wO oz5),.weak 14 (i64 (↑(k+1):Int)),.sort] (.d7 (decide_eq_true (p:=((↑k:Int)<(l.length:Int))) (by omega)) (s_ (0≤(↑k:Int))) (map_at (row1 .i64) (0) (l:=l) (i:=k) hk) (i6n ((↑k:Int)+1) (by omega)) oz4 oz5 (wS_ k))
theorem ends64_l_e (a:Int) (l:List Int) (hl:l.length≤1000):VT N_ (fnC Tryz.f127 [1,1,0,1,0,0]) (ends64_l_I a l (l.length)) (.exit 0) (ends64_l_Z a l):=by
 exact tR_ [r_,d_] [.any [15],.sort] (.d (decide_eq_false (p:=((l.length:Int)<(l.length:Int))) (by omega)))
theorem ends64_l (a:Int) (l:List Int) (hl:l.length≤1000):VT N_ (fnC Tryz.f127 [1,1,0,1,0]) (ends64_l_I a l 0) (.exit 0) (ends64_l_Z a l) :=
 VT.loop (fun k=>ends64_l_I a l k) (l.length) (fun k hk=>ends64_l_s a l hl k hk) (ends64_l_e a l hl) (by intro h;cases h)
theorem ends64_v (a:Int) (l:List Int) (hl:l.length≤1000):VC N_ 127 ([i64 a,ints .i64 l]) (.tup [i64 (foldR a l l.length).lo,i64 (foldR a l l.length).hi]):=by
 have oz1:=(M_ (k:=.i64) (show ((((K_ (row1 .i64) l).length:Int)):Int)=((l.length:Int)) from (by (simp;done))))
 have oz3:=@ends64_l (a) (l) hl
 exact cR_ [r_,r_,r_,.code [.any [0,1,4,5,10,11],.weak 7 (i64 (foldR a l 0).hi),.weak 13 (wO oz1),.weak 14 (i64 (↑0:Int)),.sort] (AI_ 0) (zO oz3),r_] _ Tryz.func127 (.d4 (M_ (k:=.i64) (show ((a):Int)=((foldR a l 0).hi) from (by rfl))) oz1 w0_ oz3)
theorem ends64_1 (a b:Int):VC N_ 127 [i64 a,.sl 1 [[i64 b]]] (.tup [i64 (min a b),i64 (max a b)]):=ends64_v a [b] (by simp)
noncomputable def ends8_l_I (a:Int) (l:List Int) (k:Nat):VS:=stt 27 [(6,i8 (foldR a l k).lo),(7,i8 (foldR a l k).hi),(12,ints .i8 l),(13,i64 l.length),(14,i64 k)] []
noncomputable def ends8_l_Z (a:Int) (l:List Int):VS:=ends8_l_I a l (l.length)
theorem ends8_l_s (a:Int) (l:List Int) (hl:l.length≤1000) (k:Nat) (hk:k<l.length):VT N_ (fnC Tryz.f152 [1,1,0,1,0,0]) (ends8_l_I a l k) .normal (ends8_l_I a l (k+1)):=by
 have oz4:=(M_ (k:=.i8) (show ((if l.getD k 0<(foldR a l k).lo then l.getD k 0 else (foldR a l k).lo):Int)=((foldR a l (k+1)).lo) from (by (simp only[foldR];split<;>omega))))
 have oz5:=(M_ (k:=.i8) (show ((if l.getD k 0>(foldR a l k).hi then l.getD k 0 else (foldR a l k).hi):Int)=((foldR a l (k+1)).hi) from (by (simp only[foldR];split<;>omega))))
 exact tR_ [r_,b_,.r [] [.row [i8 (l.getD k 0)]],r_,.r [] [.n ((↑k:Int)+1)]] [.any (rg [(9,1),(15,10)]),.weak 6 (wO oz4),.weak 7 (wO oz5),.weak 14 (i64 (↑(k+1):Int)),.sort] (.d7 (decide_eq_true (p:=((↑k:Int)<(l.length:Int))) (by omega)) (s_ (0≤(↑k:Int))) (map_at (row1 .i8) (0) (l:=l) (i:=k) hk) (i6n ((↑k:Int)+1) (by omega)) oz4 oz5 (wS_ k))
theorem ends8_l_e (a:Int) (l:List Int) (hl:l.length≤1000):VT N_ (fnC Tryz.f152 [1,1,0,1,0,0]) (ends8_l_I a l (l.length)) (.exit 0) (ends8_l_Z a l):=by
 exact tR_ [r_,d_] [.any [15],.sort] (.d (decide_eq_false (p:=((l.length:Int)<(l.length:Int))) (by omega)))
theorem ends8_l (a:Int) (l:List Int) (hl:l.length≤1000):VT N_ (fnC Tryz.f152 [1,1,0,1,0]) (ends8_l_I a l 0) (.exit 0) (ends8_l_Z a l) :=
 VT.loop (fun k=>ends8_l_I a l k) (l.length) (fun k hk=>ends8_l_s a l hl k hk) (ends8_l_e a l hl) (by intro h;cases h)
theorem ends8_v (a:Int) (l:List Int) (hl:l.length≤1000):VC N_ 152 ([i8 a,ints .i8 l]) (.tup [i8 (foldR a l l.length).lo,i8 (foldR a l l.length).hi]):=by
 have oz1:=(M_ (k:=.i64) (show ((((K_ (row1 .i8) l).length:Int)):Int)=((l.length:Int)) from (by (simp;done))))
 have oz3:=@ends8_l (a) (l) hl
 exact cR_ [r_,r_,r_,.code [.any [0,1,4,5,10,11],.weak 7 (i8 (foldR a l 0).hi),.weak 13 (wO oz1),.weak 14 (i64 (↑0:Int)),.sort] (AI_ 0) (zO oz3),r_] _ Tryz.func152 (.d4 (M_ (k:=.i8) (show ((a):Int)=((foldR a l 0).hi) from (by rfl))) oz1 w0_ oz3)
theorem ends8_2 (a b c:Int):VC N_ 152 [i8 a,.sl 1 [[i8 b],[i8 c]]] (.tup [i8 (min (min a b) c),i8 (max (max a b) c)]):=ends8_v a [b,c] (by simp)
theorem over_v (a b c:Int)  : VC N_ 143 ([i8 a,.sl 1 [[i8 b],[i8 c]]]) (rch ⟨min (min a b) c,max (max a b) c⟩):=by
 have oz0:=@ends8_2 (a) (b) (c)
 exact cR_ [r_,.r [] [cr oz0],r_] _ Tryz.func143 (.d oz0)
theorem gnode_v (n:Nod) (a b:Rng) (ok:n.Ok) (ha:a.In8) (hb:b.In8) (wl:n.w.length≤100000) (bl:n.b.length≤100000):VC N_ 128 ([nod n,rch a,rch b]) (.tup [rch (nodeR n a b).1,i64 (nodeR n a b).2]):=by
 have ok_kd:=ok.kd
 obtain ⟨p1,p2⟩:=id ha
 obtain ⟨p3,p4⟩:=id hb
 have oz0:=@check_v (n) wl bl ok_kd
 rcases bft (checkE n != 0) with hc0|hc0
 ·have gc0:¬checkE n=0:=bdt hc0
  exact (cR_ [r_,.r [] [cr oz0],r_,b_,r_] (AV.tup [AV.agg [i8 0,i8 0],i64 (checkE n)]) Tryz.func128 (.d2 oz0 hc0)).weak (A_ _) (AZ_ (.cons (AD_ (.cons (M_ (by (unfold nodeR;(repeat first|rw[i_ (by omega)]|rw[j_ (by omega)])))) (.cons (M_ (by (unfold nodeR;(repeat first|rw[i_ (by omega)]|rw[j_ (by omega)])))) .nil))) (.cons (M_ (by (unfold nodeR;(repeat first|rw[i_ (by omega)]|rw[j_ (by omega)])))) .nil)))
 ·have gc0:checkE n=0:=bdf hc0
  have oz2:=@upside_v (a.lo) (a.hi)
  have oz3:=@upside_v (b.lo) (b.hi)
  rcases bft (decide (a.lo>a.hi) || n.kd==6&&decide (b.lo>b.hi)) with hc1|hc1
  ·have gc1:a.lo>a.hi∨n.kd=6∧b.lo>b.hi:=gc0_ hc1
   exact (cR_ [r_,.r [] [cr oz0],r_,d_,.r [] [cr oz2,o_,o_,o_,o_,o_,o_,cr oz3,o_,.sel 2,.sel 1],b_,r_] (AV.tup [AV.agg [i8 0,i8 0],i64 2]) Tryz.func128 (.d5 oz0 hc0 oz2 oz3 hc1)).weak (A_ _) (AZ_ (.cons (AD_ (.cons (M_ (by (unfold nodeR;(repeat first|rw[i_ (by omega)]|rw[j_ (by omega)])))) (.cons (M_ (by (unfold nodeR;(repeat first|rw[i_ (by omega)]|rw[j_ (by omega)])))) .nil))) (.cons (M_ (by (unfold nodeR;(repeat first|rw[i_ (by omega)]|rw[j_ (by omega)])))) .nil)))
  ·have gc1:¬a.lo>a.hi∧(¬n.kd=6∨¬b.lo>b.hi):=gc0_ hc1
   have oz5:=@sumsK_v (n.kd)
   rcases bft (n.kd==1 || n.kd==2 || n.kd==3) with hc2|hc2
   ·have gc2:(n.kd=1∨n.kd=2)∨n.kd=3:=gc0_ hc2
    have oz7:=@summed_v (n) (a) ok p1 p2 wl bl
    exact (cR_ [r_,.r [] [cr oz0],r_,d_,.r [] [cr oz2,o_,o_,o_,o_,o_,o_,cr oz3,o_,.sel 2,.sel 1],d_,.r [] [cr oz5],b_,.r [] [cr oz7]] (AV.tup [AV.agg [i8 (sumG n a).fst.lo,i8 (sumG n a).fst.hi],i64 (sumG n a).snd]) Tryz.func128 (.d8 oz0 hc0 oz2 oz3 hc1 oz5 hc2 oz7)).weak (A_ _) (AZ_ (.cons (AD_ (.cons (M_ (by (unfold nodeR;(repeat first|rw[i_ (by omega)]|rw[j_ (by omega)])))) (.cons (M_ (by (unfold nodeR;(repeat first|rw[i_ (by omega)]|rw[j_ (by omega)])))) .nil))) (.cons (M_ (by (unfold nodeR;(repeat first|rw[i_ (by omega)]|rw[j_ (by omega)])))) .nil)))
   ·have gc2:(¬n.kd=1∧¬n.kd=2)∧¬n.kd=3:=gc0_ hc2
    rcases bft (n.kd==6) with hc3|hc3
    ·have gc3:n.kd=6:=bet hc3
     have oz8:=@joinOne_v (a.lo) (b.lo) (n) ok p1 p3
     have oz9:=@joinOne_v (a.hi) (b.hi) (n) ok p2 p4
     exact (cR_ [r_,.r [] [cr oz0],r_,d_,.r [] [cr oz2,o_,o_,o_,o_,o_,o_,cr oz3,o_,.sel 2,.sel 1],d_,.r [] [cr oz5],d_,r_,b_,.r [] [cr oz8,cr oz9]] (AV.tup [AV.agg [i8 (joinE a.lo b.lo n),i8 (joinE a.hi b.hi n)],i64 0]) Tryz.func128 (.c8 oz0 hc0 oz2 oz3 hc1 oz5 hc2 hc3<|.d2 oz8 oz9)).weak (A_ _) (AZ_ (.cons (AD_ (.cons (M_ (by (unfold nodeR;(repeat first|rw[i_ (by omega)]|rw[j_ (by omega)])))) (.cons (M_ (by (unfold nodeR;(repeat first|rw[i_ (by omega)]|rw[j_ (by omega)])))) .nil))) (.cons (M_ (by (unfold nodeR;(repeat first|rw[i_ (by omega)]|rw[j_ (by omega)])))) .nil)))
    ·have gc3:¬n.kd=6:=bef hc3
     rcases bft (n.kd==7) with hc4|hc4
     ·have gc4:n.kd=7:=bet hc4
      have oz9:=@actOne_w (a.lo) (n) ok p1
      have oz10:=@actOne_w (a.hi) (n) ok p2
      exact (cR_ [r_,.r [] [cr oz0],r_,d_,.r [] [cr oz2,o_,o_,o_,o_,o_,o_,cr oz3,o_,.sel 2,.sel 1],d_,.r [] [cr oz5],d_,r_,d_,r_,b_,.r [] [cr oz9,cr oz10]] (AV.tup [AV.agg [i8 (oneN a.lo n),i8 (oneN a.hi n)],i64 0]) Tryz.func128 (.c8 oz0 hc0 oz2 oz3 hc1 oz5 hc2 hc3<|.d3 hc4 oz9 oz10)).weak (A_ _) (AZ_ (.cons (AD_ (.cons (M_ (by (unfold nodeR;(repeat first|rw[i_ (by omega)]|rw[j_ (by omega)])))) (.cons (M_ (by (unfold nodeR;(repeat first|rw[i_ (by omega)]|rw[j_ (by omega)])))) .nil))) (.cons (M_ (by (unfold nodeR;(repeat first|rw[i_ (by omega)]|rw[j_ (by omega)])))) .nil)))
     ·have gc4:¬n.kd=7:=bef hc4
      rcases bft (n.kd==8&&decide (n.np>0)) with hc5|hc5
      ·have gc5:n.kd=8∧n.np>0:=gc0_ hc5
       have oz10:=@over_v (n.za) (a.lo) (a.hi)
       exact (cR_ [r_,.r [] [cr oz0],r_,d_,.r [] [cr oz2,o_,o_,o_,o_,o_,o_,cr oz3,o_,.sel 2,.sel 1],d_,.r [] [cr oz5],d_,r_,d_,r_,d_,.r [] [o_,o_,o_,.sel 2],b_,.r [] [cr oz10]] (AV.tup [AV.agg [i8 (Rng.mk (min (min n.za a.lo) a.hi) (max (max n.za a.lo) a.hi)).lo,i8 (Rng.mk (min (min n.za a.lo) a.hi) (max (max n.za a.lo) a.hi)).hi],i64 0]) Tryz.func128 (.c8 oz0 hc0 oz2 oz3 hc1 oz5 hc2 hc3<|.d3 hc4 hc5 oz10)).weak (A_ _) (AZ_ (.cons (AD_ (.cons (M_ (by (unfold nodeR;(repeat first|rw[i_ (by omega)]|rw[j_ (by omega)]);dsimp only;omega))) (.cons (M_ (by (unfold nodeR;(repeat first|rw[i_ (by omega)]|rw[j_ (by omega)]);dsimp only;omega))) .nil))) (.cons (M_ (by (unfold nodeR;(repeat first|rw[i_ (by omega)]|rw[j_ (by omega)])))) .nil)))
      ·have gc5:¬n.kd=8∨¬n.np>0:=gc0_ hc5
       exact (cR_ [r_,.r [] [cr oz0],r_,d_,.r [] [cr oz2,o_,o_,o_,o_,o_,o_,cr oz3,o_,.sel 2,.sel 1],d_,.r [] [cr oz5],d_,r_,d_,r_,d_,.r [] [o_,o_,o_,.sel 2],d_,r_] (AV.tup [AV.agg [i8 a.lo,i8 a.hi],i64 0]) Tryz.func128 (.c8 oz0 hc0 oz2 oz3 hc1 oz5 hc2 hc3<|.d2 hc4 hc5)).weak (A_ _) (AZ_ (.cons (AD_ (.cons (M_ (by (unfold nodeR;(repeat first|rw[i_ (by omega)]|rw[j_ (by omega)])))) (.cons (M_ (by (unfold nodeR;(repeat first|rw[i_ (by omega)]|rw[j_ (by omega)])))) .nil))) (.cons (M_ (by (unfold nodeR;(repeat first|rw[i_ (by omega)]|rw[j_ (by omega)])))) .nil)))
def stepR (n:Nod) (L:List Rng):Rng×Int:=if thereB n L.length=true then nodeR n (L.getD n.na.toNat default) (L.getD (secN n).toNat default) else (⟨0,0⟩,8)
theorem gstep_v (n:Nod) (L:List Rng) (ok:n.Ok) (okL:∀ r∈L,r.In8) (hL:L.length≤100) (wl:n.w.length≤100000) (bl:n.b.length≤100000):VC N_ 103 ([nod n,.sl 2 (L.map rchC)]) (.tup [rch (stepR n L).1,i64 (stepR n L).2]):=by
 have q1:=@there_iff n L.length
 have q2:(K_ rchC L).length=L.length:=Q_ _
 have q3:=fun (h:n.na.toNat<L.length)=>getD_in okL h
 have q4:=fun (h:(secN n).toNat<L.length)=>getD_in okL h
 have q5:n.kd=6→secN n=n.nb:=fun h=>i_ h
 have q6:¬ n.kd=6→secN n=n.na:=fun h=>j_ h
 rcases bft (n.kd==6) with hc0|hc0
 ·have gc0:n.kd=6:=bet hc0
  have oz1:=@ends64_1 (n.na) (n.nb)
  rcases bft (decide (min n.na n.nb<0) || decide (max n.na n.nb≥((K_ rchC L).length:Int))) with hc1|hc1
  ·have gc1:min n.na n.nb<0∨max n.na n.nb≥((K_ rchC L).length:Int):=gc0_ hc1
   exact (cR_ [r_,r_,r_,b_,r_,.r [] [cr oz1],.r [] [o_,o_,o_,o_,.sel 1],b_,r_] (AV.tup [AV.agg [i8 0,i8 0],i64 8]) Tryz.func103 (.d3 hc0 oz1 hc1)).weak (A_ _) (AZ_ (.cons (AD_ (.cons (M_ (by (unfold stepR;rw[j_ (by rw[q1];omega)]))) (.cons (M_ (by (unfold stepR;rw[j_ (by rw[q1];omega)]))) .nil))) (.cons (M_ (by (unfold stepR;rw[j_ (by rw[q1];omega)]))) .nil)))
  ·have gc1:¬min n.na n.nb<0∧¬max n.na n.nb≥((K_ rchC L).length:Int):=gc0_ hc1
   have oz4:=(map_at (rchC) (default) (l:=L) (i:=n.na.toNat) (by omega))
   have oz6:=(map_at (rchC) (default) (l:=L) (i:=n.nb.toNat) (by omega))
   have oz7:=@gnode_v (n) (L.getD n.na.toNat default) (L.getD n.nb.toNat default) ok (by (exact q3 (by omega))) (by (rw[←q5 (by omega)];exact q4 (by rw[q5 (by omega)];omega))) wl bl
   exact (cR_ [r_,r_,r_,b_,r_,.r [] [cr oz1],.r [] [o_,o_,o_,o_,.sel 1],d_,.r [] [.row (sO oz4),.row (sO oz6),cr oz7]] (AV.tup [AV.agg [i8 (nodeR n (L.getD n.na.toNat default) (L.getD n.nb.toNat default)).fst.lo,i8 (nodeR n (L.getD n.na.toNat default) (L.getD n.nb.toNat default)).fst.hi],i64 (nodeR n (L.getD n.na.toNat default) (L.getD n.nb.toNat default)).snd]) Tryz.func103 (.d8 hc0 oz1 hc1 (s_ (0≤n.na)) oz4 (s_ (0≤n.nb)) oz6 oz7)).weak (A_ _) (AZ_ (.cons (AD_ (.cons (M_ (by (unfold stepR;rw[q5 (by omega),i_ (by rw[q1];omega)]))) (.cons (M_ (by (unfold stepR;rw[q5 (by omega),i_ (by rw[q1];omega)]))) .nil))) (.cons (M_ (by (unfold stepR;rw[q5 (by omega),i_ (by rw[q1];omega)]))) .nil)))
 ·have gc0:¬n.kd=6:=bef hc0
  have oz1:=@ends64_1 (n.na) (n.na)
  rcases bft (decide (min n.na n.na<0) || decide (max n.na n.na≥((K_ rchC L).length:Int))) with hc1|hc1
  ·have gc1:min n.na n.na<0∨max n.na n.na≥((K_ rchC L).length:Int):=gc0_ hc1
   exact (cR_ [r_,r_,r_,d_,.r [] [cr oz1],.r [] [o_,o_,o_,o_,.sel 1],b_,r_] (AV.tup [AV.agg [i8 0,i8 0],i64 8]) Tryz.func103 (.d3 hc0 oz1 hc1)).weak (A_ _) (AZ_ (.cons (AD_ (.cons (M_ (by (unfold stepR;rw[j_ (by rw[q1];omega)]))) (.cons (M_ (by (unfold stepR;rw[j_ (by rw[q1];omega)]))) .nil))) (.cons (M_ (by (unfold stepR;rw[j_ (by rw[q1];omega)]))) .nil)))
  ·have gc1:¬min n.na n.na<0∧¬max n.na n.na≥((K_ rchC L).length:Int):=gc0_ hc1
   have oz3:=(s_ (0≤n.na))
   have oz4:=(map_at (rchC) (default) (l:=L) (i:=n.na.toNat) (by omega))
   have oz7:=@gnode_v (n) (L.getD n.na.toNat default) (L.getD n.na.toNat default) ok (by (exact q3 (by omega))) (by (exact q3 (by omega))) wl bl
   exact (cR_ [r_,r_,r_,d_,.r [] [cr oz1],.r [] [o_,o_,o_,o_,.sel 1],d_,.r [] [.row (sO oz4),.row (sO oz4),cr oz7]] (AV.tup [AV.agg [i8 (nodeR n (L.getD n.na.toNat default) (L.getD n.na.toNat default)).fst.lo,i8 (nodeR n (L.getD n.na.toNat default) (L.getD n.na.toNat default)).fst.hi],i64 (nodeR n (L.getD n.na.toNat default) (L.getD n.na.toNat default)).snd]) Tryz.func103 (.d8 hc0 oz1 hc1 oz3 oz4 oz3 oz4 oz7)).weak (A_ _) (AZ_ (.cons (AD_ (.cons (M_ (by (unfold stepR;rw[q6 (by omega),i_ (by rw[q1];omega)]))) (.cons (M_ (by (unfold stepR;rw[q6 (by omega),i_ (by rw[q1];omega)]))) .nil))) (.cons (M_ (by (unfold stepR;rw[q6 (by omega),i_ (by rw[q1];omega)]))) .nil)))
def FOK (l:List Nod) (a:Rng):Prop:=0<l.length∧l.length≤8∧a.lo≤a.hi∧∀ k,k<l.length→errL stepR l a k=0
theorem nodeR_in {n:Nod} {a b:Rng} (ok:n.Ok) (ha:a.In8) (hb:b.In8):(nodeR n a b).1.In8:=by
 have hz:Rng.In8 ⟨0,0⟩:=⟨⟨by dsimp only;decide,by dsimp only;decide⟩,⟨by dsimp only;decide,by dsimp only;decide⟩⟩
 have held:∀ x m s z,In8 (heldQ x m s z n.lo n.hi):=fun x m s z=>by
  unfold heldQ;split
  ·exact clamp_in _ ok.lo ok.hi
  ·exact ⟨by decide,by decide⟩
 unfold nodeR
 split
 ·exact hz
 ·split
  ·exact hz
  ·split
   ·unfold sumG;split
    ·unfold afterE
     have h1:=held (held32 (bothR (spansN n a) (spansN n a).length).lo) n.qm n.qs n.qz
     have h2:=held (held32 (bothR (spansN n a) (spansN n a).length).hi) n.qm n.qs n.qz
     constructor<;>dsimp only<;>omega
    ·exact hz
   ·split
    ·have hj:∀ x y,In8 (joinE x y n):=fun x y=>by
      unfold joinE;split
      ·exact clamp_in _ ok.lo ok.hi
      ·exact ⟨by decide,by decide⟩
     exact ⟨hj _ _,hj _ _⟩
    ·split
     ·exact ⟨held _ _ _ _,held _ _ _ _⟩
     ·obtain ⟨p1,p2⟩:=ha
      have p3:=ok.za
      split
      ·constructor<;>dsimp only<;>omega
      ·exact ⟨p1,p2⟩
theorem stepR_in {n:Nod} {L:List Rng} (ok:n.Ok) (hL:∀ r∈L,r.In8):(stepR n L).1.In8:=by
 unfold stepR
 split
 ·rename_i h
  have h:=there_iff.1 h
  exact nodeR_in ok (getD_in hL (by omega)) (getD_in hL (by omega))
 ·exact ⟨⟨by dsimp only;decide,by dsimp only;decide⟩,⟨by dsimp only;decide,by dsimp only;decide⟩⟩
theorem flow_in {l:List Nod} {a:Rng} (okl:∀ n∈l,n.Ok) (ha:a.In8) {k:Nat} (hk:k≤l.length):∀ r∈growL stepR l a k,r.In8 :=
 growL_all (n:=k) ha (fun j hj h=>stepR_in (getD_in okl (by omega)) h) k (AV_ _)
noncomputable def flow_ly_I (l:List Nod) (a:Rng) (k:Nat):VS:=stt 50 [(0,.sl 19 (l.map nodC)),(7,.own 900),(25,.sl 19 (l.map nodC)),(26,i64 l.length),(27,i64 k)] [(900,.slc 164 2 ((growL stepR l a k).map rchC))]
noncomputable def flow_ly_Z (l:List Nod) (a:Rng):VS:=flow_ly_I l a (l.length)
theorem flow_ly_s (l:List Nod) (a:Rng) (okl:∀ n∈l,n.Ok) (wl:∀ n∈l,n.w.length≤100000∧n.b.length≤100000) (ha:a.In8) (f8:l.length≤8) (h:∀ k,k<l.length→errL stepR l a k=0) (k:Nat) (hk:k<l.length):VT N_ (fnC Tryz.f86 [1,1,1,0,1,0,0]) (flow_ly_I l a k) .normal (flow_ly_I l a (k+1)):=by
 have q:=h k hk
 have q1:=growL_len stepR l a k
 have q2:=flow_in okl ha (Nat.le_of_lt hk)
 have q3:=getD_in okl hk
 have q4:=getD_in wl hk
 obtain ⟨q5,q6⟩:=q4
 unfold errL at q
 have oz2:=(map_at (nodC) (default) (l:=l) (i:=k) hk)
 have oz3:=@gstep_v (l.getD k default) (growL stepR l a k) q3 q2 (by omega) q5 q6
 exact tR_ [r_,b_,.r [] [.row (sO oz2)],.r [] [cr oz3],r_,d_,r_,.r [] [.n ((↑k:Int)+1)]] [.any (rg [(8,4),(28,12),(42,5)]),.drop [9,10,44],.ren 45 900,.weak 27 (i64 (↑(k+1):Int)),.blk 900 (Blk.slc 164 2 (K_ rchC (growL stepR l a (k+1)))),.sort] (.c8 (decide_eq_true (p:=((↑k:Int)<(l.length:Int))) (by omega)) (s_ (0≤(↑k:Int))) oz2 oz3 (show ((stepR (l.getD k default) (growL stepR l a k)).snd != 0)=false by (simp at *;omega)) (show ((K_ rchC (growL stepR l a k)).length+1)*2≤140737488355328 by (simp;omega)) (show (K_ rchC (growL stepR l a k)).length+1≤9223372036854775807 by (simp;omega)) (i6n ((↑k:Int)+1) (by omega))<|.d2 (wS_ k) (show BlkW (Blk.slc 164 2 (K_ rchC (growL stepR l a k)++[[i8 (stepR (l.getD k default) (growL stepR l a k)).fst.lo,i8 (stepR (l.getD k default) (growL stepR l a k)).fst.hi]])) (Blk.slc 164 2 (K_ rchC (growL stepR l a (k+1)))) from (BZ_ (e:=164) (z:=2) (rows_to (rchC) (r:=K_ rchC (growL stepR l a k)++[[i8 (stepR (l.getD k default) (growL stepR l a k)).fst.lo,i8 (stepR (l.getD k default) (growL stepR l a k)).fst.hi]]) (l:=growL stepR l a k++[Rng.mk (stepR (l.getD k default) (growL stepR l a k)).fst.lo (stepR (l.getD k default) (growL stepR l a k)).fst.hi]) (m:=growL stepR l a (k+1)) (by first|(simp only[X_,Z_,AL_,AM_,V_,D_,AK_];done)|rfl|(simp only[X_,Z_,AL_,AM_,V_,D_,AK_];rfl)|(simp only[X_,Z_,AL_,AM_,V_,D_,AK_,rchC,ints];done)) (show (growL stepR l a k++[Rng.mk (stepR (l.getD k default) (growL stepR l a k)).fst.lo (stepR (l.getD k default) (growL stepR l a k)).fst.hi])=(growL stepR l a (k+1)) from (by rfl))))))
theorem flow_ly_e (l:List Nod) (a:Rng) (okl:∀ n∈l,n.Ok) (wl:∀ n∈l,n.w.length≤100000∧n.b.length≤100000) (ha:a.In8) (f8:l.length≤8) (h:∀ k,k<l.length→errL stepR l a k=0):VT N_ (fnC Tryz.f86 [1,1,1,0,1,0,0]) (flow_ly_I l a (l.length)) (.exit 1) (flow_ly_Z l a):=by
 exact tR_ [r_,d_] [.any [28],.sort] (.d (decide_eq_false (p:=((l.length:Int)<(l.length:Int))) (by omega)))
theorem flow_ly (l:List Nod) (a:Rng) (okl:∀ n∈l,n.Ok) (wl:∀ n∈l,n.w.length≤100000∧n.b.length≤100000) (ha:a.In8) (f8:l.length≤8) (h:∀ k,k<l.length→errL stepR l a k=0):VT N_ (fnC Tryz.f86 [1,1,1,0,1,0]) (flow_ly_I l a 0) (.exit 1) (flow_ly_Z l a) :=
 VT.loop (fun k=>flow_ly_I l a k) (l.length) (fun k hk=>flow_ly_s l a okl wl ha f8 h k hk) (flow_ly_e l a okl wl ha f8 h) (by intro h;cases h)
noncomputable def flow_ln_I (l:List Nod) (a:Rng) (m:Nat) (k:Nat):VS:=stt 50 [(0,.sl 19 (l.map nodC)),(7,.own 900),(25,.sl 19 (l.map nodC)),(26,i64 l.length),(27,i64 k)] [(900,.slc 164 2 ((growL stepR l a k).map rchC))]
noncomputable def flow_ln_Z (l:List Nod) (a:Rng) (m:Nat):VS:=stt 50 [(4,nilv),(5,i64 m),(6,i64 (errL stepR l a m))] []
theorem flow_ln_s (l:List Nod) (a:Rng) (m:Nat) (okl:∀ n∈l,n.Ok) (wl:∀ n∈l,n.w.length≤100000∧n.b.length≤100000) (ha:a.In8) (f8:l.length≤8) (hm:m<l.length) (hf:errL stepR l a m≠0) (h:∀ k,k<m→errL stepR l a k=0) (k:Nat) (hk:k<m):VT N_ (fnC Tryz.f86 [1,1,1,0,1,0,0]) (flow_ln_I l a m k) .normal (flow_ln_I l a m (k+1)):=by
 have q:=h k hk
 have q1:=growL_len stepR l a k
 have q2:=flow_in okl ha (s_ (k≤l.length))
 have q3:=getD_in okl (s_ (k<l.length))
 have q4:=getD_in wl (s_ (k<l.length))
 obtain ⟨q5,q6⟩:=q4
 unfold errL at q
 have oz2:=(map_at (nodC) (default) (l:=l) (i:=k) (by omega))
 have oz3:=@gstep_v (l.getD k default) (growL stepR l a k) q3 q2 (by omega) q5 q6
 exact tR_ [r_,b_,.r [] [.row (sO oz2)],.r [] [cr oz3],r_,d_,r_,.r [] [.n ((↑k:Int)+1)]] [.any (rg [(8,4),(28,12),(42,5)]),.drop [9,10,44],.ren 45 900,.weak 27 (i64 (↑(k+1):Int)),.blk 900 (Blk.slc 164 2 (K_ rchC (growL stepR l a (k+1)))),.sort] (.c8 (decide_eq_true (p:=((↑k:Int)<(l.length:Int))) (by omega)) (s_ (0≤(↑k:Int))) oz2 oz3 (show ((stepR (l.getD k default) (growL stepR l a k)).snd != 0)=false by (simp at *;omega)) (show ((K_ rchC (growL stepR l a k)).length+1)*2≤140737488355328 by (simp;omega)) (show (K_ rchC (growL stepR l a k)).length+1≤9223372036854775807 by (simp;omega)) (i6n ((↑k:Int)+1) (by omega))<|.d2 (wS_ k) (show BlkW (Blk.slc 164 2 (K_ rchC (growL stepR l a k)++[[i8 (stepR (l.getD k default) (growL stepR l a k)).fst.lo,i8 (stepR (l.getD k default) (growL stepR l a k)).fst.hi]])) (Blk.slc 164 2 (K_ rchC (growL stepR l a (k+1)))) from (BZ_ (e:=164) (z:=2) (rows_to (rchC) (r:=K_ rchC (growL stepR l a k)++[[i8 (stepR (l.getD k default) (growL stepR l a k)).fst.lo,i8 (stepR (l.getD k default) (growL stepR l a k)).fst.hi]]) (l:=growL stepR l a k++[Rng.mk (stepR (l.getD k default) (growL stepR l a k)).fst.lo (stepR (l.getD k default) (growL stepR l a k)).fst.hi]) (m:=growL stepR l a (k+1)) (by first|(simp only[X_,Z_,AL_,AM_,V_,D_,AK_];done)|rfl|(simp only[X_,Z_,AL_,AM_,V_,D_,AK_];rfl)|(simp only[X_,Z_,AL_,AM_,V_,D_,AK_,rchC,ints];done)) (show (growL stepR l a k++[Rng.mk (stepR (l.getD k default) (growL stepR l a k)).fst.lo (stepR (l.getD k default) (growL stepR l a k)).fst.hi])=(growL stepR l a (k+1)) from (by rfl))))))
theorem flow_ln_e (l:List Nod) (a:Rng) (m:Nat) (okl:∀ n∈l,n.Ok) (wl:∀ n∈l,n.w.length≤100000∧n.b.length≤100000) (ha:a.In8) (f8:l.length≤8) (hm:m<l.length) (hf:errL stepR l a m≠0) (h:∀ k,k<m→errL stepR l a k=0):VT N_ (fnC Tryz.f86 [1,1,1,0,1,0,0]) (flow_ln_I l a m (m)) (.ret) (flow_ln_Z l a m):=by
 have q1:=growL_len stepR l a m
 have q2:=flow_in okl ha (Nat.le_of_lt hm)
 have q3:=getD_in okl hm
 have q4:=getD_in wl hm
 obtain ⟨q5,q6⟩:=q4
 unfold errL at hf
 have oz2:=(map_at (nodC) (default) (l:=l) (i:=m) hm)
 have oz3:=@gstep_v (l.getD m default) (growL stepR l a m) q3 q2 (by omega) q5 q6
 have oz5:=(M_ (k:=.i64) (show (((stepR (l.getD m default) (growL stepR l a m)).snd):Int)=(errL stepR l a m) from (by rfl)))
 exact tR_ [r_,b_,.r [] [.row (sO oz2)],.r [] [cr oz3],r_,b_,r_] [.any (rg [(0,1),(7,5),(25,17)]),.drop [900,9,10],.weak 6 (wO oz5),.sort] (.d6 (decide_eq_true (p:=((↑m:Int)<(l.length:Int))) (by omega)) (s_ (0≤(↑m:Int))) oz2 oz3 (show ((stepR (l.getD m default) (growL stepR l a m)).snd != 0)=true by (simp at *;omega)) oz5)
theorem flow_ln (l:List Nod) (a:Rng) (m:Nat) (okl:∀ n∈l,n.Ok) (wl:∀ n∈l,n.w.length≤100000∧n.b.length≤100000) (ha:a.In8) (f8:l.length≤8) (hm:m<l.length) (hf:errL stepR l a m≠0) (h:∀ k,k<m→errL stepR l a k=0):VT N_ (fnC Tryz.f86 [1,1,1,0,1,0]) (flow_ln_I l a m 0) (.ret) (flow_ln_Z l a m) :=
 VT.loop (fun k=>flow_ln_I l a m k) (m) (fun k hk=>flow_ln_s l a m okl wl ha f8 hm hf h k hk) (flow_ln_e l a m okl wl ha f8 hm hf h) (by intro h;cases h)
theorem flow_y (l:List Nod) (a:Rng) (okl:∀ n∈l,n.Ok) (wl:∀ n∈l,n.w.length≤100000∧n.b.length≤100000) (ha:a.In8) (h:FOK l a):VC N_ 86 ([.sl 19 (l.map nodC),rch a]) (.tup [.sl 2 ((growL stepR l a l.length).map rchC),i64 l.length,i64 0]):=by
 obtain ⟨q2,q3,q1,q4⟩:=id h
 have oz2:=@upside_v (a.lo) (a.hi)
 have oz6:=@flow_ly (l) (a) okl wl ha q3 q4
 exact (cR_ [r_,r_,d_,r_,d_,.r [] [cr oz2],d_,r_,r_,.code [.any (rg [(1,1),(3,4),(12,13)]),.drop [3],.ren 24 900,.weak 26 (i64 (l.length:Int)),.weak 27 (i64 (↑0:Int)),.sort] (AI_ 1) (zO oz6),r_] (AV.tup [AV.sl 2 (K_ rchC (growL stepR l a l.length)),i64 ((K_ nodC l).length:Int),i64 0]) Tryz.func86 (.d7 (show (((K_ nodC l).length:Int)==0)=false by (simp only[E_,F_,I_,J_,ne_eq,H_,G_,U_,T_,AH_,BM_,AJ_,Classical.not_not,BI_,CZ_,O_,P_,W_,R_,B_,BU_,BO_,AG_,BY_,BN_,eqNums,Q_,AW_,AO_,AS_,BA_,AB_,BT_,BX_,BV_,AF_,BR_,BQ_];(first|done|with_reducible assumption|omega|contradiction))) (show decide (((K_ nodC l).length:Int)>8)=false by (simp;omega)) oz2 (decide_eq_false (p:=(a.lo>a.hi)) (by omega)) (M_ (k:=.i64) (show ((((K_ nodC l).length:Int)):Int)=((l.length:Int)) from (by (simp;done)))) w0_ oz6)).weak (A_ _) (AZ_ (.cons (.refl _) (.cons (M_ (by (simp;done))) (.cons (.refl _) .nil))))
theorem flow_m (l:List Nod) (a:Rng) (m:Nat) (okl:∀ n∈l,n.Ok) (wl:∀ n∈l,n.w.length≤100000∧n.b.length≤100000) (ha:a.In8) (i:a.lo≤a.hi) (f8:l.length≤8) (hm:m<l.length) (hf:errL stepR l a m≠0) (h:∀ k,k<m→errL stepR l a k=0):VC N_ 86 ([.sl 19 (l.map nodC),rch a]) (.tup [nilv,i64 m,i64 (errL stepR l a m)]):=by
 have oz2:=@upside_v (a.lo) (a.hi)
 have oz6:=@flow_ln (l) (a) (m) okl wl ha f8 hm hf h
 exact cR_ [r_,r_,d_,r_,d_,.r [] [cr oz2],d_,r_,r_,.code [.any (rg [(1,1),(3,4),(12,13)]),.drop [3],.ren 24 900,.weak 26 (i64 (l.length:Int)),.weak 27 (i64 (↑0:Int)),.sort] (Exit.ret) (zO oz6)] _ Tryz.func86 (.d7 (show (((K_ nodC l).length:Int)==0)=false by (simp only[E_,F_,I_,J_,ne_eq,H_,G_,U_,T_,AH_,BM_,AJ_,Classical.not_not,BI_,CZ_,O_,P_,W_,R_,B_,BU_,BO_,AG_,BY_,BN_,eqNums,Q_,AW_,AO_,AS_,BA_,AB_,BT_,BX_,BV_,AF_,BR_,BQ_];(first|done|with_reducible assumption|omega|contradiction))) (show decide (((K_ nodC l).length:Int)>8)=false by (simp;omega)) oz2 (decide_eq_false (p:=(a.lo>a.hi)) (by omega)) (M_ (k:=.i64) (show ((((K_ nodC l).length:Int)):Int)=((l.length:Int)) from (by (simp;done)))) w0_ oz6)
def flowB (l:List Nod) (a:Rng):Nat→Bool:=fun k=>errL stepR l a k==0
def flowE (l:List Nod) (a:Rng):Int×Int :=
 if l.length=0 then (-1,12) else if 8<l.length then (-1,4) else if a.lo>a.hi then (-1,2)
 else if firstBad (flowB l a) l.length<l.length then (firstBad (flowB l a) l.length,errL stepR l a (firstBad (flowB l a) l.length)) else (l.length,0)
theorem flow_a (l:List Nod) (a:Rng) (hl:l.length≤1000) (h:l.length=0∨8<l.length∨a.lo>a.hi):VC N_ 86 ([.sl 19 (l.map nodC),rch a]) (.tup [nilv,i64 (flowE l a).1,i64 (flowE l a).2]):=by
 rcases bft (((K_ nodC l).length:Int)==0) with hc0|hc0
 ·have gc0:((K_ nodC l).length:Int)=0:=bet hc0
  exact (cR_ [r_,r_,b_,r_] (AV.tup [AV.lit (AC_ none 0 0),i64 (-1),i64 12]) Tryz.func86 (.d hc0)).weak (A_ _) (AZ_ (.cons (.refl _) (.cons (M_ (by (unfold flowE;(try simp only[Q_] at *);(repeat first|rw[i_ (by omega)]|rw[j_ (by omega)])))) (.cons (M_ (by (unfold flowE;(try simp only[Q_] at *);(repeat first|rw[i_ (by omega)]|rw[j_ (by omega)])))) .nil))))
 ·have gc0:¬((K_ nodC l).length:Int)=0:=bef hc0
  rcases bft (decide (((K_ nodC l).length:Int)>8)) with hc1|hc1
  ·have gc1:=of_decide_eq_true hc1
   exact (cR_ [r_,r_,d_,r_,b_,r_] (AV.tup [AV.lit (AC_ none 0 0),i64 (-1),i64 4]) Tryz.func86 (.d2 hc0 hc1)).weak (A_ _) (AZ_ (.cons (.refl _) (.cons (M_ (by (unfold flowE;(try simp only[Q_] at *);(repeat first|rw[i_ (by omega)]|rw[j_ (by omega)])))) (.cons (M_ (by (unfold flowE;(try simp only[Q_] at *);(repeat first|rw[i_ (by omega)]|rw[j_ (by omega)])))) .nil))))
  ·have gc1:=of_decide_eq_false hc1
   have oz2:=@upside_v (a.lo) (a.hi)
   exact (cR_ [r_,r_,d_,r_,d_,.r [] [cr oz2],b_,r_] (AV.tup [AV.lit (AC_ none 0 0),i64 (-1),i64 2]) Tryz.func86 (.d4 hc0 hc1 oz2 (show decide (a.lo>a.hi)=true by (simp only[E_,F_,I_,J_,ne_eq,H_,G_,U_,T_,AH_,BM_,AJ_,Classical.not_not,BI_,CZ_,O_,P_,W_,R_,B_,BU_,BO_,AG_,BY_,BN_,eqNums,Q_,AW_,AO_,AS_,BA_,AB_,BT_,BX_,BV_,AF_,BR_,BQ_] at *;(first|done|with_reducible assumption|omega|contradiction))))).weak (A_ _) (AZ_ (.cons (.refl _) (.cons (M_ (by (unfold flowE;(try simp only[Q_] at *);(repeat first|rw[i_ (by omega)]|rw[j_ (by omega)])))) (.cons (M_ (by (unfold flowE;(try simp only[Q_] at *);(repeat first|rw[i_ (by omega)]|rw[j_ (by omega)])))) .nil))))
theorem flowE_y {l:List Nod} {a:Rng} (h:FOK l a):flowE l a=((l.length:Int),0):=by
 obtain ⟨q2,q3,q1,q4⟩:=h
 unfold flowE
 rw[j_ (by omega),j_ (by omega),j_ (by omega),firstBad_all fun k hk=>by simpa [flowB] using q4 k hk,j_ (by omega)]
theorem flowE_at {l:List Nod} {a:Rng} {m:Nat} (i:a.lo≤a.hi) (e:0<l.length) (f:l.length≤8) (hm:m<l.length) (hf:errL stepR l a m≠0) (h:∀ k,k<m→errL stepR l a k=0):flowE l a=((m:Int),errL stepR l a m):=by
 have:=firstBad_at (p:=flowB l a) (m:=m) (by simpa [flowB] using hf) (fun k hk=>by simpa [flowB] using h k hk) hm
 unfold flowE
 rw[j_ (by omega),j_ (by omega),j_ (by omega),this,i_ hm]
theorem FOK.cases (l:List Nod) (a:Rng):FOK l a∨(l.length=0∨8<l.length∨a.lo>a.hi)∨(a.lo≤a.hi∧0<l.length∧l.length≤8∧∃ m,m<l.length∧errL stepR l a m≠0∧∀ k,k<m→errL stepR l a k=0):=by
 by_cases c:l.length=0∨8<l.length∨a.lo>a.hi
 ·exact .inr (.inl c)
 ·rcases all_or (flowB l a) l.length with h|⟨m,h1,h2,h3⟩
  ·exact .inl ⟨by omega,by omega,by omega,fun k hk=>by simpa [flowB] using h k hk⟩
  ·exact .inr (.inr ⟨by omega,by omega,by omega,m,h1,by simpa [flowB] using h2,fun k hk=>by simpa [flowB] using h3 k hk⟩)
theorem flowE_n {l:List Nod} {a:Rng} (h:¬ FOK l a):(flowE l a).2≠0:=by
 rcases FOK.cases l a with q|q|⟨i,e,f,m,h1,h2,h3⟩
 ·exact absurd q h
 ·unfold flowE
  by_cases c1:l.length=0
  ·rw[i_ c1];dsimp only;decide
  ·rw[j_ c1]
   by_cases c2:8<l.length
   ·rw[i_ c2];dsimp only;decide
   ·rw[j_ c2,i_ (by omega)];dsimp only;decide
 ·rw[flowE_at i e f h1 h2 h3];exact h2
theorem flow_n (l:List Nod) (a:Rng) (okl:∀ n∈l,n.Ok) (wl:∀ n∈l,n.w.length≤100000∧n.b.length≤100000) (ha:a.In8) (hl:l.length≤1000) (h:¬ FOK l a):VC N_ 86 [.sl 19 (l.map nodC),rch a] (.tup [nilv,i64 (flowE l a).1,i64 (flowE l a).2]):=by
 rcases FOK.cases l a with q|q|⟨i,e,f,m,h1,h2,h3⟩
 ·exact absurd q h
 ·exact flow_a l a hl q
 ·rw[flowE_at i e f h1 h2 h3];exact flow_m l a m okl wl ha i f h1 h2 h3
end Go.Proofs.YtdmkhinckljddaaGreatDoor
