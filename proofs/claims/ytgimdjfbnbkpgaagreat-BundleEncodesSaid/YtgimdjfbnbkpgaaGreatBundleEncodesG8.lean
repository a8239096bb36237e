/- A part of this claim. No condition. -/
import Derived.Outline
import Derived.Lib.SlBytesConst
import Derived.Test.YtgimdjfbnbkpgaaGreatBundleEncodesG7
set_option maxRecDepth 100000
set_option maxHeartbeats 2000000
set_option linter.unusedVariables false
set_option linter.unusedSimpArgs false
set_option linter.unnecessarySimpa false
namespace Go.Proofs.YtgimdjfbnbkpgaaGreat
open Go.RowKit
open BlkW renaming rows→AG_
open Bool renaming and_eq_true→P_,and_eq_false_iff→S_,or_eq_false_iff→T_,not_eq_false'→U_,not_eq_true'→W_,or_eq_true→Z_,and_true→C_,false_and→AE_,not_eq_eq_eq_not→BK_,not_false→BN_,true_and→BO_,and_false→BP_,not_true→BQ_,false_or→BR_,false_eq_true→BA_,or_false→BC_,true_eq_false→CE_
open Exit renaming exit→AF_,ret→CA_
open Int renaming toNat_natCast→AJ_,tdiv_eq_ediv_of_nonneg→BF_,not_lt→CL_,not_le→CF_
open IntKind renaming i64→Q_
open List renaming map→K_,length_map→N_,length_append→O_,map_replicate→X_,map_append→A_,map_cons→D_,map_take→AM_,map_drop→AN_,map_nil→AO_,map_set→AP_,length_cons→AC_,length_replicate→AH_,length_take→BL_,map_eq_nil_iff→BT_,length_drop→BX_,length_range→BY_,length_nil→BB_,length_set→BD_,getElem_mem→CY_,all_eq_true→CZ_,replicate→CI_
open Nat renaming le_refl→AX_,zero_add→BU_,le_of_lt→CD_
open Tryz renaming prog→L_
open Value renaming int→AQ_,slice→AY_,bool→BS_,agg→BI_
open Weak renaming int→R_,bool→AZ_,tup→AA_,agg→AD_,rows→CP_
open WeakL renaming refl→B_
def Shp.Rt (s:Shp):Prop:=0<elems s.h s.x s.c
abbrev zsh:Shp:=⟨0,0,0⟩
theorem zsh_ok:zsh.Ok:=by constructor<;>exact ⟨by decide,by decide⟩
theorem Shp.Rt.ok {s:Shp} (h:s.Rt):s.Ok:=by
 have:=elems_ok h
 exact ⟨⟨by omega,by omega⟩,⟨by omega,by omega⟩,⟨by omega,by omega⟩⟩
def Told (r:Shp×Int):Prop:=(r.2=0∧r.1.Rt)∨(r.2≠0∧r.1=zsh)
theorem slideE_told (t:Shp) (k s p o:Int):Told (slideE t k s p o):=by
 unfold slideE
 split
 ·exact .inr ⟨by dsimp only;decide,rfl⟩
 ·split
  ·exact .inr ⟨by assumption,rfl⟩
  ·split
   ·exact .inr ⟨by assumption,rfl⟩
   ·split
    ·exact .inr ⟨by dsimp only;decide,rfl⟩
    ·rename_i h;exact .inl ⟨rfl,Classical.not_not.1 h⟩
theorem convE_told (t:Shp) (n:Nod):Told (convE t n):=by
 have q:=slideE_told t n.nk n.ns n.np n.no
 unfold convE
 split
 ·exact .inr ⟨by assumption,rfl⟩
 ·split
  ·exact .inr ⟨by dsimp only;decide,rfl⟩
  ·rcases q with q|q
   ·exact .inl ⟨rfl,q.2⟩
   ·exact absurd q.1 (by assumption)
theorem depthE_told (t:Shp) (n:Nod):Told (depthE t n):=by
 have q:=slideE_told t n.nk n.ns n.np t.c
 unfold depthE
 split
 ·exact .inr ⟨by assumption,rfl⟩
 ·split
  ·exact .inr ⟨by dsimp only;decide,rfl⟩
  ·rcases q with q|q
   ·exact .inl ⟨rfl,q.2⟩
   ·exact absurd q.1 (by assumption)
theorem denseE_told (t:Shp) (n:Nod):Told (denseE t n):=by
 unfold denseE
 split
 ·exact .inr ⟨by dsimp only;decide,rfl⟩
 ·split
  ·exact .inr ⟨by dsimp only;decide,rfl⟩
  ·rename_i h _
   have:=elems_in 1 1 n.no
   exact .inl ⟨rfl,by unfold Shp.Rt;dsimp only;omega⟩
theorem aroundE_told (a:Shp) (p:Int):Told (aroundE a p):=by
 unfold aroundE
 split
 ·exact .inr ⟨by dsimp only;decide,rfl⟩
 ·split
  ·exact .inr ⟨by dsimp only;decide,rfl⟩
  ·have:=elems_in (a.h+2*p) (a.x+2*p) a.c
   exact .inl ⟨rfl,by unfold Shp.Rt;dsimp only;omega⟩
theorem flat_rt {n:Int} (h0:0<n) (h:n≤1024):0<elems 1 1 n:=by
 unfold elems;rw[i_ (by omega)];omega
theorem shapeE_told (n:Nod) (a b:Shp):Told (shapeE n a b):=by
 unfold shapeE
 split
 ·exact convE_told a n
 ·split
  ·exact depthE_told a n
  ·split
   ·exact denseE_told a n
   ·split
    ·exact slideE_told a n.nk n.ns n.np a.c
    ·split
     ·exact .inr ⟨by dsimp only;decide,rfl⟩
     ·split
      ·exact .inr ⟨by dsimp only;decide,rfl⟩
      ·rename_i h
       have q:=elems_in a.h a.x a.c
       split
       ·exact (.inl ⟨rfl,show 0<elems 1 1 (elems a.h a.x a.c) from flat_rt (by omega) q.2⟩)
       ·split
        ·exact aroundE_told a n.np
        ·exact .inl ⟨rfl,by unfold Shp.Rt;dsimp only;omega⟩
theorem nextE_told (n:Nod) (L:List Shp):Told (nextE n L):=by
 unfold nextE
 split
 ·exact .inr ⟨by assumption,rfl⟩
 ·split
  ·exact shapeE_told _ _ _
  ·exact .inr ⟨by dsimp only;decide,rfl⟩
theorem Told.ok {r:Shp×Int} (h:Told r):r.1.Ok:=by
 rcases h with h|h
 ·exact h.2.ok
 ·rw[h.2];exact zsh_ok
structure SOK (l:List Nod) (a:Shp):Prop where
 i:a.Rt
 e:0<l.length
 f:l.length≤8
 k:∀ k,k<l.length→errL nextE l a k=0
def shapesB (l:List Nod) (a:Shp):Nat→Bool:=fun k=>errL nextE l a k==0
def shapesE (l:List Nod) (a:Shp):Int×Int :=
 if ¬ 0<elems a.h a.x a.c then (-1,5) else if l.length=0 then (-1,12) else if 8<l.length then (-1,4)
 else if firstBad (shapesB l a) l.length<l.length then (firstBad (shapesB l a) l.length,errL nextE l a (firstBad (shapesB l a) l.length)) else (l.length,0)
theorem shapesE_y {l:List Nod} {a:Shp} (h:SOK l a):shapesE l a=((l.length:Int),0):=by
 have h0:=h.i
 unfold Shp.Rt at h0
 have h1:=h.e
 have h2:=h.f
 unfold shapesE
 rw[j_ (by omega),j_ (by omega),j_ (by omega),firstBad_all fun k hk=>by simpa [shapesB] using h.k k hk,j_ (by omega)]
theorem shapesE_at {l:List Nod} {a:Shp} {m:Nat} (i:a.Rt) (e:0<l.length) (f:l.length≤8) (hm:m<l.length) (hf:errL nextE l a m≠0) (h:∀ k,k<m→errL nextE l a k=0):shapesE l a=((m:Int),errL nextE l a m):=by
 unfold Shp.Rt at i
 have:=firstBad_at (p:=shapesB l a) (m:=m) (by simpa [shapesB] using hf) (fun k hk=>by simpa [shapesB] using h k hk) hm
 unfold shapesE
 rw[j_ (by omega),j_ (by omega),j_ (by omega),this,i_ hm]
theorem SOK.cases (l:List Nod) (a:Shp):SOK l a∨¬ a.Rt∨l.length=0∨8<l.length∨(a.Rt∧0<l.length∧l.length≤8∧∃ m,m<l.length∧errL nextE l a m≠0∧∀ k,k<m→errL nextE l a k=0):=by
 by_cases i:a.Rt
 ·by_cases e:0<l.length
  ·by_cases f:l.length≤8
   ·rcases all_or (shapesB l a) l.length with h|⟨m,h1,h2,h3⟩
    ·exact .inl ⟨i,e,f,fun k hk=>by simpa [shapesB] using h k hk⟩
    ·exact .inr (.inr (.inr (.inr ⟨i,e,f,m,h1,by simpa [shapesB] using h2,fun k hk=>by simpa [shapesB] using h3 k hk⟩)))
   ·exact .inr (.inr (.inr (.inl (by omega))))
  ·exact .inr (.inr (.inl (by omega)))
 ·exact .inr (.inl i)
theorem shapesE_n {l:List Nod} {a:Shp} (h:¬ SOK l a):(shapesE l a).2≠0:=by
 rcases SOK.cases l a with q|q|q|q|⟨i,e,f,m,h1,h2,h3⟩
 ·exact absurd q h
 ·have e:shapesE l a=(-1,5):=by unfold shapesE;exact i_ q
  rw[e];decide
 ·unfold shapesE
  by_cases c1:¬ 0<elems a.h a.x a.c
  ·rw[i_ c1];dsimp only;decide
  ·rw[j_ c1,i_ q];dsimp only;decide
 ·unfold shapesE
  by_cases c1:¬ 0<elems a.h a.x a.c
  ·rw[i_ c1];dsimp only;decide
  ·rw[j_ c1,j_ (by omega),i_ q];dsimp only;decide
 ·rw[shapesE_at i e f h1 h2 h3];exact h2
theorem grow_ok {l:List Nod} {a:Shp} (i:a.Ok) (k:Nat):∀ s∈growL nextE l a k,s.Ok :=
 growL_all (n:=k) i (fun j _ _=>(nextE_told _ _).ok) k (AX_ _)
noncomputable def shapes_ly_I (l:List Nod) (a:Shp) (k:Nat):VS:=stt 51 [(0,.sl 19 (l.map nodC)),(7,.own 900),(26,.sl 19 (l.map nodC)),(27,i64 l.length),(28,i64 k)] [(900,.slc 23 3 ((growL nextE l a k).map shpC))]
noncomputable def shapes_ly_Z (l:List Nod) (a:Shp):VS:=shapes_ly_I l a (l.length)
theorem shapes_ly_s (l:List Nod) (a:Shp) (okl:∀ n∈l,n.Ok) (wl:∀ n∈l,n.w.length≤100000∧n.b.length≤100000) (i:a.Ok) (f8:l.length≤8) (h:∀ k,k<l.length→errL nextE l a k=0) (k:Nat) (hk:k<l.length):VT L_ (fnC Tryz.f101 [1,1,1,0,1,0,0]) (shapes_ly_I l a k) .normal (shapes_ly_I l a (k+1)):=by
 have q:=h k hk
 have q1:=growL_len nextE l a k
 have q2:=grow_ok (l:=l) i k
 have q3:=getD_in okl hk
 have q4:=getD_in wl hk
 obtain ⟨q5,q6⟩:=q4
 unfold errL at q
 have oz2:=(map_at (nodC) (default) (l:=l) (i:=k) hk)
 have oz3:=@next_v (l.getD k default) (growL nextE l a k) q3 q2 (by omega) q5 q6
 exact VT.run (W:=[r_,b_,.r [] [.row (sO oz2)],.r [] [.callr (rO oz3)],r_,d_,r_,.r [] [.n ((↑k:Int)+1)]]) (G:=[.any (rg [(8,4),(29,12),(43,5)]),.drop [9,10,45],.ren 46 900,.weak 28 (i64 (↑(k+1):Int)),.blk 900 (Blk.slc 23 3 (K_ shpC (growL nextE l a (k+1)))),.sort]) (by kernel_rfl) (.c (decide_eq_true (p:=((↑k:Int)<(l.length:Int))) (by omega))<|.c (show 0≤(↑k:Int) by omega)<|.c oz2<|.c oz3<|.c (show ((nextE (l.getD k default) (growL nextE l a k)).snd != 0)=false by (simp at *;omega))<|.c (show ((K_ shpC (growL nextE l a k)).length+1)*24≤140737488355328 by (simp;omega))<|.c (show (K_ shpC (growL nextE l a k)).length+1≤9223372036854775807 by (simp;omega))<|.c (i6n ((↑k:Int)+1) (by omega))<|.c (wS_ k)<|.c (show BlkW (Blk.slc 23 3 (K_ shpC (growL nextE l a k)++[[i64 (nextE (l.getD k default) (growL nextE l a k)).fst.h,i64 (nextE (l.getD k default) (growL nextE l a k)).fst.x,i64 (nextE (l.getD k default) (growL nextE l a k)).fst.c]])) (Blk.slc 23 3 (K_ shpC (growL nextE l a (k+1)))) from (AG_ (e:=23) (z:=3) (rows_to (shpC) (r:=K_ shpC (growL nextE l a k)++[[i64 (nextE (l.getD k default) (growL nextE l a k)).fst.h,i64 (nextE (l.getD k default) (growL nextE l a k)).fst.x,i64 (nextE (l.getD k default) (growL nextE l a k)).fst.c]]) (l:=growL nextE l a k++[Shp.mk (nextE (l.getD k default) (growL nextE l a k)).fst.h (nextE (l.getD k default) (growL nextE l a k)).fst.x (nextE (l.getD k default) (growL nextE l a k)).fst.c]) (m:=growL nextE l a (k+1)) (by first|(simp only[A_,D_,AO_,AP_,X_,AM_,AN_];done)|rfl|(simp only[A_,D_,AO_,AP_,X_,AM_,AN_];rfl)|(simp only[A_,D_,AO_,AP_,X_,AM_,AN_,shpC,ints];done)) (show (growL nextE l a k++[Shp.mk (nextE (l.getD k default) (growL nextE l a k)).fst.h (nextE (l.getD k default) (growL nextE l a k)).fst.x (nextE (l.getD k default) (growL nextE l a k)).fst.c])=(growL nextE l a (k+1)) from (by rfl)))))<|.n)
theorem shapes_ly_e (l:List Nod) (a:Shp) (okl:∀ n∈l,n.Ok) (wl:∀ n∈l,n.w.length≤100000∧n.b.length≤100000) (i:a.Ok) (f8:l.length≤8) (h:∀ k,k<l.length→errL nextE l a k=0):VT L_ (fnC Tryz.f101 [1,1,1,0,1,0,0]) (shapes_ly_I l a (l.length)) (.exit 1) (shapes_ly_Z l a):=by
 exact VT.run (W:=[r_,d_]) (G:=[.any [29],.sort]) (by kernel_rfl) (.c (decide_eq_false (p:=((l.length:Int)<(l.length:Int))) (by omega))<|.n)
theorem shapes_ly (l:List Nod) (a:Shp) (okl:∀ n∈l,n.Ok) (wl:∀ n∈l,n.w.length≤100000∧n.b.length≤100000) (i:a.Ok) (f8:l.length≤8) (h:∀ k,k<l.length→errL nextE l a k=0):VT L_ (fnC Tryz.f101 [1,1,1,0,1,0]) (shapes_ly_I l a 0) (.exit 1) (shapes_ly_Z l a) :=
 VT.loop (fun k=>shapes_ly_I l a k) (l.length) (fun k hk=>shapes_ly_s l a okl wl i f8 h k hk) (shapes_ly_e l a okl wl i f8 h) (by intro h;cases h)
noncomputable def shapes_ln_I (l:List Nod) (a:Shp) (m:Nat) (k:Nat):VS:=stt 51 [(0,.sl 19 (l.map nodC)),(7,.own 900),(26,.sl 19 (l.map nodC)),(27,i64 l.length),(28,i64 k)] [(900,.slc 23 3 ((growL nextE l a k).map shpC))]
noncomputable def shapes_ln_Z (l:List Nod) (a:Shp) (m:Nat):VS:=stt 51 [(4,nilv),(5,i64 m),(6,i64 (errL nextE l a m))] []
theorem shapes_ln_s (l:List Nod) (a:Shp) (m:Nat) (okl:∀ n∈l,n.Ok) (wl:∀ n∈l,n.w.length≤100000∧n.b.length≤100000) (i:a.Ok) (f8:l.length≤8) (hm:m<l.length) (hf:errL nextE l a m≠0) (h:∀ k,k<m→errL nextE l a k=0) (k:Nat) (hk:k<m):VT L_ (fnC Tryz.f101 [1,1,1,0,1,0,0]) (shapes_ln_I l a m k) .normal (shapes_ln_I l a m (k+1)):=by
 have q:=h k hk
 have q1:=growL_len nextE l a k
 have q2:=grow_ok (l:=l) i k
 have q3:=getD_in okl (show k<l.length by omega)
 have q4:=getD_in wl (show k<l.length by omega)
 obtain ⟨q5,q6⟩:=q4
 unfold errL at q
 have oz2:=(map_at (nodC) (default) (l:=l) (i:=k) (by omega))
 have oz3:=@next_v (l.getD k default) (growL nextE l a k) q3 q2 (by omega) q5 q6
 exact VT.run (W:=[r_,b_,.r [] [.row (sO oz2)],.r [] [.callr (rO oz3)],r_,d_,r_,.r [] [.n ((↑k:Int)+1)]]) (G:=[.any (rg [(8,4),(29,12),(43,5)]),.drop [9,10,45],.ren 46 900,.weak 28 (i64 (↑(k+1):Int)),.blk 900 (Blk.slc 23 3 (K_ shpC (growL nextE l a (k+1)))),.sort]) (by kernel_rfl) (.c (decide_eq_true (p:=((↑k:Int)<(l.length:Int))) (by omega))<|.c (show 0≤(↑k:Int) by omega)<|.c oz2<|.c oz3<|.c (show ((nextE (l.getD k default) (growL nextE l a k)).snd != 0)=false by (simp at *;omega))<|.c (show ((K_ shpC (growL nextE l a k)).length+1)*24≤140737488355328 by (simp;omega))<|.c (show (K_ shpC (growL nextE l a k)).length+1≤9223372036854775807 by (simp;omega))<|.c (i6n ((↑k:Int)+1) (by omega))<|.c (wS_ k)<|.c (show BlkW (Blk.slc 23 3 (K_ shpC (growL nextE l a k)++[[i64 (nextE (l.getD k default) (growL nextE l a k)).fst.h,i64 (nextE (l.getD k default) (growL nextE l a k)).fst.x,i64 (nextE (l.getD k default) (growL nextE l a k)).fst.c]])) (Blk.slc 23 3 (K_ shpC (growL nextE l a (k+1)))) from (AG_ (e:=23) (z:=3) (rows_to (shpC) (r:=K_ shpC (growL nextE l a k)++[[i64 (nextE (l.getD k default) (growL nextE l a k)).fst.h,i64 (nextE (l.getD k default) (growL nextE l a k)).fst.x,i64 (nextE (l.getD k default) (growL nextE l a k)).fst.c]]) (l:=growL nextE l a k++[Shp.mk (nextE (l.getD k default) (growL nextE l a k)).fst.h (nextE (l.getD k default) (growL nextE l a k)).fst.x (nextE (l.getD k default) (growL nextE l a k)).fst.c]) (m:=growL nextE l a (k+1)) (by first|(simp only[A_,D_,AO_,AP_,X_,AM_,AN_];done)|rfl|(simp only[A_,D_,AO_,AP_,X_,AM_,AN_];rfl)|(simp only[A_,D_,AO_,AP_,X_,AM_,AN_,shpC,ints];done)) (show (growL nextE l a k++[Shp.mk (nextE (l.getD k default) (growL nextE l a k)).fst.h (nextE (l.getD k default) (growL nextE l a k)).fst.x (nextE (l.getD k default) (growL nextE l a k)).fst.c])=(growL nextE l a (k+1)) from (by rfl)))))<|.n)
theorem shapes_ln_e (l:List Nod) (a:Shp) (m:Nat) (okl:∀ n∈l,n.Ok) (wl:∀ n∈l,n.w.length≤100000∧n.b.length≤100000) (i:a.Ok) (f8:l.length≤8) (hm:m<l.length) (hf:errL nextE l a m≠0) (h:∀ k,k<m→errL nextE l a k=0):VT L_ (fnC Tryz.f101 [1,1,1,0,1,0,0]) (shapes_ln_I l a m (m)) (.ret) (shapes_ln_Z l a m):=by
 have q1:=growL_len nextE l a m
 have q2:=grow_ok (l:=l) i m
 have q3:=getD_in okl hm
 have q4:=getD_in wl hm
 obtain ⟨q5,q6⟩:=q4
 unfold errL at hf
 have oz2:=(map_at (nodC) (default) (l:=l) (i:=m) hm)
 have oz3:=@next_v (l.getD m default) (growL nextE l a m) q3 q2 (by omega) q5 q6
 have oz5:=(R_ (k:=.i64) (show (((nextE (l.getD m default) (growL nextE l a m)).snd):Int)=(errL nextE l a m) from (by rfl)))
 exact VT.run (W:=[r_,b_,.r [] [.row (sO oz2)],.r [] [.callr (rO oz3)],r_,b_,r_]) (G:=[.any (rg [(0,1),(7,5),(26,17)]),.drop [900,9,10],.weak 6 (wO oz5),.sort]) (by kernel_rfl) (.c (decide_eq_true (p:=((↑m:Int)<(l.length:Int))) (by omega))<|.c (show 0≤(↑m:Int) by omega)<|.c oz2<|.c oz3<|.c (show ((nextE (l.getD m default) (growL nextE l a m)).snd != 0)=true by (simp at *;omega))<|.c oz5<|.n)
theorem shapes_ln (l:List Nod) (a:Shp) (m:Nat) (okl:∀ n∈l,n.Ok) (wl:∀ n∈l,n.w.length≤100000∧n.b.length≤100000) (i:a.Ok) (f8:l.length≤8) (hm:m<l.length) (hf:errL nextE l a m≠0) (h:∀ k,k<m→errL nextE l a k=0):VT L_ (fnC Tryz.f101 [1,1,1,0,1,0]) (shapes_ln_I l a m 0) (.ret) (shapes_ln_Z l a m) :=
 VT.loop (fun k=>shapes_ln_I l a m k) (m) (fun k hk=>shapes_ln_s l a m okl wl i f8 hm hf h k hk) (shapes_ln_e l a m okl wl i f8 hm hf h) (by intro h;cases h)
theorem shapes_y (l:List Nod) (a:Shp) (okl:∀ n∈l,n.Ok) (wl:∀ n∈l,n.w.length≤100000∧n.b.length≤100000) (h:SOK l a):VC L_ 101 ([.sl 19 (l.map nodC),shp a]) (.tup [.sl 3 ((growL nextE l a l.length).map shpC),i64 l.length,i64 0]):=by
 have q1:=h.i
 have q2:=h.e
 have q3:=h.f
 have q4:=h.k
 have q5:=q1.ok
 unfold Shp.Rt at q1
 have oz0:=@sRight_v (a) q5
 have oz6:=@shapes_ly (l) (a) okl wl q5 q3 q4
 exact (VC.run (fn:=Tryz.f101) (W:=[r_,.r [] [.callr (rO oz0)],d_,r_,d_,r_,d_,r_,r_,.code [.any (rg [(1,1),(3,4),(12,14)]),.drop [3],.ren 25 900,.weak 27 (i64 (l.length:Int)),.weak 28 (i64 (↑0:Int)),.sort] (AF_ 1) (zO oz6),r_]) (r:=AV.tup [AV.sl 3 (K_ shpC (growL nextE l a l.length)),i64 ((K_ nodC l).length:Int),i64 0]) Tryz.func101 (by kernel_rfl) (.c oz0<|.c (show (!decide (0<elems a.h a.x a.c))=false by (simp;omega))<|.c (show (((K_ nodC l).length:Int)==0)=false by (simp only[E_,F_,I_,J_,ne_eq,H_,G_,W_,U_,BK_,BQ_,BN_,Classical.not_not,CL_,CF_,P_,S_,Z_,T_,C_,BO_,BP_,AE_,BC_,BR_,eqNums,N_,O_,AC_,BB_,BD_,AH_,BL_,BX_,BY_,AJ_,BU_,BT_];(first|done|with_reducible assumption|omega|contradiction)))<|.c (show decide (((K_ nodC l).length:Int)>8)=false by (simp;omega))<|.c (R_ (k:=.i64) (show ((((K_ nodC l).length:Int)):Int)=((l.length:Int)) from (by (simp;done))))<|.c w0_<|.c oz6<|.n)).weak (B_ _) (AA_ (.cons (.refl _) (.cons (R_ (by (simp;done))) (.cons (.refl _) .nil))))
theorem shapes_a (l:List Nod) (a:Shp) (i:a.Ok) (hl:l.length≤1000) (h:¬ 0<elems a.h a.x a.c∨l.length=0∨8<l.length):VC L_ 101 ([.sl 19 (l.map nodC),shp a]) (.tup [nilv,i64 (shapesE l a).1,i64 (shapesE l a).2]):=by
 have q:=elems_in a.h a.x a.c
 have oz0:=@sRight_v (a) i
 rcases bft (!decide (0<elems a.h a.x a.c)) with hc0|hc0
 ·have gc0:=bnt hc0
  exact (VC.run (fn:=Tryz.f101) (W:=[r_,.r [] [.callr (rO oz0)],b_,r_]) (r:=AV.tup [AV.lit (AY_ none 0 0),i64 (-1),i64 5]) Tryz.func101 (by kernel_rfl) (.c oz0<|.c hc0<|.n)).weak (B_ _) (AA_ (.cons (.refl _) (.cons (R_ (by (unfold shapesE;(try simp only[N_] at *);(repeat first|rw[i_ (by omega)]|rw[j_ (by omega)])))) (.cons (R_ (by (unfold shapesE;(try simp only[N_] at *);(repeat first|rw[i_ (by omega)]|rw[j_ (by omega)])))) .nil))))
 ·have gc0:=bnf hc0
  rcases bft (((K_ nodC l).length:Int)==0) with hc1|hc1
  ·have gc1:((K_ nodC l).length:Int)=0:=bet hc1
   exact (VC.run (fn:=Tryz.f101) (W:=[r_,.r [] [.callr (rO oz0)],d_,r_,b_,r_]) (r:=AV.tup [AV.lit (AY_ none 0 0),i64 (-1),i64 12]) Tryz.func101 (by kernel_rfl) (.c oz0<|.c hc0<|.c hc1<|.n)).weak (B_ _) (AA_ (.cons (.refl _) (.cons (R_ (by (unfold shapesE;(try simp only[N_] at *);(repeat first|rw[i_ (by omega)]|rw[j_ (by omega)])))) (.cons (R_ (by (unfold shapesE;(try simp only[N_] at *);(repeat first|rw[i_ (by omega)]|rw[j_ (by omega)])))) .nil))))
  ·have gc1:¬((K_ nodC l).length:Int)=0:=bef hc1
   exact (VC.run (fn:=Tryz.f101) (W:=[r_,.r [] [.callr (rO oz0)],d_,r_,d_,r_,b_,r_]) (r:=AV.tup [AV.lit (AY_ none 0 0),i64 (-1),i64 4]) Tryz.func101 (by kernel_rfl) (.c oz0<|.c hc0<|.c hc1<|.c (show decide (((K_ nodC l).length:Int)>8)=true by (simp only[E_,F_,I_,J_,ne_eq,H_,G_,W_,U_,BK_,BQ_,BN_,Classical.not_not,CL_,CF_,P_,S_,Z_,T_,C_,BO_,BP_,AE_,BC_,BR_,eqNums,N_,O_,AC_,BB_,BD_,AH_,BL_,BX_,BY_,AJ_,BU_,BT_] at *;(first|done|with_reducible assumption|omega|contradiction)))<|.n)).weak (B_ _) (AA_ (.cons (.refl _) (.cons (R_ (by (unfold shapesE;(try simp only[N_] at *);(repeat first|rw[i_ (by omega)]|rw[j_ (by omega)])))) (.cons (R_ (by (unfold shapesE;(try simp only[N_] at *);(repeat first|rw[i_ (by omega)]|rw[j_ (by omega)])))) .nil))))
theorem shapes_m (l:List Nod) (a:Shp) (m:Nat) (okl:∀ n∈l,n.Ok) (wl:∀ n∈l,n.w.length≤100000∧n.b.length≤100000) (i:0<elems a.h a.x a.c) (f8:l.length≤8) (hm:m<l.length) (hf:errL nextE l a m≠0) (h:∀ k,k<m→errL nextE l a k=0):VC L_ 101 ([.sl 19 (l.map nodC),shp a]) (.tup [nilv,i64 m,i64 (errL nextE l a m)]):=by
 have q:=Shp.Rt.ok i
 have oz0:=@sRight_v (a) q
 have oz6:=@shapes_ln (l) (a) (m) okl wl q f8 hm hf h
 exact VC.run (fn:=Tryz.f101) (W:=[r_,.r [] [.callr (rO oz0)],d_,r_,d_,r_,d_,r_,r_,.code [.any (rg [(1,1),(3,4),(12,14)]),.drop [3],.ren 25 900,.weak 27 (i64 (l.length:Int)),.weak 28 (i64 (↑0:Int)),.sort] (CA_) (zO oz6)]) Tryz.func101 (by kernel_rfl) (.c oz0<|.c (show (!decide (0<elems a.h a.x a.c))=false by (simp;omega))<|.c (show (((K_ nodC l).length:Int)==0)=false by (simp only[E_,F_,I_,J_,ne_eq,H_,G_,W_,U_,BK_,BQ_,BN_,Classical.not_not,CL_,CF_,P_,S_,Z_,T_,C_,BO_,BP_,AE_,BC_,BR_,eqNums,N_,O_,AC_,BB_,BD_,AH_,BL_,BX_,BY_,AJ_,BU_,BT_];(first|done|with_reducible assumption|omega|contradiction)))<|.c (show decide (((K_ nodC l).length:Int)>8)=false by (simp;omega))<|.c (R_ (k:=.i64) (show ((((K_ nodC l).length:Int)):Int)=((l.length:Int)) from (by (simp;done))))<|.c w0_<|.c oz6<|.n)
theorem shapes_n (l:List Nod) (a:Shp) (okl:∀ n∈l,n.Ok) (wl:∀ n∈l,n.w.length≤100000∧n.b.length≤100000) (i:a.Ok) (hl:l.length≤1000) (h:¬ SOK l a):VC L_ 101 [.sl 19 (l.map nodC),shp a] (.tup [nilv,i64 (shapesE l a).1,i64 (shapesE l a).2]):=by
 rcases SOK.cases l a with q|q|q|q|⟨i',e,f,m,h1,h2,h3⟩
 ·exact absurd q h
 ·exact shapes_a l a i hl (.inl q)
 ·exact shapes_a l a i hl (.inr (.inl q))
 ·exact shapes_a l a i hl (.inr (.inr q))
 ·rw[shapesE_at i' e f h1 h2 h3];exact shapes_m l a m okl wl i' f h1 h2 h3
theorem nextE_c {n:Nod} {L:List Shp} (h:checkE n≠0):nextE n L=(⟨0,0,0⟩,checkE n):=i_ h
theorem nextE_0 {n:Nod} {L:List Shp} (h:checkE n=0) (g:thereB n ((K_ shpC L).length:Int)=false):nextE n L=(⟨0,0,0⟩,8):=by
 rw[N_] at g;unfold nextE;rw[j_ (by simp[h]),j_ (by simp[g])]
theorem nextE_6 {n:Nod} {L:List Shp} (h:checkE n=0) (g:thereB n ((K_ shpC L).length:Int)=true):nextE n L=shapeE n (L.getD n.na.toNat default) (L.getD (secN n).toNat default):=by
 rw[N_] at g;unfold nextE;rw[j_ (by simp[h]),i_ g]
theorem nextE_ok {n:Nod} {L:List Shp} (q:(nextE n L).2=0):checkE n=0∧thereB n ((K_ shpC L).length:Int)=true∧nextE n L=shapeE n (L.getD n.na.toNat default) (L.getD (secN n).toNat default):=by
 by_cases h:checkE n=0
 ·cases g:thereB n ((K_ shpC L).length:Int) with
  | false=>rw[nextE_0 h g] at q;cases q
  | true=>exact ⟨h,rfl,nextE_6 h g⟩
 ·rw[nextE_c h] at q;exact absurd q h
theorem there_at {n:Nod} {L:List Shp} (okL:∀ r∈L,r.Ok) (h:thereB n ((K_ shpC L).length:Int)=true):(0≤n.na∧n.na<L.length∧n.na.toNat<L.length∧0≤secN n∧secN n<L.length∧(secN n).toNat<L.length)∧(L.getD n.na.toNat default).Ok∧(L.getD (secN n).toNat default).Ok:=by
 rw[N_] at h
 have h:=there_iff.1 h
 exact ⟨⟨by omega,by omega,by omega,by omega,by omega,by omega⟩,getD_in okL (by omega),getD_in okL (by omega)⟩
noncomputable def rshapes_ly_I (l:List Nod) (a:Shp) (k:Nat):VS:=stt 72 [(0,.sl 19 (l.map nodC)),(7,.own 900),(8,i64 k)] [(900,.slc 23 3 ((growL nextE l a k).map shpC))]
noncomputable def rshapes_ly_Z (l:List Nod) (a:Shp):VS:=rshapes_ly_I l a (l.length)
theorem rshapes_ly_s (l:List Nod) (a:Shp) (okl:∀ n∈l,n.Ok) (wl:∀ n∈l,n.w.length≤100000∧n.b.length≤100000) (i:a.Ok) (f8:l.length≤8) (h:∀ k,k<l.length→errL nextE l a k=0) (k:Nat) (hk:k<l.length):VT L_ (fnC Tryz.f35 [1,1,1,1,1,0,1,0,0]) (rshapes_ly_I l a k) .normal (rshapes_ly_I l a (k+1)):=by
 have q:=h k hk
 have q1:=growL_len nextE l a k
 have q2:=grow_ok (l:=l) i k
 have q3:=getD_in okl hk
 have qz:=q3.kd
 have q4:=getD_in wl hk
 obtain ⟨q5,q6⟩:=q4
 have q8:(K_ shpC (growL nextE l a k)).length=(growL nextE l a k).length:=N_ _
 unfold errL at q
 obtain ⟨c1,c2,c3⟩:=nextE_ok q
 obtain ⟨c4,c5,c6⟩:=there_at q2 c2
 rw[c3] at q
 have oz2:=(map_at (nodC) (default) (l:=l) (i:=k) hk)
 have oz3:=@refCheck_v (l.getD k default) q5 q6 qz
 have oz5:=@refThere_v (l.getD k default) (((K_ shpC (growL nextE l a k)).length:Int))
 have oz9:=(map_at (shpC) (default) (l:=growL nextE l a k) (i:=(l.getD k default).na.toNat) (by omega))
 have oz10:=@refSecond_v (l.getD k default)
 have oz13:=(map_at (shpC) (default) (l:=growL nextE l a k) (i:=(secN (l.getD k default)).toNat) (by omega))
 have oz14:=@refKshape_v (l.getD k default) ((growL nextE l a k).getD (l.getD k default).na.toNat default) ((growL nextE l a k).getD (secN (l.getD k default)).toNat default) c5 c6 q3
 exact VT.run (W:=[r_,b_,.r [] [.row (sO oz2)],.r [] [.callr (rO oz3)],r_,d_,.r [] [.callr (rO oz5)],d_,.r [] [.row (sO oz9),.callr (rO oz10),.row (sO oz13),.callr (rO oz14)],r_,d_,r_,.r [] [.n ((↑k:Int)+1)]]) (G:=[.any (rg [(9,4),(24,14),(40,5),(46,17),(65,4)]),.drop [9,11,67],.ren 68 900,.weak 8 (i64 (↑(k+1):Int)),.blk 900 (Blk.slc 23 3 (K_ shpC (growL nextE l a (k+1)))),.sort]) (by kernel_rfl) (.c (show decide ((↑k:Int)<((K_ nodC l).length:Int))=true by (simp;omega))<|.c (show 0≤(↑k:Int) by omega)<|.c oz2<|.c oz3<|.c (show (checkE (l.getD k default) != 0)=false by (rw[c1];rfl))<|.c oz5<|.c (show (!thereB (l.getD k default) ((K_ shpC (growL nextE l a k)).length:Int))=false by (rw[c2];rfl))<|.c (show 0≤(l.getD k default).na by omega)<|.c (show (l.getD k default).na<((K_ shpC (growL nextE l a k)).length:Int) by omega)<|.c oz9<|.c oz10<|.c (show 0≤secN (l.getD k default) by omega)<|.c (show secN (l.getD k default)<((K_ shpC (growL nextE l a k)).length:Int) by omega)<|.c oz13<|.c oz14<|.c (show ((shapeE (l.getD k default) ((growL nextE l a k).getD (l.getD k default).na.toNat default) ((growL nextE l a k).getD (secN (l.getD k default)).toNat default)).snd != 0)=false by (rw[q];rfl))<|.c (show ((K_ shpC (growL nextE l a k)).length+1)*24≤140737488355328 by omega)<|.c (show (K_ shpC (growL nextE l a k)).length+1≤9223372036854775807 by omega)<|.c (i6n ((↑k:Int)+1) (by omega))<|.c (wS_ k)<|.c (show BlkW (Blk.slc 23 3 (K_ shpC (growL nextE l a k)++[[i64 (shapeE (l.getD k default) ((growL nextE l a k).getD (l.getD k default).na.toNat default) ((growL nextE l a k).getD (secN (l.getD k default)).toNat default)).fst.h,i64 (shapeE (l.getD k default) ((growL nextE l a k).getD (l.getD k default).na.toNat default) ((growL nextE l a k).getD (secN (l.getD k default)).toNat default)).fst.x,i64 (shapeE (l.getD k default) ((growL nextE l a k).getD (l.getD k default).na.toNat default) ((growL nextE l a k).getD (secN (l.getD k default)).toNat default)).fst.c]])) (Blk.slc 23 3 (K_ shpC (growL nextE l a (k+1)))) from (AG_ (e:=23) (z:=3) (rows_to (shpC) (r:=K_ shpC (growL nextE l a k)++[[i64 (shapeE (l.getD k default) ((growL nextE l a k).getD (l.getD k default).na.toNat default) ((growL nextE l a k).getD (secN (l.getD k default)).toNat default)).fst.h,i64 (shapeE (l.getD k default) ((growL nextE l a k).getD (l.getD k default).na.toNat default) ((growL nextE l a k).getD (secN (l.getD k default)).toNat default)).fst.x,i64 (shapeE (l.getD k default) ((growL nextE l a k).getD (l.getD k default).na.toNat default) ((growL nextE l a k).getD (secN (l.getD k default)).toNat default)).fst.c]]) (l:=growL nextE l a k++[Shp.mk (shapeE (l.getD k default) ((growL nextE l a k).getD (l.getD k default).na.toNat default) ((growL nextE l a k).getD (secN (l.getD k default)).toNat default)).fst.h (shapeE (l.getD k default) ((growL nextE l a k).getD (l.getD k default).na.toNat default) ((growL nextE l a k).getD (secN (l.getD k default)).toNat default)).fst.x (shapeE (l.getD k default) ((growL nextE l a k).getD (l.getD k default).na.toNat default) ((growL nextE l a k).getD (secN (l.getD k default)).toNat default)).fst.c]) (m:=growL nextE l a (k+1)) (by first|(simp only[A_,D_,AO_,AP_,X_,AM_,AN_];done)|rfl|(simp only[A_,D_,AO_,AP_,X_,AM_,AN_];rfl)|(simp only[A_,D_,AO_,AP_,X_,AM_,AN_,shpC,ints];done)) (show (growL nextE l a k++[Shp.mk (shapeE (l.getD k default) ((growL nextE l a k).getD (l.getD k default).na.toNat default) ((growL nextE l a k).getD (secN (l.getD k default)).toNat default)).fst.h (shapeE (l.getD k default) ((growL nextE l a k).getD (l.getD k default).na.toNat default) ((growL nextE l a k).getD (secN (l.getD k default)).toNat default)).fst.x (shapeE (l.getD k default) ((growL nextE l a k).getD (l.getD k default).na.toNat default) ((growL nextE l a k).getD (secN (l.getD k default)).toNat default)).fst.c])=(growL nextE l a (k+1)) from (by (rw[growL,c3]))))))<|.n)
theorem rshapes_ly_e (l:List Nod) (a:Shp) (okl:∀ n∈l,n.Ok) (wl:∀ n∈l,n.w.length≤100000∧n.b.length≤100000) (i:a.Ok) (f8:l.length≤8) (h:∀ k,k<l.length→errL nextE l a k=0):VT L_ (fnC Tryz.f35 [1,1,1,1,1,0,1,0,0]) (rshapes_ly_I l a (l.length)) (.exit 0) (rshapes_ly_Z l a):=by
 exact VT.run (W:=[r_,d_]) (G:=[.any (rg [(24,4)]),.sort]) (by kernel_rfl) (.c (show decide ((l.length:Int)<((K_ nodC l).length:Int))=false by (simp;done))<|.n)
theorem rshapes_ly (l:List Nod) (a:Shp) (okl:∀ n∈l,n.Ok) (wl:∀ n∈l,n.w.length≤100000∧n.b.length≤100000) (i:a.Ok) (f8:l.length≤8) (h:∀ k,k<l.length→errL nextE l a k=0):VT L_ (fnC Tryz.f35 [1,1,1,1,1,0,1,0]) (rshapes_ly_I l a 0) (.exit 0) (rshapes_ly_Z l a) :=
 VT.loop (fun k=>rshapes_ly_I l a k) (l.length) (fun k hk=>rshapes_ly_s l a okl wl i f8 h k hk) (rshapes_ly_e l a okl wl i f8 h) (by intro h;cases h)
noncomputable def rshapes_ln_I (l:List Nod) (a:Shp) (m:Nat) (k:Nat):VS:=stt 72 [(0,.sl 19 (l.map nodC)),(7,.own 900),(8,i64 k)] [(900,.slc 23 3 ((growL nextE l a k).map shpC))]
noncomputable def rshapes_ln_Z (l:List Nod) (a:Shp) (m:Nat):VS:=stt 72 [(4,nilv),(5,i64 m),(6,i64 (errL nextE l a m))] []
theorem rshapes_ln_s (l:List Nod) (a:Shp) (m:Nat) (okl:∀ n∈l,n.Ok) (wl:∀ n∈l,n.w.length≤100000∧n.b.length≤100000) (i:a.Ok) (f8:l.length≤8) (hm:m<l.length) (hf:errL nextE l a m≠0) (h:∀ k,k<m→errL nextE l a k=0) (k:Nat) (hk:k<m):VT L_ (fnC Tryz.f35 [1,1,1,1,1,0,1,0,0]) (rshapes_ln_I l a m k) .normal (rshapes_ln_I l a m (k+1)):=by
 have q:=h k hk
 have q1:=growL_len nextE l a k
 have q2:=grow_ok (l:=l) i k
 have q3:=getD_in okl (show k<l.length by omega)
 have qz:=q3.kd
 have q4:=getD_in wl (show k<l.length by omega)
 obtain ⟨q5,q6⟩:=q4
 have q8:(K_ shpC (growL nextE l a k)).length=(growL nextE l a k).length:=N_ _
 unfold errL at q
 obtain ⟨c1,c2,c3⟩:=nextE_ok q
 obtain ⟨c4,c5,c6⟩:=there_at q2 c2
 rw[c3] at q
 have oz2:=(map_at (nodC) (default) (l:=l) (i:=k) (by omega))
 have oz3:=@refCheck_v (l.getD k default) q5 q6 qz
 have oz5:=@refThere_v (l.getD k default) (((K_ shpC (growL nextE l a k)).length:Int))
 have oz9:=(map_at (shpC) (default) (l:=growL nextE l a k) (i:=(l.getD k default).na.toNat) (by omega))
 have oz10:=@refSecond_v (l.getD k default)
 have oz13:=(map_at (shpC) (default) (l:=growL nextE l a k) (i:=(secN (l.getD k default)).toNat) (by omega))
 have oz14:=@refKshape_v (l.getD k default) ((growL nextE l a k).getD (l.getD k default).na.toNat default) ((growL nextE l a k).getD (secN (l.getD k default)).toNat default) c5 c6 q3
 exact VT.run (W:=[r_,b_,.r [] [.row (sO oz2)],.r [] [.callr (rO oz3)],r_,d_,.r [] [.callr (rO oz5)],d_,.r [] [.row (sO oz9),.callr (rO oz10),.row (sO oz13),.callr (rO oz14)],r_,d_,r_,.r [] [.n ((↑k:Int)+1)]]) (G:=[.any (rg [(9,4),(24,14),(40,5),(46,17),(65,4)]),.drop [9,11,67],.ren 68 900,.weak 8 (i64 (↑(k+1):Int)),.blk 900 (Blk.slc 23 3 (K_ shpC (growL nextE l a (k+1)))),.sort]) (by kernel_rfl) (.c (show decide ((↑k:Int)<((K_ nodC l).length:Int))=true by (simp;omega))<|.c (show 0≤(↑k:Int) by omega)<|.c oz2<|.c oz3<|.c (show (checkE (l.getD k default) != 0)=false by (rw[c1];rfl))<|.c oz5<|.c (show (!thereB (l.getD k default) ((K_ shpC (growL nextE l a k)).length:Int))=false by (rw[c2];rfl))<|.c (show 0≤(l.getD k default).na by omega)<|.c (show (l.getD k default).na<((K_ shpC (growL nextE l a k)).length:Int) by omega)<|.c oz9<|.c oz10<|.c (show 0≤secN (l.getD k default) by omega)<|.c (show secN (l.getD k default)<((K_ shpC (growL nextE l a k)).length:Int) by omega)<|.c oz13<|.c oz14<|.c (show ((shapeE (l.getD k default) ((growL nextE l a k).getD (l.getD k default).na.toNat default) ((growL nextE l a k).getD (secN (l.getD k default)).toNat default)).snd != 0)=false by (rw[q];rfl))<|.c (show ((K_ shpC (growL nextE l a k)).length+1)*24≤140737488355328 by omega)<|.c (show (K_ shpC (growL nextE l a k)).length+1≤9223372036854775807 by omega)<|.c (i6n ((↑k:Int)+1) (by omega))<|.c (wS_ k)<|.c (show BlkW (Blk.slc 23 3 (K_ shpC (growL nextE l a k)++[[i64 (shapeE (l.getD k default) ((growL nextE l a k).getD (l.getD k default).na.toNat default) ((growL nextE l a k).getD (secN (l.getD k default)).toNat default)).fst.h,i64 (shapeE (l.getD k default) ((growL nextE l a k).getD (l.getD k default).na.toNat default) ((growL nextE l a k).getD (secN (l.getD k default)).toNat default)).fst.x,i64 (shapeE (l.getD k default) ((growL nextE l a k).getD (l.getD k default).na.toNat default) ((growL nextE l a k).getD (secN (l.getD k default)).toNat default)).fst.c]])) (Blk.slc 23 3 (K_ shpC (growL nextE l a (k+1)))) from (AG_ (e:=23) (z:=3) (rows_to (shpC) (r:=K_ shpC (growL nextE l a k)++[[i64 (shapeE (l.getD k default) ((growL nextE l a k).getD (l.getD k default).na.toNat default) ((growL nextE l a k).getD (secN (l.getD k default)).toNat default)).fst.h,i64 (shapeE (l.getD k default) ((growL nextE l a k).getD (l.getD k default).na.toNat default) ((growL nextE l a k).getD (secN (l.getD k default)).toNat default)).fst.x,i64 (shapeE (l.getD k default) ((growL nextE l a k).getD (l.getD k default).na.toNat default) ((growL nextE l a k).getD (secN (l.getD k default)).toNat default)).fst.c]]) (l:=growL nextE l a k++[Shp.mk (shapeE (l.getD k default) ((growL nextE l a k).getD (l.getD k default).na.toNat default) ((growL nextE l a k).getD (secN (l.getD k default)).toNat default)).fst.h (shapeE (l.getD k default) ((growL nextE l a k).getD (l.getD k default).na.toNat default) ((growL nextE l a k).getD (secN (l.getD k default)).toNat default)).fst.x (shapeE (l.getD k default) ((growL nextE l a k).getD (l.getD k default).na.toNat default) ((growL nextE l a k).getD (secN (l.getD k default)).toNat default)).fst.c]) (m:=growL nextE l a (k+1)) (by first|(simp only[A_,D_,AO_,AP_,X_,AM_,AN_];done)|rfl|(simp only[A_,D_,AO_,AP_,X_,AM_,AN_];rfl)|(simp only[A_,D_,AO_,AP_,X_,AM_,AN_,shpC,ints];done)) (show (growL nextE l a k++[Shp.mk (shapeE (l.getD k default) ((growL nextE l a k).getD (l.getD k default).na.toNat default) ((growL nextE l a k).getD (secN (l.getD k default)).toNat default)).fst.h (shapeE (l.getD k default) ((growL nextE l a k).getD (l.getD k default).na.toNat default) ((growL nextE l a k).getD (secN (l.getD k default)).toNat default)).fst.x (shapeE (l.getD k default) ((growL nextE l a k).getD (l.getD k default).na.toNat default) ((growL nextE l a k).getD (secN (l.getD k default)).toNat default)).fst.c])=(growL nextE l a (k+1)) from (by (rw[growL,c3]))))))<|.n)
theorem rshapes_ln_e (l:List Nod) (a:Shp) (m:Nat) (okl:∀ n∈l,n.Ok) (wl:∀ n∈l,n.w.length≤100000∧n.b.length≤100000) (i:a.Ok) (f8:l.length≤8) (hm:m<l.length) (hf:errL nextE l a m≠0) (h:∀ k,k<m→errL nextE l a k=0):VT L_ (fnC Tryz.f35 [1,1,1,1,1,0,1,0,0]) (rshapes_ln_I l a m (m)) (.ret) (rshapes_ln_Z l a m):=by
 have q1:=growL_len nextE l a m
 have q2:=grow_ok (l:=l) i m
 have q3:=getD_in okl hm
 have qz:=q3.kd
 have q4:=getD_in wl hm
 obtain ⟨q5,q6⟩:=q4
 have q8:(K_ shpC (growL nextE l a m)).length=(growL nextE l a m).length:=N_ _
 have qa:=fun h=>there_at (n:=l.getD m default) q2 h
 have e0:=@nextE_c (l.getD m default) (growL nextE l a m)
 have e1:=@nextE_0 (l.getD m default) (growL nextE l a m)
 have e2:=@nextE_6 (l.getD m default) (growL nextE l a m)
 have q:errL nextE l a m=(nextE (l.getD m default) (growL nextE l a m)).2:=rfl
 unfold errL at hf
 have oz0:=(show decide ((↑m:Int)<((K_ nodC l).length:Int))=true by (simp;omega))
 have oz1:=(show 0≤(↑m:Int) by omega)
 have oz2:=(map_at (nodC) (default) (l:=l) (i:=m) hm)
 have oz3:=@refCheck_v (l.getD m default) q5 q6 qz
 rcases bft (checkE (l.getD m default) != 0) with hc0|hc0
 ·have gc0:¬checkE (l.getD m default)=0:=bdt hc0
  exact VT.run (W:=[r_,b_,.r [] [.row (sO oz2)],.r [] [.callr (rO oz3)],r_,b_,r_]) (G:=[.any (rg [(0,1),(7,4),(24,4),(30,10)]),.drop [900,9],.weak 6 (i64 (errL nextE l a m)),.sort]) (by kernel_rfl) (.c oz0<|.c oz1<|.c oz2<|.c oz3<|.c hc0<|.c (R_ (k:=.i64) (show ((checkE (l.getD m default)):Int)=(errL nextE l a m) from (by (rw[q,e0 (by omega)]))))<|.n)
 ·have gc0:checkE (l.getD m default)=0:=bdf hc0
  have oz5:=@refThere_v (l.getD m default) (((K_ shpC (growL nextE l a m)).length:Int))
  rcases bft (!thereB (l.getD m default) ((K_ shpC (growL nextE l a m)).length:Int)) with hc1|hc1
  ·have gc1:thereB (l.getD m default) ((K_ shpC (growL nextE l a m)).length:Int)=false:=by first|exact hc1|exact of_decide_eq_true hc1|exact of_decide_eq_false hc1|simpa [eqNums] using hc1|(simp[eqNums] at hc1 ⊢;first|done|assumption|omega)
   exact VT.run (W:=[r_,b_,.r [] [.row (sO oz2)],.r [] [.callr (rO oz3)],r_,d_,.r [] [.callr (rO oz5)],b_,r_]) (G:=[.any (rg [(0,1),(7,4),(24,4),(30,8),(40,6)]),.drop [900,9],.weak 6 (i64 (errL nextE l a m)),.sort]) (by kernel_rfl) (.c oz0<|.c oz1<|.c oz2<|.c oz3<|.c hc0<|.c oz5<|.c hc1<|.c (R_ (k:=.i64) (show ((8):Int)=(errL nextE l a m) from (by (rw[q,e1 (by omega) (by simp_all)]))))<|.n)
  ·have gc1:thereB (l.getD m default) ((K_ shpC (growL nextE l a m)).length:Int)=true:=by first|exact hc1|exact of_decide_eq_true hc1|exact of_decide_eq_false hc1|simpa [eqNums] using hc1|(simp[eqNums] at hc1 ⊢;first|done|assumption|omega)
   have oz9:=(map_at (shpC) (default) (l:=growL nextE l a m) (i:=(l.getD m default).na.toNat) (by (have:=qa (by assumption);omega)))
   have oz10:=@refSecond_v (l.getD m default)
   have oz13:=(map_at (shpC) (default) (l:=growL nextE l a m) (i:=(secN (l.getD m default)).toNat) (by (have:=qa (by assumption);omega)))
   have oz14:=@refKshape_v (l.getD m default) ((growL nextE l a m).getD (l.getD m default).na.toNat default) ((growL nextE l a m).getD (secN (l.getD m default)).toNat default) (by (have:=qa (by assumption);exact this.2.1)) (by (have:=qa (by assumption);exact this.2.2)) q3
   have oz16:=(R_ (k:=.i64) (show (((shapeE (l.getD m default) ((growL nextE l a m).getD (l.getD m default).na.toNat default) ((growL nextE l a m).getD (secN (l.getD m default)).toNat default)).snd):Int)=(errL nextE l a m) from (by (rw[q,e2 (by omega) (by assumption)]))))
   exact VT.run (W:=[r_,b_,.r [] [.row (sO oz2)],.r [] [.callr (rO oz3)],r_,d_,.r [] [.callr (rO oz5)],d_,.r [] [.row (sO oz9),.callr (rO oz10),.row (sO oz13),.callr (rO oz14)],r_,b_,r_]) (G:=[.any (rg [(0,1),(7,6),(24,4),(30,8),(40,5),(46,19)]),.drop [900,9,11],.weak 6 (wO oz16),.sort]) (by kernel_rfl) (.c oz0<|.c oz1<|.c oz2<|.c oz3<|.c hc0<|.c oz5<|.c hc1<|.c (show 0≤(l.getD m default).na by (have:=qa (by assumption);omega))<|.c (show (l.getD m default).na<((K_ shpC (growL nextE l a m)).length:Int) by (have:=qa (by assumption);omega))<|.c oz9<|.c oz10<|.c (show 0≤secN (l.getD m default) by (have:=qa (by assumption);omega))<|.c (show secN (l.getD m default)<((K_ shpC (growL nextE l a m)).length:Int) by (have:=qa (by assumption);omega))<|.c oz13<|.c oz14<|.c (show ((shapeE (l.getD m default) ((growL nextE l a m).getD (l.getD m default).na.toNat default) ((growL nextE l a m).getD (secN (l.getD m default)).toNat default)).snd != 0)=true by (rw[e2 (by omega) (by assumption)] at hf;rw[J_];exact hf))<|.c oz16<|.n)
theorem rshapes_ln (l:List Nod) (a:Shp) (m:Nat) (okl:∀ n∈l,n.Ok) (wl:∀ n∈l,n.w.length≤100000∧n.b.length≤100000) (i:a.Ok) (f8:l.length≤8) (hm:m<l.length) (hf:errL nextE l a m≠0) (h:∀ k,k<m→errL nextE l a k=0):VT L_ (fnC Tryz.f35 [1,1,1,1,1,0,1,0]) (rshapes_ln_I l a m 0) (.ret) (rshapes_ln_Z l a m) :=
 VT.loop (fun k=>rshapes_ln_I l a m k) (m) (fun k hk=>rshapes_ln_s l a m okl wl i f8 hm hf h k hk) (rshapes_ln_e l a m okl wl i f8 hm hf h) (by intro h;cases h)
theorem rshapes_y (l:List Nod) (a:Shp) (okl:∀ n∈l,n.Ok) (wl:∀ n∈l,n.w.length≤100000∧n.b.length≤100000) (h:SOK l a):VC L_ 35 ([.sl 19 (l.map nodC),shp a]) (.tup [.sl 3 ((growL nextE l a l.length).map shpC),i64 l.length,i64 0]):=by
 have q1:=h.i
 have q2:=h.e
 have q3:=h.f
 have q4:=h.k
 have q5:=q1.ok
 obtain ⟨p1,p2,p3⟩:=id q5
 unfold Shp.Rt at q1
 have oz0:=@refElems_v (a.h) (a.x) (a.c) p1 p2 p3
 have oz5:=@rshapes_ly (l) (a) okl wl q5 q3 q4
 exact (VC.run (fn:=Tryz.f35) (W:=[r_,.r [] [.callr (rO oz0)],d_,r_,d_,r_,d_,r_,r_,.code [.any (rg [(1,1),(3,4),(13,11)]),.drop [3],.ren 23 900,.weak 8 (i64 (↑0:Int)),.sort] (AF_ 0) (zO oz5),r_]) (r:=AV.tup [AV.sl 3 (K_ shpC (growL nextE l a l.length)),i64 ((K_ nodC l).length:Int),i64 0]) Tryz.func35 (by kernel_rfl) (.c oz0<|.c (show (elems a.h a.x a.c==0)=false by (refine decide_eq_false ?_;omega))<|.c (show (((K_ nodC l).length:Int)==0)=false by (simp only[E_,F_,I_,J_,ne_eq,H_,G_,W_,U_,BK_,BQ_,BN_,Classical.not_not,CL_,CF_,P_,S_,Z_,T_,C_,BO_,BP_,AE_,BC_,BR_,eqNums,N_,O_,AC_,BB_,BD_,AH_,BL_,BX_,BY_,AJ_,BU_,BT_];(first|done|with_reducible assumption|omega|contradiction)))<|.c (show decide (((K_ nodC l).length:Int)>8)=false by (simp;omega))<|.c w0_<|.c oz5<|.n)).weak (B_ _) (AA_ (.cons (.refl _) (.cons (R_ (by (simp;done))) (.cons (.refl _) .nil))))
theorem rshapes_a (l:List Nod) (a:Shp) (i:a.Ok) (hl:l.length≤1000) (h:¬ 0<elems a.h a.x a.c∨l.length=0∨8<l.length):VC L_ 35 ([.sl 19 (l.map nodC),shp a]) (.tup [nilv,i64 (shapesE l a).1,i64 (shapesE l a).2]):=by
 have q:=elems_in a.h a.x a.c
 obtain ⟨p1,p2,p3⟩:=id i
 have oz0:=@refElems_v (a.h) (a.x) (a.c) p1 p2 p3
 rcases bft (elems a.h a.x a.c==0) with hc0|hc0
 ·have gc0:elems a.h a.x a.c=0:=bet hc0
  exact (VC.run (fn:=Tryz.f35) (W:=[r_,.r [] [.callr (rO oz0)],b_,r_]) (r:=AV.tup [AV.lit (AY_ none 0 0),i64 (-1),i64 5]) Tryz.func35 (by kernel_rfl) (.c oz0<|.c hc0<|.n)).weak (B_ _) (AA_ (.cons (.refl _) (.cons (R_ (by (unfold shapesE;(try simp only[N_] at *);(repeat first|rw[i_ (by omega)]|rw[j_ (by omega)])))) (.cons (R_ (by (unfold shapesE;(try simp only[N_] at *);(repeat first|rw[i_ (by omega)]|rw[j_ (by omega)])))) .nil))))
 ·have gc0:¬elems a.h a.x a.c=0:=bef hc0
  rcases bft (((K_ nodC l).length:Int)==0) with hc1|hc1
  ·have gc1:((K_ nodC l).length:Int)=0:=bet hc1
   exact (VC.run (fn:=Tryz.f35) (W:=[r_,.r [] [.callr (rO oz0)],d_,r_,b_,r_]) (r:=AV.tup [AV.lit (AY_ none 0 0),i64 (-1),i64 12]) Tryz.func35 (by kernel_rfl) (.c oz0<|.c hc0<|.c hc1<|.n)).weak (B_ _) (AA_ (.cons (.refl _) (.cons (R_ (by (unfold shapesE;(try simp only[N_] at *);(repeat first|rw[i_ (by omega)]|rw[j_ (by omega)])))) (.cons (R_ (by (unfold shapesE;(try simp only[N_] at *);(repeat first|rw[i_ (by omega)]|rw[j_ (by omega)])))) .nil))))
  ·have gc1:¬((K_ nodC l).length:Int)=0:=bef hc1
   exact (VC.run (fn:=Tryz.f35) (W:=[r_,.r [] [.callr (rO oz0)],d_,r_,d_,r_,b_,r_]) (r:=AV.tup [AV.lit (AY_ none 0 0),i64 (-1),i64 4]) Tryz.func35 (by kernel_rfl) (.c oz0<|.c hc0<|.c hc1<|.c (show decide (((K_ nodC l).length:Int)>8)=true by (simp only[E_,F_,I_,J_,ne_eq,H_,G_,W_,U_,BK_,BQ_,BN_,Classical.not_not,CL_,CF_,P_,S_,Z_,T_,C_,BO_,BP_,AE_,BC_,BR_,eqNums,N_,O_,AC_,BB_,BD_,AH_,BL_,BX_,BY_,AJ_,BU_,BT_] at *;(first|done|with_reducible assumption|omega|contradiction)))<|.n)).weak (B_ _) (AA_ (.cons (.refl _) (.cons (R_ (by (unfold shapesE;(try simp only[N_] at *);(repeat first|rw[i_ (by omega)]|rw[j_ (by omega)])))) (.cons (R_ (by (unfold shapesE;(try simp only[N_] at *);(repeat first|rw[i_ (by omega)]|rw[j_ (by omega)])))) .nil))))
theorem rshapes_m (l:List Nod) (a:Shp) (m:Nat) (okl:∀ n∈l,n.Ok) (wl:∀ n∈l,n.w.length≤100000∧n.b.length≤100000) (i:0<elems a.h a.x a.c) (f8:l.length≤8) (hm:m<l.length) (hf:errL nextE l a m≠0) (h:∀ k,k<m→errL nextE l a k=0):VC L_ 35 ([.sl 19 (l.map nodC),shp a]) (.tup [nilv,i64 m,i64 (errL nextE l a m)]):=by
 have q:=Shp.Rt.ok i
 obtain ⟨p1,p2,p3⟩:=id q
 have oz0:=@refElems_v (a.h) (a.x) (a.c) p1 p2 p3
 have oz5:=@rshapes_ln (l) (a) (m) okl wl q f8 hm hf h
 exact VC.run (fn:=Tryz.f35) (W:=[r_,.r [] [.callr (rO oz0)],d_,r_,d_,r_,d_,r_,r_,.code [.any (rg [(1,1),(3,4),(13,11)]),.drop [3],.ren 23 900,.weak 8 (i64 (↑0:Int)),.sort] (CA_) (zO oz5)]) Tryz.func35 (by kernel_rfl) (.c oz0<|.c (show (elems a.h a.x a.c==0)=false by (refine decide_eq_false ?_;omega))<|.c (show (((K_ nodC l).length:Int)==0)=false by (simp only[E_,F_,I_,J_,ne_eq,H_,G_,W_,U_,BK_,BQ_,BN_,Classical.not_not,CL_,CF_,P_,S_,Z_,T_,C_,BO_,BP_,AE_,BC_,BR_,eqNums,N_,O_,AC_,BB_,BD_,AH_,BL_,BX_,BY_,AJ_,BU_,BT_];(first|done|with_reducible assumption|omega|contradiction)))<|.c (show decide (((K_ nodC l).length:Int)>8)=false by (simp;omega))<|.c w0_<|.c oz5<|.n)
theorem rshapes_n (l:List Nod) (a:Shp) (okl:∀ n∈l,n.Ok) (wl:∀ n∈l,n.w.length≤100000∧n.b.length≤100000) (i:a.Ok) (hl:l.length≤1000) (h:¬ SOK l a):VC L_ 35 [.sl 19 (l.map nodC),shp a] (.tup [nilv,i64 (shapesE l a).1,i64 (shapesE l a).2]):=by
 rcases SOK.cases l a with q|q|q|q|⟨i',e,f,m,h1,h2,h3⟩
 ·exact absurd q h
 ·exact rshapes_a l a i hl (.inl q)
 ·exact rshapes_a l a i hl (.inr (.inl q))
 ·exact rshapes_a l a i hl (.inr (.inr q))
 ·rw[shapesE_at i' e f h1 h2 h3];exact rshapes_m l a m okl wl i' f h1 h2 h3
abbrev shpsL (l:List Nod) (a:Shp):List Shp:=growL nextE l a l.length
def lastS (l:List Nod) (a:Shp):Shp:=(shpsL l a).getD l.length default
theorem shpsL_len (l:List Nod) (a:Shp):(shpsL l a).length=l.length+1:=growL_len nextE l a l.length
theorem lastS_ok {l:List Nod} {a:Shp} (h:a.Ok):(lastS l a).Ok:=getD_in (grow_ok (l:=l) h l.length) (show l.length<(shpsL l a).length by rw[shpsL_len];omega)
theorem lastS_i {l:List Nod} {a:Shp} {i:Nat} (hi:i=l.length):(growL nextE l a l.length).getD i default=lastS l a:=by subst hi;rfl
abbrev fullR:Rng:=⟨-128,127⟩
theorem fullR_in:fullR.In8:=⟨⟨by decide,by decide⟩,⟨by decide,by decide⟩⟩
abbrev rchsL (l:List Nod):List Rng:=growL stepR l fullR l.length
def lastR (l:List Nod):Rng:=(rchsL l).getD l.length default
theorem rchsL_len (l:List Nod):(rchsL l).length=l.length+1:=growL_len stepR l fullR l.length
theorem lastR_in {l:List Nod} (okl:∀ n∈l,n.Ok):(lastR l).In8:=getD_in (flow_in okl fullR_in (AX_ _)) (show l.length<(rchsL l).length by rw[rchsL_len];omega)
theorem lastR_i {l:List Nod} {i:Nat} (hi:i=l.length):(growL stepR l fullR l.length).getD i default=lastR l:=by subst hi;rfl
def verdE (s:Shp) (w b:List Int) (nd cl:Int):Int :=
 if elems s.h s.x s.c=0 then 5 else if cl<2∨16<cl then 2
 else if (w.length:Int)≠cl*elems s.h s.x s.c∨16384<(w.length:Int)∨(b.length:Int)≠cl then 9 else if nd<0 then 11 else 0
theorem clel_bd {cl:Int} (s:Shp) (h:2≤cl∧cl≤16):0≤cl*elems s.h s.x s.c∧cl*elems s.h s.x s.c≤16384:=by
 have h1:=elems_in s.h s.x s.c
 have:=mul_bd (A:=16) (B:=1024) (a:=cl) (by omega) (by omega) h1.1 h1.2
 omega
theorem vcheck_v (s:Shp) (w b:List Int) (nd cl:Int) (ok:s.Ok) (wl:w.length≤100000) (bl:b.length≤100000):VC L_ 176 ([shp s,.agg (hedC w b nd),i64 cl]) (i64 (verdE s w b nd cl)):=by
 obtain ⟨p1,p2,p3⟩:=id ok
 have q1:=elems_in s.h s.x s.c
 have q2:=@clel_bd cl s
 have oz0:=@elems_v (s.h) (s.x) (s.c) p1 p2 p3
 rcases bft (elems s.h s.x s.c==0) with hc0|hc0
 ·have gc0:elems s.h s.x s.c=0:=bet hc0
  exact (VC.run (fn:=Tryz.f176) (W:=[r_,.r [] [.callr (rO oz0)],r_,b_,r_]) (r:=i64 5) Tryz.func176 (by kernel_rfl) (.c oz0<|.c hc0<|.n)).weak (B_ _) (R_ (by (unfold verdE;(try simp only[N_] at *);(repeat first|rw[i_ (by omega)]|rw[j_ (by omega)]))))
 ·have gc0:¬elems s.h s.x s.c=0:=bef hc0
  rcases bft (decide (cl<2) || decide (cl>16)) with hc1|hc1
  ·have gc1:cl<2∨cl>16:=by simp only[Z_,T_,P_,S_,W_,U_,E_,F_,I_,J_,ne_eq,H_,G_,eqNums,C_] at hc1;first|exact hc1|omega
   exact (VC.run (fn:=Tryz.f176) (W:=[r_,.r [] [.callr (rO oz0)],r_,d_,.r [] [o_,o_,.sel 1],b_,r_]) (r:=i64 2) Tryz.func176 (by kernel_rfl) (.c oz0<|.c hc0<|.c hc1<|.n)).weak (B_ _) (R_ (by (unfold verdE;(try simp only[N_] at *);(repeat first|rw[i_ (by omega)]|rw[j_ (by omega)]))))
  ·have gc1:¬cl<2∧¬cl>16:=by simp only[Z_,T_,P_,S_,W_,U_,E_,F_,I_,J_,ne_eq,H_,G_,eqNums,C_] at hc1;first|exact hc1|omega
   have oz3:=(i6n (cl*elems s.h s.x s.c) (by omega))
   rcases bft (((K_ (row1 .i8) w).length:Int) != cl*elems s.h s.x s.c || decide (((K_ (row1 .i8) w).length:Int)>16384) || ((K_ (row1 .i32) b).length:Int) != cl) with hc2|hc2
   ·have gc2:(¬((K_ (row1 .i8) w).length:Int)=cl*elems s.h s.x s.c∨((K_ (row1 .i8) w).length:Int)>16384)∨¬((K_ (row1 .i32) b).length:Int)=cl:=by simp only[Z_,T_,P_,S_,W_,U_,E_,F_,I_,J_,ne_eq,H_,G_,eqNums,C_] at hc2;first|exact hc2|omega
    exact (VC.run (fn:=Tryz.f176) (W:=[r_,.r [] [.callr (rO oz0)],r_,d_,.r [] [o_,o_,.sel 1],d_,.r [] [.n (nO oz3),o_,o_,o_,o_,.sel 1,o_,o_,o_,o_,o_,.sel 1],b_,r_]) (r:=i64 9) Tryz.func176 (by kernel_rfl) (.c oz0<|.c hc0<|.c hc1<|.c oz3<|.c hc2<|.n)).weak (B_ _) (R_ (by (unfold verdE;(try simp only[N_] at *);(repeat first|rw[i_ (by omega)]|rw[j_ (by omega)]))))
   ·have gc2:(((K_ (row1 .i8) w).length:Int)=cl*elems s.h s.x s.c∧¬((K_ (row1 .i8) w).length:Int)>16384)∧((K_ (row1 .i32) b).length:Int)=cl:=by simp only[Z_,T_,P_,S_,W_,U_,E_,F_,I_,J_,ne_eq,H_,G_,eqNums,C_] at hc2;first|exact hc2|omega
    rcases bft (decide (nd<0)) with hc3|hc3
    ·have gc3:=of_decide_eq_true hc3
     exact (VC.run (fn:=Tryz.f176) (W:=[r_,.r [] [.callr (rO oz0)],r_,d_,.r [] [o_,o_,.sel 1],d_,.r [] [.n (nO oz3),o_,o_,o_,o_,.sel 1,o_,o_,o_,o_,o_,.sel 1],d_,r_,b_,r_]) (r:=i64 11) Tryz.func176 (by kernel_rfl) (.c oz0<|.c hc0<|.c hc1<|.c oz3<|.c hc2<|.c hc3<|.n)).weak (B_ _) (R_ (by (unfold verdE;(try simp only[N_] at *);(repeat first|rw[i_ (by omega)]|rw[j_ (by omega)]))))
    ·have gc3:=of_decide_eq_false hc3
     exact (VC.run (fn:=Tryz.f176) (W:=[r_,.r [] [.callr (rO oz0)],r_,d_,.r [] [o_,o_,.sel 1],d_,.r [] [.n (nO oz3),o_,o_,o_,o_,.sel 1,o_,o_,o_,o_,o_,.sel 1],d_,r_,d_,r_]) (r:=i64 0) Tryz.func176 (by kernel_rfl) (.c oz0<|.c hc0<|.c hc1<|.c oz3<|.c hc2<|.c hc3<|.n)).weak (B_ _) (R_ (by (unfold verdE;(try simp only[N_] at *);(repeat first|rw[i_ (by omega)]|rw[j_ (by omega)]))))
theorem refVcheck_v (s:Shp) (w b:List Int) (nd cl:Int) (ok:s.Ok) (wl:w.length≤100000) (bl:b.length≤100000):VC L_ 70 ([shp s,.agg (hedC w b nd),i64 cl]) (i64 (verdE s w b nd cl)):=by
 obtain ⟨p1,p2,p3⟩:=id ok
 have q1:=elems_in s.h s.x s.c
 have q2:=@clel_bd cl s
 have oz0:=@refElems_v (s.h) (s.x) (s.c) p1 p2 p3
 rcases bft (elems s.h s.x s.c==0) with hc0|hc0
 ·have gc0:elems s.h s.x s.c=0:=bet hc0
  exact (VC.run (fn:=Tryz.f70) (W:=[r_,.r [] [.callr (rO oz0)],b_,r_]) (r:=i64 5) Tryz.func70 (by kernel_rfl) (.c oz0<|.c hc0<|.n)).weak (B_ _) (R_ (by (unfold verdE;(try simp only[N_] at *);(repeat first|rw[i_ (by omega)]|rw[j_ (by omega)]))))
 ·have gc0:¬elems s.h s.x s.c=0:=bef hc0
  rcases bft (decide (cl<2) || decide (cl>16)) with hc1|hc1
  ·have gc1:cl<2∨cl>16:=by simp only[Z_,T_,P_,S_,W_,U_,E_,F_,I_,J_,ne_eq,H_,G_,eqNums,C_] at hc1;first|exact hc1|omega
   exact (VC.run (fn:=Tryz.f70) (W:=[r_,.r [] [.callr (rO oz0)],d_,.r [] [o_,o_,.sel 1],b_,r_]) (r:=i64 2) Tryz.func70 (by kernel_rfl) (.c oz0<|.c hc0<|.c hc1<|.n)).weak (B_ _) (R_ (by (unfold verdE;(try simp only[N_] at *);(repeat first|rw[i_ (by omega)]|rw[j_ (by omega)]))))
  ·have gc1:¬cl<2∧¬cl>16:=by simp only[Z_,T_,P_,S_,W_,U_,E_,F_,I_,J_,ne_eq,H_,G_,eqNums,C_] at hc1;first|exact hc1|omega
   have oz4:=(i6n (cl*elems s.h s.x s.c) (by omega))
   rcases bft (((K_ (row1 .i8) w).length:Int) != cl*elems s.h s.x s.c || decide (((K_ (row1 .i8) w).length:Int)>16384) || ((K_ (row1 .i32) b).length:Int) != cl) with hc2|hc2
   ·have gc2:(¬((K_ (row1 .i8) w).length:Int)=cl*elems s.h s.x s.c∨((K_ (row1 .i8) w).length:Int)>16384)∨¬((K_ (row1 .i32) b).length:Int)=cl:=by simp only[Z_,T_,P_,S_,W_,U_,E_,F_,I_,J_,ne_eq,H_,G_,eqNums,C_] at hc2;first|exact hc2|omega
    exact (VC.run (fn:=Tryz.f70) (W:=[r_,.r [] [.callr (rO oz0)],d_,.r [] [o_,o_,.sel 1],d_,.r [] [.callr (rO oz0),.n (nO oz4),o_,o_,o_,o_,.sel 1,o_,o_,o_,o_,o_,.sel 1],b_,r_]) (r:=i64 9) Tryz.func70 (by kernel_rfl) (.c oz0<|.c hc0<|.c hc1<|.c oz0<|.c oz4<|.c hc2<|.n)).weak (B_ _) (R_ (by (unfold verdE;(try simp only[N_] at *);(repeat first|rw[i_ (by omega)]|rw[j_ (by omega)]))))
   ·have gc2:(((K_ (row1 .i8) w).length:Int)=cl*elems s.h s.x s.c∧¬((K_ (row1 .i8) w).length:Int)>16384)∧((K_ (row1 .i32) b).length:Int)=cl:=by simp only[Z_,T_,P_,S_,W_,U_,E_,F_,I_,J_,ne_eq,H_,G_,eqNums,C_] at hc2;first|exact hc2|omega
    rcases bft (decide (nd<0)) with hc3|hc3
    ·have gc3:=of_decide_eq_true hc3
     exact (VC.run (fn:=Tryz.f70) (W:=[r_,.r [] [.callr (rO oz0)],d_,.r [] [o_,o_,.sel 1],d_,.r [] [.callr (rO oz0),.n (nO oz4),o_,o_,o_,o_,.sel 1,o_,o_,o_,o_,o_,.sel 1],d_,r_,b_,r_]) (r:=i64 11) Tryz.func70 (by kernel_rfl) (.c oz0<|.c hc0<|.c hc1<|.c oz0<|.c oz4<|.c hc2<|.c hc3<|.n)).weak (B_ _) (R_ (by (unfold verdE;(try simp only[N_] at *);(repeat first|rw[i_ (by omega)]|rw[j_ (by omega)]))))
    ·have gc3:=of_decide_eq_false hc3
     exact (VC.run (fn:=Tryz.f70) (W:=[r_,.r [] [.callr (rO oz0)],d_,.r [] [o_,o_,.sel 1],d_,.r [] [.callr (rO oz0),.n (nO oz4),o_,o_,o_,o_,.sel 1,o_,o_,o_,o_,o_,.sel 1],d_,r_,d_,r_]) (r:=i64 0) Tryz.func70 (by kernel_rfl) (.c oz0<|.c hc0<|.c hc1<|.c oz0<|.c oz4<|.c hc2<|.c hc3<|.n)).weak (B_ _) (R_ (by (unfold verdE;(try simp only[N_] at *);(repeat first|rw[i_ (by omega)]|rw[j_ (by omega)]))))
theorem bare_v (w b:List Int) (nd:Int) (wl:w.length≤100000) (bl:b.length≤100000):VC L_ 175 ([.agg (hedC w b nd)]) (bv (decide (w.length=0∧b.length=0∧nd=0))):=by
 exact (VC.run (fn:=Tryz.f175) (W:=[r_,.r [] [o_,o_,o_,o_,.sel 2,o_,o_,o_,.sel 2]]) (r:=bv (((K_ (row1 .i8) w).length:Int)==0&&((K_ (row1 .i32) b).length:Int)==0&&nd==0)) Tryz.func175 (by kernel_rfl) (.n)).weak (B_ _) (AZ_ (by (rw[Bool.eq_iff_iff];simp only[E_,F_,I_,J_,ne_eq,H_,G_,W_,U_,BK_,BQ_,BN_,Classical.not_not,CL_,CF_,P_,S_,Z_,T_,C_,BO_,BP_,AE_,BC_,BR_,eqNums,N_,O_,AC_,BB_,BD_,AH_,BL_,BX_,BY_,AJ_,BU_,BT_,BA_,CE_,false_iff,true_iff,iff_false,iff_true] at *;first|done|omega)))
def exitE (x:Blc) (out:Shp) (r:Rng) (cl:Int) (last:Bool):Int :=
 if x.ex=false∧(last=true∨¬ (x.w.length=0∧x.b.length=0∧x.nd=0)) then 11 else if x.ex=false then 0
 else if verdE out x.w x.b x.nd cl≠0 then verdE out x.w x.b x.nd cl else headE x.w x.b r.lo r.hi
theorem vexit_v (x:Blc) (out:Shp) (r:Rng) (cl:Int) (last:Bool) (ok:x.Ok) (oks:out.Ok) (hr:r.In8) (wl:x.w.length≤100000) (bl:x.b.length≤100000):VC L_ 146 ([blc x,shp out,rch r,i64 cl,bv last]) (i64 (exitE x out r cl last)):=by
 have q1:=ok.w
 have q2:=ok.b
 obtain ⟨q3,q4⟩:=id hr
 rcases bft (last && !x.ex) with hc0|hc0
 ·have gc0:last=true∧x.ex=false:=by simp only[Z_,T_,P_,S_,W_,U_,E_,F_,I_,J_,ne_eq,H_,G_,eqNums,C_] at hc0;first|exact hc0|omega
  exact (VC.run (fn:=Tryz.f146) (W:=[r_,.r [] [o_,o_,o_,.sel 2],b_,b_,r_]) (r:=i64 11) Tryz.func146 (by kernel_rfl) (.c hc0<|.c hc0<|.n)).weak (B_ _) (R_ (by (unfold exitE;simp_all;done)))
 ·have gc0:last=false∨x.ex=true:=by simp only[Z_,T_,P_,S_,W_,U_,E_,F_,I_,J_,ne_eq,H_,G_,eqNums,C_] at hc0;first|exact hc0|omega
  have oz1:=@bare_v (x.w) (x.b) (x.nd) wl bl
  rcases bft (!x.ex && !decide (x.w.length=0∧x.b.length=0∧x.nd=0)) with hc1|hc1
  ·have gc1:x.ex=false∧¬(x.w.length=0∧x.b.length=0∧x.nd=0):=by simp only[Z_,T_,P_,S_,W_,U_,E_,F_,I_,J_,ne_eq,H_,G_,eqNums,C_] at hc1;first|exact hc1|omega
   exact (VC.run (fn:=Tryz.f146) (W:=[r_,.r [] [o_,o_,o_,.sel 2],d_,.r [] [o_,o_,o_,.callr (rO oz1),o_,.sel 2],b_,r_]) (r:=i64 11) Tryz.func146 (by kernel_rfl) (.c hc0<|.c oz1<|.c hc1<|.n)).weak (B_ _) (R_ (by (unfold exitE;simp_all;done)))
  ·have gc1:x.ex=true∨x.w.length=0∧x.b.length=0∧x.nd=0:=by simp only[Z_,T_,P_,S_,W_,U_,E_,F_,I_,J_,ne_eq,H_,G_,eqNums,C_] at hc1;first|exact hc1|omega
   rcases bft (!x.ex) with hc2|hc2
   ·have gc2:x.ex=false:=by first|exact hc2|exact of_decide_eq_true hc2|exact of_decide_eq_false hc2|simpa [eqNums] using hc2|(simp[eqNums] at hc2 ⊢;first|done|assumption|omega)
    exact (VC.run (fn:=Tryz.f146) (W:=[r_,.r [] [o_,o_,o_,.sel 2],d_,.r [] [o_,o_,o_,.callr (rO oz1),o_,.sel 2],d_,r_,b_,r_]) (r:=i64 0) Tryz.func146 (by kernel_rfl) (.c hc0<|.c oz1<|.c hc1<|.c hc2<|.n)).weak (B_ _) (R_ (by (unfold exitE;simp_all;done)))
   ·have gc2:x.ex=true:=by first|exact hc2|exact of_decide_eq_true hc2|exact of_decide_eq_false hc2|simpa [eqNums] using hc2|(simp[eqNums] at hc2 ⊢;first|done|assumption|omega)
    have oz4:=@vcheck_v (out) (x.w) (x.b) (x.nd) (cl) oks wl bl
    rcases bft (verdE out x.w x.b x.nd cl != 0) with hc3|hc3
    ·have gc3:¬verdE out x.w x.b x.nd cl=0:=bdt hc3
     exact (VC.run (fn:=Tryz.f146) (W:=[r_,.r [] [o_,o_,o_,.sel 2],d_,.r [] [o_,o_,o_,.callr (rO oz1),o_,.sel 2],d_,r_,d_,.r [] [.callr (rO oz4)],r_,b_,r_]) (r:=i64 (verdE out x.w x.b x.nd cl)) Tryz.func146 (by kernel_rfl) (.c hc0<|.c oz1<|.c hc1<|.c hc2<|.c oz4<|.c hc3<|.n)).weak (B_ _) (R_ (by (unfold exitE;simp_all;done)))
    ·have gc3:verdE out x.w x.b x.nd cl=0:=bdf hc3
     have oz6:=@ghead_v (x.w) (x.b) (x.nd) (r.lo) (r.hi) q1 q2 wl bl q3 q4
     exact (VC.run (fn:=Tryz.f146) (W:=[r_,.r [] [o_,o_,o_,.sel 2],d_,.r [] [o_,o_,o_,.callr (rO oz1),o_,.sel 2],d_,r_,d_,.r [] [.callr (rO oz4)],r_,d_,.r [] [.callr (rO oz6)]]) (r:=i64 (headE x.w x.b r.lo r.hi)) Tryz.func146 (by kernel_rfl) (.c hc0<|.c oz1<|.c hc1<|.c hc2<|.c oz4<|.c hc3<|.c oz6<|.n)).weak (B_ _) (R_ (by (unfold exitE;simp_all;done)))
def validE (x:Blc) (a:Shp) (cl:Int) (last:Bool):Int×Int :=
 if (shapesE x.n a).2≠0 then shapesE x.n a else if (flowE x.n fullR).2≠0 then flowE x.n fullR
 else if exitE x (lastS x.n a) (lastR x.n) cl last≠0 then (-1,exitE x (lastS x.n a) (lastR x.n) cl last) else ((x.n.length:Int),0)
theorem validE_s {x:Blc} {a:Shp} {cl:Int} {last:Bool} (h:¬ SOK x.n a):validE x a cl last=shapesE x.n a:=i_ (shapesE_n h)
theorem validE_f {x:Blc} {a:Shp} {cl:Int} {last:Bool} (h:SOK x.n a) (g:¬ FOK x.n fullR):validE x a cl last=flowE x.n fullR:=by
 unfold validE;rw[j_ (by rw[shapesE_y h];simp),i_ (flowE_n g)]
theorem validE_y {x:Blc} {a:Shp} {cl:Int} {last:Bool} (h:SOK x.n a) (g:FOK x.n fullR):validE x a cl last=if exitE x (lastS x.n a) (lastR x.n) cl last≠0 then (-1,exitE x (lastS x.n a) (lastR x.n) cl last) else ((x.n.length:Int),0):=by
 unfold validE;rw[j_ (by rw[shapesE_y h];simp),j_ (by rw[flowE_y g];simp)]
structure Blc.Sm (x:Blc):Prop where
 l:x.n.length≤12
 s:∀ n∈x.n,n.w.length≤100000∧n.b.length≤100000
 w:x.w.length≤100000
 b:x.b.length≤100000
theorem Blc.sm {x:Blc} (h:blcS x=true):x.Sm:=by
 have q:=blc_facts h
 exact ⟨q.1,q.2.2.1,by omega,by omega⟩
theorem vblock_s (x:Blc) (a:Shp) (cl:Int) (last:Bool) (ok:x.Ok) (oka:a.Ok) (sm:x.Sm) (h:¬ SOK x.n a):VC L_ 100 ([blc x,shp a,i64 cl,bv last]) (.tup [i64 (validE x a cl last).1,i64 (validE x a cl last).2]):=by
 have q1:=ok.n
 obtain ⟨q2,q3,q4,q5⟩:=id sm
 have q6:=shapesE_n h
 have q7:=@validE_s x a cl last h
 have oz0:=@shapes_n (x.n) (a) q1 q3 oka (by omega) h
 exact (VC.run (fn:=Tryz.f100) (W:=[r_,.r [] [.callr (rO oz0)],r_,b_,r_]) (r:=AV.tup [i64 (shapesE x.n a).fst,i64 (shapesE x.n a).snd]) Tryz.func100 (by kernel_rfl) (.c oz0<|.c (show ((shapesE x.n a).snd != 0)=true by (simp;omega))<|.n)).weak (B_ _) (AA_ (.cons (R_ (by (rw[q7]))) (.cons (R_ (by (rw[q7]))) .nil)))
theorem vblock_f (x:Blc) (a:Shp) (cl:Int) (last:Bool) (ok:x.Ok) (oka:a.Ok) (sm:x.Sm) (h:SOK x.n a) (g:¬ FOK x.n fullR):VC L_ 100 ([blc x,shp a,i64 cl,bv last]) (.tup [i64 (validE x a cl last).1,i64 (validE x a cl last).2]):=by
 have q1:=ok.n
 obtain ⟨q2,q3,q4,q5⟩:=id sm
 have q6:=flowE_n g
 have q7:=@validE_f x a cl last h g
 have q8:=fullR_in
 have oz0:=@shapes_y (x.n) (a) q1 q3 h
 have oz2:=@flow_n (x.n) (Rng.mk (-128) 127) q1 q3 q8 (by omega) g
 exact (VC.run (fn:=Tryz.f100) (W:=[r_,.r [] [.callr (rO oz0)],r_,d_,.r [] [.callr (rO oz2)],r_,b_,r_]) (r:=AV.tup [i64 (flowE x.n (Rng.mk (-128) 127)).fst,i64 (flowE x.n (Rng.mk (-128) 127)).snd]) Tryz.func100 (by kernel_rfl) (.c oz0<|.c (show false=false by with_reducible rfl)<|.c oz2<|.c (show ((flowE x.n (Rng.mk (-128) 127)).snd != 0)=true by (simp;omega))<|.n)).weak (B_ _) (AA_ (.cons (R_ (by (rw[q7]))) (.cons (R_ (by (rw[q7]))) .nil)))
theorem vblock_y (x:Blc) (a:Shp) (cl:Int) (last:Bool) (ok:x.Ok) (oka:a.Ok) (sm:x.Sm) (h:SOK x.n a) (g:FOK x.n fullR):VC L_ 100 ([blc x,shp a,i64 cl,bv last]) (.tup [i64 (validE x a cl last).1,i64 (validE x a cl last).2]):=by
 have q1:=ok.n
 obtain ⟨q2,q3,q4,q5⟩:=id sm
 have q7:=@validE_y x a cl last h g
 have q8:=fullR_in
 have l1:=shpsL_len x.n a
 have l2:=rchsL_len x.n
 have l3:(K_ shpC (shpsL x.n a)).length=(shpsL x.n a).length:=N_ _
 have l4:(K_ rchC (rchsL x.n)).length=(rchsL x.n).length:=N_ _
 have l5:(K_ nodC x.n).length=x.n.length:=N_ _
 have s1:=@lastS_i x.n a
 have s2:=@lastR_i x.n
 have s3:=lastS_ok (l:=x.n) oka
 have s4:=lastR_in q1
 have oz0:=@shapes_y (x.n) (a) q1 q3 h
 have oz1:=(show false=false by with_reducible rfl)
 have oz2:=@flow_y (x.n) (Rng.mk (-128) 127) q1 q3 q8 g
 have oz4:=(show 0≤((K_ nodC x.n).length:Int) by omega)
 have oz5:=(map_at (shpC) (default) (l:=growL nextE x.n a x.n.length) (i:=(K_ nodC x.n).length) (by (simp_all;done)))
 have oz7:=(map_at (rchC) (default) (l:=growL stepR x.n (Rng.mk (-128) 127) x.n.length) (i:=(K_ nodC x.n).length) (by (simp_all;done)))
 have oz8:=@vexit_v (x) ((growL nextE x.n a x.n.length).getD (K_ nodC x.n).length default) ((growL stepR x.n (Rng.mk (-128) 127) x.n.length).getD (K_ nodC x.n).length default) (cl) (last) ok (by (rw[s1 (by omega)];exact s3)) (by (rw[s2 (by omega)];exact s4)) q4 q5
 rcases bft (exitE x ((growL nextE x.n a x.n.length).getD (K_ nodC x.n).length default) ((growL stepR x.n (Rng.mk (-128) 127) x.n.length).getD (K_ nodC x.n).length default) cl last != 0) with hc0|hc0
 ·have gc0:¬exitE x ((growL nextE x.n a x.n.length).getD (K_ nodC x.n).length default) ((growL stepR x.n (Rng.mk (-128) 127) x.n.length).getD (K_ nodC x.n).length default) cl last=0:=bdt hc0
  exact (VC.run (fn:=Tryz.f100) (W:=[r_,.r [] [.callr (rO oz0)],r_,d_,.r [] [.callr (rO oz2)],r_,d_,.r [] [.row (sO oz5),.row (sO oz7),.callr (rO oz8)],r_,b_,r_]) (r:=AV.tup [i64 (-1),i64 (exitE x ((growL nextE x.n a x.n.length).getD (K_ nodC x.n).length default) ((growL stepR x.n (Rng.mk (-128) 127) x.n.length).getD (K_ nodC x.n).length default) cl last)]) Tryz.func100 (by kernel_rfl) (.c oz0<|.c oz1<|.c oz2<|.c oz1<|.c oz4<|.c oz5<|.c oz4<|.c oz7<|.c oz8<|.c hc0<|.n)).weak (B_ _) (AA_ (.cons (R_ (by (rw[q7,i_ (by simp_all)]))) (.cons (R_ (by (simp_all;done))) .nil)))
 ·have gc0:exitE x ((growL nextE x.n a x.n.length).getD (K_ nodC x.n).length default) ((growL stepR x.n (Rng.mk (-128) 127) x.n.length).getD (K_ nodC x.n).length default) cl last=0:=bdf hc0
  exact (VC.run (fn:=Tryz.f100) (W:=[r_,.r [] [.callr (rO oz0)],r_,d_,.r [] [.callr (rO oz2)],r_,d_,.r [] [.row (sO oz5),.row (sO oz7),.callr (rO oz8)],r_,d_,r_]) (r:=AV.tup [i64 ((K_ nodC x.n).length:Int),i64 0]) Tryz.func100 (by kernel_rfl) (.c oz0<|.c oz1<|.c oz2<|.c oz1<|.c oz4<|.c oz5<|.c oz4<|.c oz7<|.c oz8<|.c hc0<|.n)).weak (B_ _) (AA_ (.cons (R_ (by (simp_all;done))) (.cons (R_ (by (rw[q7,j_ (by simp_all)]))) .nil)))
theorem exitE_a {x:Blc} {out:Shp} {r:Rng} {cl:Int} {last:Bool} (h:(!x.ex&&(last || (decide (((K_ (row1 .i8) x.w).length:Int)>0) || decide (((K_ (row1 .i32) x.b).length:Int)>0) || x.nd != 0)))=true):exitE x out r cl last=11:=by
 simp only[N_,P_,Z_,E_,J_,W_] at h
 unfold exitE
 rw[i_ ⟨h.1,by rcases h.2 with h|h;exact .inl h;right;omega⟩]
theorem exitE_b {x:Blc} {out:Shp} {r:Rng} {cl:Int} {last:Bool} (h:(!x.ex&&(last || (decide (((K_ (row1 .i8) x.w).length:Int)>0) || decide (((K_ (row1 .i32) x.b).length:Int)>0) || x.nd != 0)))=false) (hx:x.ex=false):exitE x out r cl last=0:=by
 rw[hx] at h
 simp only[N_,BN_,BO_,T_,F_,G_] at h
 unfold exitE
 rw[j_ (by rintro ⟨_,g|g⟩;(rw[h.1] at g;cases g);omega),i_ hx]
theorem exitE_c {x:Blc} {out:Shp} {r:Rng} {cl:Int} {last:Bool} (hx:x.ex=true):exitE x out r cl last=if verdE out x.w x.b x.nd cl≠0 then verdE out x.w x.b x.nd cl else headE x.w x.b r.lo r.hi:=by
 unfold exitE
 rw[j_ (by rw[hx];simp),j_ (by rw[hx];simp)]
theorem rvblock_s (x:Blc) (a:Shp) (cl:Int) (last:Bool) (ok:x.Ok) (oka:a.Ok) (sm:x.Sm) (h:¬ SOK x.n a):VC L_ 34 ([blc x,shp a,i64 cl,bv last]) (.tup [i64 (validE x a cl last).1,i64 (validE x a cl last).2]):=by
 have q1:=ok.n
 obtain ⟨q2,q3,q4,q5⟩:=id sm
 have q6:=shapesE_n h
 have q7:=@validE_s x a cl last h
 have oz0:=@rshapes_n (x.n) (a) q1 q3 oka (by omega) h
 exact (VC.run (fn:=Tryz.f34) (W:=[r_,.r [] [.callr (rO oz0)],r_,b_,r_]) (r:=AV.tup [i64 (shapesE x.n a).fst,i64 (shapesE x.n a).snd]) Tryz.func34 (by kernel_rfl) (.c oz0<|.c (show ((shapesE x.n a).snd != 0)=true by (simp;omega))<|.n)).weak (B_ _) (AA_ (.cons (R_ (by (rw[q7]))) (.cons (R_ (by (rw[q7]))) .nil)))
theorem rvblock_f (x:Blc) (a:Shp) (cl:Int) (last:Bool) (ok:x.Ok) (oka:a.Ok) (sm:x.Sm) (h:SOK x.n a) (g:¬ FOK x.n fullR):VC L_ 34 ([blc x,shp a,i64 cl,bv last]) (.tup [i64 (validE x a cl last).1,i64 (validE x a cl last).2]):=by
 have q1:=ok.n
 obtain ⟨q2,q3,q4,q5⟩:=id sm
 have q6:=flowE_n g
 have q7:=@validE_f x a cl last h g
 have q8:=fullR_in
 have oz0:=@rshapes_y (x.n) (a) q1 q3 h
 have oz2:=@rflow_n (x.n) (Rng.mk (-128) 127) q1 q3 q8 (by omega) g
 exact (VC.run (fn:=Tryz.f34) (W:=[r_,.r [] [.callr (rO oz0)],r_,d_,.r [] [.callr (rO oz2)],r_,b_,r_]) (r:=AV.tup [i64 (flowE x.n (Rng.mk (-128) 127)).fst,i64 (flowE x.n (Rng.mk (-128) 127)).snd]) Tryz.func34 (by kernel_rfl) (.c oz0<|.c (show false=false by with_reducible rfl)<|.c oz2<|.c (show ((flowE x.n (Rng.mk (-128) 127)).snd != 0)=true by (simp;omega))<|.n)).weak (B_ _) (AA_ (.cons (R_ (by (rw[q7]))) (.cons (R_ (by (rw[q7]))) .nil)))
theorem rvblock_y (x:Blc) (a:Shp) (cl:Int) (last:Bool) (ok:x.Ok) (oka:a.Ok) (sm:x.Sm) (h:SOK x.n a) (g:FOK x.n fullR):VC L_ 34 ([blc x,shp a,i64 cl,bv last]) (.tup [i64 (validE x a cl last).1,i64 (validE x a cl last).2]):=by
 have q1:=ok.n
 have qw:=ok.w
 have qb:=ok.b
 obtain ⟨q2,q3,q4,q5⟩:=id sm
 have q7:=@validE_y x a cl last h g
 have q8:=fullR_in
 have l1:=growL_len nextE x.n a x.n.length
 have l2:=growL_len stepR x.n (Rng.mk (-128) 127) x.n.length
 have l3:(K_ shpC (growL nextE x.n a x.n.length)).length=(growL nextE x.n a x.n.length).length:=N_ _
 have l4:(K_ rchC (growL stepR x.n (Rng.mk (-128) 127) x.n.length)).length=(growL stepR x.n (Rng.mk (-128) 127) x.n.length).length:=N_ _
 have l5:(K_ nodC x.n).length=x.n.length:=N_ _
 have i1:(((K_ shpC (growL nextE x.n a x.n.length)).length:Int)-1).toNat=x.n.length:=by omega
 have i2:((↑(K_ rchC (growL stepR x.n (Rng.mk (-128) 127) x.n.length)).length:Int)-1).toNat=x.n.length:=by omega
 have s3:=lastS_ok (l:=x.n) oka
 have vq:(growL nextE x.n a x.n.length).getD (((K_ shpC (growL nextE x.n a x.n.length)).length:Int)-1).toNat default=lastS x.n a:=by rw[i1];rfl
 have vr:(growL stepR x.n (Rng.mk (-128) 127) x.n.length).getD ((↑(K_ rchC (growL stepR x.n (Rng.mk (-128) 127) x.n.length)).length:Int)-1).toNat default=lastR x.n:=by rw[i2];rfl
 obtain ⟨s4,s5⟩:=lastR_in q1
 have oz0:=@rshapes_y (x.n) (a) q1 q3 h
 have oz1:=(show false=false by with_reducible rfl)
 have oz2:=@rflow_y (x.n) (Rng.mk (-128) 127) q1 q3 q8 g
 rcases bft (!x.ex&&(last || (decide (((K_ (row1 .i8) x.w).length:Int)>0) || decide (((K_ (row1 .i32) x.b).length:Int)>0) || x.nd != 0))) with hc0|hc0
 ·have gc0:x.ex=false∧(last=true∨(((K_ (row1 .i8) x.w).length:Int)>0∨((K_ (row1 .i32) x.b).length:Int)>0)∨¬x.nd=0):=by simp only[Z_,T_,P_,S_,W_,U_,E_,F_,I_,J_,ne_eq,H_,G_,eqNums,C_] at hc0;first|exact hc0|omega
  exact (VC.run (fn:=Tryz.f34) (W:=[r_,.r [] [.callr (rO oz0)],r_,d_,.r [] [.callr (rO oz2)],r_,d_,.r [] [o_,o_,o_,o_,o_,.sel 1,o_,o_,o_,o_,.sel 1],.r [] [o_,o_,o_,o_,.sel 1,.sel 2],b_,r_]) (r:=AV.tup [i64 (-1),i64 11]) Tryz.func34 (by kernel_rfl) (.c oz0<|.c oz1<|.c oz2<|.c oz1<|.c hc0<|.n)).weak (B_ _) (AA_ (.cons (R_ (by (rw[q7,exitE_a (by assumption),i_ (by decide)]))) (.cons (R_ (by (rw[q7,exitE_a (by assumption),i_ (by decide)]))) .nil)))
 ·have gc0:x.ex=true∨last=false∧(¬((K_ (row1 .i8) x.w).length:Int)>0∧¬((K_ (row1 .i32) x.b).length:Int)>0)∧x.nd=0:=by simp only[Z_,T_,P_,S_,W_,U_,E_,F_,I_,J_,ne_eq,H_,G_,eqNums,C_] at hc0;first|exact hc0|omega
  rcases bft (x.ex) with hc1|hc1
  ·have gc1:x.ex=true:=by first|exact hc1|exact of_decide_eq_true hc1|exact of_decide_eq_false hc1|simpa [eqNums] using hc1|(simp[eqNums] at hc1 ⊢;first|done|assumption|omega)
   have oz6:=(i6n (((K_ shpC (growL nextE x.n a x.n.length)).length:Int)-1) (by omega))
   have oz7:=(show 0≤((K_ shpC (growL nextE x.n a x.n.length)).length:Int)-1 by omega)
   have oz8:=(map_at (shpC) (default) (l:=growL nextE x.n a x.n.length) (i:=(((K_ shpC (growL nextE x.n a x.n.length)).length:Int)-1).toNat) (by omega))
   have oz9:=@refVcheck_v ((growL nextE x.n a x.n.length).getD (((K_ shpC (growL nextE x.n a x.n.length)).length:Int)-1).toNat default) (x.w) (x.b) (x.nd) (cl) (by (rw[i1];exact s3)) q4 q5
   rcases bft (verdE ((growL nextE x.n a x.n.length).getD (((K_ shpC (growL nextE x.n a x.n.length)).length:Int)-1).toNat default) x.w x.b x.nd cl != 0) with hc2|hc2
   ·have gc2:¬verdE ((growL nextE x.n a x.n.length).getD (((K_ shpC (growL nextE x.n a x.n.length)).length:Int)-1).toNat default) x.w x.b x.nd cl=0:=bdt hc2
    exact (VC.run (fn:=Tryz.f34) (W:=[r_,.r [] [.callr (rO oz0)],r_,d_,.r [] [.callr (rO oz2)],r_,d_,.r [] [o_,o_,o_,o_,o_,.sel 1,o_,o_,o_,o_,.sel 1],.r [] [o_,o_,o_,o_,.sel 1,.sel 2],d_,r_,b_,.r [] [.n (nO oz6),.row (sO oz8),.callr (rO oz9)],r_,b_,r_]) (r:=AV.tup [i64 (-1),i64 (verdE ((growL nextE x.n a x.n.length).getD (((K_ shpC (growL nextE x.n a x.n.length)).length:Int)-1).toNat default) x.w x.b x.nd cl)]) Tryz.func34 (by kernel_rfl) (.c oz0<|.c oz1<|.c oz2<|.c oz1<|.c hc0<|.c hc1<|.c oz6<|.c oz7<|.c oz8<|.c oz9<|.c hc2<|.n)).to (by (simp only[vq,vr] at *;rw[q7,exitE_c (by assumption)];simp_all;done))
   ·have gc2:verdE ((growL nextE x.n a x.n.length).getD (((K_ shpC (growL nextE x.n a x.n.length)).length:Int)-1).toNat default) x.w x.b x.nd cl=0:=bdf hc2
    have oz11:=(i6n ((↑(K_ rchC (growL stepR x.n (Rng.mk (-128) 127) x.n.length)).length:Int)-1) (by omega))
    have oz12:=(show 0≤(↑(K_ rchC (growL stepR x.n (Rng.mk (-128) 127) x.n.length)).length:Int)-1 by omega)
    have oz13:=(map_at (rchC) (default) (l:=growL stepR x.n (Rng.mk (-128) 127) x.n.length) (i:=((↑(K_ rchC (growL stepR x.n (Rng.mk (-128) 127) x.n.length)).length:Int)-1).toNat) (by omega))
    have oz14:=@refHead_v (x.w) (x.b) (x.nd) (((growL stepR x.n (Rng.mk (-128) 127) x.n.length).getD ((↑(K_ rchC (growL stepR x.n (Rng.mk (-128) 127) x.n.length)).length:Int)-1).toNat default).lo) (((growL stepR x.n (Rng.mk (-128) 127) x.n.length).getD ((↑(K_ rchC (growL stepR x.n (Rng.mk (-128) 127) x.n.length)).length:Int)-1).toNat default).hi) qw qb q4 q5 (by (rw[i2];exact s4)) (by (rw[i2];exact s5))
    rcases bft (headE x.w x.b ((growL stepR x.n (Rng.mk (-128) 127) x.n.length).getD ((↑(K_ rchC (growL stepR x.n (Rng.mk (-128) 127) x.n.length)).length:Int)-1).toNat default).lo ((growL stepR x.n (Rng.mk (-128) 127) x.n.length).getD ((↑(K_ rchC (growL stepR x.n (Rng.mk (-128) 127) x.n.length)).length:Int)-1).toNat default).hi != 0) with hc3|hc3
    ·have gc3:¬headE x.w x.b ((growL stepR x.n (Rng.mk (-128) 127) x.n.length).getD ((↑(K_ rchC (growL stepR x.n (Rng.mk (-128) 127) x.n.length)).length:Int)-1).toNat default).lo ((growL stepR x.n (Rng.mk (-128) 127) x.n.length).getD ((↑(K_ rchC (growL stepR x.n (Rng.mk (-128) 127) x.n.length)).length:Int)-1).toNat default).hi=0:=bdt hc3
     exact (VC.run (fn:=Tryz.f34) (W:=[r_,.r [] [.callr (rO oz0)],r_,d_,.r [] [.callr (rO oz2)],r_,d_,.r [] [o_,o_,o_,o_,o_,.sel 1,o_,o_,o_,o_,.sel 1],.r [] [o_,o_,o_,o_,.sel 1,.sel 2],d_,r_,b_,.r [] [.n (nO oz6),.row (sO oz8),.callr (rO oz9)],r_,d_,.r [] [.n (nO oz11),.row (sO oz13),.callr (rO oz14)],r_,b_,r_]) (r:=AV.tup [i64 (-1),i64 (headE x.w x.b ((growL stepR x.n (Rng.mk (-128) 127) x.n.length).getD ((↑(K_ rchC (growL stepR x.n (Rng.mk (-128) 127) x.n.length)).length:Int)-1).toNat default).lo ((growL stepR x.n (Rng.mk (-128) 127) x.n.length).getD ((↑(K_ rchC (growL stepR x.n (Rng.mk (-128) 127) x.n.length)).length:Int)-1).toNat default).hi)]) Tryz.func34 (by kernel_rfl) (.c oz0<|.c oz1<|.c oz2<|.c oz1<|.c hc0<|.c hc1<|.c oz6<|.c oz7<|.c oz8<|.c oz9<|.c hc2<|.c oz11<|.c oz12<|.c oz13<|.c oz14<|.c hc3<|.n)).to (by (simp only[vq,vr] at *;rw[q7,exitE_c (by assumption)];simp_all;done))
    ·have gc3:headE x.w x.b ((growL stepR x.n (Rng.mk (-128) 127) x.n.length).getD ((↑(K_ rchC (growL stepR x.n (Rng.mk (-128) 127) x.n.length)).length:Int)-1).toNat default).lo ((growL stepR x.n (Rng.mk (-128) 127) x.n.length).getD ((↑(K_ rchC (growL stepR x.n (Rng.mk (-128) 127) x.n.length)).length:Int)-1).toNat default).hi=0:=bdf hc3
     exact (VC.run (fn:=Tryz.f34) (W:=[r_,.r [] [.callr (rO oz0)],r_,d_,.r [] [.callr (rO oz2)],r_,d_,.r [] [o_,o_,o_,o_,o_,.sel 1,o_,o_,o_,o_,.sel 1],.r [] [o_,o_,o_,o_,.sel 1,.sel 2],d_,r_,b_,.r [] [.n (nO oz6),.row (sO oz8),.callr (rO oz9)],r_,d_,.r [] [.n (nO oz11),.row (sO oz13),.callr (rO oz14)],r_,d_,r_]) (r:=AV.tup [i64 ((K_ nodC x.n).length:Int),i64 0]) Tryz.func34 (by kernel_rfl) (.c oz0<|.c oz1<|.c oz2<|.c oz1<|.c hc0<|.c hc1<|.c oz6<|.c oz7<|.c oz8<|.c oz9<|.c hc2<|.c oz11<|.c oz12<|.c oz13<|.c oz14<|.c hc3<|.n)).to (by (simp only[vq,vr] at *;rw[q7,exitE_c (by assumption)];simp_all;done))
  ·have gc1:x.ex=false:=by first|exact hc1|exact of_decide_eq_true hc1|exact of_decide_eq_false hc1|simpa [eqNums] using hc1|(simp[eqNums] at hc1 ⊢;first|done|assumption|omega)
   exact (VC.run (fn:=Tryz.f34) (W:=[r_,.r [] [.callr (rO oz0)],r_,d_,.r [] [.callr (rO oz2)],r_,d_,.r [] [o_,o_,o_,o_,o_,.sel 1,o_,o_,o_,o_,.sel 1],.r [] [o_,o_,o_,o_,.sel 1,.sel 2],d_,r_,d_,r_]) (r:=AV.tup [i64 ((K_ nodC x.n).length:Int),i64 0]) Tryz.func34 (by kernel_rfl) (.c oz0<|.c oz1<|.c oz2<|.c oz1<|.c hc0<|.c hc1<|.n)).weak (B_ _) (AA_ (.cons (R_ (by (rw[q7,exitE_b (by assumption) (by assumption),j_ (by simp),N_]))) (.cons (R_ (by (rw[q7,exitE_b (by assumption) (by assumption),j_ (by simp)]))) .nil)))
theorem vblock_v (x:Blc) (a:Shp) (cl:Int) (last:Bool) (ok:x.Ok) (oka:a.Ok) (sm:x.Sm):VC L_ 100 [blc x,shp a,i64 cl,bv last] (.tup [i64 (validE x a cl last).1,i64 (validE x a cl last).2]):=by
 by_cases h:SOK x.n a
 ·by_cases g:FOK x.n fullR
  ·exact vblock_y x a cl last ok oka sm h g
  ·exact vblock_f x a cl last ok oka sm h g
 ·exact vblock_s x a cl last ok oka sm h
theorem rvblock_v (x:Blc) (a:Shp) (cl:Int) (last:Bool) (ok:x.Ok) (oka:a.Ok) (sm:x.Sm):VC L_ 34 [blc x,shp a,i64 cl,bv last] (.tup [i64 (validE x a cl last).1,i64 (validE x a cl last).2]):=by
 by_cases h:SOK x.n a
 ·by_cases g:FOK x.n fullR
  ·exact rvblock_y x a cl last ok oka sm h g
  ·exact rvblock_f x a cl last ok oka sm h g
 ·exact rvblock_s x a cl last ok oka sm h
structure Flt where
 w:Int
 m:Int
 b:Int
 n:Int
abbrev fltC (f:Flt):List AV:=[i64 f.w,i64 f.m,i64 f.b,i64 f.n]
abbrev flt (f:Flt):AV:=.agg (fltC f)
def wholeE (u:Bun):Int:=if ¬ 0<elems u.h u.x u.c then 5 else if u.cl<2∨u.cl>16 then 2 else if u.m.length=0 then 12 else if 3<u.m.length then 4 else 0
theorem vwhole_v (u:Bun) (ok:u.Ok) (hl:u.m.length≤1000):VC L_ 65 ([bun u]) (i64 (wholeE u)):=by
 have q1:=elems_in u.h u.x u.c
 have q2:u.inp.Ok:=⟨ok.h,ok.x,ok.c⟩
 have oz0:=@sRight_v (Shp.mk u.h u.x u.c) q2
 rcases bft (!decide (0<elems u.h u.x u.c)) with hc0|hc0
 ·have gc0:=bnt hc0
  exact (VC.run (fn:=Tryz.f65) (W:=[r_,.r [] [.callr (rO oz0)],b_,r_]) (r:=i64 5) Tryz.func65 (by kernel_rfl) (.c oz0<|.c hc0<|.n)).weak (B_ _) (R_ (by (unfold wholeE;(try simp only[N_] at *);(repeat first|rw[i_ (by omega)]|rw[j_ (by omega)]))))
 ·have gc0:=bnf hc0
  rcases bft (decide (u.cl<2) || decide (u.cl>16)) with hc1|hc1
  ·have gc1:u.cl<2∨u.cl>16:=by simp only[Z_,T_,P_,S_,W_,U_,E_,F_,I_,J_,ne_eq,H_,G_,eqNums,C_] at hc1;first|exact hc1|omega
   exact (VC.run (fn:=Tryz.f65) (W:=[r_,.r [] [.callr (rO oz0)],d_,.r [] [o_,o_,o_,.sel 1],b_,r_]) (r:=i64 2) Tryz.func65 (by kernel_rfl) (.c oz0<|.c hc0<|.c hc1<|.n)).weak (B_ _) (R_ (by (unfold wholeE;(try simp only[N_] at *);(repeat first|rw[i_ (by omega)]|rw[j_ (by omega)]))))
  ·have gc1:¬u.cl<2∧¬u.cl>16:=by simp only[Z_,T_,P_,S_,W_,U_,E_,F_,I_,J_,ne_eq,H_,G_,eqNums,C_] at hc1;first|exact hc1|omega
   rcases bft (((K_ mdlC u.m).length:Int)==0) with hc2|hc2
   ·have gc2:((K_ mdlC u.m).length:Int)=0:=bet hc2
    exact (VC.run (fn:=Tryz.f65) (W:=[r_,.r [] [.callr (rO oz0)],d_,.r [] [o_,o_,o_,.sel 1],d_,r_,b_,r_]) (r:=i64 12) Tryz.func65 (by kernel_rfl) (.c oz0<|.c hc0<|.c hc1<|.c hc2<|.n)).weak (B_ _) (R_ (by (unfold wholeE;(try simp only[N_] at *);(repeat first|rw[i_ (by omega)]|rw[j_ (by omega)]))))
   ·have gc2:¬((K_ mdlC u.m).length:Int)=0:=bef hc2
    rcases bft (decide (((K_ mdlC u.m).length:Int)>3)) with hc3|hc3
    ·have gc3:=of_decide_eq_true hc3
     exact (VC.run (fn:=Tryz.f65) (W:=[r_,.r [] [.callr (rO oz0)],d_,.r [] [o_,o_,o_,.sel 1],d_,r_,d_,r_,b_,r_]) (r:=i64 4) Tryz.func65 (by kernel_rfl) (.c oz0<|.c hc0<|.c hc1<|.c hc2<|.c hc3<|.n)).weak (B_ _) (R_ (by (unfold wholeE;(try simp only[N_] at *);(repeat first|rw[i_ (by omega)]|rw[j_ (by omega)]))))
    ·have gc3:=of_decide_eq_false hc3
     exact (VC.run (fn:=Tryz.f65) (W:=[r_,.r [] [.callr (rO oz0)],d_,.r [] [o_,o_,o_,.sel 1],d_,r_,d_,r_,d_,r_]) (r:=i64 0) Tryz.func65 (by kernel_rfl) (.c oz0<|.c hc0<|.c hc1<|.c hc2<|.c hc3<|.n)).weak (B_ _) (R_ (by (unfold wholeE;(try simp only[N_] at *);(repeat first|rw[i_ (by omega)]|rw[j_ (by omega)]))))
def inS (l:List Blc) (a:Shp):Nat→Shp
 | 0=>a
 | k+1=>lastS (l.getD k default).n (inS l a k)
theorem inS_ok {l:List Blc} {a:Shp} (h:a.Ok):∀ k,(inS l a k).Ok
 | 0=>h
 | k+1=>lastS_ok (inS_ok h k)
abbrev vB (l:List Blc) (a:Shp) (cl:Int) (k:Nat):Int×Int:=validE (l.getD k default) (inS l a k) cl ((k:Int)==((K_ blcC l).length:Int)-1)
theorem validE_ok {x:Blc} {a:Shp} {cl:Int} {last:Bool} (h:(validE x a cl last).2=0):SOK x.n a:=by
 by_cases g:SOK x.n a
 ·exact g
 ·rw[validE_s g] at h;exact absurd h (shapesE_n g)
noncomputable def vmodel_ly_I (u:Bun) (l:List Blc) (a:Shp) (j:Int) (k:Nat):VS:=stt 77 [(1,i64 j),(2,.ptr 2 0 0),(4,.ptr 4 0 0),(5,.sl 5 (l.map blcC)),(6,.ptr 6 0 0),(34,.sl 5 (l.map blcC)),(35,i64 l.length),(36,i64 k)] [(2,.var (bunC u)),(4,.var [i64 0,i64 0,i64 0,i64 0]),(6,.var (shpC (inS l a k)))]
noncomputable def vmodel_ly_Z (u:Bun) (l:List Blc) (a:Shp) (j:Int):VS:=vmodel_ly_I u l a j (l.length)
theorem vmodel_ly_s (u:Bun) (l:List Blc) (a:Shp) (j:Int) (ok:∀ d∈l,d.Ok) (sm:∀ d∈l,d.Sm) (oka:a.Ok) (hl:l.length≤6) (h:∀ k,k<l.length→(vB l a u.cl k).2=0) (k:Nat) (hk:k<l.length):VT L_ (fnC Tryz.f66 [1,1,1,1,0,1,0,0]) (vmodel_ly_I u l a j k) .normal (vmodel_ly_I u l a j (k+1)):=by
 have q:=h k hk
 have q1:=validE_ok q
 have q2:=getD_in ok hk
 have q3:=getD_in sm hk
 have q4:=inS_ok (l:=l) oka k
 have lb:(K_ blcC l).length=l.length:=N_ _
 have q5:=q2.n
 have q6:=q3.s
 have q7:=q3.l
 have l1:=growL_len nextE (l.getD k default).n (inS l a k) (l.getD k default).n.length
 have l3:(K_ shpC (growL nextE (l.getD k default).n (inS l a k) (l.getD k default).n.length)).length=(growL nextE (l.getD k default).n (inS l a k) (l.getD k default).n.length).length:=N_ _
 have i1:(((K_ shpC (growL nextE (l.getD k default).n (inS l a k) (l.getD k default).n.length)).length:Int)-1).toNat=(l.getD k default).n.length:=by omega
 have oz2:=(map_at (blcC) (default) (l:=l) (i:=k) hk)
 have oz3:=(i6n (((K_ blcC l).length:Int)-1) (by omega))
 have oz4:=@vblock_v (l.getD k default) (inS l a k) (u.cl) ((↑k:Int)==((K_ blcC l).length:Int)-1) q2 q4 q3
 have oz6:=@shapes_y ((l.getD k default).n) (inS l a k) q5 q6 q1
 have oz7:=(i6n (((K_ shpC (growL nextE (l.getD k default).n (inS l a k) (l.getD k default).n.length)).length:Int)-1) (by omega))
 have oz9:=(map_at (shpC) (default) (l:=growL nextE (l.getD k default).n (inS l a k) (l.getD k default).n.length) (i:=(((K_ shpC (growL nextE (l.getD k default).n (inS l a k) (l.getD k default).n.length)).length:Int)-1).toNat) (by omega))
 exact VT.run (W:=[r_,b_,.r [] [.row (sO oz2)],.r [] [.n (nO oz3),.callr (rO oz4)],r_,d_,.r [] [.callr (rO oz6)],.r [] [.n (nO oz7),.row (sO oz9)],.r [] [.n ((↑k:Int)+1)]]) (G:=[.any (rg [(7,7),(37,19),(61,15)]),.drop [8],.weak 36 (i64 (↑(k+1):Int)),.blk 6 (Blk.var [i64 (inS l a (k+1)).h,i64 (inS l a (k+1)).x,i64 (inS l a (k+1)).c]),.sort]) (by kernel_rfl) (.c (decide_eq_true (p:=((↑k:Int)<(l.length:Int))) (by omega))<|.c (show 0≤(↑k:Int) by omega)<|.c oz2<|.c oz3<|.c oz4<|.c (show ((validE (l.getD k default) (inS l a k) u.cl ((↑k:Int)==((K_ blcC l).length:Int)-1)).snd != 0)=false by (rw[q];rfl))<|.c oz6<|.c oz7<|.c (show 0≤((K_ shpC (growL nextE (l.getD k default).n (inS l a k) (l.getD k default).n.length)).length:Int)-1 by omega)<|.c oz9<|.c (i6n ((↑k:Int)+1) (by omega))<|.c (wS_ k)<|.c (show BlkW (Blk.var [i64 ((growL nextE (l.getD k default).n (inS l a k) (l.getD k default).n.length).getD (((K_ shpC (growL nextE (l.getD k default).n (inS l a k) (l.getD k default).n.length)).length:Int)-1).toNat default).h,i64 ((growL nextE (l.getD k default).n (inS l a k) (l.getD k default).n.length).getD (((K_ shpC (growL nextE (l.getD k default).n (inS l a k) (l.getD k default).n.length)).length:Int)-1).toNat default).x,i64 ((growL nextE (l.getD k default).n (inS l a k) (l.getD k default).n.length).getD (((K_ shpC (growL nextE (l.getD k default).n (inS l a k) (l.getD k default).n.length)).length:Int)-1).toNat default).c]) (Blk.var [i64 (inS l a (k+1)).h,i64 (inS l a (k+1)).x,i64 (inS l a (k+1)).c]) from (BlkW.var (m:=[i64 (inS l a (k+1)).h,i64 (inS l a (k+1)).x,i64 (inS l a (k+1)).c]) (.cons (R_ (by (rw[i1]<;>rfl))) (.cons (R_ (by (rw[i1]<;>rfl))) (.cons (R_ (by (rw[i1]<;>rfl))) .nil)))))<|.n)
theorem vmodel_ly_e (u:Bun) (l:List Blc) (a:Shp) (j:Int) (ok:∀ d∈l,d.Ok) (sm:∀ d∈l,d.Sm) (oka:a.Ok) (hl:l.length≤6) (h:∀ k,k<l.length→(vB l a u.cl k).2=0):VT L_ (fnC Tryz.f66 [1,1,1,1,0,1,0,0]) (vmodel_ly_I u l a j (l.length)) (.exit 1) (vmodel_ly_Z u l a j):=by
 exact VT.run (W:=[r_,d_]) (G:=[.any [37],.sort]) (by kernel_rfl) (.c (decide_eq_false (p:=((l.length:Int)<(l.length:Int))) (by omega))<|.n)
theorem vmodel_ly (u:Bun) (l:List Blc) (a:Shp) (j:Int) (ok:∀ d∈l,d.Ok) (sm:∀ d∈l,d.Sm) (oka:a.Ok) (hl:l.length≤6) (h:∀ k,k<l.length→(vB l a u.cl k).2=0):VT L_ (fnC Tryz.f66 [1,1,1,1,0,1,0]) (vmodel_ly_I u l a j 0) (.exit 1) (vmodel_ly_Z u l a j) :=
 VT.loop (fun k=>vmodel_ly_I u l a j k) (l.length) (fun k hk=>vmodel_ly_s u l a j ok sm oka hl h k hk) (vmodel_ly_e u l a j ok sm oka hl h) (by intro h;cases h)
noncomputable def vmodel_ln_I (u:Bun) (l:List Blc) (a:Shp) (j:Int) (m:Nat) (k:Nat):VS:=stt 77 [(1,i64 j),(2,.ptr 2 0 0),(4,.ptr 4 0 0),(5,.sl 5 (l.map blcC)),(6,.ptr 6 0 0),(34,.sl 5 (l.map blcC)),(35,i64 l.length),(36,i64 k)] [(2,.var (bunC u)),(4,.var [i64 0,i64 0,i64 0,i64 0]),(6,.var (shpC (inS l a k)))]
noncomputable def vmodel_ln_Z (u:Bun) (l:List Blc) (a:Shp) (j:Int) (m:Nat):VS:=stt 77 [(4,.ptr 4 0 0)] [(4,.var [i64 (vB l a u.cl m).2,i64 j,i64 m,i64 (vB l a u.cl m).1])]
theorem vmodel_ln_s (u:Bun) (l:List Blc) (a:Shp) (j:Int) (m:Nat) (ok:∀ d∈l,d.Ok) (sm:∀ d∈l,d.Sm) (oka:a.Ok) (hl:l.length≤6) (hm:m<l.length) (hf:(vB l a u.cl m).2≠0) (h:∀ k,k<m→(vB l a u.cl k).2=0) (k:Nat) (hk:k<m):VT L_ (fnC Tryz.f66 [1,1,1,1,0,1,0,0]) (vmodel_ln_I u l a j m k) .normal (vmodel_ln_I u l a j m (k+1)):=by
 have q:=h k hk
 have q1:=validE_ok q
 have q2:=getD_in ok (show k<l.length by omega)
 have q3:=getD_in sm (show k<l.length by omega)
 have q4:=inS_ok (l:=l) oka k
 have lb:(K_ blcC l).length=l.length:=N_ _
 have q5:=q2.n
 have q6:=q3.s
 have q7:=q3.l
 have l1:=growL_len nextE (l.getD k default).n (inS l a k) (l.getD k default).n.length
 have l3:(K_ shpC (growL nextE (l.getD k default).n (inS l a k) (l.getD k default).n.length)).length=(growL nextE (l.getD k default).n (inS l a k) (l.getD k default).n.length).length:=N_ _
 have i1:(((K_ shpC (growL nextE (l.getD k default).n (inS l a k) (l.getD k default).n.length)).length:Int)-1).toNat=(l.getD k default).n.length:=by omega
 have oz2:=(map_at (blcC) (default) (l:=l) (i:=k) (by omega))
 have oz3:=(i6n (((K_ blcC l).length:Int)-1) (by omega))
 have oz4:=@vblock_v (l.getD k default) (inS l a k) (u.cl) ((↑k:Int)==((K_ blcC l).length:Int)-1) q2 q4 q3
 have oz6:=@shapes_y ((l.getD k default).n) (inS l a k) q5 q6 q1
 have oz7:=(i6n (((K_ shpC (growL nextE (l.getD k default).n (inS l a k) (l.getD k default).n.length)).length:Int)-1) (by omega))
 have oz9:=(map_at (shpC) (default) (l:=growL nextE (l.getD k default).n (inS l a k) (l.getD k default).n.length) (i:=(((K_ shpC (growL nextE (l.getD k default).n (inS l a k) (l.getD k default).n.length)).length:Int)-1).toNat) (by omega))
 exact VT.run (W:=[r_,b_,.r [] [.row (sO oz2)],.r [] [.n (nO oz3),.callr (rO oz4)],r_,d_,.r [] [.callr (rO oz6)],.r [] [.n (nO oz7),.row (sO oz9)],.r [] [.n ((↑k:Int)+1)]]) (G:=[.any (rg [(7,7),(37,19),(61,15)]),.drop [8],.weak 36 (i64 (↑(k+1):Int)),.blk 6 (Blk.var [i64 (inS l a (k+1)).h,i64 (inS l a (k+1)).x,i64 (inS l a (k+1)).c]),.sort]) (by kernel_rfl) (.c (decide_eq_true (p:=((↑k:Int)<(l.length:Int))) (by omega))<|.c (show 0≤(↑k:Int) by omega)<|.c oz2<|.c oz3<|.c oz4<|.c (show ((validE (l.getD k default) (inS l a k) u.cl ((↑k:Int)==((K_ blcC l).length:Int)-1)).snd != 0)=false by (rw[q];rfl))<|.c oz6<|.c oz7<|.c (show 0≤((K_ shpC (growL nextE (l.getD k default).n (inS l a k) (l.getD k default).n.length)).length:Int)-1 by omega)<|.c oz9<|.c (i6n ((↑k:Int)+1) (by omega))<|.c (wS_ k)<|.c (show BlkW (Blk.var [i64 ((growL nextE (l.getD k default).n (inS l a k) (l.getD k default).n.length).getD (((K_ shpC (growL nextE (l.getD k default).n (inS l a k) (l.getD k default).n.length)).length:Int)-1).toNat default).h,i64 ((growL nextE (l.getD k default).n (inS l a k) (l.getD k default).n.length).getD (((K_ shpC (growL nextE (l.getD k default).n (inS l a k) (l.getD k default).n.length)).length:Int)-1).toNat default).x,i64 ((growL nextE (l.getD k default).n (inS l a k) (l.getD k default).n.length).getD (((K_ shpC (growL nextE (l.getD k default).n (inS l a k) (l.getD k default).n.length)).length:Int)-1).toNat default).c]) (Blk.var [i64 (inS l a (k+1)).h,i64 (inS l a (k+1)).x,i64 (inS l a (k+1)).c]) from (BlkW.var (m:=[i64 (inS l a (k+1)).h,i64 (inS l a (k+1)).x,i64 (inS l a (k+1)).c]) (.cons (R_ (by (rw[i1]<;>rfl))) (.cons (R_ (by (rw[i1]<;>rfl))) (.cons (R_ (by (rw[i1]<;>rfl))) .nil)))))<|.n)
theorem vmodel_ln_e (u:Bun) (l:List Blc) (a:Shp) (j:Int) (m:Nat) (ok:∀ d∈l,d.Ok) (sm:∀ d∈l,d.Sm) (oka:a.Ok) (hl:l.length≤6) (hm:m<l.length) (hf:(vB l a u.cl m).2≠0) (h:∀ k,k<m→(vB l a u.cl k).2=0):VT L_ (fnC Tryz.f66 [1,1,1,1,0,1,0,0]) (vmodel_ln_I u l a j m (m)) (.ret) (vmodel_ln_Z u l a j m):=by
 have q2:=getD_in ok hm
 have q3:=getD_in sm hm
 have q4:=inS_ok (l:=l) oka m
 have lb:(K_ blcC l).length=l.length:=N_ _
 have oz2:=(map_at (blcC) (default) (l:=l) (i:=m) hm)
 have oz3:=(i6n (((K_ blcC l).length:Int)-1) (by omega))
 have oz4:=@vblock_v (l.getD m default) (inS l a m) (u.cl) ((↑m:Int)==((K_ blcC l).length:Int)-1) q2 q4 q3
 exact VT.run (W:=[r_,b_,.r [] [.row (sO oz2)],.r [] [.n (nO oz3),.callr (rO oz4)],r_,b_,r_]) (G:=[.any (rg [(1,2),(5,6),(34,27)]),.drop [2,6,8],.sort]) (by kernel_rfl) (.c (decide_eq_true (p:=((↑m:Int)<(l.length:Int))) (by omega))<|.c (show 0≤(↑m:Int) by omega)<|.c oz2<|.c oz3<|.c oz4<|.c (show ((validE (l.getD m default) (inS l a m) u.cl ((↑m:Int)==((K_ blcC l).length:Int)-1)).snd != 0)=true by (rw[J_];exact hf))<|.n)
theorem vmodel_ln (u:Bun) (l:List Blc) (a:Shp) (j:Int) (m:Nat) (ok:∀ d∈l,d.Ok) (sm:∀ d∈l,d.Sm) (oka:a.Ok) (hl:l.length≤6) (hm:m<l.length) (hf:(vB l a u.cl m).2≠0) (h:∀ k,k<m→(vB l a u.cl k).2=0):VT L_ (fnC Tryz.f66 [1,1,1,1,0,1,0]) (vmodel_ln_I u l a j m 0) (.ret) (vmodel_ln_Z u l a j m) :=
 VT.loop (fun k=>vmodel_ln_I u l a j m k) (m) (fun k hk=>vmodel_ln_s u l a j m ok sm oka hl hm hf h k hk) (vmodel_ln_e u l a j m ok sm oka hl hm hf h) (by intro h;cases h)
def modelE (l:List Blc) (a:Shp) (cl j:Int):Flt :=
 if l.length=0 then ⟨12,j,-1,-1⟩ else if 6<l.length then ⟨4,j,-1,-1⟩
 else if firstBad (fun k=>(vB l a cl k).2==0) l.length<l.length then ⟨(vB l a cl (firstBad (fun k=>(vB l a cl k).2==0) l.length)).2,j,firstBad (fun k=>(vB l a cl k).2==0) l.length,(vB l a cl (firstBad (fun k=>(vB l a cl k).2==0) l.length)).1⟩
 else ⟨0,0,0,0⟩
theorem modelE_y {l:List Blc} {a:Shp} {cl j:Int} (h0:¬ l.length=0) (h6:l.length≤6) (h:∀ k,k<l.length→(vB l a cl k).2=0):modelE l a cl j=⟨0,0,0,0⟩:=by
 unfold modelE
 rw[j_ h0,j_ (by omega),firstBad_all fun k hk=>by simpa using h k hk,j_ (by omega)]
theorem modelE_m {l:List Blc} {a:Shp} {cl j:Int} {m:Nat} (h6:l.length≤6) (hm:m<l.length) (hf:(vB l a cl m).2≠0) (h:∀ k,k<m→(vB l a cl k).2=0):modelE l a cl j=⟨(vB l a cl m).2,j,m,(vB l a cl m).1⟩:=by
 have e:=firstBad_at (p:=fun k=>(vB l a cl k).2==0) (m:=m) (by simpa using hf) (fun k hk=>by simpa using h k hk) hm
 unfold modelE
 rw[j_ (by omega),j_ (by omega),e,i_ hm]
theorem modelE_cases (l:List Blc) (a:Shp) (cl:Int):(¬ l.length=0∧l.length≤6∧∀ k,k<l.length→(vB l a cl k).2=0)∨(l.length=0∨6<l.length)∨(l.length≤6∧∃ m,m<l.length∧(vB l a cl m).2≠0∧∀ k,k<m→(vB l a cl k).2=0):=by
 by_cases c:l.length=0∨6<l.length
 ·exact .inr (.inl c)
 ·rcases all_or (fun k=>(vB l a cl k).2==0) l.length with h|⟨m,h1,h2,h3⟩
  ·exact .inl ⟨by omega,by omega,fun k hk=>by simpa using h k hk⟩
  ·exact .inr (.inr ⟨by omega,m,h1,by simpa using h2,fun k hk=>by simpa using h3 k hk⟩)
structure Bun.Sm (u:Bun):Prop where
 l:u.m.length≤4
 m:∀ d∈u.m,d.l.length≤8∧∀ x∈d.l,x.Sm
theorem Bun.sm {u:Bun} (h:bunS u=true):u.Sm:=by
 simp only[bunS,mdlS,P_,E_,CZ_] at h
 exact ⟨h.1,fun d hd=>⟨(h.2 d hd).1,fun x hx=>Blc.sm ((h.2 d hd).2 x hx)⟩⟩
theorem vmodel_y (u:Bun) (j:Nat) (ok:u.Ok) (sm:u.Sm) (hj:j<u.m.length) (h0:¬ (u.m.getD j default).l.length=0) (h6:(u.m.getD j default).l.length≤6) (h:∀ k,k<(u.m.getD j default).l.length→(vB (u.m.getD j default).l u.inp u.cl k).2=0):VC L_ 66 ([bun u,i64 j]) (flt ⟨0,0,0,0⟩):=by
 have q2:u.inp.Ok:=⟨ok.h,ok.x,ok.c⟩
 have q3:=(getD_in ok.m hj).l
 have q4:=(getD_in sm.m hj).2
 have q5:=sm.l
 have oz1:=(map_at (mdlC) (default) (l:=u.m) (i:=j) hj)
 have oz4:=(R_ (k:=.i64) (show ((((K_ blcC (u.m.getD j default).l).length:Int)):Int)=((↑(u.m.getD j default).l.length:Int)) from (by (simp;done))))
 have oz6:=@vmodel_ly (u) ((u.m.getD j default).l) (Shp.mk u.1 u.2 u.3) ((↑j:Int)) q3 q4 q2 h6 h
 exact VC.run (fn:=Tryz.f66) (W:=[r_,.r [] [.row (sO oz1)],r_,d_,r_,d_,r_,r_,.code [.any (rg [(0,1),(14,10),(26,4),(32,2)]),.weak 35 (wO oz4),.weak 36 (i64 (↑0:Int)),.sort] (AF_ 1) (zO oz6),r_]) Tryz.func66 (by kernel_rfl) (.c (show 0≤(↑j:Int) by omega)<|.c oz1<|.c (show (((K_ blcC (u.m.getD j default).l).length:Int)==0)=false by (simp at *;omega))<|.c (show decide (((K_ blcC (u.m.getD j default).l).length:Int)>6)=false by (simp at *;omega))<|.c oz4<|.c w0_<|.c oz6<|.n)
theorem vmodel_m (u:Bun) (j m:Nat) (ok:u.Ok) (sm:u.Sm) (hj:j<u.m.length) (h6:(u.m.getD j default).l.length≤6) (hm:m<(u.m.getD j default).l.length) (hf:(vB (u.m.getD j default).l u.inp u.cl m).2≠0) (h:∀ k,k<m→(vB (u.m.getD j default).l u.inp u.cl k).2=0):VC L_ 66 ([bun u,i64 j]) (flt ⟨(vB (u.m.getD j default).l u.inp u.cl m).2,j,m,(vB (u.m.getD j default).l u.inp u.cl m).1⟩):=by
 have q2:u.inp.Ok:=⟨ok.h,ok.x,ok.c⟩
 have q3:=(getD_in ok.m hj).l
 have q4:=(getD_in sm.m hj).2
 have q5:=sm.l
 have oz1:=(map_at (mdlC) (default) (l:=u.m) (i:=j) hj)
 have oz4:=(R_ (k:=.i64) (show ((((K_ blcC (u.m.getD j default).l).length:Int)):Int)=((↑(u.m.getD j default).l.length:Int)) from (by (simp;done))))
 have oz6:=@vmodel_ln (u) ((u.m.getD j default).l) (Shp.mk u.1 u.2 u.3) ((↑j:Int)) (m) q3 q4 q2 h6 hm hf h
 exact VC.run (fn:=Tryz.f66) (W:=[r_,.r [] [.row (sO oz1)],r_,d_,r_,d_,r_,r_,.code [.any (rg [(0,1),(14,10),(26,4),(32,2)]),.weak 35 (wO oz4),.weak 36 (i64 (↑0:Int)),.sort] (CA_) (zO oz6)]) Tryz.func66 (by kernel_rfl) (.c (show 0≤(↑j:Int) by omega)<|.c oz1<|.c (show (((K_ blcC (u.m.getD j default).l).length:Int)==0)=false by (simp only[E_,F_,I_,J_,ne_eq,H_,G_,W_,U_,BK_,BQ_,BN_,Classical.not_not,CL_,CF_,P_,S_,Z_,T_,C_,BO_,BP_,AE_,BC_,BR_,eqNums,N_,O_,AC_,BB_,BD_,AH_,BL_,BX_,BY_,AJ_,BU_,BT_];(first|done|with_reducible assumption|omega|contradiction)))<|.c (show decide (((K_ blcC (u.m.getD j default).l).length:Int)>6)=false by (simp at *;omega))<|.c oz4<|.c w0_<|.c oz6<|.n)
theorem vmodel_a (u:Bun) (j:Nat) (sm:u.Sm) (hj:j<u.m.length) (h:(u.m.getD j default).l.length=0∨6<(u.m.getD j default).l.length):VC L_ 66 ([bun u,i64 j]) (flt (modelE (u.m.getD j default).l u.inp u.cl j)):=by
 have q5:=sm.l
 have oz0:=(show 0≤(↑j:Int) by omega)
 have oz1:=(map_at (mdlC) (default) (l:=u.m) (i:=j) hj)
 rcases bft (((K_ blcC (u.m.getD j default).l).length:Int)==0) with hc0|hc0
 ·have gc0:((K_ blcC (u.m.getD j default).l).length:Int)=0:=bet hc0
  exact (VC.run (fn:=Tryz.f66) (W:=[r_,.r [] [.row (sO oz1)],r_,b_,r_]) (r:=AV.agg [i64 12,i64 (↑j:Int),i64 (-1),i64 (-1)]) Tryz.func66 (by kernel_rfl) (.c oz0<|.c oz1<|.c hc0<|.n)).weak (B_ _) (AD_ (.cons (R_ (by (unfold modelE;(try simp only[N_] at *);(repeat first|rw[i_ (by omega)]|rw[j_ (by omega)])))) (.cons (R_ (by (unfold modelE;(try simp only[N_] at *);(repeat first|rw[i_ (by omega)]|rw[j_ (by omega)])))) (.cons (R_ (by (unfold modelE;(try simp only[N_] at *);(repeat first|rw[i_ (by omega)]|rw[j_ (by omega)])))) (.cons (R_ (by (unfold modelE;(try simp only[N_] at *);(repeat first|rw[i_ (by omega)]|rw[j_ (by omega)])))) .nil)))))
 ·have gc0:¬((K_ blcC (u.m.getD j default).l).length:Int)=0:=bef hc0
  exact (VC.run (fn:=Tryz.f66) (W:=[r_,.r [] [.row (sO oz1)],r_,d_,r_,b_,r_]) (r:=AV.agg [i64 4,i64 (↑j:Int),i64 (-1),i64 (-1)]) Tryz.func66 (by kernel_rfl) (.c oz0<|.c oz1<|.c hc0<|.c (show decide (((K_ blcC (u.m.getD j default).l).length:Int)>6)=true by (simp only[E_,F_,I_,J_,ne_eq,H_,G_,W_,U_,BK_,BQ_,BN_,Classical.not_not,CL_,CF_,P_,S_,Z_,T_,C_,BO_,BP_,AE_,BC_,BR_,eqNums,N_,O_,AC_,BB_,BD_,AH_,BL_,BX_,BY_,AJ_,BU_,BT_] at *;(first|done|with_reducible assumption|omega|contradiction)))<|.n)).weak (B_ _) (AD_ (.cons (R_ (by (unfold modelE;(try simp only[N_] at *);(repeat first|rw[i_ (by omega)]|rw[j_ (by omega)])))) (.cons (R_ (by (unfold modelE;(try simp only[N_] at *);(repeat first|rw[i_ (by omega)]|rw[j_ (by omega)])))) (.cons (R_ (by (unfold modelE;(try simp only[N_] at *);(repeat first|rw[i_ (by omega)]|rw[j_ (by omega)])))) (.cons (R_ (by (unfold modelE;(try simp only[N_] at *);(repeat first|rw[i_ (by omega)]|rw[j_ (by omega)])))) .nil)))))
theorem vmodel_v (u:Bun) (j:Nat) (ok:u.Ok) (sm:u.Sm) (hj:j<u.m.length):VC L_ 66 [bun u,i64 j] (flt (modelE (u.m.getD j default).l u.inp u.cl j)):=by
 rcases modelE_cases (u.m.getD j default).l u.inp u.cl with ⟨h0,h6,h⟩|h|⟨h6,m,h1,h2,h3⟩
 ·rw[modelE_y h0 h6 h];exact vmodel_y u j ok sm hj h0 h6 h
 ·exact vmodel_a u j sm hj h
 ·rw[modelE_m h6 h1 h2 h3];exact vmodel_m u j m ok sm hj h6 h1 h2 h3
theorem modelE_z {l:List Blc} {a:Shp} {cl j:Int} (h:(modelE l a cl j).w=0):modelE l a cl j=⟨0,0,0,0⟩:=by
 rcases modelE_cases l a cl with ⟨h0,h6,g⟩|g|⟨h6,m,h1,h2,h3⟩
 ·exact modelE_y h0 h6 g
 ·exfalso
  revert h
  unfold modelE
  by_cases c:l.length=0
  ·rw[i_ c];dsimp only;decide
  ·rw[j_ c,i_ (by omega)];dsimp only;decide
 ·rw[modelE_m h6 h1 h2 h3] at h;exact absurd h h2
abbrev mE (u:Bun) (j:Nat):Flt:=modelE (u.m.getD j default).l u.inp u.cl j
noncomputable def vbundle_ly_I (u:Bun) (k:Nat):VS:=stt 27 [(1,.ptr 1 0 0),(2,.ptr 2 0 0),(14,i64 u.m.length),(15,i64 k)] [(1,.var (bunC u)),(2,.var [i64 0,i64 0,i64 0,i64 0])]
noncomputable def vbundle_ly_Z (u:Bun):VS:=vbundle_ly_I u (u.m.length)
theorem vbundle_ly_s (u:Bun) (ok:u.Ok) (sm:u.Sm) (h:∀ j,j<u.m.length→mE u j=⟨0,0,0,0⟩) (k:Nat) (hk:k<u.m.length):VT L_ (fnC Tryz.f31 [1,1,0,1,0,0]) (vbundle_ly_I u k) .normal (vbundle_ly_I u (k+1)):=by
 have q:modelE (u.m.getD k default).l u.inp u.cl k=⟨0,0,0,0⟩:=h k hk
 have q5:=sm.l
 have oz1:=@vmodel_v (u) (k) ok sm hk
 exact VT.run (W:=[r_,b_,r_,.r [] [.callr (rO oz1)],.r [] [.v (BS_ !eqNums [(Q_,(modelE (u.m.getD k default).l u.inp u.cl (↑k:Int)).w,0),(Q_,(modelE (u.m.getD k default).l u.inp u.cl (↑k:Int)).m,0),(Q_,(modelE (u.m.getD k default).l u.inp u.cl (↑k:Int)).b,0),(Q_,(modelE (u.m.getD k default).l u.inp u.cl (↑k:Int)).n,0)])],d_,.r [] [.n ((↑k:Int)+1)]]) (G:=[.any (rg [(4,2),(16,8),(25,1)]),.drop [5],.weak 15 (i64 (↑(k+1):Int)),.sort]) (by kernel_rfl) (.c (decide_eq_true (p:=((↑k:Int)<(u.m.length:Int))) (by omega))<|.c oz1<|.c (show BinTo L_ BinOp.neq 86 (Operand.tmp 21) (Operand.tmp 22) (BI_ #[AQ_ Q_ (modelE (u.m.getD k default).l u.inp u.cl (↑k:Int)).w,AQ_ Q_ (modelE (u.m.getD k default).l u.inp u.cl (↑k:Int)).m,AQ_ Q_ (modelE (u.m.getD k default).l u.inp u.cl (↑k:Int)).b,AQ_ Q_ (modelE (u.m.getD k default).l u.inp u.cl (↑k:Int)).n]) (BI_ #[AQ_ Q_ 0,AQ_ Q_ 0,AQ_ Q_ 0,AQ_ Q_ 0]) (BS_ !eqNums [(Q_,(modelE (u.m.getD k default).l u.inp u.cl (↑k:Int)).w,0),(Q_,(modelE (u.m.getD k default).l u.inp u.cl (↑k:Int)).m,0),(Q_,(modelE (u.m.getD k default).l u.inp u.cl (↑k:Int)).b,0),(Q_,(modelE (u.m.getD k default).l u.inp u.cl (↑k:Int)).n,0)]) from ((bin_nums (l:=[(Q_,(modelE (u.m.getD k default).l u.inp u.cl (↑k:Int)).w,0),(Q_,(modelE (u.m.getD k default).l u.inp u.cl (↑k:Int)).m,0),(Q_,(modelE (u.m.getD k default).l u.inp u.cl (↑k:Int)).b,0),(Q_,(modelE (u.m.getD k default).l u.inp u.cl (↑k:Int)).n,0)]) (by kernel_rfl) (by kernel_rfl) (by kernel_rfl) (by kernel_rfl) _ _).2))<|.c (show (!eqNums [(Q_,(modelE (u.m.getD k default).l u.inp u.cl (↑k:Int)).w,0),(Q_,(modelE (u.m.getD k default).l u.inp u.cl (↑k:Int)).m,0),(Q_,(modelE (u.m.getD k default).l u.inp u.cl (↑k:Int)).b,0),(Q_,(modelE (u.m.getD k default).l u.inp u.cl (↑k:Int)).n,0)])=false by (rw[q];rfl))<|.c (i6n ((↑k:Int)+1) (by omega))<|.c (wS_ k)<|.n)
theorem vbundle_ly_e (u:Bun) (ok:u.Ok) (sm:u.Sm) (h:∀ j,j<u.m.length→mE u j=⟨0,0,0,0⟩):VT L_ (fnC Tryz.f31 [1,1,0,1,0,0]) (vbundle_ly_I u (u.m.length)) (.exit 0) (vbundle_ly_Z u):=by
 exact VT.run (W:=[r_,d_]) (G:=[.any [16],.sort]) (by kernel_rfl) (.c (decide_eq_false (p:=((u.m.length:Int)<(u.m.length:Int))) (by omega))<|.n)
theorem vbundle_ly (u:Bun) (ok:u.Ok) (sm:u.Sm) (h:∀ j,j<u.m.length→mE u j=⟨0,0,0,0⟩):VT L_ (fnC Tryz.f31 [1,1,0,1,0]) (vbundle_ly_I u 0) (.exit 0) (vbundle_ly_Z u) :=
 VT.loop (fun k=>vbundle_ly_I u k) (u.m.length) (fun k hk=>vbundle_ly_s u ok sm h k hk) (vbundle_ly_e u ok sm h) (by intro h;cases h)
noncomputable def vbundle_ln_I (u:Bun) (m:Nat) (k:Nat):VS:=stt 27 [(1,.ptr 1 0 0),(2,.ptr 2 0 0),(14,i64 u.m.length),(15,i64 k)] [(1,.var (bunC u)),(2,.var [i64 0,i64 0,i64 0,i64 0])]
noncomputable def vbundle_ln_Z (u:Bun) (m:Nat):VS:=stt 27 [(2,.ptr 2 0 0)] [(2,.var (fltC (mE u m)))]
theorem vbundle_ln_s (u:Bun) (m:Nat) (ok:u.Ok) (sm:u.Sm) (hm:m<u.m.length) (hf:(mE u m).w≠0) (h:∀ j,j<m→mE u j=⟨0,0,0,0⟩) (k:Nat) (hk:k<m):VT L_ (fnC Tryz.f31 [1,1,0,1,0,0]) (vbundle_ln_I u m k) .normal (vbundle_ln_I u m (k+1)):=by
 have q:modelE (u.m.getD k default).l u.inp u.cl k=⟨0,0,0,0⟩:=h k hk
 have q5:=sm.l
 have oz1:=@vmodel_v (u) (k) ok sm (by omega)
 exact VT.run (W:=[r_,b_,r_,.r [] [.callr (rO oz1)],.r [] [.v (BS_ !eqNums [(Q_,(modelE (u.m.getD k default).l u.inp u.cl (↑k:Int)).w,0),(Q_,(modelE (u.m.getD k default).l u.inp u.cl (↑k:Int)).m,0),(Q_,(modelE (u.m.getD k default).l u.inp u.cl (↑k:Int)).b,0),(Q_,(modelE (u.m.getD k default).l u.inp u.cl (↑k:Int)).n,0)])],d_,.r [] [.n ((↑k:Int)+1)]]) (G:=[.any (rg [(4,2),(16,8),(25,1)]),.drop [5],.weak 15 (i64 (↑(k+1):Int)),.sort]) (by kernel_rfl) (.c (decide_eq_true (p:=((↑k:Int)<(u.m.length:Int))) (by omega))<|.c oz1<|.c (show BinTo L_ BinOp.neq 86 (Operand.tmp 21) (Operand.tmp 22) (BI_ #[AQ_ Q_ (modelE (u.m.getD k default).l u.inp u.cl (↑k:Int)).w,AQ_ Q_ (modelE (u.m.getD k default).l u.inp u.cl (↑k:Int)).m,AQ_ Q_ (modelE (u.m.getD k default).l u.inp u.cl (↑k:Int)).b,AQ_ Q_ (modelE (u.m.getD k default).l u.inp u.cl (↑k:Int)).n]) (BI_ #[AQ_ Q_ 0,AQ_ Q_ 0,AQ_ Q_ 0,AQ_ Q_ 0]) (BS_ !eqNums [(Q_,(modelE (u.m.getD k default).l u.inp u.cl (↑k:Int)).w,0),(Q_,(modelE (u.m.getD k default).l u.inp u.cl (↑k:Int)).m,0),(Q_,(modelE (u.m.getD k default).l u.inp u.cl (↑k:Int)).b,0),(Q_,(modelE (u.m.getD k default).l u.inp u.cl (↑k:Int)).n,0)]) from ((bin_nums (l:=[(Q_,(modelE (u.m.getD k default).l u.inp u.cl (↑k:Int)).w,0),(Q_,(modelE (u.m.getD k default).l u.inp u.cl (↑k:Int)).m,0),(Q_,(modelE (u.m.getD k default).l u.inp u.cl (↑k:Int)).b,0),(Q_,(modelE (u.m.getD k default).l u.inp u.cl (↑k:Int)).n,0)]) (by kernel_rfl) (by kernel_rfl) (by kernel_rfl) (by kernel_rfl) _ _).2))<|.c (show (!eqNums [(Q_,(modelE (u.m.getD k default).l u.inp u.cl (↑k:Int)).w,0),(Q_,(modelE (u.m.getD k default).l u.inp u.cl (↑k:Int)).m,0),(Q_,(modelE (u.m.getD k default).l u.inp u.cl (↑k:Int)).b,0),(Q_,(modelE (u.m.getD k default).l u.inp u.cl (↑k:Int)).n,0)])=false by (rw[q];rfl))<|.c (i6n ((↑k:Int)+1) (by omega))<|.c (wS_ k)<|.n)
theorem vbundle_ln_e (u:Bun) (m:Nat) (ok:u.Ok) (sm:u.Sm) (hm:m<u.m.length) (hf:(mE u m).w≠0) (h:∀ j,j<m→mE u j=⟨0,0,0,0⟩):VT L_ (fnC Tryz.f31 [1,1,0,1,0,0]) (vbundle_ln_I u m (m)) (.ret) (vbundle_ln_Z u m):=by
 have q5:=sm.l
 have hg:¬ (modelE (u.m.getD m default).l u.inp u.cl m).w=0:=hf
 have oz1:=@vmodel_v (u) (m) ok sm hm
 exact VT.run (W:=[r_,b_,r_,.r [] [.callr (rO oz1)],.r [] [.v (BS_ !eqNums [(Q_,(modelE (u.m.getD m default).l u.inp u.cl (↑m:Int)).w,0),(Q_,(modelE (u.m.getD m default).l u.inp u.cl (↑m:Int)).m,0),(Q_,(modelE (u.m.getD m default).l u.inp u.cl (↑m:Int)).b,0),(Q_,(modelE (u.m.getD m default).l u.inp u.cl (↑m:Int)).n,0)])],b_,r_]) (G:=[.any (rg [(1,1),(4,2),(14,11)]),.drop [1,5],.sort]) (by kernel_rfl) (.c (decide_eq_true (p:=((↑m:Int)<(u.m.length:Int))) (by omega))<|.c oz1<|.c (show BinTo L_ BinOp.neq 86 (Operand.tmp 21) (Operand.tmp 22) (BI_ #[AQ_ Q_ (modelE (u.m.getD m default).l u.inp u.cl (↑m:Int)).w,AQ_ Q_ (modelE (u.m.getD m default).l u.inp u.cl (↑m:Int)).m,AQ_ Q_ (modelE (u.m.getD m default).l u.inp u.cl (↑m:Int)).b,AQ_ Q_ (modelE (u.m.getD m default).l u.inp u.cl (↑m:Int)).n]) (BI_ #[AQ_ Q_ 0,AQ_ Q_ 0,AQ_ Q_ 0,AQ_ Q_ 0]) (BS_ !eqNums [(Q_,(modelE (u.m.getD m default).l u.inp u.cl (↑m:Int)).w,0),(Q_,(modelE (u.m.getD m default).l u.inp u.cl (↑m:Int)).m,0),(Q_,(modelE (u.m.getD m default).l u.inp u.cl (↑m:Int)).b,0),(Q_,(modelE (u.m.getD m default).l u.inp u.cl (↑m:Int)).n,0)]) from ((bin_nums (l:=[(Q_,(modelE (u.m.getD m default).l u.inp u.cl (↑m:Int)).w,0),(Q_,(modelE (u.m.getD m default).l u.inp u.cl (↑m:Int)).m,0),(Q_,(modelE (u.m.getD m default).l u.inp u.cl (↑m:Int)).b,0),(Q_,(modelE (u.m.getD m default).l u.inp u.cl (↑m:Int)).n,0)]) (by kernel_rfl) (by kernel_rfl) (by kernel_rfl) (by kernel_rfl) _ _).2))<|.c (show (!eqNums [(Q_,(modelE (u.m.getD m default).l u.inp u.cl (↑m:Int)).w,0),(Q_,(modelE (u.m.getD m default).l u.inp u.cl (↑m:Int)).m,0),(Q_,(modelE (u.m.getD m default).l u.inp u.cl (↑m:Int)).b,0),(Q_,(modelE (u.m.getD m default).l u.inp u.cl (↑m:Int)).n,0)])=true by (simp only[eqNums];rw[beq_eq_false_iff_ne.2 hg];rfl))<|.n)
theorem vbundle_ln (u:Bun) (m:Nat) (ok:u.Ok) (sm:u.Sm) (hm:m<u.m.length) (hf:(mE u m).w≠0) (h:∀ j,j<m→mE u j=⟨0,0,0,0⟩):VT L_ (fnC Tryz.f31 [1,1,0,1,0]) (vbundle_ln_I u m 0) (.ret) (vbundle_ln_Z u m) :=
 VT.loop (fun k=>vbundle_ln_I u m k) (m) (fun k hk=>vbundle_ln_s u m ok sm hm hf h k hk) (vbundle_ln_e u m ok sm hm hf h) (by intro h;cases h)
def bunE (u:Bun):Flt:=if wholeE u≠0 then ⟨wholeE u,-1,-1,-1⟩ else if firstBad (fun j=>(mE u j).w==0) u.m.length<u.m.length then mE u (firstBad (fun j=>(mE u j).w==0) u.m.length) else ⟨0,0,0,0⟩
theorem bunE_y {u:Bun} (w:wholeE u=0) (h:∀ j,j<u.m.length→mE u j=⟨0,0,0,0⟩):bunE u=⟨0,0,0,0⟩:=by
 unfold bunE
 rw[j_ (by simp[w]),firstBad_all fun j hj=>by rw[h j hj];rfl,j_ (by omega)]
theorem bunE_m {u:Bun} {m:Nat} (w:wholeE u=0) (hm:m<u.m.length) (hf:(mE u m).w≠0) (h:∀ j,j<m→mE u j=⟨0,0,0,0⟩):bunE u=mE u m:=by
 have e:=firstBad_at (p:=fun j=>(mE u j).w==0) (m:=m) (by simpa using hf) (fun j hj=>by rw[h j hj];rfl) hm
 unfold bunE
 rw[j_ (by simp[w]),e,i_ hm]
theorem bunE_cases (u:Bun):wholeE u≠0∨(wholeE u=0∧∀ j,j<u.m.length→mE u j=⟨0,0,0,0⟩)∨(wholeE u=0∧∃ m,m<u.m.length∧(mE u m).w≠0∧∀ j,j<m→mE u j=⟨0,0,0,0⟩):=by
 by_cases w:wholeE u=0
 ·rcases all_or (fun j=>(mE u j).w==0) u.m.length with h|⟨m,h1,h2,h3⟩
  ·exact .inr (.inl ⟨w,fun j hj=>modelE_z (beq_iff_eq.1 (h j hj))⟩)
  ·exact .inr (.inr ⟨w,m,h1,by simpa using h2,fun j hj=>modelE_z (beq_iff_eq.1 (h3 j hj))⟩)
 ·exact .inl w
theorem vbundle_a (u:Bun) (ok:u.Ok) (sm:u.Sm) (h:wholeE u≠0):VC L_ 31 ([bun u]) (flt (bunE u)):=by
 have q5:=sm.l
 have oz0:=@vwhole_v (u) ok (by omega)
 exact (VC.run (fn:=Tryz.f31) (W:=[r_,.r [] [.callr (rO oz0)],r_,b_,r_]) (r:=AV.agg [i64 (wholeE u),i64 (-1),i64 (-1),i64 (-1)]) Tryz.func31 (by kernel_rfl) (.c oz0<|.c (show (wholeE u != 0)=true by (simp;omega))<|.n)).weak (B_ _) (AD_ (.cons (R_ (by (unfold bunE;rw[i_ h]))) (.cons (R_ (by (unfold bunE;rw[i_ h]))) (.cons (R_ (by (unfold bunE;rw[i_ h]))) (.cons (R_ (by (unfold bunE;rw[i_ h]))) .nil)))))
theorem vbundle_y (u:Bun) (ok:u.Ok) (sm:u.Sm) (w:wholeE u=0) (h:∀ j,j<u.m.length→mE u j=⟨0,0,0,0⟩):VC L_ 31 ([bun u]) (flt ⟨0,0,0,0⟩):=by
 have q5:=sm.l
 have oz0:=@vwhole_v (u) ok (by omega)
 have oz4:=@vbundle_ly (u) ok sm h
 exact VC.run (fn:=Tryz.f31) (W:=[r_,.r [] [.callr (rO oz0)],r_,d_,r_,.code [.any [0,3,6,7,8,9,12,13],.weak 14 (i64 (u.m.length:Int)),.weak 15 (i64 (↑0:Int)),.sort] (AF_ 0) (zO oz4),r_]) Tryz.func31 (by kernel_rfl) (.c oz0<|.c (show (wholeE u != 0)=false by (rw[w];rfl))<|.c (R_ (k:=.i64) (show ((((K_ mdlC u.m).length:Int)):Int)=((u.m.length:Int)) from (by (simp;done))))<|.c w0_<|.c oz4<|.n)
theorem vbundle_m (u:Bun) (m:Nat) (ok:u.Ok) (sm:u.Sm) (w:wholeE u=0) (hm:m<u.m.length) (hf:(mE u m).w≠0) (h:∀ j,j<m→mE u j=⟨0,0,0,0⟩):VC L_ 31 ([bun u]) (flt (mE u m)):=by
 have q5:=sm.l
 have oz0:=@vwhole_v (u) ok (by omega)
 have oz4:=@vbundle_ln (u) (m) ok sm hm hf h
 exact VC.run (fn:=Tryz.f31) (W:=[r_,.r [] [.callr (rO oz0)],r_,d_,r_,.code [.any [0,3,6,7,8,9,12,13],.weak 14 (i64 (u.m.length:Int)),.weak 15 (i64 (↑0:Int)),.sort] (CA_) (zO oz4)]) Tryz.func31 (by kernel_rfl) (.c oz0<|.c (show (wholeE u != 0)=false by (rw[w];rfl))<|.c (R_ (k:=.i64) (show ((((K_ mdlC u.m).length:Int)):Int)=((u.m.length:Int)) from (by (simp;done))))<|.c w0_<|.c oz4<|.n)
theorem vbundle_v (u:Bun) (ok:u.Ok) (sm:u.Sm):VC L_ 31 [bun u] (flt (bunE u)):=by
 rcases bunE_cases u with h|⟨w,h⟩|⟨w,m,h1,h2,h3⟩
 ·exact vbundle_a u ok sm h
 ·rw[bunE_y w h];exact vbundle_y u ok sm w h
 ·rw[bunE_m w h1 h2 h3];exact vbundle_m u m ok sm w h1 h2 h3
noncomputable def rvm_iy_I (u:Bun) (l:List Blc) (a:Shp) (j:Int) (k:Nat):VS:=stt 108 [(1,.ptr 1 0 0),(2,.ptr 2 0 0),(3,i64 j),(4,.sl 5 (l.map blcC)),(5,.ptr 5 0 0),(6,i64 k)] [(1,.var (bunC u)),(2,.var [i64 0,i64 0,i64 0,i64 0]),(5,.var (shpC (inS l a k)))]
noncomputable def rvm_iy_Z (u:Bun) (l:List Blc) (a:Shp) (j:Int):VS:=rvm_iy_I u l a j (l.length)
theorem rvm_iy_s (u:Bun) (l:List Blc) (a:Shp) (j:Int) (ok:∀ d∈l,d.Ok) (sm:∀ d∈l,d.Sm) (oka:a.Ok) (hl:l.length≤6) (h:∀ k,k<l.length→(vB l a u.cl k).2=0) (k:Nat) (hk:k<l.length):VT L_ (fnC Tryz.f12 [1,1,1,1,1,0,1,0,0,1,0,0,1,1,1,1,1,0,0]) (rvm_iy_I u l a j k) .normal (rvm_iy_I u l a j (k+1)):=by
 have q:=h k hk
 have q1:=validE_ok q
 have q2:=getD_in ok hk
 have q3:=getD_in sm hk
 have q4:=inS_ok (l:=l) oka k
 have lb:(K_ blcC l).length=l.length:=N_ _
 have q5:=q2.n
 have q6:=q3.s
 have q7:=q3.l
 have l1:=growL_len nextE (l.getD k default).n (inS l a k) (l.getD k default).n.length
 have l3:(K_ shpC (growL nextE (l.getD k default).n (inS l a k) (l.getD k default).n.length)).length=(growL nextE (l.getD k default).n (inS l a k) (l.getD k default).n.length).length:=N_ _
 have i1:(((K_ shpC (growL nextE (l.getD k default).n (inS l a k) (l.getD k default).n.length)).length:Int)-1).toNat=(l.getD k default).n.length:=by omega
 have oz1:=(show 0≤(↑k:Int) by omega)
 have oz2:=(map_at (blcC) (default) (l:=l) (i:=k) hk)
 have oz3:=(i6n (((K_ blcC l).length:Int)-1) (by omega))
 have oz4:=@rvblock_v (l.getD k default) (inS l a k) (u.cl) ((↑k:Int)==((K_ blcC l).length:Int)-1) q2 q4 q3
 have oz8:=@rshapes_y ((l.getD k default).n) (inS l a k) q5 q6 q1
 have oz9:=(i6n (((K_ shpC (growL nextE (l.getD k default).n (inS l a k) (l.getD k default).n.length)).length:Int)-1) (by omega))
 have oz11:=(map_at (shpC) (default) (l:=growL nextE (l.getD k default).n (inS l a k) (l.getD k default).n.length) (i:=(((K_ shpC (growL nextE (l.getD k default).n (inS l a k) (l.getD k default).n.length)).length:Int)-1).toNat) (by omega))
 exact VT.run (W:=[r_,b_,.r [] [.row (sO oz2),.n (nO oz3),.callr (rO oz4)],r_,d_,.r [] [.row (sO oz2),.callr (rO oz8)],.r [] [.n (nO oz9),.row (sO oz11)],.r [] [.n ((↑k:Int)+1)]]) (G:=[.any (rg [(7,5),(61,24),(90,17)]),.weak 6 (i64 (↑(k+1):Int)),.blk 5 (Blk.var [i64 (inS l a (k+1)).h,i64 (inS l a (k+1)).x,i64 (inS l a (k+1)).c]),.sort]) (by kernel_rfl) (.c (decide_eq_true (p:=((↑k:Int)<((K_ blcC l).length:Int))) (by omega))<|.c oz1<|.c oz2<|.c oz3<|.c oz4<|.c (show ((validE (l.getD k default) (inS l a k) u.cl ((↑k:Int)==((K_ blcC l).length:Int)-1)).snd != 0)=false by (rw[q];rfl))<|.c oz1<|.c oz2<|.c oz8<|.c oz9<|.c (show 0≤((K_ shpC (growL nextE (l.getD k default).n (inS l a k) (l.getD k default).n.length)).length:Int)-1 by omega)<|.c oz11<|.c (i6n ((↑k:Int)+1) (by omega))<|.c (wS_ k)<|.c (show BlkW (Blk.var [i64 ((growL nextE (l.getD k default).n (inS l a k) (l.getD k default).n.length).getD (((K_ shpC (growL nextE (l.getD k default).n (inS l a k) (l.getD k default).n.length)).length:Int)-1).toNat default).h,i64 ((growL nextE (l.getD k default).n (inS l a k) (l.getD k default).n.length).getD (((K_ shpC (growL nextE (l.getD k default).n (inS l a k) (l.getD k default).n.length)).length:Int)-1).toNat default).x,i64 ((growL nextE (l.getD k default).n (inS l a k) (l.getD k default).n.length).getD (((K_ shpC (growL nextE (l.getD k default).n (inS l a k) (l.getD k default).n.length)).length:Int)-1).toNat default).c]) (Blk.var [i64 (inS l a (k+1)).h,i64 (inS l a (k+1)).x,i64 (inS l a (k+1)).c]) from (BlkW.var (m:=[i64 (inS l a (k+1)).h,i64 (inS l a (k+1)).x,i64 (inS l a (k+1)).c]) (.cons (R_ (by (rw[i1]<;>rfl))) (.cons (R_ (by (rw[i1]<;>rfl))) (.cons (R_ (by (rw[i1]<;>rfl))) .nil)))))<|.n)
theorem rvm_iy_e (u:Bun) (l:List Blc) (a:Shp) (j:Int) (ok:∀ d∈l,d.Ok) (sm:∀ d∈l,d.Sm) (oka:a.Ok) (hl:l.length≤6) (h:∀ k,k<l.length→(vB l a u.cl k).2=0):VT L_ (fnC Tryz.f12 [1,1,1,1,1,0,1,0,0,1,0,0,1,1,1,1,1,0,0]) (rvm_iy_I u l a j (l.length)) (.exit 2) (rvm_iy_Z u l a j):=by
 exact VT.run (W:=[r_,d_]) (G:=[.any (rg [(61,4)]),.sort]) (by kernel_rfl) (.c (show decide ((l.length:Int)<((K_ blcC l).length:Int))=false by (simp;done))<|.n)
theorem rvm_iy (u:Bun) (l:List Blc) (a:Shp) (j:Int) (ok:∀ d∈l,d.Ok) (sm:∀ d∈l,d.Sm) (oka:a.Ok) (hl:l.length≤6) (h:∀ k,k<l.length→(vB l a u.cl k).2=0):VT L_ (fnC Tryz.f12 [1,1,1,1,1,0,1,0,0,1,0,0,1,1,1,1,1,0]) (rvm_iy_I u l a j 0) (.exit 2) (rvm_iy_Z u l a j) :=
 VT.loop (fun k=>rvm_iy_I u l a j k) (l.length) (fun k hk=>rvm_iy_s u l a j ok sm oka hl h k hk) (rvm_iy_e u l a j ok sm oka hl h) (by intro h;cases h)
noncomputable def rvm_in_I (u:Bun) (l:List Blc) (a:Shp) (j:Int) (m:Nat) (k:Nat):VS:=stt 108 [(1,.ptr 1 0 0),(2,.ptr 2 0 0),(3,i64 j),(4,.sl 5 (l.map blcC)),(5,.ptr 5 0 0),(6,i64 k)] [(1,.var (bunC u)),(2,.var [i64 0,i64 0,i64 0,i64 0]),(5,.var (shpC (inS l a k)))]
noncomputable def rvm_in_Z (u:Bun) (l:List Blc) (a:Shp) (j:Int) (m:Nat):VS:=stt 108 [(2,.ptr 2 0 0)] [(2,.var [i64 (vB l a u.cl m).2,i64 j,i64 m,i64 (vB l a u.cl m).1])]
theorem rvm_in_s (u:Bun) (l:List Blc) (a:Shp) (j:Int) (m:Nat) (ok:∀ d∈l,d.Ok) (sm:∀ d∈l,d.Sm) (oka:a.Ok) (hl:l.length≤6) (hm:m<l.length) (hf:(vB l a u.cl m).2≠0) (h:∀ k,k<m→(vB l a u.cl k).2=0) (k:Nat) (hk:k<m):VT L_ (fnC Tryz.f12 [1,1,1,1,1,0,1,0,0,1,0,0,1,1,1,1,1,0,0]) (rvm_in_I u l a j m k) .normal (rvm_in_I u l a j m (k+1)):=by
 have q:=h k hk
 have q1:=validE_ok q
 have q2:=getD_in ok (show k<l.length by omega)
 have q3:=getD_in sm (show k<l.length by omega)
 have q4:=inS_ok (l:=l) oka k
 have lb:(K_ blcC l).length=l.length:=N_ _
 have q5:=q2.n
 have q6:=q3.s
 have q7:=q3.l
 have l1:=growL_len nextE (l.getD k default).n (inS l a k) (l.getD k default).n.length
 have l3:(K_ shpC (growL nextE (l.getD k default).n (inS l a k) (l.getD k default).n.length)).length=(growL nextE (l.getD k default).n (inS l a k) (l.getD k default).n.length).length:=N_ _
 have i1:(((K_ shpC (growL nextE (l.getD k default).n (inS l a k) (l.getD k default).n.length)).length:Int)-1).toNat=(l.getD k default).n.length:=by omega
 have oz1:=(show 0≤(↑k:Int) by omega)
 have oz2:=(map_at (blcC) (default) (l:=l) (i:=k) (by omega))
 have oz3:=(i6n (((K_ blcC l).length:Int)-1) (by omega))
 have oz4:=@rvblock_v (l.getD k default) (inS l a k) (u.cl) ((↑k:Int)==((K_ blcC l).length:Int)-1) q2 q4 q3
 have oz8:=@rshapes_y ((l.getD k default).n) (inS l a k) q5 q6 q1
 have oz9:=(i6n (((K_ shpC (growL nextE (l.getD k default).n (inS l a k) (l.getD k default).n.length)).length:Int)-1) (by omega))
 have oz11:=(map_at (shpC) (default) (l:=growL nextE (l.getD k default).n (inS l a k) (l.getD k default).n.length) (i:=(((K_ shpC (growL nextE (l.getD k default).n (inS l a k) (l.getD k default).n.length)).length:Int)-1).toNat) (by omega))
 exact VT.run (W:=[r_,b_,.r [] [.row (sO oz2),.n (nO oz3),.callr (rO oz4)],r_,d_,.r [] [.row (sO oz2),.callr (rO oz8)],.r [] [.n (nO oz9),.row (sO oz11)],.r [] [.n ((↑k:Int)+1)]]) (G:=[.any (rg [(7,5),(61,24),(90,17)]),.weak 6 (i64 (↑(k+1):Int)),.blk 5 (Blk.var [i64 (inS l a (k+1)).h,i64 (inS l a (k+1)).x,i64 (inS l a (k+1)).c]),.sort]) (by kernel_rfl) (.c (decide_eq_true (p:=((↑k:Int)<((K_ blcC l).length:Int))) (by omega))<|.c oz1<|.c oz2<|.c oz3<|.c oz4<|.c (show ((validE (l.getD k default) (inS l a k) u.cl ((↑k:Int)==((K_ blcC l).length:Int)-1)).snd != 0)=false by (rw[q];rfl))<|.c oz1<|.c oz2<|.c oz8<|.c oz9<|.c (show 0≤((K_ shpC (growL nextE (l.getD k default).n (inS l a k) (l.getD k default).n.length)).length:Int)-1 by omega)<|.c oz11<|.c (i6n ((↑k:Int)+1) (by omega))<|.c (wS_ k)<|.c (show BlkW (Blk.var [i64 ((growL nextE (l.getD k default).n (inS l a k) (l.getD k default).n.length).getD (((K_ shpC (growL nextE (l.getD k default).n (inS l a k) (l.getD k default).n.length)).length:Int)-1).toNat default).h,i64 ((growL nextE (l.getD k default).n (inS l a k) (l.getD k default).n.length).getD (((K_ shpC (growL nextE (l.getD k default).n (inS l a k) (l.getD k default).n.length)).length:Int)-1).toNat default).x,i64 ((growL nextE (l.getD k default).n (inS l a k) (l.getD k default).n.length).getD (((K_ shpC (growL nextE (l.getD k default).n (inS l a k) (l.getD k default).n.length)).length:Int)-1).toNat default).c]) (Blk.var [i64 (inS l a (k+1)).h,i64 (inS l a (k+1)).x,i64 (inS l a (k+1)).c]) from (BlkW.var (m:=[i64 (inS l a (k+1)).h,i64 (inS l a (k+1)).x,i64 (inS l a (k+1)).c]) (.cons (R_ (by (rw[i1]<;>rfl))) (.cons (R_ (by (rw[i1]<;>rfl))) (.cons (R_ (by (rw[i1]<;>rfl))) .nil)))))<|.n)
theorem rvm_in_e (u:Bun) (l:List Blc) (a:Shp) (j:Int) (m:Nat) (ok:∀ d∈l,d.Ok) (sm:∀ d∈l,d.Sm) (oka:a.Ok) (hl:l.length≤6) (hm:m<l.length) (hf:(vB l a u.cl m).2≠0) (h:∀ k,k<m→(vB l a u.cl k).2=0):VT L_ (fnC Tryz.f12 [1,1,1,1,1,0,1,0,0,1,0,0,1,1,1,1,1,0,0]) (rvm_in_I u l a j m (m)) (.ret) (rvm_in_Z u l a j m):=by
 have q2:=getD_in ok hm
 have q3:=getD_in sm hm
 have q4:=inS_ok (l:=l) oka m
 have lb:(K_ blcC l).length=l.length:=N_ _
 have oz2:=(map_at (blcC) (default) (l:=l) (i:=m) hm)
 have oz3:=(i6n (((K_ blcC l).length:Int)-1) (by omega))
 have oz4:=@rvblock_v (l.getD m default) (inS l a m) (u.cl) ((↑m:Int)==((K_ blcC l).length:Int)-1) q2 q4 q3
 exact VT.run (W:=[r_,b_,.r [] [.row (sO oz2),.n (nO oz3),.callr (rO oz4)],r_,b_,r_]) (G:=[.any (rg [(1,1),(3,6),(61,4),(67,23)]),.drop [1,5],.sort]) (by kernel_rfl) (.c (decide_eq_true (p:=((↑m:Int)<((K_ blcC l).length:Int))) (by omega))<|.c (show 0≤(↑m:Int) by omega)<|.c oz2<|.c oz3<|.c oz4<|.c (show ((validE (l.getD m default) (inS l a m) u.cl ((↑m:Int)==((K_ blcC l).length:Int)-1)).snd != 0)=true by (rw[J_];exact hf))<|.n)
theorem rvm_in (u:Bun) (l:List Blc) (a:Shp) (j:Int) (m:Nat) (ok:∀ d∈l,d.Ok) (sm:∀ d∈l,d.Sm) (oka:a.Ok) (hl:l.length≤6) (hm:m<l.length) (hf:(vB l a u.cl m).2≠0) (h:∀ k,k<m→(vB l a u.cl k).2=0):VT L_ (fnC Tryz.f12 [1,1,1,1,1,0,1,0,0,1,0,0,1,1,1,1,1,0]) (rvm_in_I u l a j m 0) (.ret) (rvm_in_Z u l a j m) :=
 VT.loop (fun k=>rvm_in_I u l a j m k) (m) (fun k hk=>rvm_in_s u l a j m ok sm oka hl hm hf h k hk) (rvm_in_e u l a j m ok sm oka hl hm hf h) (by intro h;cases h)
theorem modelE_ok {l:List Blc} {a:Shp} {cl j:Int} (h:modelE l a cl j=⟨0,0,0,0⟩):¬ l.length=0∧l.length≤6∧∀ k,k<l.length→(vB l a cl k).2=0:=by
 rcases modelE_cases l a cl with g|g|⟨h6,m,h1,h2,h3⟩
 ·exact g
 ·exfalso
  revert h
  unfold modelE
  by_cases c:l.length=0
  ·rw[i_ c];intro h;injection h with h;revert h;decide
  ·rw[j_ c,i_ (by omega)];intro h;injection h with h;revert h;decide
 ·rw[modelE_m h6 h1 h2 h3] at h;injection h with h;exact absurd h h2
noncomputable def rvb_oy_I (u:Bun) (k:Nat):VS:=stt 108 [(1,.ptr 1 0 0),(2,.ptr 2 0 0),(3,i64 k)] [(1,.var (bunC u)),(2,.var [i64 0,i64 0,i64 0,i64 0])]
noncomputable def rvb_oy_Z (u:Bun):VS:=rvb_oy_I u (u.m.length)
theorem rvb_oy_s (u:Bun) (ok:u.Ok) (sm:u.Sm) (h:∀ j,j<u.m.length→mE u j=⟨0,0,0,0⟩) (k:Nat) (hk:k<u.m.length):VT L_ (fnC Tryz.f12 [1,1,1,1,1,0,1,0,0]) (rvb_oy_I u k) .normal (rvb_oy_I u (k+1)):=by
 obtain ⟨q1,q2,q3⟩:=modelE_ok (h k hk)
 have q4:=sm.l
 have q5:u.inp.Ok:=⟨ok.h,ok.x,ok.c⟩
 have q6:=(getD_in ok.m hk).l
 have q7:=(getD_in sm.m hk).2
 have oz2:=(map_at (mdlC) (default) (l:=u.m) (i:=k) hk)
 have oz6:=@rvm_iy (u) ((u.m.getD k default).l) (Shp.mk u.1 u.2 u.3) ((↑k:Int)) q6 q7 q5 q2 q3
 exact VT.run (W:=[r_,b_,.r [] [.row (sO oz2)],r_,d_,r_,d_,r_,r_,.code [.any (rg [(36,5),(43,9),(54,3),(59,2)]),.weak 6 (i64 (↑0:Int)),.sort] (AF_ 2) (zO oz6),.r [] [.n ((↑k:Int)+1)]]) (G:=[.any [4,5,6,41,42],.drop [5],.weak 3 (i64 (↑(k+1):Int)),.sort]) (by kernel_rfl) (.c (show decide ((↑k:Int)<((K_ mdlC u.m).length:Int))=true by (simp;omega))<|.c (show 0≤(↑k:Int) by omega)<|.c oz2<|.c (show (((K_ blcC (u.m.getD k default).l).length:Int)==0)=false by (simp at *;omega))<|.c (show decide (((K_ blcC (u.m.getD k default).l).length:Int)>6)=false by (simp at *;omega))<|.c w0_<|.c oz6<|.c (i6n ((↑k:Int)+1) (by omega))<|.c (wS_ k)<|.n)
theorem rvb_oy_e (u:Bun) (ok:u.Ok) (sm:u.Sm) (h:∀ j,j<u.m.length→mE u j=⟨0,0,0,0⟩):VT L_ (fnC Tryz.f12 [1,1,1,1,1,0,1,0,0]) (rvb_oy_I u (u.m.length)) (.exit 0) (rvb_oy_Z u):=by
 exact VT.run (W:=[r_,d_]) (G:=[.any (rg [(36,5)]),.sort]) (by kernel_rfl) (.c (show decide ((u.m.length:Int)<((K_ mdlC u.m).length:Int))=false by (simp;done))<|.n)
theorem rvb_oy (u:Bun) (ok:u.Ok) (sm:u.Sm) (h:∀ j,j<u.m.length→mE u j=⟨0,0,0,0⟩):VT L_ (fnC Tryz.f12 [1,1,1,1,1,0,1,0]) (rvb_oy_I u 0) (.exit 0) (rvb_oy_Z u) :=
 VT.loop (fun k=>rvb_oy_I u k) (u.m.length) (fun k hk=>rvb_oy_s u ok sm h k hk) (rvb_oy_e u ok sm h) (by intro h;cases h)
noncomputable def rvb_oa_I (u:Bun) (m:Nat) (k:Nat):VS:=stt 108 [(1,.ptr 1 0 0),(2,.ptr 2 0 0),(3,i64 k)] [(1,.var (bunC u)),(2,.var [i64 0,i64 0,i64 0,i64 0])]
noncomputable def rvb_oa_Z (u:Bun) (m:Nat):VS:=stt 108 [(2,.ptr 2 0 0)] [(2,.var (fltC (mE u m)))]
theorem rvb_oa_s (u:Bun) (m:Nat) (ok:u.Ok) (sm:u.Sm) (hm:m<u.m.length) (hf:(u.m.getD m default).l.length=0∨6<(u.m.getD m default).l.length) (h:∀ j,j<m→mE u j=⟨0,0,0,0⟩) (k:Nat) (hk:k<m):VT L_ (fnC Tryz.f12 [1,1,1,1,1,0,1,0,0]) (rvb_oa_I u m k) .normal (rvb_oa_I u m (k+1)):=by
 obtain ⟨q1,q2,q3⟩:=modelE_ok (h k hk)
 have q4:=sm.l
 have q5:u.inp.Ok:=⟨ok.h,ok.x,ok.c⟩
 have q6:=(getD_in ok.m (show k<u.m.length by omega)).l
 have q7:=(getD_in sm.m (show k<u.m.length by omega)).2
 have oz2:=(map_at (mdlC) (default) (l:=u.m) (i:=k) (by omega))
 have oz6:=@rvm_iy (u) ((u.m.getD k default).l) (Shp.mk u.1 u.2 u.3) ((↑k:Int)) q6 q7 q5 q2 q3
 exact VT.run (W:=[r_,b_,.r [] [.row (sO oz2)],r_,d_,r_,d_,r_,r_,.code [.any (rg [(36,5),(43,9),(54,3),(59,2)]),.weak 6 (i64 (↑0:Int)),.sort] (AF_ 2) (zO oz6),.r [] [.n ((↑k:Int)+1)]]) (G:=[.any [4,5,6,41,42],.drop [5],.weak 3 (i64 (↑(k+1):Int)),.sort]) (by kernel_rfl) (.c (show decide ((↑k:Int)<((K_ mdlC u.m).length:Int))=true by (simp;omega))<|.c (show 0≤(↑k:Int) by omega)<|.c oz2<|.c (show (((K_ blcC (u.m.getD k default).l).length:Int)==0)=false by (simp at *;omega))<|.c (show decide (((K_ blcC (u.m.getD k default).l).length:Int)>6)=false by (simp at *;omega))<|.c w0_<|.c oz6<|.c (i6n ((↑k:Int)+1) (by omega))<|.c (wS_ k)<|.n)
theorem rvb_oa_e (u:Bun) (m:Nat) (ok:u.Ok) (sm:u.Sm) (hm:m<u.m.length) (hf:(u.m.getD m default).l.length=0∨6<(u.m.getD m default).l.length) (h:∀ j,j<m→mE u j=⟨0,0,0,0⟩):VT L_ (fnC Tryz.f12 [1,1,1,1,1,0,1,0,0]) (rvb_oa_I u m (m)) (.ret) (rvb_oa_Z u m):=by
 have q4:=sm.l
 have oz0:=(show decide ((↑m:Int)<((K_ mdlC u.m).length:Int))=true by (simp;omega))
 have oz1:=(show 0≤(↑m:Int) by omega)
 have oz2:=(map_at (mdlC) (default) (l:=u.m) (i:=m) hm)
 rcases bft (((K_ blcC (u.m.getD m default).l).length:Int)==0) with hc0|hc0
 ·have gc0:((K_ blcC (u.m.getD m default).l).length:Int)=0:=bet hc0
  exact VT.run (W:=[r_,b_,.r [] [.row (sO oz2)],r_,b_,r_]) (G:=[.any (rg [(1,1),(3,2),(36,5),(43,11)]),.drop [1],.blk 2 (Blk.var [i64 (mE u m).w,i64 (mE u m).m,i64 (mE u m).b,i64 (mE u m).n]),.sort]) (by kernel_rfl) (.c oz0<|.c oz1<|.c oz2<|.c hc0<|.c (show BlkW (Blk.var [i64 12,i64 (↑m:Int),i64 (-1),i64 (-1)]) (Blk.var [i64 (mE u m).w,i64 (mE u m).m,i64 (mE u m).b,i64 (mE u m).n]) from (BlkW.var (m:=[i64 (mE u m).w,i64 (mE u m).m,i64 (mE u m).b,i64 (mE u m).n]) (.cons (R_ (by (unfold mE modelE;(try simp only[N_] at *);(repeat first|rw[i_ (by omega)]|rw[j_ (by omega)])))) (.cons (R_ (by (unfold mE modelE;(try simp only[N_] at *);(repeat first|rw[i_ (by omega)]|rw[j_ (by omega)])))) (.cons (R_ (by (unfold mE modelE;(try simp only[N_] at *);(repeat first|rw[i_ (by omega)]|rw[j_ (by omega)])))) (.cons (R_ (by (unfold mE modelE;(try simp only[N_] at *);(repeat first|rw[i_ (by omega)]|rw[j_ (by omega)])))) .nil))))))<|.n)
 ·have gc0:¬((K_ blcC (u.m.getD m default).l).length:Int)=0:=bef hc0
  exact VT.run (W:=[r_,b_,.r [] [.row (sO oz2)],r_,d_,r_,b_,r_]) (G:=[.any (rg [(1,1),(3,2),(36,5),(43,9),(54,5)]),.drop [1],.blk 2 (Blk.var [i64 (mE u m).w,i64 (mE u m).m,i64 (mE u m).b,i64 (mE u m).n]),.sort]) (by kernel_rfl) (.c oz0<|.c oz1<|.c oz2<|.c hc0<|.c (show decide (((K_ blcC (u.m.getD m default).l).length:Int)>6)=true by (simp only[E_,F_,I_,J_,ne_eq,H_,G_,W_,U_,BK_,BQ_,BN_,Classical.not_not,CL_,CF_,P_,S_,Z_,T_,C_,BO_,BP_,AE_,BC_,BR_,eqNums,N_,O_,AC_,BB_,BD_,AH_,BL_,BX_,BY_,AJ_,BU_,BT_] at *;(first|done|with_reducible assumption|omega|contradiction)))<|.c (show BlkW (Blk.var [i64 4,i64 (↑m:Int),i64 (-1),i64 (-1)]) (Blk.var [i64 (mE u m).w,i64 (mE u m).m,i64 (mE u m).b,i64 (mE u m).n]) from (BlkW.var (m:=[i64 (mE u m).w,i64 (mE u m).m,i64 (mE u m).b,i64 (mE u m).n]) (.cons (R_ (by (unfold mE modelE;(try simp only[N_] at *);(repeat first|rw[i_ (by omega)]|rw[j_ (by omega)])))) (.cons (R_ (by (unfold mE modelE;(try simp only[N_] at *);(repeat first|rw[i_ (by omega)]|rw[j_ (by omega)])))) (.cons (R_ (by (unfold mE modelE;(try simp only[N_] at *);(repeat first|rw[i_ (by omega)]|rw[j_ (by omega)])))) (.cons (R_ (by (unfold mE modelE;(try simp only[N_] at *);(repeat first|rw[i_ (by omega)]|rw[j_ (by omega)])))) .nil))))))<|.n)
theorem rvb_oa (u:Bun) (m:Nat) (ok:u.Ok) (sm:u.Sm) (hm:m<u.m.length) (hf:(u.m.getD m default).l.length=0∨6<(u.m.getD m default).l.length) (h:∀ j,j<m→mE u j=⟨0,0,0,0⟩):VT L_ (fnC Tryz.f12 [1,1,1,1,1,0,1,0]) (rvb_oa_I u m 0) (.ret) (rvb_oa_Z u m) :=
 VT.loop (fun k=>rvb_oa_I u m k) (m) (fun k hk=>rvb_oa_s u m ok sm hm hf h k hk) (rvb_oa_e u m ok sm hm hf h) (by intro h;cases h)
noncomputable def rvb_ob_I (u:Bun) (m i:Nat) (k:Nat):VS:=stt 108 [(1,.ptr 1 0 0),(2,.ptr 2 0 0),(3,i64 k)] [(1,.var (bunC u)),(2,.var [i64 0,i64 0,i64 0,i64 0])]
noncomputable def rvb_ob_Z (u:Bun) (m i:Nat):VS:=stt 108 [(2,.ptr 2 0 0)] [(2,.var [i64 (vB (u.m.getD m default).l u.inp u.cl i).2,i64 m,i64 i,i64 (vB (u.m.getD m default).l u.inp u.cl i).1])]
theorem rvb_ob_s (u:Bun) (m i:Nat) (ok:u.Ok) (sm:u.Sm) (hm:m<u.m.length) (h6:(u.m.getD m default).l.length≤6) (hi:i<(u.m.getD m default).l.length) (hf:(vB (u.m.getD m default).l u.inp u.cl i).2≠0) (hb:∀ k,k<i→(vB (u.m.getD m default).l u.inp u.cl k).2=0) (h:∀ j,j<m→mE u j=⟨0,0,0,0⟩) (k:Nat) (hk:k<m):VT L_ (fnC Tryz.f12 [1,1,1,1,1,0,1,0,0]) (rvb_ob_I u m i k) .normal (rvb_ob_I u m i (k+1)):=by
 obtain ⟨q1,q2,q3⟩:=modelE_ok (h k hk)
 have q4:=sm.l
 have q5:u.inp.Ok:=⟨ok.h,ok.x,ok.c⟩
 have q6:=(getD_in ok.m (show k<u.m.length by omega)).l
 have q7:=(getD_in sm.m (show k<u.m.length by omega)).2
 have oz2:=(map_at (mdlC) (default) (l:=u.m) (i:=k) (by omega))
 have oz6:=@rvm_iy (u) ((u.m.getD k default).l) (Shp.mk u.1 u.2 u.3) ((↑k:Int)) q6 q7 q5 q2 q3
 exact VT.run (W:=[r_,b_,.r [] [.row (sO oz2)],r_,d_,r_,d_,r_,r_,.code [.any (rg [(36,5),(43,9),(54,3),(59,2)]),.weak 6 (i64 (↑0:Int)),.sort] (AF_ 2) (zO oz6),.r [] [.n ((↑k:Int)+1)]]) (G:=[.any [4,5,6,41,42],.drop [5],.weak 3 (i64 (↑(k+1):Int)),.sort]) (by kernel_rfl) (.c (show decide ((↑k:Int)<((K_ mdlC u.m).length:Int))=true by (simp;omega))<|.c (show 0≤(↑k:Int) by omega)<|.c oz2<|.c (show (((K_ blcC (u.m.getD k default).l).length:Int)==0)=false by (simp at *;omega))<|.c (show decide (((K_ blcC (u.m.getD k default).l).length:Int)>6)=false by (simp at *;omega))<|.c w0_<|.c oz6<|.c (i6n ((↑k:Int)+1) (by omega))<|.c (wS_ k)<|.n)
theorem rvb_ob_e (u:Bun) (m i:Nat) (ok:u.Ok) (sm:u.Sm) (hm:m<u.m.length) (h6:(u.m.getD m default).l.length≤6) (hi:i<(u.m.getD m default).l.length) (hf:(vB (u.m.getD m default).l u.inp u.cl i).2≠0) (hb:∀ k,k<i→(vB (u.m.getD m default).l u.inp u.cl k).2=0) (h:∀ j,j<m→mE u j=⟨0,0,0,0⟩):VT L_ (fnC Tryz.f12 [1,1,1,1,1,0,1,0,0]) (rvb_ob_I u m i (m)) (.ret) (rvb_ob_Z u m i):=by
 have q4:=sm.l
 have q5:u.inp.Ok:=⟨ok.h,ok.x,ok.c⟩
 have q6:=(getD_in ok.m hm).l
 have q7:=(getD_in sm.m hm).2
 have oz2:=(map_at (mdlC) (default) (l:=u.m) (i:=m) hm)
 have oz6:=@rvm_in (u) ((u.m.getD m default).l) (Shp.mk u.1 u.2 u.3) ((↑m:Int)) (i) q6 q7 q5 h6 hi hf hb
 exact VT.run (W:=[r_,b_,.r [] [.row (sO oz2)],r_,d_,r_,d_,r_,r_,.code [.any (rg [(36,5),(43,9),(54,3),(59,2)]),.weak 6 (i64 (↑0:Int)),.sort] (CA_) (zO oz6)]) (G:=[.sort]) (by kernel_rfl) (.c (show decide ((↑m:Int)<((K_ mdlC u.m).length:Int))=true by (simp;omega))<|.c (show 0≤(↑m:Int) by omega)<|.c oz2<|.c (show (((K_ blcC (u.m.getD m default).l).length:Int)==0)=false by (simp only[E_,F_,I_,J_,ne_eq,H_,G_,W_,U_,BK_,BQ_,BN_,Classical.not_not,CL_,CF_,P_,S_,Z_,T_,C_,BO_,BP_,AE_,BC_,BR_,eqNums,N_,O_,AC_,BB_,BD_,AH_,BL_,BX_,BY_,AJ_,BU_,BT_];(first|done|with_reducible assumption|omega|contradiction)))<|.c (show decide (((K_ blcC (u.m.getD m default).l).length:Int)>6)=false by (simp at *;omega))<|.c w0_<|.c oz6<|.n)
theorem rvb_ob (u:Bun) (m i:Nat) (ok:u.Ok) (sm:u.Sm) (hm:m<u.m.length) (h6:(u.m.getD m default).l.length≤6) (hi:i<(u.m.getD m default).l.length) (hf:(vB (u.m.getD m default).l u.inp u.cl i).2≠0) (hb:∀ k,k<i→(vB (u.m.getD m default).l u.inp u.cl k).2=0) (h:∀ j,j<m→mE u j=⟨0,0,0,0⟩):VT L_ (fnC Tryz.f12 [1,1,1,1,1,0,1,0]) (rvb_ob_I u m i 0) (.ret) (rvb_ob_Z u m i) :=
 VT.loop (fun k=>rvb_ob_I u m i k) (m) (fun k hk=>rvb_ob_s u m i ok sm hm h6 hi hf hb h k hk) (rvb_ob_e u m i ok sm hm h6 hi hf hb h) (by intro h;cases h)
theorem wholeE_0 {u:Bun} (h:wholeE u=0):0<elems u.h u.x u.c∧2≤u.cl∧u.cl≤16∧0<u.m.length∧u.m.length≤3:=by
 unfold wholeE at h
 by_cases c1:¬ 0<elems u.h u.x u.c
 ·rw[i_ c1] at h;cases h
 ·rw[j_ c1] at h
  by_cases c2:u.cl<2∨u.cl>16
  ·rw[i_ c2] at h;cases h
  ·rw[j_ c2] at h
   by_cases c3:u.m.length=0
   ·rw[i_ c3] at h;cases h
   ·rw[j_ c3] at h
    by_cases c4:3<u.m.length
    ·rw[i_ c4] at h;cases h
    ·exact ⟨by omega,by omega,by omega,by omega,by omega⟩
theorem wholeE_n {u:Bun} (h:wholeE u≠0):¬ 0<elems u.h u.x u.c∨u.cl<2∨u.cl>16∨u.m.length=0∨3<u.m.length:=by
 apply cbc
 intro c
 apply h
 unfold wholeE
 rw[j_ (by omega),j_ (by omega),j_ (by omega),j_ (by omega)]
theorem rvbundle_a (u:Bun) (ok:u.Ok) (sm:u.Sm) (h:wholeE u≠0):VC L_ 12 ([bun u]) (flt (bunE u)):=by
 have q5:=sm.l
 have q1:=elems_in u.h u.x u.c
 obtain ⟨q2,q3,q4⟩:In64 u.h∧In64 u.x∧In64 u.c:=⟨ok.h,ok.x,ok.c⟩
 have e:bunE u=⟨wholeE u,-1,-1,-1⟩:=i_ h
 have w:=wholeE_n h
 have lm:(K_ mdlC u.m).length=u.m.length:=N_ _
 have oz0:=@refElems_v (u.h) (u.x) (u.c) q2 q3 q4
 rcases bft (elems u.h u.x u.c==0) with hc0|hc0
 ·have gc0:elems u.h u.x u.c=0:=bet hc0
  exact (VC.run (fn:=Tryz.f12) (W:=[r_,.r [] [.callr (rO oz0)],b_,r_]) (r:=AV.agg [i64 5,i64 (-1),i64 (-1),i64 (-1)]) Tryz.func12 (by kernel_rfl) (.c oz0<|.c hc0<|.n)).weak (B_ _) (AD_ (.cons (R_ (by (rw[e];unfold wholeE;(try simp only[N_] at *);(repeat first|rw[i_ (by omega)]|rw[j_ (by omega)])))) (.cons (R_ (by (simp_all;done))) (.cons (R_ (by (simp_all;done))) (.cons (R_ (by (simp_all;done))) .nil)))))
 ·have gc0:¬elems u.h u.x u.c=0:=bef hc0
  rcases bft (decide (u.cl<2) || decide (u.cl>16)) with hc1|hc1
  ·have gc1:u.cl<2∨u.cl>16:=by simp only[Z_,T_,P_,S_,W_,U_,E_,F_,I_,J_,ne_eq,H_,G_,eqNums,C_] at hc1;first|exact hc1|omega
   exact (VC.run (fn:=Tryz.f12) (W:=[r_,.r [] [.callr (rO oz0)],d_,.r [] [o_,o_,o_,.sel 1],b_,r_]) (r:=AV.agg [i64 2,i64 (-1),i64 (-1),i64 (-1)]) Tryz.func12 (by kernel_rfl) (.c oz0<|.c hc0<|.c hc1<|.n)).weak (B_ _) (AD_ (.cons (R_ (by (rw[e];unfold wholeE;(try simp only[N_] at *);(repeat first|rw[i_ (by omega)]|rw[j_ (by omega)])))) (.cons (R_ (by (simp_all;done))) (.cons (R_ (by (simp_all;done))) (.cons (R_ (by (simp_all;done))) .nil)))))
  ·have gc1:¬u.cl<2∧¬u.cl>16:=by simp only[Z_,T_,P_,S_,W_,U_,E_,F_,I_,J_,ne_eq,H_,G_,eqNums,C_] at hc1;first|exact hc1|omega
   rcases bft (((K_ mdlC u.m).length:Int)==0) with hc2|hc2
   ·have gc2:((K_ mdlC u.m).length:Int)=0:=bet hc2
    exact (VC.run (fn:=Tryz.f12) (W:=[r_,.r [] [.callr (rO oz0)],d_,.r [] [o_,o_,o_,.sel 1],d_,r_,b_,r_]) (r:=AV.agg [i64 12,i64 (-1),i64 (-1),i64 (-1)]) Tryz.func12 (by kernel_rfl) (.c oz0<|.c hc0<|.c hc1<|.c hc2<|.n)).weak (B_ _) (AD_ (.cons (R_ (by (rw[e];unfold wholeE;(try simp only[N_] at *);(repeat first|rw[i_ (by omega)]|rw[j_ (by omega)])))) (.cons (R_ (by (simp_all;done))) (.cons (R_ (by (simp_all;done))) (.cons (R_ (by (simp_all;done))) .nil)))))
   ·have gc2:¬((K_ mdlC u.m).length:Int)=0:=bef hc2
    exact (VC.run (fn:=Tryz.f12) (W:=[r_,.r [] [.callr (rO oz0)],d_,.r [] [o_,o_,o_,.sel 1],d_,r_,d_,r_,b_,r_]) (r:=AV.agg [i64 4,i64 (-1),i64 (-1),i64 (-1)]) Tryz.func12 (by kernel_rfl) (.c oz0<|.c hc0<|.c hc1<|.c hc2<|.c (decide_eq_true (p:=(((K_ mdlC u.m).length:Int)>3)) (by omega))<|.n)).weak (B_ _) (AD_ (.cons (R_ (by (rw[e];unfold wholeE;(try simp only[N_] at *);(repeat first|rw[i_ (by omega)]|rw[j_ (by omega)])))) (.cons (R_ (by (simp_all;done))) (.cons (R_ (by (simp_all;done))) (.cons (R_ (by (simp_all;done))) .nil)))))
theorem rvbundle_y (u:Bun) (ok:u.Ok) (sm:u.Sm) (w:wholeE u=0) (h:∀ j,j<u.m.length→mE u j=⟨0,0,0,0⟩):VC L_ 12 ([bun u]) (flt ⟨0,0,0,0⟩):=by
 have q5:=sm.l
 obtain ⟨w1,w2,w3,w4,w5⟩:=wholeE_0 w
 obtain ⟨w6,w7,w8⟩:In64 u.h∧In64 u.x∧In64 u.c:=⟨ok.h,ok.x,ok.c⟩
 have oz0:=@refElems_v (u.h) (u.x) (u.c) w6 w7 w8
 have oz2:=(decide_eq_false (p:=(u.cl<2)) (by omega))
 have oz10:=@rvb_oy (u) ok sm h
 exact VC.run (fn:=Tryz.f12) (W:=[r_,.r [] [.callr (rO oz0)],d_,.r [] [e_,e_,e_,f_],d_,r_,d_,r_,d_,r_,.code [.any (rg [(0,1),(12,4),(17,8),(26,4),(31,4)]),.weak 3 (i64 (↑0:Int)),.sort] (AF_ 0) (zO oz10),r_]) Tryz.func12 (by kernel_rfl) (.c oz0<|.c (show (elems u.h u.x u.c==0)=false by (refine decide_eq_false ?_;omega))<|.c oz2<|.c oz2<|.c oz2<|.c oz2<|.c (decide_eq_false (p:=(u.cl>16)) (by omega))<|.c (show (((K_ mdlC u.m).length:Int)==0)=false by (simp only[E_,F_,I_,J_,ne_eq,H_,G_,W_,U_,BK_,BQ_,BN_,Classical.not_not,CL_,CF_,P_,S_,Z_,T_,C_,BO_,BP_,AE_,BC_,BR_,eqNums,N_,O_,AC_,BB_,BD_,AH_,BL_,BX_,BY_,AJ_,BU_,BT_];(first|done|with_reducible assumption|omega|contradiction)))<|.c (show decide (((K_ mdlC u.m).length:Int)>3)=false by (simp;omega))<|.c w0_<|.c oz10<|.n)
theorem rvbundle_na (u:Bun) (m:Nat) (ok:u.Ok) (sm:u.Sm) (w:wholeE u=0) (hm:m<u.m.length) (hf:(u.m.getD m default).l.length=0∨6<(u.m.getD m default).l.length) (h:∀ j,j<m→mE u j=⟨0,0,0,0⟩):VC L_ 12 ([bun u]) (flt (mE u m)):=by
 have q5:=sm.l
 obtain ⟨w1,w2,w3,w4,w5⟩:=wholeE_0 w
 obtain ⟨w6,w7,w8⟩:In64 u.h∧In64 u.x∧In64 u.c:=⟨ok.h,ok.x,ok.c⟩
 have oz0:=@refElems_v (u.h) (u.x) (u.c) w6 w7 w8
 have oz2:=(decide_eq_false (p:=(u.cl<2)) (by omega))
 have oz10:=@rvb_oa (u) (m) ok sm hm hf h
 exact VC.run (fn:=Tryz.f12) (W:=[r_,.r [] [.callr (rO oz0)],d_,.r [] [e_,e_,e_,f_],d_,r_,d_,r_,d_,r_,.code [.any (rg [(0,1),(12,4),(17,8),(26,4),(31,4)]),.weak 3 (i64 (↑0:Int)),.sort] (CA_) (zO oz10)]) Tryz.func12 (by kernel_rfl) (.c oz0<|.c (show (elems u.h u.x u.c==0)=false by (refine decide_eq_false ?_;omega))<|.c oz2<|.c oz2<|.c oz2<|.c oz2<|.c (decide_eq_false (p:=(u.cl>16)) (by omega))<|.c (show (((K_ mdlC u.m).length:Int)==0)=false by (simp only[E_,F_,I_,J_,ne_eq,H_,G_,W_,U_,BK_,BQ_,BN_,Classical.not_not,CL_,CF_,P_,S_,Z_,T_,C_,BO_,BP_,AE_,BC_,BR_,eqNums,N_,O_,AC_,BB_,BD_,AH_,BL_,BX_,BY_,AJ_,BU_,BT_];(first|done|with_reducible assumption|omega|contradiction)))<|.c (show decide (((K_ mdlC u.m).length:Int)>3)=false by (simp;omega))<|.c w0_<|.c oz10<|.n)
theorem rvbundle_nb (u:Bun) (m i:Nat) (ok:u.Ok) (sm:u.Sm) (w:wholeE u=0) (hm:m<u.m.length) (h6:(u.m.getD m default).l.length≤6) (hi:i<(u.m.getD m default).l.length) (hf:(vB (u.m.getD m default).l u.inp u.cl i).2≠0) (hb:∀ k,k<i→(vB (u.m.getD m default).l u.inp u.cl k).2=0) (h:∀ j,j<m→mE u j=⟨0,0,0,0⟩):VC L_ 12 ([bun u]) (flt ⟨(vB (u.m.getD m default).l u.inp u.cl i).2,m,i,(vB (u.m.getD m default).l u.inp u.cl i).1⟩):=by
 have q5:=sm.l
 obtain ⟨w1,w2,w3,w4,w5⟩:=wholeE_0 w
 obtain ⟨w6,w7,w8⟩:In64 u.h∧In64 u.x∧In64 u.c:=⟨ok.h,ok.x,ok.c⟩
 have oz0:=@refElems_v (u.h) (u.x) (u.c) w6 w7 w8
 have oz2:=(decide_eq_false (p:=(u.cl<2)) (by omega))
 have oz10:=@rvb_ob (u) (m) (i) ok sm hm h6 hi hf hb h
 exact VC.run (fn:=Tryz.f12) (W:=[r_,.r [] [.callr (rO oz0)],d_,.r [] [e_,e_,e_,f_],d_,r_,d_,r_,d_,r_,.code [.any (rg [(0,1),(12,4),(17,8),(26,4),(31,4)]),.weak 3 (i64 (↑0:Int)),.sort] (CA_) (zO oz10)]) Tryz.func12 (by kernel_rfl) (.c oz0<|.c (show (elems u.h u.x u.c==0)=false by (refine decide_eq_false ?_;omega))<|.c oz2<|.c oz2<|.c oz2<|.c oz2<|.c (decide_eq_false (p:=(u.cl>16)) (by omega))<|.c (show (((K_ mdlC u.m).length:Int)==0)=false by (simp only[E_,F_,I_,J_,ne_eq,H_,G_,W_,U_,BK_,BQ_,BN_,Classical.not_not,CL_,CF_,P_,S_,Z_,T_,C_,BO_,BP_,AE_,BC_,BR_,eqNums,N_,O_,AC_,BB_,BD_,AH_,BL_,BX_,BY_,AJ_,BU_,BT_];(first|done|with_reducible assumption|omega|contradiction)))<|.c (show decide (((K_ mdlC u.m).length:Int)>3)=false by (simp;omega))<|.c w0_<|.c oz10<|.n)
theorem rvbundle_v (u:Bun) (ok:u.Ok) (sm:u.Sm):VC L_ 12 [bun u] (flt (bunE u)):=by
 rcases bunE_cases u with h|⟨w,h⟩|⟨w,m,h1,h2,h3⟩
 ·exact rvbundle_a u ok sm h
 ·rw[bunE_y w h];exact rvbundle_y u ok sm w h
 ·rw[bunE_m w h1 h2 h3]
  rcases modelE_cases (u.m.getD m default).l u.inp u.cl with ⟨g0,g6,g⟩|g|⟨g6,i,g1,g2,g3⟩
  ·exact absurd (by rw[show mE u m=⟨0,0,0,0⟩ from modelE_y g0 g6 g]) h2
  ·exact rvbundle_na u m ok sm w h1 g h3
  ·rw[show mE u m=_ from modelE_m g6 g1 g2 g3];exact rvbundle_nb u m i ok sm w h1 g6 g1 g2 g3 h3
def catK (ls:List (List Int)):Nat→List Int
 | 0=>[]
 | k+1=>catK ls k++ls.getD k default
def szK (ls:List (List Int)):Nat→Nat
 | 0=>0
 | k+1=>szK ls k+(ls.getD k default).length
theorem catK_len (ls:List (List Int)) (k:Nat):(catK ls k).length=szK ls k:=by
 induction k with
 | zero=>rfl
 | succ k ih=>rw[catK,szK,O_,ih]
theorem szK_le (ls:List (List Int)) {j:Nat} (k:Nat) (h:j≤k):szK ls j≤szK ls k:=by
 induction k with
 | zero =>
  have:j=0:=by omega
  subst this;exact AX_ _
 | succ k ih =>
  by_cases e:j=k+1
  ·subst e;exact AX_ _
  ·have:=ih (by omega);rw[szK];omega
def catR (l:List Int):List AV:=[.sl 1 (l.map (row1 .u8))]
theorem getD_szK (ls:List (List Int)) {k:Nat} (h:k<ls.length):szK ls k+(ls.getD k default).length≤szK ls ls.length:=szK_le ls (j:=k+1) ls.length (by omega)
theorem grow_0   : VC L_ 133 ([nilv,i64 0]) (nilv):=by
 have oz0:=(show false=false by with_reducible rfl)
 have oz1:=(show IntKind.i64.wrap ((↑(0:Nat):Int)-(↑(0:Nat):Int))=(0:Int) by exact i6n _ (by omega))
 have oz2:=(show IntKind.i64.wrap ((0:Int)-(0:Int))=(0:Int) by exact i6n _ (by omega))
 exact VC.run (fn:=Tryz.f133) (W:=[r_,r_,d_,.r [] [.n 0,.n 0],r_,d_,r_]) Tryz.func133 (by kernel_rfl) (.c oz0<|.c oz1<|.c oz2<|.c oz0<|.n)
theorem grow_v (n:Nat) (h0:0<n) (h1:n≤20000000):VM L_ 133 ([nilv,i64 n]) ([]) (.own 951) ([(951,.slc 5 1 ([]:List (List AV)))]):=by
 have oz1:=(show IntKind.i64.wrap ((↑(0:Nat):Int)-(↑(0:Nat):Int))=(0:Int) by exact i6n _ (by omega))
 exact VM.run (fn:=Tryz.f133) (W:=[r_,r_,d_,.r [] [.n 0,.n ((↑n:Int)-0)],r_,b_,.r [] [.nat ((↑n:Int)-0).toNat,.nats 0 0],r_]) (G:=[.ren 25 951,.sort]) Tryz.func133 (by kernel_rfl) (.c (decide_eq_false (p:=((↑n:Int)<0)) (by omega))<|.c oz1<|.c (i6n ((↑n:Int)-0) (by omega))<|.c (decide_eq_true (p:=((↑n:Int)-0>0)) (by omega))<|.c (show (↑n:Int)-0=(↑((↑n:Int)-0).toNat:Int) by omega)<|.c (show 0<((↑n:Int)-0).toNat by omega)<|.c (show ((↑n:Int)-0).toNat*1≤140737488355328 by omega)<|.c (show ((↑n:Int)-0).toNat≤9223372036854775807 by omega)<|.c (show (↑(0:Nat):Int)=(↑(0:Nat):Int) by with_reducible rfl)<|.c (show 0≤(CI_ ((↑n:Int)-0).toNat [u8 0]).length by omega)<|.n)
noncomputable def cat_l1_I (ls:List (List Int)) (k:Nat):VS:=stt 36 [(0,.sl 1 (ls.map catR)),(3,i64 (szK ls k:Nat)),(9,.sl 1 (ls.map catR)),(10,i64 ls.length),(11,i64 k)] []
noncomputable def cat_l1_Z (ls:List (List Int)):VS:=cat_l1_I ls (ls.length)
theorem cat_l1_s (ls:List (List Int)) (hl:ls.length≤1000) (hs:szK ls ls.length≤20000000) (k:Nat) (hk:k<ls.length):VT L_ (fnC Tryz.f91 [1,1,0,1,0,0]) (cat_l1_I ls k) .normal (cat_l1_I ls (k+1)):=by
 have q1:=getD_szK ls hk
 have q2:=szK_le ls ls.length (CD_ hk)
 have q4:(K_ (row1 .u8) (ls.getD k default)).length=(ls.getD k default).length:=N_ _
 have q5:IntKind.i64.wrap ((szK ls k:Int)+((K_ (row1 .u8) (ls.getD k default)).length:Int))=(szK ls (k+1):Int):=by
  rw[q4,szK,Int.natCast_add];exact i6n _ (by omega)
 have q6:¬ ((szK ls (k+1):Int)<0):=by omega
 have oz2:=(map_at (catR) (default) (l:=ls) (i:=k) hk)
 have oz3:=(i6n ((↑(szK ls k):Int)+((K_ (row1 .u8) (ls.getD k default)).length:Int)) (by omega))
 have oz6:=(R_ (k:=.i64) (show (((↑(szK ls k):Int)+((K_ (row1 .u8) (ls.getD k default)).length:Int)):Int)=((↑(szK ls (k+1)):Int)) from (by (rw[q4,szK,Int.natCast_add]))))
 exact VT.run (W:=[r_,b_,.r [] [.row (sO oz2)],.r [] [.n (nO oz3)],r_,d_,.r [] [.n ((↑k:Int)+1)]]) (G:=[.any (rg [(5,1),(12,9),(22,1)]),.weak 3 (wO oz6),.weak 11 (i64 (↑(k+1):Int)),.sort]) (by kernel_rfl) (.c (decide_eq_true (p:=((↑k:Int)<(ls.length:Int))) (by omega))<|.c (show 0≤(↑k:Int) by omega)<|.c oz2<|.c oz3<|.c (decide_eq_false (p:=((↑(szK ls k):Int)+((K_ (row1 .u8) (ls.getD k default)).length:Int)<0)) (by omega))<|.c (i6n ((↑k:Int)+1) (by omega))<|.c oz6<|.c (wS_ k)<|.n)
theorem cat_l1_e (ls:List (List Int)) (hl:ls.length≤1000) (hs:szK ls ls.length≤20000000):VT L_ (fnC Tryz.f91 [1,1,0,1,0,0]) (cat_l1_I ls (ls.length)) (.exit 0) (cat_l1_Z ls):=by
 exact VT.run (W:=[r_,d_]) (G:=[.any [12],.sort]) (by kernel_rfl) (.c (decide_eq_false (p:=((ls.length:Int)<(ls.length:Int))) (by omega))<|.n)
theorem cat_l1 (ls:List (List Int)) (hl:ls.length≤1000) (hs:szK ls ls.length≤20000000):VT L_ (fnC Tryz.f91 [1,1,0,1,0]) (cat_l1_I ls 0) (.exit 0) (cat_l1_Z ls) :=
 VT.loop (fun k=>cat_l1_I ls k) (ls.length) (fun k hk=>cat_l1_s ls hl hs k hk) (cat_l1_e ls hl hs) (by intro h;cases h)
noncomputable def cat_l2_I (ls:List (List Int)) (k:Nat):VS:=stt 36 [(6,.own 900),(25,.sl 1 (ls.map catR)),(26,i64 ls.length),(27,i64 k)] [(900,.slc 5 1 ((catK ls k).map (row1 .u8)))]
noncomputable def cat_l2_Z (ls:List (List Int)):VS:=cat_l2_I ls (ls.length)
theorem cat_l2_s (ls:List (List Int)) (hl:ls.length≤1000) (hs:szK ls ls.length≤20000000) (k:Nat) (hk:k<ls.length):VT L_ (fnC Tryz.f91 [1,1,1,1,0,1,0,0]) (cat_l2_I ls k) .normal (cat_l2_I ls (k+1)):=by
 have q1:=getD_szK ls hk
 have q2:=szK_le ls ls.length (CD_ hk)
 have q3:=catK_len ls k
 have oz2:=(map_at (catR) (default) (l:=ls) (i:=k) hk)
 exact VT.run (W:=[r_,b_,.r [] [.row (sO oz2)],r_,.r [] [.n ((↑k:Int)+1)]]) (G:=[.any (rg [(8,1),(28,7)]),.ren 33 900,.weak 27 (i64 (↑(k+1):Int)),.blk 900 (Blk.slc 5 1 (K_ (row1 .u8) (catK ls (k+1)))),.sort]) (by kernel_rfl) (.c (decide_eq_true (p:=((↑k:Int)<(ls.length:Int))) (by omega))<|.c (show 0≤(↑k:Int) by omega)<|.c oz2<|.c (show ((K_ (row1 .u8) (catK ls k)).length+(K_ (row1 .u8) (ls.getD k default)).length)*1≤140737488355328 by (simp only[N_];omega))<|.c (show (K_ (row1 .u8) (catK ls k)).length+(K_ (row1 .u8) (ls.getD k default)).length≤9223372036854775807 by (simp only[N_];omega))<|.c (i6n ((↑k:Int)+1) (by omega))<|.c (wS_ k)<|.c (show BlkW (Blk.slc 5 1 (K_ (row1 .u8) (catK ls k)++K_ (row1 .u8) (ls.getD k default))) (Blk.slc 5 1 (K_ (row1 .u8) (catK ls (k+1)))) from (AG_ (e:=5) (z:=1) (rows_to (row1 .u8) (r:=K_ (row1 .u8) (catK ls k)++K_ (row1 .u8) (ls.getD k default)) (l:=catK ls k++ls.getD k default) (m:=catK ls (k+1)) (by first|(simp only[A_,D_,AO_,AP_,X_,AM_,AN_];done)|rfl|(simp only[A_,D_,AO_,AP_,X_,AM_,AN_];rfl)) (show (catK ls k++ls.getD k default)=(catK ls (k+1)) from (by rfl)))))<|.n)
theorem cat_l2_e (ls:List (List Int)) (hl:ls.length≤1000) (hs:szK ls ls.length≤20000000):VT L_ (fnC Tryz.f91 [1,1,1,1,0,1,0,0]) (cat_l2_I ls (ls.length)) (.exit 2) (cat_l2_Z ls):=by
 exact VT.run (W:=[r_,d_]) (G:=[.any [28],.sort]) (by kernel_rfl) (.c (decide_eq_false (p:=((ls.length:Int)<(ls.length:Int))) (by omega))<|.n)
theorem cat_l2 (ls:List (List Int)) (hl:ls.length≤1000) (hs:szK ls ls.length≤20000000):VT L_ (fnC Tryz.f91 [1,1,1,1,0,1,0]) (cat_l2_I ls 0) (.exit 2) (cat_l2_Z ls) :=
 VT.loop (fun k=>cat_l2_I ls k) (ls.length) (fun k hk=>cat_l2_s ls hl hs k hk) (cat_l2_e ls hl hs) (by intro h;cases h)
theorem cat_y (ls:List (List Int)) (hl:ls.length≤1000) (hs:szK ls ls.length≤20000000) (h0:0<szK ls ls.length):VC L_ 91 ([.sl 1 (ls.map catR)]) (.sl 1 ((catK ls ls.length).map (row1 .u8))):=by
 have q3:=catK_len ls ls.length
 have oz1:=(R_ (k:=.i64) (show ((((K_ catR ls).length:Int)):Int)=((ls.length:Int)) from (by (simp;done))))
 have oz2:=w0_
 have oz3:=@cat_l1 (ls) hl hs
 have oz4:=@grow_v (szK ls ls.length) h0 hs
 have oz7:=@cat_l2 (ls) hl hs
 exact VC.run (fn:=Tryz.f91) (W:=[r_,r_,r_,.code [.any [2],.weak 3 (i64 (↑(szK ls 0):Int)),.weak 10 (wO oz1),.weak 11 (wO oz2),.sort] (AF_ 0) (zO oz3),.r [] [.callm [] [(951,20000)] (rM oz4) (oM oz4)],r_,.code [.any [0,3,9,10,11,23,24],.ren 20000 900,.weak 26 (wO oz1),.weak 27 (wO oz2),.sort] (AF_ 2) (zO oz7),r_]) Tryz.func91 (by kernel_rfl) (.c (R_ (k:=.i64) (show ((0):Int)=((↑(szK ls 0):Int)) from (by rfl)))<|.c oz1<|.c oz2<|.c oz3<|.c oz4<|.c oz1<|.c oz2<|.c oz7<|.n)
theorem cat_0 (ls:List (List Int)) (hl:ls.length≤1000) (h0:szK ls ls.length=0):VC L_ 91 ([.sl 1 (ls.map catR)]) (.sl 1 ((catK ls ls.length).map (row1 .u8))):=by
 have q3:=catK_len ls ls.length
 have q4:(szK ls ls.length:Int)=0:=by omega
 have oz1:=(R_ (k:=.i64) (show ((((K_ catR ls).length:Int)):Int)=((ls.length:Int)) from (by (simp;done))))
 have oz2:=w0_
 have oz3:=@cat_l1 (ls) hl (by omega)
 have oz5:=@grow_0
 have oz8:=@cat_l2 (ls) hl (by omega)
 exact VC.run (fn:=Tryz.f91) (W:=[r_,r_,r_,.code [.any [2],.weak 3 (i64 (↑(szK ls 0):Int)),.weak 10 (wO oz1),.weak 11 (wO oz2),.sort] (AF_ 0) (zO oz3),.r [] [.call (aO oz5) (rO oz5)],r_,.code [.any [0,3,9,10,11,23,24],.weak 26 (wO oz1),.weak 27 (wO oz2),.nils 6 900 5 1,.sort] (AF_ 2) (zO oz8),r_]) Tryz.func91 (by kernel_rfl) (.c (R_ (k:=.i64) (show ((0):Int)=((↑(szK ls 0):Int)) from (by rfl)))<|.c oz1<|.c oz2<|.c oz3<|.c (show WeakL [AV.lit (AY_ none 0 0),i64 (↑(szK ls ls.length):Int)] [AV.lit (AY_ none 0 0),i64 0] from (.cons (.refl _) (.cons (R_ (q4)) .nil)))<|.c oz5<|.c oz1<|.c oz2<|.c oz8<|.n)
theorem cat_v (ls:List (List Int)) (hl:ls.length≤1000) (hs:szK ls ls.length≤20000000):VC L_ 91 [.sl 1 (ls.map catR)] (.sl 1 ((catK ls ls.length).map (row1 .u8))):=by
 by_cases h:0<szK ls ls.length
 ·exact cat_y ls hl hs h
 ·exact cat_0 ls hl (by omega)
theorem cat2_v (a b:List Int) (h:a.length+b.length≤20000000):VC L_ 91 [.sl 1 [[.sl 1 (a.map (row1 .u8))],[.sl 1 (b.map (row1 .u8))]]] (.sl 1 ((a++b).map (row1 .u8))) :=
 cat_v [a,b] (by simp) (by show 0+a.length+b.length≤_;omega)
theorem joined_v (a b:List Int) (h:a.length+b.length≤20000000):VC L_ 52 ([.sl 1 [[.sl 1 (a.map (row1 .u8))],[.sl 1 (b.map (row1 .u8))]]]) (.sl 1 ((a++b).map (row1 .u8))):=by
 have oz0:=@cat2_v (a) (b) h
 exact VC.run (fn:=Tryz.f52) (W:=[r_,.r [] [.callr (rO oz0)]]) Tryz.func52 (by kernel_rfl) (.c oz0<|.n)
def p32L (n:Int):List Int:=[IntKind.u8.wrap n,IntKind.u8.wrap (n/256),IntKind.u8.wrap (n/65536),n/16777216]
def p32K (n:Int):Nat→List Int
 | 0=>[0,0,0,0]
 | k+1=>(p32K n k).set k ((p32L n).getD k 0)
theorem p32K_len (n:Int) (k:Nat):(p32K n k).length=4:=by
 induction k with
 | zero=>rfl
 | succ k ih=>rw[p32K,BD_];exact ih
theorem p32K_step (n:Int) (h0:0≤n) (h1:n≤4294967295) {k:Nat} (hk:k<4):(p32K n k).set (k:Int).toNat (IntKind.u8.wrap (n.fdiv (2 ^ min (8*(k:Int)).toNat IntKind.u32.bits)))=p32K n (k+1):=by
 rw[AJ_,p32K]
 congr 1
 have e:∀ m:Int,0≤m→n.fdiv m=n/m:=fun m hm=>Int.fdiv_eq_ediv_of_nonneg _ hm
 match k,hk with
 | 0,_=>show IntKind.u8.wrap (n.fdiv 1)=IntKind.u8.wrap n;rw[e _ (by decide),Int.ediv_one]
 | 1,_=>show IntKind.u8.wrap (n.fdiv 256)=IntKind.u8.wrap (n/256);rw[e _ (by decide)]
 | 2,_=>show IntKind.u8.wrap (n.fdiv 65536)=IntKind.u8.wrap (n/65536);rw[e _ (by decide)]
 | 3,_=>show IntKind.u8.wrap (n.fdiv 16777216)=n/16777216;rw[e _ (by decide)];exact IntWalk.u8_in _ (by omega)
noncomputable def put32_l_I (n:Int) (k:Nat):VS:=stt 21 [(0,u32 n),(3,.own 900),(7,i64 4),(8,i64 k)] [(900,.slc 5 1 ((p32K n k).map (row1 .u8)))]
noncomputable def put32_l_Z (n:Int):VS:=put32_l_I n (4)
theorem put32_l_s (n:Int) (h0:0≤n) (h1:n≤4294967295) (k:Nat) (hk:k<4):VT L_ (fnC Tryz.f59 [1,1,0,1,0,0]) (put32_l_I n k) .normal (put32_l_I n (k+1)):=by
 have q1:=p32K_len n k
 exact VT.run (W:=[r_,b_,r_,.r [] [.n (8*(↑k:Int)),.n (n.fdiv (2 ^ min (8*(↑k:Int)).toNat IntKind.u32.bits)),.w,.nat 0],.r [] [.n ((↑k:Int)+1)]]) (G:=[.any (rg [(4,1),(9,11)]),.weak 8 (i64 (↑(k+1):Int)),.blk 900 (Blk.slc 5 1 (K_ (row1 .u8) (p32K n (k+1)))),.sort]) (by kernel_rfl) (.c (decide_eq_true (p:=((↑k:Int)<4)) (by omega))<|.c (i6n (8*(↑k:Int)) (by omega))<|.c (show 0≤8*(↑k:Int) by omega)<|.c (show n.fdiv (2 ^ min (8*(↑k:Int)).toNat IntKind.u32.bits)=n.fdiv (2 ^ min (8*(↑k:Int)).toNat IntKind.u32.bits) by with_reducible rfl)<|.c (show 0≤(↑k:Int) by omega)<|.c (show (↑k:Int)<((K_ (row1 .u8) (p32K n k)).length:Int) by (simp;omega))<|.c (show (↑k:Int).toNat<(K_ (row1 .u8) (p32K n k)).length by (simp;omega))<|.c (i6n ((↑k:Int)+1) (by omega))<|.c (wS_ k)<|.c (show BlkW (Blk.slc 5 1 ((K_ (row1 .u8) (p32K n k)).set (↑k:Int).toNat [u8 (IntKind.u8.wrap (n.fdiv (2 ^ min (8*(↑k:Int)).toNat IntKind.u32.bits)))])) (Blk.slc 5 1 (K_ (row1 .u8) (p32K n (k+1)))) from (AG_ (e:=5) (z:=1) (rows_to (row1 .u8) (r:=(K_ (row1 .u8) (p32K n k)).set (↑k:Int).toNat [u8 (IntKind.u8.wrap (n.fdiv (2 ^ min (8*(↑k:Int)).toNat IntKind.u32.bits)))]) (l:=(p32K n k).set (↑k:Int).toNat (IntKind.u8.wrap (n.fdiv (2 ^ min (8*(↑k:Int)).toNat IntKind.u32.bits)))) (m:=p32K n (k+1)) (by first|(simp only[A_,D_,AO_,AP_,X_,AM_,AN_];done)|rfl|(simp only[A_,D_,AO_,AP_,X_,AM_,AN_];rfl)) (show ((p32K n k).set (↑k:Int).toNat (IntKind.u8.wrap (n.fdiv (2 ^ min (8*(↑k:Int)).toNat IntKind.u32.bits))))=(p32K n (k+1)) from (by with_reducible exact p32K_step n h0 h1 hk)))))<|.n)
theorem put32_l_e (n:Int) (h0:0≤n) (h1:n≤4294967295):VT L_ (fnC Tryz.f59 [1,1,0,1,0,0]) (put32_l_I n (4)) (.exit 0) (put32_l_Z n):=by
 exact VT.run (W:=[r_,d_]) (G:=[.any [9],.sort]) (by kernel_rfl) (.c (show false=false by with_reducible rfl)<|.n)
theorem put32_l (n:Int) (h0:0≤n) (h1:n≤4294967295):VT L_ (fnC Tryz.f59 [1,1,0,1,0]) (put32_l_I n 0) (.exit 0) (put32_l_Z n) :=
 VT.loop (fun k=>put32_l_I n k) (4) (fun k hk=>put32_l_s n h0 h1 k hk) (put32_l_e n h0 h1) (by intro h;cases h)
theorem put32_v (n:Int) (h0:0≤n) (h1:n≤4294967295):VC L_ 59 ([u32 n]) (ints .u8 (p32L n)):=by
 have oz0:=(show (4:Int)=(↑(4:Nat):Int) by omega)
 have oz7:=@put32_l (n) h0 h1
 exact (VC.run (fn:=Tryz.f59) (W:=[r_,.r [] [.nats 4 4],r_,.code [.any [2,5,6],.ren 5 900,.weak 7 (i64 4),.weak 8 (i64 (↑0:Int)),.sort] (AF_ 0) (zO oz7),r_]) (r:=AV.sl 1 [[u8 ((p32L n).getD 0 0)],[u8 ((p32L n).getD 1 0)],[u8 ((p32L n).getD 2 0)],[u8 ((p32L n).getD 3 0)]]) Tryz.func59 (by kernel_rfl) (.c oz0<|.c oz0<|.c (show (4:Nat)≤(4:Nat) by omega)<|.c (show (1:Nat)*(4:Nat)≤(281474976710656:Nat) by omega)<|.c (show (4:Nat)≤(9223372036854775807:Nat) by omega)<|.c (R_ (k:=.i64) (show (((↑4:Int)):Int)=(4) from (by (simp;done))))<|.c w0_<|.c oz7<|.n)).weak (B_ _) (CP_ (show ([[u8 ((p32L n).getD 0 0)],[u8 ((p32L n).getD 1 0)],[u8 ((p32L n).getD 2 0)],[u8 ((p32L n).getD 3 0)]])=([[u8 (IntKind.u8.wrap n)],[u8 (IntKind.u8.wrap (n/256))],[u8 (IntKind.u8.wrap (n/65536))],[u8 (n/16777216)]]) from (by rfl)))
theorem rput32_v (n:Int) (h0:0≤n) (h1:n≤4294967295):VC L_ 44 ([u32 n]) (ints .u8 (p32L n)):=by
 have oz1:=(show IntKind.u32.wrap (n.tdiv 256)=n/256 from (Eq.trans (congrArg _ (BF_ h0)) (by exact IntWalk.u32_in _ (by omega))))
 have oz3:=(show IntKind.u32.wrap (n.tdiv 65536)=n/65536 from (Eq.trans (congrArg _ (BF_ h0)) (by exact IntWalk.u32_in _ (by omega))))
 have oz5:=(show IntKind.u32.wrap (n.tdiv 16777216)=n/16777216 from (Eq.trans (congrArg _ (BF_ h0)) (by exact IntWalk.u32_in _ (by omega))))
 exact VC.run (fn:=Tryz.f44) (W:=[r_,.r [] [.w,.n (n/256),.w,.n (n/65536),.w,.n (n/16777216),.n (n/16777216)]]) Tryz.func44 (by kernel_rfl) (.c (show (256:Int)≠(0:Int) by omega)<|.c oz1<|.c (show (65536:Int)≠(0:Int) by omega)<|.c oz3<|.c (show (16777216:Int)≠(0:Int) by omega)<|.c oz5<|.c (IntWalk.u8_in (n/16777216) (by omega))<|.n)
end Go.Proofs.YtgimdjfbnbkpgaaGreat
namespace Go.Proofs.YtgimdjfbnbkpgaaGreat
open BlkW renaming rows→AG_
open Bool renaming and_eq_true→P_,and_eq_false_iff→S_,or_eq_false_iff→T_,not_eq_false'→U_,not_eq_true'→W_,or_eq_true→Z_,and_true→C_,false_and→AE_,not_eq_eq_eq_not→BK_,not_false→BN_,true_and→BO_,and_false→BP_,not_true→BQ_,false_or→BR_,false_eq_true→BA_,or_false→BC_,true_eq_false→CE_
open Exit renaming exit→AF_,ret→CA_
open Int renaming toNat_natCast→AJ_,tdiv_eq_ediv_of_nonneg→BF_,not_lt→CL_,not_le→CF_
open IntKind renaming i64→Q_
open List renaming map→K_,length_map→N_,length_append→O_,map_replicate→X_,map_append→A_,map_cons→D_,map_take→AM_,map_drop→AN_,map_nil→AO_,map_set→AP_,length_cons→AC_,length_replicate→AH_,length_take→BL_,map_eq_nil_iff→BT_,length_drop→BX_,length_range→BY_,length_nil→BB_,length_set→BD_,getElem_mem→CY_,all_eq_true→CZ_,replicate→CI_
open Nat renaming le_refl→AX_,zero_add→BU_,le_of_lt→CD_
open Tryz renaming prog→L_
open Value renaming int→AQ_,slice→AY_,bool→BS_,agg→BI_
open Weak renaming int→R_,bool→AZ_,tup→AA_,agg→AD_,rows→CP_
open WeakL renaming refl→B_
def poly:BitVec 32:=3988292384#32
def st (v:BitVec 32):BitVec 32:=(v >>> 1) ^^^ (if v.getLsbD 0 then poly else 0#32)
def stn:Nat→BitVec 32→BitVec 32
 | 0,v=>v
 | n+1,v=>stn n (st v)
def byte (v:BitVec 32) (c:Int):BitVec 32:=stn 8 (v ^^^ BitVec.ofInt 32 c)
def runB (v:BitVec 32) (l:List Int):BitVec 32:=l.foldl byte v
theorem st_xor (a b:BitVec 32):st (a ^^^ b)=st a ^^^ st b:=by
 unfold st
 rw[BitVec.ushiftRight_xor_distrib,BitVec.getLsbD_xor]
 cases ha:a.getLsbD 0<;>cases hb:b.getLsbD 0<;>simp
 ·rw[BitVec.xor_assoc]
 ·rw[BitVec.xor_assoc,BitVec.xor_comm (b >>> 1) poly,BitVec.xor_assoc]
 ·rw[BitVec.xor_assoc,←BitVec.xor_assoc poly,BitVec.xor_comm poly (b >>> 1),BitVec.xor_assoc (b >>> 1),BitVec.xor_self,BitVec.xor_zero]
theorem stn_xor:∀ (n:Nat) (a b:BitVec 32),stn n (a ^^^ b)=stn n a ^^^ stn n b
 | 0,_,_=>rfl
 | n+1,a,b=>by rw[stn,stn,stn,st_xor,stn_xor n]
theorem stn_add:∀ (m n:Nat) (v:BitVec 32),stn (m+n) v=stn n (stn m v)
 | 0,n,v=>by simp[stn]
 | m+1,n,v=>by rw[show m+1+n=(m+n)+1 from by omega,stn,stn_add m n,stn]
theorem stn_high (v:BitVec 32):stn 4 ((v >>> 4) <<< 4)=v >>> 4:=by
 have h:∀ (u:BitVec 32),u.getLsbD 0=false→st u=u >>> 1:=fun u hu=>by unfold st;rw[hu];simp
 have e1:st ((v >>> 4) <<< 4)=((v >>> 4) <<< 4) >>> 1:=h _ (by simp)
 have e2:st (((v >>> 4) <<< 4) >>> 1)=((v >>> 4) <<< 4) >>> 1 >>> 1:=h _ (by simp)
 have e3:st (((v >>> 4) <<< 4) >>> 1 >>> 1)=((v >>> 4) <<< 4) >>> 1 >>> 1 >>> 1:=h _ (by simp)
 have e4:st (((v >>> 4) <<< 4) >>> 1 >>> 1 >>> 1)=((v >>> 4) <<< 4) >>> 1 >>> 1 >>> 1 >>> 1:=h _ (by simp)
 show st (st (st (st ((v >>> 4) <<< 4))))=_
 rw[e1,e2,e3,e4]
 apply BitVec.eq_of_getLsbD_eq
 intro i hi
 simp only[BitVec.getLsbD_ushiftRight,BitVec.getLsbD_shiftLeft]
 by_cases h28:i<28
 ·have a1:1+(1+(1+(1+i)))=i+4:=by omega
  have a2:i+4<32:=by omega
  have a3:¬ (i+4<4):=by omega
  have a4:4+(i+4-4)=i+4:=by omega
  have a5:4+i=i+4:=by omega
  simp[a1,a2,a3,a5]
 ·have a1:1+(1+(1+(1+i)))=i+4:=by omega
  have a2:¬ i+4<32:=by omega
  have a5:v.getLsbD (4+i)=false:=BitVec.getLsbD_of_ge _ _ (by omega)
  simp[a1,a2,a5]
theorem low4:∀ i,i<32→(15#32:BitVec 32).getLsbD i=decide (i<4):=by decide
theorem split4 (v:BitVec 32):v=((v >>> 4) <<< 4) ^^^ (v &&& 15#32):=by
 apply BitVec.eq_of_getLsbD_eq
 intro i hi
 simp only[BitVec.getLsbD_xor,BitVec.getLsbD_and,BitVec.getLsbD_shiftLeft,low4 i hi,BitVec.getLsbD_ushiftRight]
 by_cases h:i<4
 ·simp[h]
 ·have:4+(i-4)=i:=by omega
  simp[h,this,hi]
theorem half_step (v:BitVec 32):stn 4 v=(v >>> 4) ^^^ stn 4 (v &&& 15#32):=by
 conv=>lhs;rw[split4 v]
 rw[stn_xor,stn_high]
theorem runB_append (v:BitVec 32) (a b:List Int):runB v (a++b)=runB (runB v a) b:=by simp[runB]
theorem byte_xor (a b:BitVec 32) (c:Int):byte (a ^^^ b) c=stn 8 a ^^^ byte b c:=by
 unfold byte;rw[BitVec.xor_assoc,stn_xor]
theorem runB_xor:∀ (l:List Int) (a b:BitVec 32),runB (a ^^^ b) l=stn (8*l.length) a ^^^ runB b l
 | [],a,b=>by simp[runB,stn]
 | c::l,a,b=>by
  show runB (byte (a ^^^ b) c) l=_
  rw[byte_xor,runB_xor l]
  rw[show 8*(c::l).length=8+8*l.length from by simp;omega,stn_add]
  rfl
theorem st_inj (v:BitVec 32) (h:st v=0#32):v=0#32:=by
 unfold st at h
 cases h0:v.getLsbD 0 with
 | true =>
  exfalso
  rw[h0] at h
  have:=congrArg (fun x:BitVec 32=>x.getLsbD 31) h
  simp[poly] at this
 | false =>
  rw[h0] at h
  simp at h
  ext i hi
  cases i with
  | zero=>simpa [BitVec.getLsbD_eq_getElem hi] using h0
  | succ i =>
   have:=congrArg (fun x:BitVec 32=>x.getLsbD i) h
   simp[BitVec.getLsbD_ushiftRight,Nat.add_comm 1 i,BitVec.getLsbD_eq_getElem hi] at this
   simpa using this
theorem stn_inj:∀ (n:Nat) (v:BitVec 32),stn n v=0#32→v=0#32
 | 0,_,h=>h
 | n+1,v,h=>st_inj v (stn_inj n _ h)
theorem run_inj (l:List Int) (a b:BitVec 32) (h:runB a l=runB b l):a=b:=by
 have e:a=(a ^^^ b) ^^^ b:=by rw[BitVec.xor_assoc,BitVec.xor_self,BitVec.xor_zero]
 have h1:=runB_xor l (a ^^^ b) b
 rw[←e,h] at h1
 have h2:stn (8*l.length) (a ^^^ b)=0#32:=by
  have:=congrArg (· ^^^ runB b l) h1
  simp only[BitVec.xor_self,BitVec.xor_assoc,BitVec.xor_zero] at this
  exact this.symm
 have h3:=stn_inj _ _ h2
 rw[e,h3,BitVec.zero_xor]
theorem byte_inj (v:BitVec 32) (c d:Int) (h:byte v c=byte v d):BitVec.ofInt 32 c=BitVec.ofInt 32 d:=by
 unfold byte at h
 rw[stn_xor,stn_xor] at h
 have h1:stn 8 (BitVec.ofInt 32 c ^^^ BitVec.ofInt 32 d)=0#32:=by
  rw[stn_xor]
  have:=congrArg (stn 8 v ^^^ ·) h
  simp only[←BitVec.xor_assoc,BitVec.xor_self,BitVec.zero_xor] at this
  rw[this,BitVec.xor_self]
 have h2:=stn_inj _ _ h1
 have e:BitVec.ofInt 32 c=(BitVec.ofInt 32 c ^^^ BitVec.ofInt 32 d) ^^^ BitVec.ofInt 32 d:=by rw[BitVec.xor_assoc,BitVec.xor_self,BitVec.xor_zero]
 rw[e,h2,BitVec.zero_xor]
theorem tells (v:BitVec 32) (a b:List Int) (c d:Int) (hc:0≤c∧c≤255) (hd:0≤d∧d≤255) (h:c≠d):runB v (a++c::b)≠runB v (a++d::b):=by
 intro he
 rw[runB_append,runB_append] at he
 have h1:=run_inj b _ _ (show runB (byte (runB v a) c) b=runB (byte (runB v a) d) b from he)
 have h2:=congrArg BitVec.toNat (byte_inj _ _ _ h1)
 rw[BitVec.toNat_ofInt,BitVec.toNat_ofInt] at h2
 omega
end Go.Proofs.YtgimdjfbnbkpgaaGreat
namespace Go.Proofs.YtgimdjfbnbkpgaaGreat
open Go.RowKit
open BlkW renaming rows→AG_
open Bool renaming and_eq_true→P_,and_eq_false_iff→S_,or_eq_false_iff→T_,not_eq_false'→U_,not_eq_true'→W_,or_eq_true→Z_,and_true→C_,false_and→AE_,not_eq_eq_eq_not→BK_,not_false→BN_,true_and→BO_,and_false→BP_,not_true→BQ_,false_or→BR_,false_eq_true→BA_,or_false→BC_,true_eq_false→CE_
open Exit renaming exit→AF_,ret→CA_
open Int renaming toNat_natCast→AJ_,tdiv_eq_ediv_of_nonneg→BF_,not_lt→CL_,not_le→CF_
open IntKind renaming i64→Q_
open List renaming map→K_,length_map→N_,length_append→O_,map_replicate→X_,map_append→A_,map_cons→D_,map_take→AM_,map_drop→AN_,map_nil→AO_,map_set→AP_,length_cons→AC_,length_replicate→AH_,length_take→BL_,map_eq_nil_iff→BT_,length_drop→BX_,length_range→BY_,length_nil→BB_,length_set→BD_,getElem_mem→CY_,all_eq_true→CZ_,replicate→CI_
open Nat renaming le_refl→AX_,zero_add→BU_,le_of_lt→CD_
open Tryz renaming prog→L_
open Value renaming int→AQ_,slice→AY_,bool→BS_,agg→BI_
open Weak renaming int→R_,bool→AZ_,tup→AA_,agg→AD_,rows→CP_
open WeakL renaming refl→B_
def uv (v:BitVec 32):Int:=(v.toNat:Int)
theorem uv_bd (v:BitVec 32):0≤uv v∧uv v≤4294967295:=by have:=v.isLt;unfold uv;omega
theorem uv_ofInt (v:BitVec 32):BitVec.ofInt 32 (uv v)=v:=by
 unfold uv;rw[BitVec.ofInt_natCast,BitVec.ofNat_toNat];simp
theorem of_uv (n:Int) (h0:0≤n) (h1:n≤4294967295):uv (BitVec.ofInt 32 n)=n:=by
 unfold uv;rw[BitVec.toNat_ofInt];omega
theorem wrap_uv (v:BitVec 32):IntKind.u32.wrap (uv v)=uv v:=by
 have:=v.isLt
 rw[IntKind.wrap_u32'];unfold uv;omega
theorem uv_xor (a b:BitVec 32):bits .xor .u32 (uv a) (uv b)=uv (a ^^^ b):=by
 show IntKind.u32.wrap ((BitVec.ofInt 32 (uv a) ^^^ BitVec.ofInt 32 (uv b)).toNat:Int)=_
 rw[uv_ofInt,uv_ofInt];exact wrap_uv _
theorem uv_and (a b:BitVec 32):bits .and .u32 (uv a) (uv b)=uv (a &&& b):=by
 show IntKind.u32.wrap ((BitVec.ofInt 32 (uv a) &&& BitVec.ofInt 32 (uv b)).toNat:Int)=_
 rw[uv_ofInt,uv_ofInt];exact wrap_uv _
theorem uv_half (v:BitVec 32):uv v/(2:Int)=uv (v >>> 1):=by
 unfold uv;rw[BitVec.toNat_ushiftRight,Nat.shiftRight_eq_div_pow];omega
theorem uv_16 (v:BitVec 32):uv v/(16:Int)=uv (v >>> 4):=by
 unfold uv;rw[BitVec.toNat_ushiftRight,Nat.shiftRight_eq_div_pow];omega
theorem uv_neg (v:BitVec 32) : -uv v % 4294967296=uv (-v):=by
 unfold uv;rw[BitVec.toNat_neg];have:=v.isLt;omega
theorem and_one (v:BitVec 32):v &&& 1#32=if v.getLsbD 0 then 1#32 else 0#32:=by
 apply BitVec.eq_of_getLsbD_eq
 intro i hi
 have h1:∀ i,i<32→(1#32:BitVec 32).getLsbD i=decide (i=0):=by decide
 rw[BitVec.getLsbD_and,h1 i hi]
 by_cases h:i=0
 ·subst h;cases hv:v.getLsbD 0<;>simp
 ·cases hv:v.getLsbD 0<;>simp[h,h1 i hi]
theorem uv_st (v:BitVec 32):bits .xor .u32 (uv v/2) (bits .and .u32 3988292384 (-bits .and .u32 (uv v) 1 % 4294967296))=uv (st v):=by
 have e1:(1:Int)=uv 1#32:=rfl
 have e2:(3988292384:Int)=uv poly:=rfl
 rw[uv_half,e1,uv_and,uv_neg,e2,uv_and,uv_xor]
 congr 1
 unfold st
 rw[and_one]
 cases v.getLsbD 0
 ·simp
 ·have:poly &&& 4294967295#32=poly:=by decide
  simp[this]
theorem stn_succ (m:Nat) (v:BitVec 32):stn (m+1) v=st (stn m v):=by rw[stn_add];rfl
def tblAt (i:Nat):Int:=uv (stn 4 (BitVec.ofNat 32 i))
def tbl (k:Nat):Array Value:=((List.range 16).map fun i=>AQ_ .u32 (if i<k then tblAt i else 0)).toArray
theorem tbl_size (k:Nat):(tbl k).size=16:=by simp[tbl]
theorem tbl_zero:tbl 0 = #[.int .u32 0,.int .u32 0,.int .u32 0,.int .u32 0,.int .u32 0,.int .u32 0,.int .u32 0,.int .u32 0,.int .u32 0,.int .u32 0,.int .u32 0,.int .u32 0,.int .u32 0,.int .u32 0,.int .u32 0,.int .u32 0]:=rfl
theorem tbl_get (k i:Nat) (h:i<16):(tbl k)[i]? = some (.int .u32 (if i<k then tblAt i else 0)):=by
 unfold tbl;simp[h]
theorem tbl_no (k i:Nat) (h:¬ i<16):(tbl k)[i]? = none:=by
 rw[Array.getElem?_eq_none];rw[tbl_size];omega
theorem tbl_set (k:Nat):(tbl k).setIfInBounds k (.int .u32 (tblAt k))=tbl (k+1):=by
 apply Array.ext_getElem?
 intro i
 rw[Array.getElem?_setIfInBounds,tbl_size]
 by_cases hi:i<16
 ·rw[tbl_get _ _ hi,tbl_get _ _ hi]
  by_cases hik:k=i
  ·subst hik;simp[hi]
  ·rw[j_ hik]
   by_cases h:i<k
   ·rw[i_ h,i_ (by omega)]
   ·rw[j_ h,j_ (by omega)]
 ·rw[tbl_no _ _ hi,tbl_no _ _ hi];split<;>simp;omega
theorem table_any (w:World):Calls L_ 143 #[] w fun e w'=>e=.returned (.agg (tbl 16))∧Below w.heap.size w w':=by
 go_enter Tryz.func143,Tryz.ntmps143
 go_wp2_with fail
 go_loopw [4] (fun i wr=>∃ (k:Nat),i=.int .i64 k∧k≤16∧At wr w.heap.size 223 (tbl 0)∧At wr (w.heap.size+1) 223 (tbl k)∧Below w.heap.size w wr) (fun i _=>16-(intOf i).toNat)
 case atStart =>
  rw[←tbl_zero]
  refine ⟨0,rfl,by omega,(At.new _ _ _).alloc _,?_,((Below.refl _ _).alloc (AX_ _) _).alloc (by simp) _⟩
  have:=At.new (w.alloc (.cells (tbl 0) 223)) 223 (tbl 0)
  simpa using this
 case round =>
  obtain ⟨k,rfl,hk,h0,h1,hb⟩:=hrel
  by_cases hlt:k<16
  ·have c1:=h1.cell k
   have f1:=h1.free k
   rw[tbl_get k k hlt] at c1
   go_wp2_with fail
   go_loop [3,9] (fun v j=>∃ (m:Nat),j=.int .i64 m∧m≤4∧v=.int .u32 (uv (stn m (BitVec.ofNat 32 k)))) (fun _ j=>4-(intOf j).toNat)
   case atStart=>exact ⟨0,rfl,by omega,by rw[show uv (stn 0 (BitVec.ofNat 32 k))=(k:Int) from by unfold stn uv;rw[BitVec.toNat_ofNat];omega]⟩
   case round =>
    obtain ⟨m,rfl,hm,rfl⟩:=hrel
    by_cases hlt2:m<4
    ·go_wp2_with fail
     go_round
     case rel=>exact ⟨m+1,by go_num,by omega,by rw[uv_st,stn_succ]⟩
     case measure=>simp[intOf];omega
    ·obtain rfl:m=4:=by omega
     go_wp2_with fail
     go_roundw
     case rel =>
      refine ⟨k+1,by go_num,by omega,h0.other (by simp) _,?_,hb.setCell (by simp) _⟩
      rw[←tbl_set];exact h1.set k _
     case measure=>simp[intOf];omega
  ·obtain rfl:k=16:=by omega
   have hr:=(h0.row (tbl 16))
   go_wp2_with (first|(refine wpList_load_row rfl 223 _ rfl _ rfl _ _ _ _ h1 Tryz.underlying223 rfl (by kernel_rfl) ?_)|(refine wpList_store_row rfl 223 _ _ rfl _ _ rfl rfl _ _ h0 (by kernel_rfl) rfl (by kernel_rfl) ?_))
   refine bodyPost_ret (v:=.agg (tbl 16)) ?_ rfl ⟨rfl,bl_row hb (AX_ _) _⟩
   exact results_cell_row rfl _ _ w.heap.size 223 (tbl 16) (0,0) _ rfl hr Tryz.underlying223 rfl (by kernel_rfl)
theorem and15 (v:BitVec 32):bits .and .u32 (uv v) 15=((v &&& 15#32).toNat:Int)∧(v &&& 15#32).toNat<16:=by
 refine ⟨uv_and v 15#32,?_⟩
 rw[BitVec.toNat_and]
 exact Nat.lt_of_le_of_lt Nat.and_le_right (by decide)
theorem half_uv (v:BitVec 32):bits .xor .u32 (uv (v >>> 4)) (tblAt (v &&& 15#32).toNat)=uv (stn 4 v):=by
 unfold tblAt;rw[uv_xor,half_step v];simp
theorem xor_in (v:BitVec 32) (c:Int) (h0:0≤c) (h1:c≤255):bits .xor .u32 (uv v) c=uv (v ^^^ BitVec.ofInt 32 c):=by
 conv=>lhs;rw[←of_uv c h0 (by omega)]
 rw[uv_xor]
theorem runB_take (V:BitVec 32) (l:List Int) (k:Nat) (hk:k<l.length):runB V (l.take (k+1))=byte (runB V (l.take k)) l[k]:=by
 unfold runB;rw[List.take_succ_eq_append_getElem hk,List.foldl_append];rfl
theorem crcRun_any (V:BitVec 32) (v:Value) (l:List Int) (w:World) (hv:Rd w v (l.map (AQ_ .u8))) (hl:l.length≤1099511627776) (hx:∀ x∈l,0≤x∧x≤255) :
  Calls L_ 98 #[.int .u32 (uv V),v] w fun e w'=>e=.returned (.int .u32 (uv (runB V l)))∧Below w.heap.size w w':=by
 obtain ⟨ao,ca,rfl,_,ha⟩:=hv
 simp only[N_]
 have HX:=Lib.hid hx;clear hx
 go_enter Tryz.func98,Tryz.ntmps98
 go_wp2_with fail
 refine (table_any _).mono ?_
 rintro e w1 ⟨rfl,hb1⟩
 have s1:=tbl_size 16
 go_wp2_with (refine wpList_storeNew _ (tbl 16) 223 rfl _ _ rfl rfl rfl (by kernel_rfl) rfl (by kernel_rfl) ?_)
 obtain ⟨w2,hw2⟩:∃ w2,w2=w1.alloc (.cells (tbl 16) 223):=⟨_,rfl⟩
 have ht:=At.new w1 223 (tbl 16)
 have hb2:Below w.heap.size w w2:=by rw[hw2];exact hb1.alloc hb1.size _
 rw[←hw2] at ht ⊢
 clear hw2 hb1
 go_loop [0,11] (fun r i=>∃ (k:Nat),i=.int .i64 k∧k≤l.length∧r=.int .u32 (uv (runB V (l.take k)))) (fun _ i=>l.length-(intOf i).toNat)
 case atStart=>exact ⟨0,rfl,by omega,by simp[runB]⟩
 case round =>
  obtain ⟨k,rfl,hk,rfl⟩:=hrel
  by_cases hlt:k<l.length
  ·obtain ⟨b,o,rfl,hc⟩:=ha (by intro h;simp at h;subst h;simp at hlt)
   have hcell:=bl_get hb2 (hc k (by simpa using hlt))
   simp only[List.getElem_map] at hcell
   obtain ⟨c0,c1⟩:=HX.out l[k] (CY_ hlt)
   have hrun:=runB_take V l k hlt
   obtain ⟨c,hc'⟩:∃ c,c=l[k]:=⟨_,rfl⟩
   rw[←hc'] at hcell c0 c1 hrun
   obtain ⟨X,hX⟩:∃ X,X=runB V (l.take k):=⟨_,rfl⟩
   rw[←hX] at hrun ⊢
   have HR:=Lib.hid hrun
   clear hX hrun hc' hc ha
   have e1:=xor_in X c c0 c1
   obtain ⟨Y,hY⟩:∃ Y,Y=X ^^^ BitVec.ofInt 32 c:=⟨_,rfl⟩
   rw[←hY] at e1
   obtain ⟨e2,n1⟩:=and15 Y
   have e3:=uv_16 Y
   have e4:=half_uv Y
   obtain ⟨i1,hi1⟩:∃ i,i=(Y &&& 15#32).toNat:=⟨_,rfl⟩
   rw[←hi1] at e2 n1 e4
   obtain ⟨Z,hZ⟩:∃ Z,Z=stn 4 Y:=⟨_,rfl⟩
   rw[←hZ] at e4
   obtain ⟨f2,n2⟩:=and15 Z
   have f3:=uv_16 Z
   have f4:=half_uv Z
   obtain ⟨i2,hi2⟩:∃ i,i=(Z &&& 15#32).toNat:=⟨_,rfl⟩
   rw[←hi2] at f2 n2 f4
   have d1:=ht.cell i1
   have d2:=ht.cell i2
   rw[tbl_get _ _ n1,i_ n1] at d1
   rw[tbl_get _ _ n2,i_ n2] at d2
   have HE:Hid (stn 4 Z=byte X c):=by rw[hZ,hY];exact (stn_add 4 4 _).symm
   clear hY hZ hi1 hi2
   go_wp2_with fail
   go_round
   case rel=>exact ⟨k+1,by go_num,by omega,by rw[HR.out,←HE.out]⟩
   case measure=>simp[intOf];omega
  ·have hkk:l.take k=l:=List.take_of_length_le (by omega)
   rw[hkk]
   go_wp2
   go_ret
   exact ⟨rfl,hb2⟩
theorem refStep_any (V:BitVec 32) (w:World):Calls L_ 129 #[.int .u32 (uv V)] w fun e w'=>e=.returned (.int .u32 (uv (st V)))∧w=w':=by
 have hb:=uv_bd V
 have h2:uv V % 2=if V.getLsbD 0 then 1 else 0:=by
  unfold uv
  have:V.getLsbD 0=decide (V.toNat % 2=1):=by simp[BitVec.getLsbD,Nat.testBit_zero]
  rw[this]
  by_cases h:V.toNat % 2=1
  ·simp[h];omega
  ·simp[h];omega
 cases hv:V.getLsbD 0 with
 | true =>
  have e1:((uv V % 2)==1)=true:=by rw[h2,hv];rfl
  have e3:=uv_half V
  have e2:bits .xor .u32 (uv (V >>> 1)) 3988292384=uv (st V):=by
   rw[show (3988292384:Int)=uv poly from rfl,uv_xor];unfold st;rw[hv];rfl
  clear h2 hv
  go_enter Tryz.func129,Tryz.ntmps129
  go_wp2
  go_ret
  exact ⟨rfl,rfl⟩
 | false =>
  have e1:((uv V % 2)==1)=false:=by rw[h2,hv];rfl
  have e3:uv V/(2:Int)=uv (st V):=by rw[uv_half];unfold st;rw[hv];simp
  clear h2 hv
  go_enter Tryz.func129,Tryz.ntmps129
  go_wp2
  go_ret
  exact ⟨congrArg (fun n=>Ending.returned (.int .u32 n)) e3,rfl⟩
theorem refRun_any (V:BitVec 32) (v:Value) (l:List Int) (w:World) (hv:Rd w v (l.map (AQ_ .u8))) (hl:l.length≤1099511627776) (hx:∀ x∈l,0≤x∧x≤255) :
  Calls L_ 86 #[.int .u32 (uv V),v] w fun e w'=>e=.returned (.int .u32 (uv (runB V l)))∧w=w':=by
 obtain ⟨ao,ca,rfl,_,ha⟩:=hv
 simp only[N_]
 have HX:=Lib.hid hx;clear hx
 go_enter Tryz.func86,Tryz.ntmps86
 go_wp2_with fail
 go_loop [0,5,6] (fun r i _=>∃ (k:Nat),i=.int .i64 k∧k≤l.length∧r=.int .u32 (uv (runB V (l.take k)))) (fun _ i _=>l.length-(intOf i).toNat)
 case atStart=>exact ⟨0,rfl,by omega,by simp[runB]⟩
 case round =>
  obtain ⟨k,rfl,hk,rfl⟩:=hrel
  by_cases hlt:k<l.length
  ·obtain ⟨b,o,rfl,hc⟩:=ha (by intro h;simp at h;subst h;simp at hlt)
   have hcell:=hc k (by simpa using hlt)
   simp only[List.getElem_map] at hcell
   obtain ⟨c0,c1⟩:=HX.out l[k] (CY_ hlt)
   have hrun:=runB_take V l k hlt
   obtain ⟨c,hc'⟩:∃ c,c=l[k]:=⟨_,rfl⟩
   rw[←hc'] at hcell c0 c1 hrun
   obtain ⟨X,hX⟩:∃ X,X=runB V (l.take k):=⟨_,rfl⟩
   rw[←hX] at hrun ⊢
   have HR:=Lib.hid hrun
   clear hX hrun hc' hc ha
   have e1:=xor_in X c c0 c1
   go_wp2_with fail
   go_loop [0,6] (fun r j=>∃ (m:Nat),j=.int .i64 m∧m≤8∧r=.int .u32 (uv (stn m (X ^^^ BitVec.ofInt 32 c)))) (fun _ j=>8-(intOf j).toNat)
   case atStart=>exact ⟨0,rfl,by omega,rfl⟩
   case round =>
    obtain ⟨m,rfl,hm,rfl⟩:=hrel
    by_cases hlt2:m<8
    ·go_wp2_with fail
     refine (refStep_any _ _).mono ?_
     rintro e w' ⟨rfl,rfl⟩
     go_wp2_with fail
     go_round
     case rel=>exact ⟨m+1,by go_num,by omega,by rw[stn_succ]⟩
     case measure=>simp[intOf];omega
    ·obtain rfl:m=8:=by omega
     go_wp2_with fail
     go_round
     case rel=>exact ⟨k+1,by go_num,by omega,by rw[HR.out];rfl⟩
     case measure=>simp[intOf];omega
  ·have hkk:l.take k=l:=List.take_of_length_le (by omega)
   rw[hkk]
   go_wp2
   go_ret
   exact ⟨rfl,rfl⟩
def sumOf (l:List Int):BitVec 32 := ~~~ (runB (BitVec.allOnes 32) l)
theorem uv_not (v:BitVec 32):bits .xor .u32 IntKind.u32.max (uv v)=uv (~~~ v):=by
 rw[show IntKind.u32.max=uv (BitVec.allOnes 32) from rfl,uv_xor,BitVec.allOnes_xor]
theorem crcOf_any (v:Value) (l:List Int) (w:World) (hv:Rd w v (l.map (AQ_ .u8))) (hl:l.length≤1099511627776) (hx:∀ x∈l,0≤x∧x≤255) :
  Calls L_ 60 #[v] w fun e w'=>e=.returned (.int .u32 (uv (sumOf l)))∧Below w.heap.size w w':=by
 have HC:=Lib.hid (crcRun_any (BitVec.allOnes 32) v l w hv hl hx)
 have hsg:IntKind.u32.signed=false:=rfl
 have hn:=uv_not (runB (BitVec.allOnes 32) l)
 obtain ⟨R,hR⟩:∃ R,R=runB (BitVec.allOnes 32) l:=⟨_,rfl⟩
 rw[←hR] at HC hn
 have e2 : ~~~ R=sumOf l:=by rw[hR];rfl
 clear hR
 go_enter Tryz.func60,Tryz.ntmps60
 go_wp2_with fail
 refine HC.out.mono ?_
 rintro e w1 ⟨rfl,hb1⟩
 go_wp2
 go_ret
 exact ⟨by rw[←e2];rfl,hb1⟩
theorem refOf_any (v:Value) (l:List Int) (w:World) (hv:Rd w v (l.map (AQ_ .u8))) (hl:l.length≤1099511627776) (hx:∀ x∈l,0≤x∧x≤255) :
  Calls L_ 45 #[v] w fun e w'=>e=.returned (.int .u32 (uv (sumOf l)))∧w=w':=by
 have HC:=Lib.hid (refRun_any (BitVec.allOnes 32) v l w hv hl hx)
 have hsg:IntKind.u32.signed=false:=rfl
 have hn:=uv_not (runB (BitVec.allOnes 32) l)
 obtain ⟨R,hR⟩:∃ R,R=runB (BitVec.allOnes 32) l:=⟨_,rfl⟩
 rw[←hR] at HC hn
 have e2 : ~~~ R=sumOf l:=by rw[hR];rfl
 clear hR
 go_enter Tryz.func45,Tryz.ntmps45
 go_wp2_with fail
 refine HC.out.mono ?_
 rintro e w1 ⟨rfl,rfl⟩
 go_wp2
 go_ret
 exact ⟨by rw[←e2];rfl,rfl⟩
end Go.Proofs.YtgimdjfbnbkpgaaGreat
