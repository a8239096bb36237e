/- A part of this claim. No condition. -/
import Derived.Test.YtdmkhinckljddaaGreatDoorReportLinesG6
set_option maxRecDepth 100000
set_option maxHeartbeats 2000000
set_option linter.unusedVariables false
set_option linter.unusedSimpArgs false
set_option linter.unnecessarySimpa false
namespace Go.Proofs.YtdmkhinckljddaaGreatDoor
open Go.RowKit
open BlkW renaming rows→BZ_
open Exit renaming exit→AI_
open List renaming map→K_,length_map→Q_,map_replicate→V_,map_append→X_,getElem?_eq_getElem→Y_,map_cons→Z_,map_take→D_,map_drop→AK_,map_nil→AL_,map_set→AM_,length_cons→AO_,getD_eq_getElem?_getD→AR_,length_nil→AS_,getElem?_map→AT_,length_append→AW_,length_replicate→AB_,getElem?_set→BP_,length_set→BA_,getElem?_eq_none→CM_,append_assoc→CP_,mem_cons_of_mem→CT_,getElem?_append→CU_
open Nat renaming le_refl→AV_
open Option renaming getD_some→BF_
open Tryz renaming prog→N_
open Value renaming string→L_,slice→AC_
open Weak renaming int→M_,tup→AZ_
open WeakL renaming refl→A_
structure VBun (u:Bun):Prop where
 ok:u.Ok
 sm:u.Sm
 sz:u.Sz
 w:wholeE u=0
 m:∀ j,j<u.m.length→mE u j=⟨0,0,0,0⟩
 nm:u.m≠[]
 nl:∀ m∈u.m,m.l≠[]
 s:∀ j,j<u.m.length→MOK (u.m.getD j default).l u.inp
theorem Bun.sz_few {u:Bun} (few:bunS u=true):u.Sz:=by
 have q:=Bun.sm few
 exact ⟨by have:=q.l;omega,fun m hm=>⟨by have:=(q.m m hm).1;omega,fun x hx=>by
  have s:=(q.m m hm).2 x hx
  exact ⟨by have:=s.l;omega,s.s,by have:=s.w;omega,by have:=s.b;omega⟩⟩⟩
theorem VBun.of {u:Bun} (ok:u.Ok) (few:bunS u=true) (h:(bunE u).w=0):VBun u:=by
 have sm:=Bun.sm few
 rcases bunE_cases u with w|⟨w,hm⟩|⟨w,m,h1,h2,h3⟩
 ·unfold bunE at h;rw[i_ w] at h;exact absurd h w
 ·have key:∀ j,j<u.m.length→(u.m.getD j default).l.length≠0∧MOK (u.m.getD j default).l u.inp:=fun j hj=>by
   have e:modelE (u.m.getD j default).l u.inp u.cl j=⟨0,0,0,0⟩:=hm j hj
   rcases modelE_cases (u.m.getD j default).l u.inp u.cl with ⟨a,b,c⟩|a|⟨a,m,b,c,d⟩
   ·exact ⟨a,fun k hk=>validE_ok (c k hk)⟩
   ·exfalso
    unfold modelE at e
    rcases a with a|a
    ·rw[i_ a] at e;cases e
    ·rw[j_ (by omega),i_ a] at e;cases e
   ·exfalso
    rw[modelE_m a b c d] at e
    exact c (congrArg Flt.w e)
  refine ⟨ok,sm,Bun.sz_few few,w,hm,fun e=>?_,fun m hmm e=>?_,fun j hj=>(key j hj).2⟩
  ·unfold wholeE at w;rw[e] at w
   split at w
   ·cases w
   ·split at w
    ·cases w
    ·rw[i_ (show ([]:List Mdl).length=0 from rfl)] at w;cases w
  ·obtain ⟨i,hi,rfl⟩:=List.getElem_of_mem hmm
   have:=(key i hi).1
   rw[AR_,Y_ hi] at this
   exact this (by rw[BF_,e];rfl)
 ·rw[bunE_m w h1 h2 h3] at h;exact absurd h h2
def inR (l:List Blc) (a:Shp):Nat→List Shp
 | 0=>[a]
 | k+1=>inR l a k++[inS l a (k+1)]
theorem inR_len (l:List Blc) (a:Shp):∀ k,(inR l a k).length=k+1
 | 0=>rfl
 | k+1=>by rw[inR,AW_,inR_len l a k];rfl
theorem inR_get (l:List Blc) (a:Shp):∀ {n k:Nat},k≤n→(inR l a n).getD k default=inS l a k
 | 0,k,h=>by
  obtain rfl:k=0:=by omega
  rfl
 | n+1,k,h=>by
  rw[inR,AR_,CU_]
  by_cases hk:k≤n
  ·rw[i_ (by rw[inR_len];omega),←AR_];exact inR_get l a hk
  ·obtain rfl:k=n+1:=by omega
   rw[j_ (by rw[inR_len];omega),inR_len,Nat.sub_self];rfl
abbrev shpsC (l:List Shp):List AV:=[.sl 3 (l.map shpC)]
def inW (u:Bun):Nat→List (List Shp)
 | 0=>[]
 | k+1=>inW u k++[inR (u.m.getD k default).l u.inp (u.m.getD k default).l.length]
theorem inW_len (u:Bun):∀ k,(inW u k).length=k
 | 0=>rfl
 | k+1=>by rw[inW,AW_,inW_len u k];rfl
noncomputable def new_i_I (u:Bun) (I:Int) (l:List Blc) (R:List (List Shp)) (T:List (List Int)) (k:Nat):VS:=stt 80 [(1,.ptr 1 0 0),(5,.ptr 5 0 0),(10,.own 901),(36,.sl 1 (u.m.map mdlC)),(37,i64 (u.m.map mdlC).length),(38,i64 I),(46,.sl 5 (l.map blcC)),(47,i64 (l.map blcC).length),(48,i64 k)] [(1,.var (bunC u)),(5,.var [i64 u.h,i64 u.x,i64 u.c,i64 u.cl,.sl 1 (u.m.map mdlC),.sl 1 (K_ intsC T),.own 900]),(900,.slc 74 1 (R.map shpsC)),(901,.slc 23 3 ((inR l u.inp k).map shpC))]
noncomputable def new_i_Z (u:Bun) (I:Int) (l:List Blc) (R:List (List Shp)) (T:List (List Int)):VS:=new_i_I u I l R T (l.length)
theorem new_i_s (u:Bun) (I:Int) (l:List Blc) (R:List (List Shp)) (T:List (List Int)) (ok:∀ d∈l,d.Ok) (sm:∀ d∈l,d.Sm) (hl:l.length≤8) (oka:u.inp.Ok) (h:MOK l u.inp) (k:Nat) (hk:k<l.length):VT N_ (fnC Tryz.f16 [1,1,1,1,1,1,0,1,0,0,1,1,0,0,1,1,0,1,0,0]) (new_i_I u I l R T k) .normal (new_i_I u I l R T (k+1)):=by
 have q:=h k hk
 have q2:=getD_in ok hk
 have q3:=getD_in sm hk
 have q4:=inS_ok (l:=l) oka k
 have q5:=q2.n
 have q6:=q3.s
 have q7:=q3.l
 have q8:=inR_len l u.inp k
 have q9:=inR_get l u.inp (AV_ k)
 have oz1:=(s_ (0≤(↑k:Int)))
 have oz2:=(map_at (blcC) (default) (l:=l) (i:=k) hk)
 have oz5:=(map_at (shpC) (default) (l:=inR l u.inp k) (i:=k) (by omega))
 have oz6:=@cout_y (l.getD k default) ((inR l u.inp k).getD k default) q2 q6 (by (rw[q9];exact q))
 exact tR_ [r_,b_,.r [] [.row (sO oz2)],.r [] [.row (sO oz5),cr oz6],r_,d_,r_,.r [] [.n ((↑k:Int)+1)]] [.any (rg [(11,4),(49,15),(65,5)]),.drop [12,13,67],.ren 68 901,.weak 48 (i64 (↑(k+1):Int)),.blk 901 (Blk.slc 23 3 (K_ shpC (inR l u.inp (k+1)))),.sort] (.c8 (show decide ((↑k:Int)<((K_ blcC l).length:Int))=true by (simp;omega)) oz1 oz2 oz1 (show (↑k:Int)<((K_ shpC (inR l u.inp k)).length:Int) by (simp;omega)) oz5 oz6 z1_<|.d5 (show ((K_ shpC (inR l u.inp k)).length+1)*24≤140737488355328 by (simp;omega)) (show (K_ shpC (inR l u.inp k)).length+1≤9223372036854775807 by (simp;omega)) (i6n ((↑k:Int)+1) (by omega)) (wS_ k) (show BlkW (Blk.slc 23 3 (K_ shpC (inR l u.inp k)++[[i64 (lastS (l.getD k default).n ((inR l u.inp k).getD k default)).h,i64 (lastS (l.getD k default).n ((inR l u.inp k).getD k default)).x,i64 (lastS (l.getD k default).n ((inR l u.inp k).getD k default)).c]])) (Blk.slc 23 3 (K_ shpC (inR l u.inp (k+1)))) from (BZ_ (e:=23) (z:=3) (rows_to (shpC) (r:=K_ shpC (inR l u.inp k)++[[i64 (lastS (l.getD k default).n ((inR l u.inp k).getD k default)).h,i64 (lastS (l.getD k default).n ((inR l u.inp k).getD k default)).x,i64 (lastS (l.getD k default).n ((inR l u.inp k).getD k default)).c]]) (l:=inR l u.inp k++[Shp.mk (lastS (l.getD k default).n ((inR l u.inp k).getD k default)).h (lastS (l.getD k default).n ((inR l u.inp k).getD k default)).x (lastS (l.getD k default).n ((inR l u.inp k).getD k default)).c]) (m:=inR l u.inp (k+1)) (by first|(simp only[X_,Z_,AL_,AM_,V_,D_,AK_];done)|rfl|(simp only[X_,Z_,AL_,AM_,V_,D_,AK_];rfl)|(simp only[X_,Z_,AL_,AM_,V_,D_,AK_,shpC,ints];done)) (show (inR l u.inp k++[Shp.mk (lastS (l.getD k default).n ((inR l u.inp k).getD k default)).h (lastS (l.getD k default).n ((inR l u.inp k).getD k default)).x (lastS (l.getD k default).n ((inR l u.inp k).getD k default)).c])=(inR l u.inp (k+1)) from (by (rw[q9];rfl)))))))
theorem new_i_e (u:Bun) (I:Int) (l:List Blc) (R:List (List Shp)) (T:List (List Int)) (ok:∀ d∈l,d.Ok) (sm:∀ d∈l,d.Sm) (hl:l.length≤8) (oka:u.inp.Ok) (h:MOK l u.inp):VT N_ (fnC Tryz.f16 [1,1,1,1,1,1,0,1,0,0,1,1,0,0,1,1,0,1,0,0]) (new_i_I u I l R T (l.length)) (.exit 2) (new_i_Z u I l R T):=by
 exact tR_ [r_,d_] [.any [49],.sort] (.d (show decide ((l.length:Int)<((K_ blcC l).length:Int))=false by (simp;done)))
theorem new_i (u:Bun) (I:Int) (l:List Blc) (R:List (List Shp)) (T:List (List Int)) (ok:∀ d∈l,d.Ok) (sm:∀ d∈l,d.Sm) (hl:l.length≤8) (oka:u.inp.Ok) (h:MOK l u.inp):VT N_ (fnC Tryz.f16 [1,1,1,1,1,1,0,1,0,0,1,1,0,0,1,1,0,1,0]) (new_i_I u I l R T 0) (.exit 2) (new_i_Z u I l R T) :=
 VT.loop (fun k=>new_i_I u I l R T k) (l.length) (fun k hk=>new_i_s u I l R T ok sm hl oka h k hk) (new_i_e u I l R T ok sm hl oka h) (by intro h;cases h)
noncomputable def new_o_I (u:Bun) (k:Nat):VS:=stt 80 [(1,.ptr 1 0 0),(5,.ptr 5 0 0),(36,.sl 1 (u.m.map mdlC)),(37,i64 (u.m.map mdlC).length),(38,i64 k)] [(1,.var (bunC u)),(5,.var [i64 u.h,i64 u.x,i64 u.c,i64 u.cl,.sl 1 (u.m.map mdlC),.sl 1 (K_ intsC (tabK u u.m.length)),.own 900]),(900,.slc 74 1 ((inW u k).map shpsC))]
noncomputable def new_o_Z (u:Bun):VS:=new_o_I u (u.m.length)
theorem new_o_s (u:Bun) (v:VBun u) (k:Nat) (hk:k<u.m.length):VT N_ (fnC Tryz.f16 [1,1,1,1,1,1,0,1,0,0]) (new_o_I u k) .normal (new_o_I u (k+1)):=by
 have q0:=v.sm.l
 have q1:=v.s k hk
 have q2:=(getD_in v.ok.m hk).l
 have q3:=(getD_in v.sm.m hk).2
 have q4:=(getD_in v.sm.m hk).1
 have q5:=inW_len u k
 have q6:u.inp.Ok:=⟨v.ok.h,v.ok.x,v.ok.c⟩
 have oz2:=(map_at (mdlC) (default) (l:=u.m) (i:=k) hk)
 have oz4:=@new_i (u) ((↑k:Int)) ((u.m.getD k default).l) (inW u k) (tabK u u.m.length) q2 q3 q4 q6 q1
 exact tR_ [r_,b_,.r [] [.row (sO oz2)],r_,r_,.code [.any (rg [(9,1),(39,7)]),.drop [9],.ren 44 901,.weak 48 (i64 (↑0:Int)),.sort] (AI_ 2) (zO oz4),.r [.frz 901] [],.r [] [.n ((↑k:Int)+1)]] [.any (rg [(10,1),(46,3),(70,7)]),.drop [73],.ren 74 900,.weak 38 (i64 (↑(k+1):Int)),.blk 900 (Blk.slc 74 1 (K_ shpsC (inW u (k+1)))),.sort] (.c8 (show decide ((↑k:Int)<((K_ mdlC u.m).length:Int))=true by (simp;omega)) (s_ (0≤(↑k:Int))) oz2 w0_ oz4 (show ((K_ shpsC (inW u k)).length+1)*24≤140737488355328 by (simp;omega)) (show (K_ shpsC (inW u k)).length+1≤9223372036854775807 by (simp;omega)) (i6n ((↑k:Int)+1) (by omega))<|.d2 (wS_ k) (show BlkW (Blk.slc 74 1 (K_ shpsC (inW u k)++[[AV.sl 3 (K_ shpC (inR (u.m.getD k default).l u.inp (u.m.getD k default).l.length))]])) (Blk.slc 74 1 (K_ shpsC (inW u (k+1)))) from (BZ_ (e:=74) (z:=1) (rows_to (shpsC) (r:=K_ shpsC (inW u k)++[[AV.sl 3 (K_ shpC (inR (u.m.getD k default).l u.inp (u.m.getD k default).l.length))]]) (l:=inW u k++[inR (u.m.getD k default).l u.inp (u.m.getD k default).l.length]) (m:=inW u (k+1)) (by first|(simp only[X_,Z_,AL_,AM_,V_,D_,AK_];done)|rfl|(simp only[X_,Z_,AL_,AM_,V_,D_,AK_];rfl)|(simp only[X_,Z_,AL_,AM_,V_,D_,AK_,shpsC,ints];done)) (show (inW u k++[inR (u.m.getD k default).l u.inp (u.m.getD k default).l.length])=(inW u (k+1)) from (by rfl))))))
theorem new_o_e (u:Bun) (v:VBun u):VT N_ (fnC Tryz.f16 [1,1,1,1,1,1,0,1,0,0]) (new_o_I u (u.m.length)) (.exit 0) (new_o_Z u):=by
 exact tR_ [r_,d_] [.any [39],.sort] (.d (show decide ((u.m.length:Int)<((K_ mdlC u.m).length:Int))=false by (simp;done)))
theorem new_o (u:Bun) (v:VBun u):VT N_ (fnC Tryz.f16 [1,1,1,1,1,1,0,1,0]) (new_o_I u 0) (.exit 0) (new_o_Z u) :=
 VT.loop (fun k=>new_o_I u k) (u.m.length) (fun k hk=>new_o_s u v k hk) (new_o_e u v) (by intro h;cases h)
abbrev netT (u:Bun) (T:List (List Int)) (W:List (List Shp)):List AV:=[i64 u.h,i64 u.x,i64 u.c,i64 u.cl,.sl 1 (u.m.map mdlC),.sl 1 (K_ intsC T),.sl 1 (K_ shpsC W)]
abbrev netC (u:Bun):List AV:=netT u (tabK u u.m.length) (inW u u.m.length)
theorem new_y (u:Bun) (v:VBun u):VM N_ 16 ([bun u]) ([]) (.tup [.ptr 951 0 0,i64 0]) ([(951,.var (netC u))]):=by
 have q0:=v.ok
 have q1:=v.sm
 have q2:=v.sz
 have q3:=v.w
 have q4:=v.m
 have q5:=v.nm
 have q6:=v.nl
 have q7:=v.s
 have q8:((bunE u).w != 0)=false:=by rw[bunE_y v.w v.m];rfl
 have oz0:=@vbundle_v (u) q0 q1
 have oz2:=@copy_y (u) q2 q6 q5
 have oz3:=@ctab_y (u) q0 q1 q7
 have oz6:=@new_o (u) v
 exact mR_ [r_,.r [] [cr oz0],r_,d_,.r [] [cr oz2],.r [] [cr oz3],r_,d_,r_,r_,.code [.any (rg [(0,1),(2,3),(6,2),(15,5),(22,10),(33,3)]),.drop [4],.weak 38 (i64 (↑0:Int)),.nilc 900 74 1 5 6,.sort] (AI_ 0) (zO oz6),r_] [.frz 900,.drop [1,5],.ren 79 951,.sort] _ Tryz.func16 (.d7 oz0 q8 oz2 oz3 z1_ w0_ oz6)
theorem new_n (u:Bun) (ok:u.Ok) (sm:u.Sm) (h:(bunE u).w≠0):VC N_ 16 ([bun u]) (.tup [.lit (.pointer none),i64 (bunE u).w]):=by
 have q0:=sm.l
 have q8:((bunE u).w != 0)=true:=by simpa using h
 have oz0:=@vbundle_v (u) ok sm
 exact cR_ [r_,.r [] [cr oz0],r_,b_,r_] _ Tryz.func16 (.d2 oz0 q8)
def tabR (T:List (List Int)):Nat→List (List AV)
 | 0=>List.replicate T.length [nilv]
 | k+1=>(tabR T k).set k (intsC (T.getD k default))
theorem tabR_len (T:List (List Int)):∀ k,(tabR T k).length=T.length
 | 0=>by rw[tabR,AB_]
 | k+1=>by rw[tabR,BA_,tabR_len T k]
theorem tabR_get (T:List (List Int)):∀ (k i:Nat),i<k→i<T.length→(tabR T k)[i]? = some (intsC (T.getD i default))
 | k+1,i,h,hi=>by
  rw[tabR,BP_]
  by_cases hk:k=i
  ·subst hk;rw[i_ rfl,i_ (by rw[tabR_len];exact hi)]
  ·rw[j_ hk];exact tabR_get T k i (by omega) hi
theorem tabR_all (T:List (List Int)):tabR T T.length=T.map intsC:=by
 apply List.ext_getElem?
 intro i
 by_cases h:i<T.length
 ·rw[tabR_get T _ i h h,AT_,Y_ h,AR_,Y_ h];rfl
 ·rw[CM_ (by rw[tabR_len];omega),CM_ (by rw[Q_];omega)]
noncomputable def tabl_l_I (u:Bun) (T:List (List Int)) (W:List (List Shp)) (k:Nat):VS:=stt 33 [(3,.own 900),(19,.sl 1 (T.map intsC)),(20,i64 (T.map intsC).length),(21,i64 k)] [(900,.slc 72 1 (tabR T k)),(100000,.var (netT u T W))]
noncomputable def tabl_l_Z (u:Bun) (T:List (List Int)) (W:List (List Shp)):VS:=tabl_l_I u T W (T.length)
theorem tabl_l_s (u:Bun) (T:List (List Int)) (W:List (List Shp)) (hl:T.length≤1000) (h2:∀ l∈T,l.length≤1000) (k:Nat) (hk:k<T.length):VT N_ (fnC Tryz.f18 [1,1,1,0,1,0,0]) (tabl_l_I u T W k) .normal (tabl_l_I u T W (k+1)):=by
 have q1:=tabR_len T k
 have q2:=getD_in h2 hk
 have oz1:=(s_ (0≤(↑k:Int)))
 have oz2:=(map_at (intsC) (default) (l:=T) (i:=k) hk)
 exact tR_ [r_,b_,.r [] [.row (sO oz2)],.r [] [.nat 0],.r [] [.n ((↑k:Int)+1)]] [.frz 29,.unf 900,.any (rg [(4,2),(22,10)]),.weak 21 (i64 (↑(k+1):Int)),.blk 900 (Blk.slc 72 1 (tabR T (k+1))),.sort] (.c8 (show decide ((↑k:Int)<((K_ intsC T).length:Int))=true by (simp;omega)) oz1 oz2 (show (K_ (row1 .i64) (T.getD k default)).length*8≤140737488355328 by (simp only[Q_] at *;omega)) (show (K_ (row1 .i64) (T.getD k default)).length≤9223372036854775807 by (simp only[Q_] at *;omega)) oz1 (s_ ((↑k:Int)<((tabR T k).length:Int))) (s_ ((↑k:Int).toNat<(tabR T k).length))<|.d3 (i6n ((↑k:Int)+1) (by omega)) (wS_ k) (show BlkW (Blk.slc 72 1 ((tabR T k).set (↑k:Int).toNat [AV.sl 1 (K_ (row1 .i64) (T.getD k default))])) (Blk.slc 72 1 (tabR T (k+1))) from (BZ_ (e:=72) (z:=1) (show ((tabR T k).set (↑k:Int).toNat [AV.sl 1 (K_ (row1 .i64) (T.getD k default))])=(tabR T (k+1)) from (by rfl)))))
theorem tabl_l_e (u:Bun) (T:List (List Int)) (W:List (List Shp)) (hl:T.length≤1000) (h2:∀ l∈T,l.length≤1000):VT N_ (fnC Tryz.f18 [1,1,1,0,1,0,0]) (tabl_l_I u T W (T.length)) (.exit 0) (tabl_l_Z u T W):=by
 exact tR_ [r_,d_] [.any [22],.sort] (.d (show decide ((T.length:Int)<((K_ intsC T).length:Int))=false by (simp;done)))
theorem tabl_l (u:Bun) (T:List (List Int)) (W:List (List Shp)) (hl:T.length≤1000) (h2:∀ l∈T,l.length≤1000):VT N_ (fnC Tryz.f18 [1,1,1,0,1,0]) (tabl_l_I u T W 0) (.exit 0) (tabl_l_Z u T W) :=
 VT.loop (fun k=>tabl_l_I u T W k) (T.length) (fun k hk=>tabl_l_s u T W hl h2 k hk) (tabl_l_e u T W hl h2) (by intro h;cases h)
theorem tabl_w (u:Bun) (T:List (List Int)) (W:List (List Shp)) (hl:T.length≤1000) (h2:∀ l∈T,l.length≤1000):VM N_ 18 ([.ptr 100000 0 0]) ([(100000,.var (netT u T W))]) (.sl 1 (tabR T T.length)) ([(100000,.var (netT u T W))]):=by
 have oz1:=(show ((K_ intsC T).length:Int)=((K_ intsC T).length:Int) by with_reducible rfl)
 have oz8:=@tabl_l (u) (T) (W) hl h2
 exact mR_ [r_,r_,d_,.r [] [.nats (K_ intsC T).length (K_ intsC T).length],r_,.code [.any (rg [(0,1),(2,1),(6,13)]),.ren 14 900,.weak 21 (i64 (↑0:Int)),.blk 900 (Blk.slc 72 1 (tabR T 0)),.sort] (AI_ 0) (zO oz8),r_] [.frz 900,.sort] _ Tryz.func18 (.c8 z1_ oz1 oz1 (s_ ((K_ intsC T).length≤(K_ intsC T).length)) (show 24*(K_ intsC T).length≤281474976710656 by (simp;omega)) (show (K_ intsC T).length≤9223372036854775807 by (simp;omega)) w0_ (show BlkW (Blk.slc 72 1 (List.replicate (K_ intsC T).length [AV.lit (AC_ none 0 0)])) (Blk.slc 72 1 (tabR T 0)) from (BZ_ (e:=72) (z:=1) (show (List.replicate (K_ intsC T).length [AV.lit (AC_ none 0 0)])=(tabR T 0) from (by (simp only[tabR];simp)))))<|.d oz8)
theorem tabl_v (u:Bun) (T:List (List Int)) (W:List (List Shp)) (hl:T.length≤1000) (h2:∀ l∈T,l.length≤1000):VM N_ 18 [.ptr 100000 0 0] [(100000,.var (netT u T W))] (.sl 1 (T.map intsC)) [(100000,.var (netT u T W))]:=by
 have:=tabl_w u T W hl h2
 rw[tabR_all] at this;exact this
def blkS (x:Blc) (k p:Int):ByteArray:=if x.ex=true then ⟨#[32,98,108,111,99,107,32]⟩++dg k++⟨#[32,99,111,115,116,32]⟩++dg p++⟨#[32,101,120,105,116,32]⟩++dg x.nd else ⟨#[32,98,108,111,99,107,32]⟩++dg k++⟨#[32,99,111,115,116,32]⟩++dg p++⟨#[32,116,104,114,111,117,103,104]⟩
def mdlS' (i n:Int):ByteArray:=⟨#[109,111,100,101,108,32]⟩++dg i++⟨#[32,98,108,111,99,107,115,32]⟩++dg n
def bunS' (a:Shp) (cl n s:Int):ByteArray:=⟨#[98,117,110,100,108,101,32]⟩++shS a++⟨#[32,99,108,97,115,115,101,115,32]⟩++dg cl++⟨#[32,109,111,100,101,108,115,32]⟩++dg n++⟨#[32,99,111,115,116,32]⟩++dg s
def ndK (A:List ByteArray) (l:List Nod) (S:List Shp):Nat→List ByteArray
 | 0=>A
 | j+1=>ndK A l S j++[nodeS (l.getD j default) (S.getD (j+1) default)]
def blK (A:List ByteArray) (l:List Blc) (a:Shp) (T:List Int):Nat→List ByteArray
 | 0=>A
 | k+1=>ndK (blK A l a T k++[blkS (l.getD k default) k (T.getD k 0)]) (l.getD k default).n (shpsL (l.getD k default).n (inS l a k)) (l.getD k default).n.length
def mdK (A:List ByteArray) (u:Bun) (T:List (List Int)):Nat→List ByteArray
 | 0=>A
 | i+1=>blK (mdK A u T i++[mdlS' i (u.m.getD i default).l.length]) (u.m.getD i default).l u.inp (T.getD i default) (u.m.getD i default).l.length
theorem ndK_len (A:List ByteArray) (l:List Nod) (S:List Shp):∀ j,(ndK A l S j).length=A.length+j
 | 0=>rfl
 | j+1=>by rw[ndK,AW_,ndK_len A l S j];rfl
def cnB (l:List Blc):Nat→Nat
 | 0=>0
 | k+1=>cnB l k+(1+(l.getD k default).n.length)
def cnM (u:Bun):Nat→Nat
 | 0=>0
 | i+1=>cnM u i+1+cnB (u.m.getD i default).l (u.m.getD i default).l.length
theorem blK_len (A:List ByteArray) (l:List Blc) (a:Shp) (T:List Int):∀ k,(blK A l a T k).length=A.length+cnB l k
 | 0=>rfl
 | k+1=>by rw[blK,ndK_len,AW_,blK_len A l a T k,cnB];simp only[AO_,AS_];omega
theorem mdK_len (A:List ByteArray) (u:Bun) (T:List (List Int)):∀ i,(mdK A u T i).length=A.length+cnM u i
 | 0=>rfl
 | i+1=>by rw[mdK,blK_len,AW_,mdK_len A u T i,cnM];simp only[AO_,AS_];omega
theorem cnB_le {l:List Blc} (h:∀ x∈l,x.n.length≤12):∀ k,k≤l.length→cnB l k≤13*k
 | 0,_=>AV_ _
 | k+1,hk=>by
  have:=cnB_le h k (by omega)
  have:=getD_in h (s_ (k<l.length))
  unfold cnB;omega
theorem cnM_le {u:Bun} (h:u.Sm):∀ i,i≤u.m.length→cnM u i≤105*i
 | 0,_=>AV_ _
 | i+1,hi=>by
  have:=cnM_le h i (by omega)
  have q:=getD_in h.m (s_ (i<u.m.length))
  have:=cnB_le (fun x hx=>(q.2 x hx).l) _ (AV_ (u.m.getD i default).l.length)
  have:=q.1
  unfold cnM;omega
def LB (A:List ByteArray):Prop:=∀ s∈A,s.size≤300
theorem LB.app {A:List ByteArray} {s:ByteArray} (h:LB A) (g:s.size≤300):LB (A++[s]):=fun x hx=>by
 rcases List.mem_append.1 hx with hx|hx
 ·exact h x hx
 ·rw[List.mem_singleton.1 hx];exact g
theorem LB.nd {A:List ByteArray} {l:List Nod} {S:List Shp} (h:LB A) (ok:∀ n∈l,n.Ok) (oks:∀ a∈S,a.Ok) (hS:S.length=l.length+1):∀ j,j≤l.length→LB (ndK A l S j)
 | 0,_=>h
 | j+1,hj=>(LB.nd h ok oks hS j (by omega)).app (by
  have:=nodeS_size (getD_in ok (s_ (j<l.length))) (getD_in oks (s_ (j+1<S.length)))
  omega)
theorem LB.join {A:List ByteArray} {s:ByteArray} (h:LB A) (hs:s.size≤1):(joinB A s).size≤301*A.length:=by
 induction A with
 | nil=>exact Nat.zero_le _
 | cons x A ih =>
  have hx:=h x (List.mem_cons_self ..)
  have hA:LB A:=fun y hy=>h y (CT_ _ hy)
  cases A with
  | nil=>rw[joinB_one];simp only[AO_,AS_];omega
  | cons y A =>
   have:=ih hA
   rw[joinB_two,bapp_size,bapp_size]
   simp only[AO_] at this ⊢;omega
def TB (T:List (List Int)):Prop:=∀ l∈T,l.length≤50∧∀ v∈l,In32 v
theorem blockC_in {x:Blc} {a:Shp} {cl:Int} (h:x.n.length≤12):In32 (blockC x a cl):=by
 have q1:=costL_bd x.n (shpsL x.n a) x.n.length
 have q2:=exitC_bd x a cl
 unfold blockC
 exact ⟨by omega,by omega⟩
theorem rowK_bd {l:List Blc} {a:Shp} {cl:Int} (h:∀ x∈l,x.n.length≤12):∀ k,k≤l.length→∀ v∈rowK l a cl k,In32 v
 | 0,_,v,hv=>by cases hv
 | k+1,hk,v,hv=>by
  rw[rowK] at hv
  rcases List.mem_append.1 hv with hv|hv
  ·exact rowK_bd h k (by omega) v hv
  ·rw[List.mem_singleton.1 hv];exact blockC_in (getD_in h (s_ (k<l.length)))
theorem tabK_bd {u:Bun} (h:u.Sm):∀ k,k≤u.m.length→TB (tabK u k)
 | 0,_,l,hl=>by cases hl
 | k+1,hk,l,hl=>by
  rw[tabK] at hl
  rcases List.mem_append.1 hl with hl|hl
  ·exact tabK_bd h k (by omega) l hl
  ·rw[List.mem_singleton.1 hl]
   have q:=getD_in h.m (s_ (k<u.m.length))
   exact ⟨by rw[rowK_len];have:=q.1;omega,rowK_bd (fun x hx=>(q.2 x hx).l) _ (AV_ _)⟩
theorem tabK_get (u:Bun):∀ {n i:Nat},i<n→(tabK u n).getD i default=rowK (u.m.getD i default).l u.inp u.cl (u.m.getD i default).l.length
 | n+1,i,h=>by
  rw[tabK,AR_,CU_]
  by_cases hi:i<n
  ·rw[i_ (by rw[tabK_len];exact hi),←AR_];exact tabK_get u hi
  ·obtain rfl:i=n:=by omega
   rw[j_ (by rw[tabK_len];omega),tabK_len,Nat.sub_self];rfl
theorem blkS_size {x:Blc} {k p:Int} (ok:x.Ok) (hk:In64 k) (hp:In64 p):(blkS x k p).size≤200:=by
 have:=dg_size hk;have:=dg_size hp
 have:=dg_size (n:=x.nd) (by have q:=ok.nd;exact ⟨by have:=q.1;omega,by have:=q.2;omega⟩)
 unfold blkS
 split<;>simp only[bapp_size,lit_size,AO_,AS_]<;>omega
theorem mdlS'_size {i n:Int} (hi:In64 i) (hn:In64 n):(mdlS' i n).size≤200:=by
 have:=dg_size hi;have:=dg_size hn
 unfold mdlS'
 simp only[bapp_size,lit_size,AO_,AS_];omega
theorem bunS'_size {a:Shp} {cl n s:Int} (ha:a.Ok) (hc:In64 cl) (hn:In64 n) (hs:In64 s):(bunS' a cl n s).size≤250:=by
 have:=dg_size hc;have:=dg_size hn;have:=dg_size hs;have:=shS_size ha
 unfold bunS'
 simp only[bapp_size,lit_size,AO_,AS_];omega
theorem LB.bl {A:List ByteArray} {l:List Blc} {a:Shp} {T:List Int} (h:LB A) (ok:∀ x∈l,x.Ok) (oka:a.Ok) (hl:l.length≤8) (hT:∀ v∈T,In32 v):∀ k,k≤l.length→LB (blK A l a T k)
 | 0,_=>h
 | k+1,hk=>by
  have q:=getD_in ok (s_ (k<l.length))
  have g:=gt32 hT k
  refine LB.nd ((LB.bl h ok oka hl hT k (by omega)).app ?_) q.n (grow_ok (inS_ok oka k) _) (shpsL_len _ _) _ (AV_ _)
  have:=blkS_size (k:=(k:Int)) (p:=T.getD k 0) q ⟨by omega,by omega⟩ ⟨by have:=g.1;omega,by have:=g.2;omega⟩
  omega
theorem LB.md {A:List ByteArray} {u:Bun} {T:List (List Int)} (h:LB A) (ok:u.Ok) (sm:u.Sm) (hT:TB T) (hl:T.length=u.m.length):∀ i,i≤u.m.length→LB (mdK A u T i)
 | 0,_=>h
 | i+1,hi=>by
  have q:=getD_in sm.m (s_ (i<u.m.length))
  have q1:=q.1
  have q2:=sm.l
  have:=mdlS'_size (i:=(i:Int)) (n:=((u.m.getD i default).l.length:Int)) ⟨by omega,by omega⟩ ⟨by omega,by omega⟩
  exact LB.bl ((LB.md h ok sm hT hl i (by omega)).app (by omega)) (getD_in ok.m (s_ (i<u.m.length))).l ⟨ok.h,ok.x,ok.c⟩ q.1 (getD_in hT (s_ (i<T.length))).2 _ (AV_ _)
def linesU (u:Bun):List ByteArray:=mdK [bunS' u.inp u.cl u.m.length (endT (tabK u u.m.length) (tabK u u.m.length).length).al] u (tabK u u.m.length) u.m.length
theorem allC_bd {u:Bun} (sm:u.Sm) : -10000000000000≤(endT (tabK u u.m.length) (tabK u u.m.length).length).al∧(endT (tabK u u.m.length) (tabK u u.m.length).length).al≤10000000000000:=by
 have:=endT_bd (tabK_bd sm _ (AV_ _)) _ (AV_ _)
 have q:=tabK_len u u.m.length
 have:=sm.l
 omega
theorem linesU_lb {u:Bun} (ok:u.Ok) (sm:u.Sm):LB (linesU u):=by
 have q:=allC_bd sm
 have q2:=sm.l
 refine LB.md (fun s hs=>?_) ok sm (tabK_bd sm _ (AV_ _)) (tabK_len _ _) _ (AV_ _)
 rw[List.mem_singleton.1 hs]
 have:=bunS'_size (a:=u.inp) (cl:=u.cl) (n:=(u.m.length:Int)) (s:=(endT (tabK u u.m.length) (tabK u u.m.length).length).al) ⟨ok.h,ok.x,ok.c⟩ ok.cl ⟨by omega,by omega⟩ ⟨by omega,by omega⟩
 omega
theorem linesU_len {u:Bun} (sm:u.Sm):(linesU u).length=1+cnM u u.m.length∧(linesU u).length≤500:=by
 have:=cnM_le sm _ (AV_ _)
 have:=sm.l
 have e:(linesU u).length=1+cnM u u.m.length:=mdK_len _ _ _ _
 exact ⟨e,by omega⟩
noncomputable def rls_i_I (u:Bun) (T:List (List Int)) (i:Nat) (k:Nat):VS:=stt 199 [(1,.ptr 1 0 0),(5,.sl 1 (T.map intsC)),(7,i64 (endK (endT T i) (T.getD i default) k).al),(8,i64 i),(9,i64 k)] [(1,.var (bunC u))]
noncomputable def rls_i_Z (u:Bun) (T:List (List Int)) (i:Nat):VS:=rls_i_I u T i ((T.getD i default).length)
theorem rls_i_s (u:Bun) (T:List (List Int)) (i:Nat) (hi:i<T.length) (hl:T.length≤20) (hT:TB T) (k:Nat) (hk:k<(T.getD i default).length):VT N_ (fnC Tryz.f10 [1,1,1,1,0,1,0,0,1,0,0,1,0,0]) (rls_i_I u T i k) .normal (rls_i_I u T i (k+1)):=by
 obtain ⟨q1,q2⟩:=getD_in hT hi
 have q3:=endT_bd hT i (by omega)
 have q4:=endK_bd (s:=endT T i) q2 k
 have q5:=gt32 q2 k
 have oz0:=(s_ (0≤(↑i:Int)))
 have oz1:=(map_at (intsC) (default) (l:=T) (i:=i) hi)
 have oz6:=(map_at (row1 .i64) (0) (l:=T.getD i default) (i:=k) hk)
 have oz7:=(i6n ((endK (endT T i) (T.getD i default) k).al+(T.getD i default).getD k 0) (by omega))
 have oz9:=(M_ (k:=.i64) (show (((endK (endT T i) (T.getD i default) k).al+(T.getD i default).getD k 0):Int)=((endK (endT T i) (T.getD i default) (k+1)).al) from (by rfl)))
 exact tR_ [.r [] [.row (sO oz1)],b_,.r [] [.row (sO oz1),.row (sO oz6),.n (nO oz7)],.r [] [.n ((↑k:Int)+1)]] [.any (rg [(38,18)]),.weak 7 (wO oz9),.weak 9 (i64 (↑(k+1):Int)),.sort] (.c8 oz0 oz1 (show decide ((↑k:Int)<((K_ (row1 .i64) (T.getD i default)).length:Int))=true by (simp at *;omega)) oz0 oz1 (s_ (0≤(↑k:Int))) oz6 oz7<|.d3 (i6n ((↑k:Int)+1) (by omega)) oz9 (wS_ k))
theorem rls_i_e (u:Bun) (T:List (List Int)) (i:Nat) (hi:i<T.length) (hl:T.length≤20) (hT:TB T):VT N_ (fnC Tryz.f10 [1,1,1,1,0,1,0,0,1,0,0,1,0,0]) (rls_i_I u T i ((T.getD i default).length)) (.exit 2) (rls_i_Z u T i):=by
 obtain ⟨q1,q2⟩:=getD_in hT hi
 have oz1:=(map_at (intsC) (default) (l:=T) (i:=i) hi)
 exact tR_ [.r [] [.row (sO oz1)],d_] [.any (rg [(38,7)]),.sort] (.d3 (s_ (0≤(↑i:Int))) oz1 (show decide (((T.getD i default).length:Int)<((K_ (row1 .i64) (T.getD i default)).length:Int))=false by (simp;done)))
theorem rls_i (u:Bun) (T:List (List Int)) (i:Nat) (hi:i<T.length) (hl:T.length≤20) (hT:TB T):VT N_ (fnC Tryz.f10 [1,1,1,1,0,1,0,0,1,0,0,1,0]) (rls_i_I u T i 0) (.exit 2) (rls_i_Z u T i) :=
 VT.loop (fun k=>rls_i_I u T i k) ((T.getD i default).length) (fun k hk=>rls_i_s u T i hi hl hT k hk) (rls_i_e u T i hi hl hT) (by intro h;cases h)
noncomputable def rls_o_I (u:Bun) (T:List (List Int)) (k:Nat):VS:=stt 199 [(1,.ptr 1 0 0),(5,.sl 1 (T.map intsC)),(7,i64 (endT T k).al),(8,i64 k)] [(1,.var (bunC u))]
noncomputable def rls_o_Z (u:Bun) (T:List (List Int)):VS:=rls_o_I u T (T.length)
theorem rls_o_s (u:Bun) (T:List (List Int)) (hl:T.length≤20) (hT:TB T) (k:Nat) (hk:k<T.length):VT N_ (fnC Tryz.f10 [1,1,1,1,0,1,0,0]) (rls_o_I u T k) .normal (rls_o_I u T (k+1)):=by
 obtain ⟨q1,q2⟩:=getD_in hT hk
 have oz3:=@rls_i (u) (T) (k) hk hl hT
 have oz5:=(M_ (k:=.i64) (show (((endK (endT T k) (T.getD k default) (T.getD k default).length).al):Int)=((endT T (k+1)).al) from (by rfl)))
 exact tR_ [r_,b_,r_,.code [.any (rg [(32,4)]),.weak 7 (i64 (endK (endT T k) (T.getD k default) 0).al),.weak 9 (i64 (↑0:Int)),.sort] (AI_ 2) (zO oz3),.r [] [.n ((↑k:Int)+1)]] [.any [9,36,37],.weak 7 (wO oz5),.weak 8 (i64 (↑(k+1):Int)),.sort] (.d7 (show decide ((↑k:Int)<((K_ intsC T).length:Int))=true by (simp;omega)) (M_ (k:=.i64) (show (((endT T k).al):Int)=((endK (endT T k) (T.getD k default) 0).al) from (by rfl))) w0_ oz3 (i6n ((↑k:Int)+1) (by omega)) oz5 (wS_ k))
theorem rls_o_e (u:Bun) (T:List (List Int)) (hl:T.length≤20) (hT:TB T):VT N_ (fnC Tryz.f10 [1,1,1,1,0,1,0,0]) (rls_o_I u T (T.length)) (.exit 0) (rls_o_Z u T):=by
 exact tR_ [r_,d_] [.any (rg [(32,4)]),.sort] (.d (show decide ((T.length:Int)<((K_ intsC T).length:Int))=false by (simp;done)))
theorem rls_o (u:Bun) (T:List (List Int)) (hl:T.length≤20) (hT:TB T):VT N_ (fnC Tryz.f10 [1,1,1,1,0,1,0]) (rls_o_I u T 0) (.exit 0) (rls_o_Z u T) :=
 VT.loop (fun k=>rls_o_I u T k) (T.length) (fun k hk=>rls_o_s u T hl hT k hk) (rls_o_e u T hl hT) (by intro h;cases h)
noncomputable def rln_i_I (u:Bun) (T:List (List Int)) (i m:Nat) (A:List ByteArray) (l:List Blc) (S:List Shp) (a:Shp) (k:Nat):VS:=stt 199 [(1,.ptr 1 0 0),(5,.sl 1 (T.map intsC)),(10,.own 900),(11,i64 i),(12,.sl 5 (l.map blcC)),(13,.ptr 13 0 0),(14,i64 m),(16,.sl 3 (S.map shpC)),(19,i64 k)] [(1,.var (bunC u)),(13,.var (shpC a)),(900,.slc 9 1 ((ndK A (l.getD m default).n S k).map rowS))]
noncomputable def rln_i_Z (u:Bun) (T:List (List Int)) (i m:Nat) (A:List ByteArray) (l:List Blc) (S:List Shp) (a:Shp):VS:=rln_i_I u T i m A l S a ((l.getD m default).n.length)
theorem rln_i_s (u:Bun) (T:List (List Int)) (i m:Nat) (A:List ByteArray) (l:List Blc) (S:List Shp) (a:Shp) (hm:m<l.length) (hl:l.length≤8) (ok:∀ n∈(l.getD m default).n,n.Ok) (h12:(l.getD m default).n.length≤12) (oks:∀ a∈S,a.Ok) (hS:S.length=(l.getD m default).n.length+1) (hA:A.length≤500) (k:Nat) (hk:k<(l.getD m default).n.length):VT N_ (fnC Tryz.f10 [1,1,1,1,1,1,0,1,0,0,1,0,0,1,1,1,1,0,0,1,0,0,1,1,1,1,0,1,0,0]) (rln_i_I u T i m A l S a k) .normal (rln_i_I u T i m A l S a (k+1)):=by
 have q1:=getD_in ok hk
 have q2:=getD_in oks (s_ (k+1<S.length))
 have q3:=ndK_len A (l.getD m default).n S k
 have oz0:=(s_ (0≤(↑m:Int)))
 have oz1:=(map_at (blcC) (default) (l:=l) (i:=m) hm)
 have oz6:=(map_at (nodC) (default) (l:=(l.getD m default).n) (i:=k) hk)
 have oz7:=(i6n ((↑k:Int)+1) (by omega))
 have oz9:=(map_at (shpC) (default) (l:=S) (i:=((↑k:Int)+1).toNat) (by omega))
 have oz10:=@rnode50_v ((l.getD m default).n.getD k default) (S.getD ((↑k:Int)+1).toNat default) q1 (by (simp at *;omega))
 exact tR_ [.r [] [.row (sO oz1)],b_,.r [] [.row (sO oz1),.row (sO oz6),.n (nO oz7),.row (sO oz9),cr oz10],.r [] [.n (nO oz7)]] [.any (rg [(165,27)]),.drop [190],.ren 191 900,.weak 19 (i64 (↑(k+1):Int)),.blk 900 (Blk.slc 9 1 (K_ rowS (ndK A (l.getD m default).n S (k+1)))),.sort] (.c8 oz0 oz1 (show decide ((↑k:Int)<((K_ nodC (l.getD m default).n).length:Int))=true by (simp at *;omega)) oz0 oz1 (s_ (0≤(↑k:Int))) oz6 oz7<|.d8 (s_ (0≤(↑k:Int)+1)) oz9 oz10 (show ((K_ rowS (ndK A (l.getD m default).n S k)).length+1)*16≤140737488355328 by (simp only[Q_] at *;omega)) (show (K_ rowS (ndK A (l.getD m default).n S k)).length+1≤9223372036854775807 by (simp only[Q_] at *;omega)) oz7 (wS_ k) (show BlkW (Blk.slc 9 1 (K_ rowS (ndK A (l.getD m default).n S k)++[[AV.lit (L_ (nodeS ((l.getD m default).n.getD k default) (S.getD ((↑k:Int)+1).toNat default)))]])) (Blk.slc 9 1 (K_ rowS (ndK A (l.getD m default).n S (k+1)))) from (BZ_ (e:=9) (z:=1) (rows_to (rowS) (r:=K_ rowS (ndK A (l.getD m default).n S k)++[[AV.lit (L_ (nodeS ((l.getD m default).n.getD k default) (S.getD ((↑k:Int)+1).toNat default)))]]) (l:=ndK A (l.getD m default).n S k++[nodeS ((l.getD m default).n.getD k default) (S.getD ((↑k:Int)+1).toNat default)]) (m:=ndK A (l.getD m default).n S (k+1)) (by first|(simp only[X_,Z_,AL_,AM_,V_,D_,AK_];done)|rfl|(simp only[X_,Z_,AL_,AM_,V_,D_,AK_];rfl)|(simp only[X_,Z_,AL_,AM_,V_,D_,AK_,rowS,ints];done)) (show (ndK A (l.getD m default).n S k++[nodeS ((l.getD m default).n.getD k default) (S.getD ((↑k:Int)+1).toNat default)])=(ndK A (l.getD m default).n S (k+1)) from (by rfl))))))
theorem rln_i_e (u:Bun) (T:List (List Int)) (i m:Nat) (A:List ByteArray) (l:List Blc) (S:List Shp) (a:Shp) (hm:m<l.length) (hl:l.length≤8) (ok:∀ n∈(l.getD m default).n,n.Ok) (h12:(l.getD m default).n.length≤12) (oks:∀ a∈S,a.Ok) (hS:S.length=(l.getD m default).n.length+1) (hA:A.length≤500):VT N_ (fnC Tryz.f10 [1,1,1,1,1,1,0,1,0,0,1,0,0,1,1,1,1,0,0,1,0,0,1,1,1,1,0,1,0,0]) (rln_i_I u T i m A l S a ((l.getD m default).n.length)) (.exit 8) (rln_i_Z u T i m A l S a):=by
 have oz1:=(map_at (blcC) (default) (l:=l) (i:=m) hm)
 exact tR_ [.r [] [.row (sO oz1)],d_] [.any (rg [(165,8)]),.sort] (.d3 (s_ (0≤(↑m:Int))) oz1 (show decide ((↑(l.getD m default).n.length:Int)<((K_ nodC (l.getD m default).n).length:Int))=false by (simp;done)))
theorem rln_i (u:Bun) (T:List (List Int)) (i m:Nat) (A:List ByteArray) (l:List Blc) (S:List Shp) (a:Shp) (hm:m<l.length) (hl:l.length≤8) (ok:∀ n∈(l.getD m default).n,n.Ok) (h12:(l.getD m default).n.length≤12) (oks:∀ a∈S,a.Ok) (hS:S.length=(l.getD m default).n.length+1) (hA:A.length≤500):VT N_ (fnC Tryz.f10 [1,1,1,1,1,1,0,1,0,0,1,0,0,1,1,1,1,0,0,1,0,0,1,1,1,1,0,1,0]) (rln_i_I u T i m A l S a 0) (.exit 8) (rln_i_Z u T i m A l S a) :=
 VT.loop (fun k=>rln_i_I u T i m A l S a k) ((l.getD m default).n.length) (fun k hk=>rln_i_s u T i m A l S a hm hl ok h12 oks hS hA k hk) (rln_i_e u T i m A l S a hm hl ok h12 oks hS hA) (by intro h;cases h)
noncomputable def rln_m_I (u:Bun) (T:List (List Int)) (i:Nat) (A:List ByteArray) (l:List Blc) (a:Shp) (k:Nat):VS:=stt 199 [(1,.ptr 1 0 0),(5,.sl 1 (T.map intsC)),(10,.own 900),(11,i64 i),(12,.sl 5 (l.map blcC)),(13,.ptr 13 0 0),(14,i64 k)] [(1,.var (bunC u)),(13,.var (shpC (inS l a k))),(900,.slc 9 1 ((blK A l a (T.getD i default) k).map rowS))]
noncomputable def rln_m_Z (u:Bun) (T:List (List Int)) (i:Nat) (A:List ByteArray) (l:List Blc) (a:Shp):VS:=rln_m_I u T i A l a (l.length)
theorem rln_m_s (u:Bun) (T:List (List Int)) (i:Nat) (A:List ByteArray) (l:List Blc) (a:Shp) (hi:i<T.length) (hT:TB T) (ht:(T.getD i default).length=l.length) (hl:l.length≤8) (ok:∀ x∈l,x.Ok) (sm:∀ x∈l,x.Sm) (oka:a.Ok) (h:MOK l a) (hA:A.length≤350) (k:Nat) (hk:k<l.length):VT N_ (fnC Tryz.f10 [1,1,1,1,1,1,0,1,0,0,1,0,0,1,1,1,1,0,0]) (rln_m_I u T i A l a k) .normal (rln_m_I u T i A l a (k+1)):=by
 obtain ⟨p1,p2⟩:=getD_in hT hi
 have p3:=gt32 p2 k
 have q:=h k hk
 have q2:=getD_in ok hk
 have q3:=getD_in sm hk
 have q4:=inS_ok (l:=l) oka k
 have q5:=q2.n
 have q6:=q3.s
 have q7:=q3.l
 have q8:=q2.nd
 have r1:=dg_size (n:=(k:Int)) ⟨by omega,by omega⟩
 have r2:=dg_size (n:=(T.getD i default).getD k 0) ⟨by omega,by omega⟩
 have r3:=dg_size (n:=(l.getD k default).nd) ⟨by omega,by omega⟩
 have r4:=blK_len A l a (T.getD i default) k
 have r5:=cnB_le (fun x hx=>(sm x hx).l) k (by omega)
 have r6:=shpsL_len (l.getD k default).n (inS l a k)
 have r7:∀ b∈shpsL (l.getD k default).n (inS l a k),b.Ok:=grow_ok q4 _
 have l1:=growL_len nextE (l.getD k default).n (inS l a k) (l.getD k default).n.length
 have l3:(K_ shpC (growL nextE (l.getD k default).n (inS l a k) (l.getD k default).n.length)).length=(growL nextE (l.getD k default).n (inS l a k) (l.getD k default).n.length).length:=Q_ _
 have i1:(((K_ shpC (growL nextE (l.getD k default).n (inS l a k) (l.getD k default).n.length)).length:Int)-1).toNat=(l.getD k default).n.length:=by omega
 have oz0:=(show decide ((↑k:Int)<((K_ blcC l).length:Int))=true by (simp;omega))
 have oz1:=@rdigits_v ((↑k:Int)) (by omega)
 have oz2:=(show BinTo N_ BinOp.add 9 (Operand.const (L_ (ByteArray.mk #[32,98,108,111,99,107,32]))) (Operand.tmp 109) (L_ (ByteArray.mk #[32,98,108,111,99,107,32])) (L_ (dg (↑k:Int))) (L_ (ByteArray.mk #[32,98,108,111,99,107,32]++dg (↑k:Int))) from (bin_add (by (simp only[bapp_size,lit_size,AO_,AS_];omega))))
 have oz3:=(show BinTo N_ BinOp.add 9 (Operand.tmp 110) (Operand.const (L_ (ByteArray.mk #[32,99,111,115,116,32]))) (L_ (ByteArray.mk #[32,98,108,111,99,107,32]++dg (↑k:Int))) (L_ (ByteArray.mk #[32,99,111,115,116,32])) (L_ (ByteArray.mk #[32,98,108,111,99,107,32]++dg (↑k:Int)++ByteArray.mk #[32,99,111,115,116,32])) from (bin_add (by (simp only[bapp_size,lit_size,AO_,AS_];omega))))
 have oz4:=(s_ (0≤(↑i:Int)))
 have oz5:=(map_at (intsC) (default) (l:=T) (i:=i) hi)
 have oz6:=(s_ (0≤(↑k:Int)))
 have oz7:=(map_at (row1 .i64) (0) (l:=T.getD i default) (i:=k) (by omega))
 have oz8:=@rdigits_v ((T.getD i default).getD k 0) (by omega)
 have oz9:=(show BinTo N_ BinOp.add 9 (Operand.tmp 111) (Operand.tmp 119) (L_ (ByteArray.mk #[32,98,108,111,99,107,32]++dg (↑k:Int)++ByteArray.mk #[32,99,111,115,116,32])) (L_ (dg ((T.getD i default).getD k 0))) (L_ (ByteArray.mk #[32,98,108,111,99,107,32]++dg (↑k:Int)++ByteArray.mk #[32,99,111,115,116,32]++dg ((T.getD i default).getD k 0))) from (bin_add (by (simp only[bapp_size,lit_size,AO_,AS_];omega))))
 have oz10:=(show BinTo N_ BinOp.add 9 (Operand.tmp 120) (Operand.const (L_ (ByteArray.mk #[32,116,104,114,111,117,103,104]))) (L_ (ByteArray.mk #[32,98,108,111,99,107,32]++dg (↑k:Int)++ByteArray.mk #[32,99,111,115,116,32]++dg ((T.getD i default).getD k 0))) (L_ (ByteArray.mk #[32,116,104,114,111,117,103,104])) (L_ (ByteArray.mk #[32,98,108,111,99,107,32]++dg (↑k:Int)++ByteArray.mk #[32,99,111,115,116,32]++dg ((T.getD i default).getD k 0)++ByteArray.mk #[32,116,104,114,111,117,103,104])) from (bin_add (by (simp only[bapp_size,lit_size,AO_,AS_];omega))))
 have oz12:=(map_at (blcC) (default) (l:=l) (i:=k) hk)
 rcases bft ((l.getD k default).ex) with hc0|hc0
 ·have gc0:(l.getD k default).ex=true:=by first|exact hc0|exact of_decide_eq_true hc0|exact of_decide_eq_false hc0|simpa [eqNums] using hc0|(simp[eqNums] at hc0 ⊢;first|done|assumption|omega)
  have oz27:=@rdigits_v ((l.getD k default).nd) (by omega)
  have oz33:=@rshapes_y ((l.getD k default).n) (inS l a k) q5 q6 q
  have oz36:=@rln_i (u) (T) (i) (k) (blK A l a (T.getD i default) k++[ByteArray.mk #[32,98,108,111,99,107,32]++dg (↑k:Int)++ByteArray.mk #[32,99,111,115,116,32]++dg ((T.getD i default).getD k 0)++ByteArray.mk #[32,101,120,105,116,32]++dg (l.getD k default).nd]) (l) (growL nextE (l.getD k default).n (inS l a k) (l.getD k default).n.length) (inS l a k) hk hl q5 q7 r7 r6 (by (simp only[AW_,AO_,AS_];omega))
  have oz37:=(i6n (((K_ shpC (growL nextE (l.getD k default).n (inS l a k) (l.getD k default).n.length)).length:Int)-1) (by omega))
  have oz39:=(map_at (shpC) (default) (l:=growL nextE (l.getD k default).n (inS l a k) (l.getD k default).n.length) (i:=(((K_ shpC (growL nextE (l.getD k default).n (inS l a k) (l.getD k default).n.length)).length:Int)-1).toNat) (by omega))
  exact tR_ [r_,b_,.r [] [cr oz1,.v (L_ (ByteArray.mk #[32,98,108,111,99,107,32]++dg (↑k:Int))),.v (L_ (ByteArray.mk #[32,98,108,111,99,107,32]++dg (↑k:Int)++ByteArray.mk #[32,99,111,115,116,32])),.row (sO oz5),.row (sO oz7),cr oz8,.v (L_ (ByteArray.mk #[32,98,108,111,99,107,32]++dg (↑k:Int)++ByteArray.mk #[32,99,111,115,116,32]++dg ((T.getD i default).getD k 0))),.v (L_ (ByteArray.mk #[32,98,108,111,99,107,32]++dg (↑k:Int)++ByteArray.mk #[32,99,111,115,116,32]++dg ((T.getD i default).getD k 0)++ByteArray.mk #[32,116,104,114,111,117,103,104]))],.r [] [.row (sO oz12)],b_,.r [] [cr oz1,.v (L_ (ByteArray.mk #[32,98,108,111,99,107,32]++dg (↑k:Int))),.v (L_ (ByteArray.mk #[32,98,108,111,99,107,32]++dg (↑k:Int)++ByteArray.mk #[32,99,111,115,116,32])),.row (sO oz5),.row (sO oz7),cr oz8,.v (L_ (ByteArray.mk #[32,98,108,111,99,107,32]++dg (↑k:Int)++ByteArray.mk #[32,99,111,115,116,32]++dg ((T.getD i default).getD k 0))),.v (L_ (ByteArray.mk #[32,98,108,111,99,107,32]++dg (↑k:Int)++ByteArray.mk #[32,99,111,115,116,32]++dg ((T.getD i default).getD k 0)++ByteArray.mk #[32,101,120,105,116,32])),.row (sO oz12),.n (l.getD k default).nd,cr oz27,.v (L_ (ByteArray.mk #[32,98,108,111,99,107,32]++dg (↑k:Int)++ByteArray.mk #[32,99,111,115,116,32]++dg ((T.getD i default).getD k 0)++ByteArray.mk #[32,101,120,105,116,32]++dg (l.getD k default).nd))],r_,.r [] [.row (sO oz12),cr oz33],r_,.code [.any (rg [(15,1),(17,2),(102,4),(108,57)]),.drop [152],.ren 153 900,.weak 19 (i64 (↑0:Int)),.blk 900 (Blk.slc 9 1 (K_ rowS (ndK (blK A l a (T.getD i default) k++[ByteArray.mk #[32,98,108,111,99,107,32]++dg (↑k:Int)++ByteArray.mk #[32,99,111,115,116,32]++dg ((T.getD i default).getD k 0)++ByteArray.mk #[32,101,120,105,116,32]++dg (l.getD k default).nd]) (l.getD k default).n (growL nextE (l.getD k default).n (inS l a k) (l.getD k default).n.length) 0))),.sort] (AI_ 8) (zO oz36),.r [] [.n (nO oz37),.row (sO oz39)],.r [] [.n ((↑k:Int)+1)]] [.any (rg [(16,1),(19,1),(106,2),(192,6)]),.weak 14 (i64 (↑(k+1):Int)),.blk 13 (Blk.var [i64 (inS l a (k+1)).h,i64 (inS l a (k+1)).x,i64 (inS l a (k+1)).c]),.blk 900 (Blk.slc 9 1 (K_ rowS (blK A l a (T.getD i default) (k+1)))),.sort] (.c8 oz0 oz1 oz2 oz3 oz4 oz5 oz6 oz7<|.c8 oz8 oz9 oz10 oz6 oz12 hc0 oz1 (show BinTo N_ BinOp.add 9 (Operand.const (L_ (ByteArray.mk #[32,98,108,111,99,107,32]))) (Operand.tmp 128) (L_ (ByteArray.mk #[32,98,108,111,99,107,32])) (L_ (dg (↑k:Int))) (L_ (ByteArray.mk #[32,98,108,111,99,107,32]++dg (↑k:Int))) from (bin_add (by (simp only[bapp_size,lit_size,AO_,AS_];omega))))<|.c8 (show BinTo N_ BinOp.add 9 (Operand.tmp 129) (Operand.const (L_ (ByteArray.mk #[32,99,111,115,116,32]))) (L_ (ByteArray.mk #[32,98,108,111,99,107,32]++dg (↑k:Int))) (L_ (ByteArray.mk #[32,99,111,115,116,32])) (L_ (ByteArray.mk #[32,98,108,111,99,107,32]++dg (↑k:Int)++ByteArray.mk #[32,99,111,115,116,32])) from (bin_add (by (simp only[bapp_size,lit_size,AO_,AS_];omega)))) oz4 oz5 oz6 oz7 oz8 (show BinTo N_ BinOp.add 9 (Operand.tmp 130) (Operand.tmp 138) (L_ (ByteArray.mk #[32,98,108,111,99,107,32]++dg (↑k:Int)++ByteArray.mk #[32,99,111,115,116,32])) (L_ (dg ((T.getD i default).getD k 0))) (L_ (ByteArray.mk #[32,98,108,111,99,107,32]++dg (↑k:Int)++ByteArray.mk #[32,99,111,115,116,32]++dg ((T.getD i default).getD k 0))) from (bin_add (by (simp only[bapp_size,lit_size,AO_,AS_];omega)))) (show BinTo N_ BinOp.add 9 (Operand.tmp 139) (Operand.const (L_ (ByteArray.mk #[32,101,120,105,116,32]))) (L_ (ByteArray.mk #[32,98,108,111,99,107,32]++dg (↑k:Int)++ByteArray.mk #[32,99,111,115,116,32]++dg ((T.getD i default).getD k 0))) (L_ (ByteArray.mk #[32,101,120,105,116,32])) (L_ (ByteArray.mk #[32,98,108,111,99,107,32]++dg (↑k:Int)++ByteArray.mk #[32,99,111,115,116,32]++dg ((T.getD i default).getD k 0)++ByteArray.mk #[32,101,120,105,116,32])) from (bin_add (by (simp only[bapp_size,lit_size,AO_,AS_];omega))))<|.c8 oz6 oz12 (i6n (l.getD k default).nd (by omega)) oz27 (show BinTo N_ BinOp.add 9 (Operand.tmp 140) (Operand.tmp 148) (L_ (ByteArray.mk #[32,98,108,111,99,107,32]++dg (↑k:Int)++ByteArray.mk #[32,99,111,115,116,32]++dg ((T.getD i default).getD k 0)++ByteArray.mk #[32,101,120,105,116,32])) (L_ (dg (l.getD k default).nd)) (L_ (ByteArray.mk #[32,98,108,111,99,107,32]++dg (↑k:Int)++ByteArray.mk #[32,99,111,115,116,32]++dg ((T.getD i default).getD k 0)++ByteArray.mk #[32,101,120,105,116,32]++dg (l.getD k default).nd)) from (bin_add (by (simp only[bapp_size,lit_size,AO_,AS_];omega)))) (show ((K_ rowS (blK A l a (T.getD i default) k)).length+1)*16≤140737488355328 by (simp only[Q_] at *;omega)) (show (K_ rowS (blK A l a (T.getD i default) k)).length+1≤9223372036854775807 by (simp only[Q_] at *;omega)) oz6<|.c8 oz12 oz33 w0_ (show BlkW (Blk.slc 9 1 (K_ rowS (blK A l a (T.getD i default) k)++[[AV.lit (L_ (ByteArray.mk #[32,98,108,111,99,107,32]++dg (↑k:Int)++ByteArray.mk #[32,99,111,115,116,32]++dg ((T.getD i default).getD k 0)++ByteArray.mk #[32,101,120,105,116,32]++dg (l.getD k default).nd))]])) (Blk.slc 9 1 (K_ rowS (ndK (blK A l a (T.getD i default) k++[ByteArray.mk #[32,98,108,111,99,107,32]++dg (↑k:Int)++ByteArray.mk #[32,99,111,115,116,32]++dg ((T.getD i default).getD k 0)++ByteArray.mk #[32,101,120,105,116,32]++dg (l.getD k default).nd]) (l.getD k default).n (growL nextE (l.getD k default).n (inS l a k) (l.getD k default).n.length) 0))) from (BZ_ (e:=9) (z:=1) (rows_to (rowS) (r:=K_ rowS (blK A l a (T.getD i default) k)++[[AV.lit (L_ (ByteArray.mk #[32,98,108,111,99,107,32]++dg (↑k:Int)++ByteArray.mk #[32,99,111,115,116,32]++dg ((T.getD i default).getD k 0)++ByteArray.mk #[32,101,120,105,116,32]++dg (l.getD k default).nd))]]) (l:=blK A l a (T.getD i default) k++[ByteArray.mk #[32,98,108,111,99,107,32]++dg (↑k:Int)++ByteArray.mk #[32,99,111,115,116,32]++dg ((T.getD i default).getD k 0)++ByteArray.mk #[32,101,120,105,116,32]++dg (l.getD k default).nd]) (m:=ndK (blK A l a (T.getD i default) k++[ByteArray.mk #[32,98,108,111,99,107,32]++dg (↑k:Int)++ByteArray.mk #[32,99,111,115,116,32]++dg ((T.getD i default).getD k 0)++ByteArray.mk #[32,101,120,105,116,32]++dg (l.getD k default).nd]) (l.getD k default).n (growL nextE (l.getD k default).n (inS l a k) (l.getD k default).n.length) 0) (by first|(simp only[X_,Z_,AL_,AM_,V_,D_,AK_];done)|rfl|(simp only[X_,Z_,AL_,AM_,V_,D_,AK_];rfl)|(simp only[X_,Z_,AL_,AM_,V_,D_,AK_,rowS,ints];done)) (show (blK A l a (T.getD i default) k++[ByteArray.mk #[32,98,108,111,99,107,32]++dg (↑k:Int)++ByteArray.mk #[32,99,111,115,116,32]++dg ((T.getD i default).getD k 0)++ByteArray.mk #[32,101,120,105,116,32]++dg (l.getD k default).nd])=(ndK (blK A l a (T.getD i default) k++[ByteArray.mk #[32,98,108,111,99,107,32]++dg (↑k:Int)++ByteArray.mk #[32,99,111,115,116,32]++dg ((T.getD i default).getD k 0)++ByteArray.mk #[32,101,120,105,116,32]++dg (l.getD k default).nd]) (l.getD k default).n (growL nextE (l.getD k default).n (inS l a k) (l.getD k default).n.length) 0) from (by rfl))))) oz36 oz37 (s_ (0≤((K_ shpC (growL nextE (l.getD k default).n (inS l a k) (l.getD k default).n.length)).length:Int)-1)) oz39<|.d4 (i6n ((↑k:Int)+1) (by omega)) (wS_ k) (show BlkW (Blk.var [i64 ((growL nextE (l.getD k default).n (inS l a k) (l.getD k default).n.length).getD (((K_ shpC (growL nextE (l.getD k default).n (inS l a k) (l.getD k default).n.length)).length:Int)-1).toNat default).h,i64 ((growL nextE (l.getD k default).n (inS l a k) (l.getD k default).n.length).getD (((K_ shpC (growL nextE (l.getD k default).n (inS l a k) (l.getD k default).n.length)).length:Int)-1).toNat default).x,i64 ((growL nextE (l.getD k default).n (inS l a k) (l.getD k default).n.length).getD (((K_ shpC (growL nextE (l.getD k default).n (inS l a k) (l.getD k default).n.length)).length:Int)-1).toNat default).c]) (Blk.var [i64 (inS l a (k+1)).h,i64 (inS l a (k+1)).x,i64 (inS l a (k+1)).c]) from (BlkW.var (m:=[i64 (inS l a (k+1)).h,i64 (inS l a (k+1)).x,i64 (inS l a (k+1)).c]) (.cons (M_ (by (rw[i1]<;>rfl))) (.cons (M_ (by (rw[i1]<;>rfl))) (.cons (M_ (by (rw[i1]<;>rfl))) .nil))))) (show BlkW (Blk.slc 9 1 (K_ rowS (ndK (blK A l a (T.getD i default) k++[ByteArray.mk #[32,98,108,111,99,107,32]++dg (↑k:Int)++ByteArray.mk #[32,99,111,115,116,32]++dg ((T.getD i default).getD k 0)++ByteArray.mk #[32,101,120,105,116,32]++dg (l.getD k default).nd]) (l.getD k default).n (growL nextE (l.getD k default).n (inS l a k) (l.getD k default).n.length) (l.getD k default).n.length))) (Blk.slc 9 1 (K_ rowS (blK A l a (T.getD i default) (k+1)))) from (BZ_ (e:=9) (z:=1) (rows_to (rowS) (r:=K_ rowS (ndK (blK A l a (T.getD i default) k++[ByteArray.mk #[32,98,108,111,99,107,32]++dg (↑k:Int)++ByteArray.mk #[32,99,111,115,116,32]++dg ((T.getD i default).getD k 0)++ByteArray.mk #[32,101,120,105,116,32]++dg (l.getD k default).nd]) (l.getD k default).n (growL nextE (l.getD k default).n (inS l a k) (l.getD k default).n.length) (l.getD k default).n.length)) (l:=ndK (blK A l a (T.getD i default) k++[ByteArray.mk #[32,98,108,111,99,107,32]++dg (↑k:Int)++ByteArray.mk #[32,99,111,115,116,32]++dg ((T.getD i default).getD k 0)++ByteArray.mk #[32,101,120,105,116,32]++dg (l.getD k default).nd]) (l.getD k default).n (growL nextE (l.getD k default).n (inS l a k) (l.getD k default).n.length) (l.getD k default).n.length) (m:=blK A l a (T.getD i default) (k+1)) rfl (show (ndK (blK A l a (T.getD i default) k++[ByteArray.mk #[32,98,108,111,99,107,32]++dg (↑k:Int)++ByteArray.mk #[32,99,111,115,116,32]++dg ((T.getD i default).getD k 0)++ByteArray.mk #[32,101,120,105,116,32]++dg (l.getD k default).nd]) (l.getD k default).n (growL nextE (l.getD k default).n (inS l a k) (l.getD k default).n.length) (l.getD k default).n.length)=(blK A l a (T.getD i default) (k+1)) from (by (rw[blK];unfold blkS;rw[i_ (by assumption)])))))))
 ·have gc0:(l.getD k default).ex=false:=by first|exact hc0|exact of_decide_eq_true hc0|exact of_decide_eq_false hc0|simpa [eqNums] using hc0|(simp[eqNums] at hc0 ⊢;first|done|assumption|omega)
  have oz18:=@rshapes_y ((l.getD k default).n) (inS l a k) q5 q6 q
  have oz21:=@rln_i (u) (T) (i) (k) (blK A l a (T.getD i default) k++[ByteArray.mk #[32,98,108,111,99,107,32]++dg (↑k:Int)++ByteArray.mk #[32,99,111,115,116,32]++dg ((T.getD i default).getD k 0)++ByteArray.mk #[32,116,104,114,111,117,103,104]]) (l) (growL nextE (l.getD k default).n (inS l a k) (l.getD k default).n.length) (inS l a k) hk hl q5 q7 r7 r6 (by (simp only[AW_,AO_,AS_];omega))
  have oz22:=(i6n (((K_ shpC (growL nextE (l.getD k default).n (inS l a k) (l.getD k default).n.length)).length:Int)-1) (by omega))
  have oz24:=(map_at (shpC) (default) (l:=growL nextE (l.getD k default).n (inS l a k) (l.getD k default).n.length) (i:=(((K_ shpC (growL nextE (l.getD k default).n (inS l a k) (l.getD k default).n.length)).length:Int)-1).toNat) (by omega))
  exact tR_ [r_,b_,.r [] [cr oz1,.v (L_ (ByteArray.mk #[32,98,108,111,99,107,32]++dg (↑k:Int))),.v (L_ (ByteArray.mk #[32,98,108,111,99,107,32]++dg (↑k:Int)++ByteArray.mk #[32,99,111,115,116,32])),.row (sO oz5),.row (sO oz7),cr oz8,.v (L_ (ByteArray.mk #[32,98,108,111,99,107,32]++dg (↑k:Int)++ByteArray.mk #[32,99,111,115,116,32]++dg ((T.getD i default).getD k 0))),.v (L_ (ByteArray.mk #[32,98,108,111,99,107,32]++dg (↑k:Int)++ByteArray.mk #[32,99,111,115,116,32]++dg ((T.getD i default).getD k 0)++ByteArray.mk #[32,116,104,114,111,117,103,104]))],.r [] [.row (sO oz12)],d_,r_,.r [] [.row (sO oz12),cr oz18],r_,.code [.any (rg [(15,1),(17,2),(102,4),(108,19),(150,15)]),.drop [152],.ren 153 900,.weak 19 (i64 (↑0:Int)),.blk 900 (Blk.slc 9 1 (K_ rowS (ndK (blK A l a (T.getD i default) k++[ByteArray.mk #[32,98,108,111,99,107,32]++dg (↑k:Int)++ByteArray.mk #[32,99,111,115,116,32]++dg ((T.getD i default).getD k 0)++ByteArray.mk #[32,116,104,114,111,117,103,104]]) (l.getD k default).n (growL nextE (l.getD k default).n (inS l a k) (l.getD k default).n.length) 0))),.sort] (AI_ 8) (zO oz21),.r [] [.n (nO oz22),.row (sO oz24)],.r [] [.n ((↑k:Int)+1)]] [.any (rg [(16,1),(19,1),(106,2),(192,6)]),.weak 14 (i64 (↑(k+1):Int)),.blk 13 (Blk.var [i64 (inS l a (k+1)).h,i64 (inS l a (k+1)).x,i64 (inS l a (k+1)).c]),.blk 900 (Blk.slc 9 1 (K_ rowS (blK A l a (T.getD i default) (k+1)))),.sort] (.c8 oz0 oz1 oz2 oz3 oz4 oz5 oz6 oz7<|.c8 oz8 oz9 oz10 oz6 oz12 hc0 (show ((K_ rowS (blK A l a (T.getD i default) k)).length+1)*16≤140737488355328 by (simp only[Q_] at *;omega)) (show (K_ rowS (blK A l a (T.getD i default) k)).length+1≤9223372036854775807 by (simp only[Q_] at *;omega))<|.c8 oz6 oz12 oz18 w0_ (show BlkW (Blk.slc 9 1 (K_ rowS (blK A l a (T.getD i default) k)++[[AV.lit (L_ (ByteArray.mk #[32,98,108,111,99,107,32]++dg (↑k:Int)++ByteArray.mk #[32,99,111,115,116,32]++dg ((T.getD i default).getD k 0)++ByteArray.mk #[32,116,104,114,111,117,103,104]))]])) (Blk.slc 9 1 (K_ rowS (ndK (blK A l a (T.getD i default) k++[ByteArray.mk #[32,98,108,111,99,107,32]++dg (↑k:Int)++ByteArray.mk #[32,99,111,115,116,32]++dg ((T.getD i default).getD k 0)++ByteArray.mk #[32,116,104,114,111,117,103,104]]) (l.getD k default).n (growL nextE (l.getD k default).n (inS l a k) (l.getD k default).n.length) 0))) from (BZ_ (e:=9) (z:=1) (rows_to (rowS) (r:=K_ rowS (blK A l a (T.getD i default) k)++[[AV.lit (L_ (ByteArray.mk #[32,98,108,111,99,107,32]++dg (↑k:Int)++ByteArray.mk #[32,99,111,115,116,32]++dg ((T.getD i default).getD k 0)++ByteArray.mk #[32,116,104,114,111,117,103,104]))]]) (l:=blK A l a (T.getD i default) k++[ByteArray.mk #[32,98,108,111,99,107,32]++dg (↑k:Int)++ByteArray.mk #[32,99,111,115,116,32]++dg ((T.getD i default).getD k 0)++ByteArray.mk #[32,116,104,114,111,117,103,104]]) (m:=ndK (blK A l a (T.getD i default) k++[ByteArray.mk #[32,98,108,111,99,107,32]++dg (↑k:Int)++ByteArray.mk #[32,99,111,115,116,32]++dg ((T.getD i default).getD k 0)++ByteArray.mk #[32,116,104,114,111,117,103,104]]) (l.getD k default).n (growL nextE (l.getD k default).n (inS l a k) (l.getD k default).n.length) 0) (by first|(simp only[X_,Z_,AL_,AM_,V_,D_,AK_];done)|rfl|(simp only[X_,Z_,AL_,AM_,V_,D_,AK_];rfl)|(simp only[X_,Z_,AL_,AM_,V_,D_,AK_,rowS,ints];done)) (show (blK A l a (T.getD i default) k++[ByteArray.mk #[32,98,108,111,99,107,32]++dg (↑k:Int)++ByteArray.mk #[32,99,111,115,116,32]++dg ((T.getD i default).getD k 0)++ByteArray.mk #[32,116,104,114,111,117,103,104]])=(ndK (blK A l a (T.getD i default) k++[ByteArray.mk #[32,98,108,111,99,107,32]++dg (↑k:Int)++ByteArray.mk #[32,99,111,115,116,32]++dg ((T.getD i default).getD k 0)++ByteArray.mk #[32,116,104,114,111,117,103,104]]) (l.getD k default).n (growL nextE (l.getD k default).n (inS l a k) (l.getD k default).n.length) 0) from (by rfl))))) oz21 oz22 (s_ (0≤((K_ shpC (growL nextE (l.getD k default).n (inS l a k) (l.getD k default).n.length)).length:Int)-1))<|.d5 oz24 (i6n ((↑k:Int)+1) (by omega)) (wS_ k) (show BlkW (Blk.var [i64 ((growL nextE (l.getD k default).n (inS l a k) (l.getD k default).n.length).getD (((K_ shpC (growL nextE (l.getD k default).n (inS l a k) (l.getD k default).n.length)).length:Int)-1).toNat default).h,i64 ((growL nextE (l.getD k default).n (inS l a k) (l.getD k default).n.length).getD (((K_ shpC (growL nextE (l.getD k default).n (inS l a k) (l.getD k default).n.length)).length:Int)-1).toNat default).x,i64 ((growL nextE (l.getD k default).n (inS l a k) (l.getD k default).n.length).getD (((K_ shpC (growL nextE (l.getD k default).n (inS l a k) (l.getD k default).n.length)).length:Int)-1).toNat default).c]) (Blk.var [i64 (inS l a (k+1)).h,i64 (inS l a (k+1)).x,i64 (inS l a (k+1)).c]) from (BlkW.var (m:=[i64 (inS l a (k+1)).h,i64 (inS l a (k+1)).x,i64 (inS l a (k+1)).c]) (.cons (M_ (by (rw[i1]<;>rfl))) (.cons (M_ (by (rw[i1]<;>rfl))) (.cons (M_ (by (rw[i1]<;>rfl))) .nil))))) (show BlkW (Blk.slc 9 1 (K_ rowS (ndK (blK A l a (T.getD i default) k++[ByteArray.mk #[32,98,108,111,99,107,32]++dg (↑k:Int)++ByteArray.mk #[32,99,111,115,116,32]++dg ((T.getD i default).getD k 0)++ByteArray.mk #[32,116,104,114,111,117,103,104]]) (l.getD k default).n (growL nextE (l.getD k default).n (inS l a k) (l.getD k default).n.length) (l.getD k default).n.length))) (Blk.slc 9 1 (K_ rowS (blK A l a (T.getD i default) (k+1)))) from (BZ_ (e:=9) (z:=1) (rows_to (rowS) (r:=K_ rowS (ndK (blK A l a (T.getD i default) k++[ByteArray.mk #[32,98,108,111,99,107,32]++dg (↑k:Int)++ByteArray.mk #[32,99,111,115,116,32]++dg ((T.getD i default).getD k 0)++ByteArray.mk #[32,116,104,114,111,117,103,104]]) (l.getD k default).n (growL nextE (l.getD k default).n (inS l a k) (l.getD k default).n.length) (l.getD k default).n.length)) (l:=ndK (blK A l a (T.getD i default) k++[ByteArray.mk #[32,98,108,111,99,107,32]++dg (↑k:Int)++ByteArray.mk #[32,99,111,115,116,32]++dg ((T.getD i default).getD k 0)++ByteArray.mk #[32,116,104,114,111,117,103,104]]) (l.getD k default).n (growL nextE (l.getD k default).n (inS l a k) (l.getD k default).n.length) (l.getD k default).n.length) (m:=blK A l a (T.getD i default) (k+1)) rfl (show (ndK (blK A l a (T.getD i default) k++[ByteArray.mk #[32,98,108,111,99,107,32]++dg (↑k:Int)++ByteArray.mk #[32,99,111,115,116,32]++dg ((T.getD i default).getD k 0)++ByteArray.mk #[32,116,104,114,111,117,103,104]]) (l.getD k default).n (growL nextE (l.getD k default).n (inS l a k) (l.getD k default).n.length) (l.getD k default).n.length)=(blK A l a (T.getD i default) (k+1)) from (by (rw[blK];unfold blkS;rw[j_ (by simp_all)])))))))
theorem rln_m_e (u:Bun) (T:List (List Int)) (i:Nat) (A:List ByteArray) (l:List Blc) (a:Shp) (hi:i<T.length) (hT:TB T) (ht:(T.getD i default).length=l.length) (hl:l.length≤8) (ok:∀ x∈l,x.Ok) (sm:∀ x∈l,x.Sm) (oka:a.Ok) (h:MOK l a) (hA:A.length≤350):VT N_ (fnC Tryz.f10 [1,1,1,1,1,1,0,1,0,0,1,0,0,1,1,1,1,0,0]) (rln_m_I u T i A l a (l.length)) (.exit 6) (rln_m_Z u T i A l a):=by
 exact tR_ [r_,d_] [.any (rg [(102,4)]),.sort] (.d (show decide ((l.length:Int)<((K_ blcC l).length:Int))=false by (simp;done)))
theorem rln_m (u:Bun) (T:List (List Int)) (i:Nat) (A:List ByteArray) (l:List Blc) (a:Shp) (hi:i<T.length) (hT:TB T) (ht:(T.getD i default).length=l.length) (hl:l.length≤8) (ok:∀ x∈l,x.Ok) (sm:∀ x∈l,x.Sm) (oka:a.Ok) (h:MOK l a) (hA:A.length≤350):VT N_ (fnC Tryz.f10 [1,1,1,1,1,1,0,1,0,0,1,0,0,1,1,1,1,0]) (rln_m_I u T i A l a 0) (.exit 6) (rln_m_Z u T i A l a) :=
 VT.loop (fun k=>rln_m_I u T i A l a k) (l.length) (fun k hk=>rln_m_s u T i A l a hi hT ht hl ok sm oka h hA k hk) (rln_m_e u T i A l a hi hT ht hl ok sm oka h hA) (by intro h;cases h)
noncomputable def rln_o_I (u:Bun) (T:List (List Int)) (A:List ByteArray) (k:Nat):VS:=stt 199 [(1,.ptr 1 0 0),(5,.sl 1 (T.map intsC)),(10,.own 900),(11,i64 k)] [(1,.var (bunC u)),(900,.slc 9 1 ((mdK A u T k).map rowS))]
noncomputable def rln_o_Z (u:Bun) (T:List (List Int)) (A:List ByteArray):VS:=rln_o_I u T A (u.m.length)
theorem rln_o_s (u:Bun) (T:List (List Int)) (A:List ByteArray) (ok:u.Ok) (sm:u.Sm) (hT:TB T) (hl:T.length=u.m.length) (ht:∀ j,j<u.m.length→(T.getD j default).length=(u.m.getD j default).l.length) (h:∀ j,j<u.m.length→MOK (u.m.getD j default).l u.inp) (hA:A.length≤1) (k:Nat) (hk:k<u.m.length):VT N_ (fnC Tryz.f10 [1,1,1,1,1,1,0,1,0,0]) (rln_o_I u T A k) .normal (rln_o_I u T A (k+1)):=by
 have q0:=sm.l
 have q1:=h k hk
 have q2:=(getD_in ok.m hk).l
 have q3:=(getD_in sm.m hk).2
 have q4:=(getD_in sm.m hk).1
 have q5:u.inp.Ok:=⟨ok.h,ok.x,ok.c⟩
 have q6:=ht k hk
 have q7:=mdK_len A u T k
 have q8:=cnM_le sm k (by omega)
 have r1:=dg_size (n:=(k:Int)) ⟨by omega,by omega⟩
 have r2:=dg_size (n:=((u.m.getD k default).l.length:Int)) ⟨by omega,by omega⟩
 have oz2:=(map_at (mdlC) (default) (l:=u.m) (i:=k) hk)
 have oz3:=@rdigits_v ((↑k:Int)) (by omega)
 have oz6:=@rdigits_v (((K_ blcC (u.m.getD k default).l).length:Int)) (by (simp only[bapp_size,lit_size,AO_,AS_,Q_];omega))
 have oz12:=@rln_m (u) (T) (k) (mdK A u T k++[ByteArray.mk #[109,111,100,101,108,32]++dg (↑k:Int)++ByteArray.mk #[32,98,108,111,99,107,115,32]++dg ((K_ blcC (u.m.getD k default).l).length:Int)]) ((u.m.getD k default).l) (Shp.mk u.1 u.2 u.3) (by omega) hT q6 q4 q2 q3 q5 q1 (by (simp only[AW_,AO_,AS_];omega))
 exact tR_ [r_,b_,.r [] [.row (sO oz2)],.r [] [cr oz3,.v (L_ (ByteArray.mk #[109,111,100,101,108,32]++dg (↑k:Int))),.v (L_ (ByteArray.mk #[109,111,100,101,108,32]++dg (↑k:Int)++ByteArray.mk #[32,98,108,111,99,107,115,32])),cr oz6,.v (L_ (ByteArray.mk #[109,111,100,101,108,32]++dg (↑k:Int)++ByteArray.mk #[32,98,108,111,99,107,115,32]++dg ((K_ blcC (u.m.getD k default).l).length:Int)))],r_,r_,.code [.any (rg [(76,5),(83,19)]),.drop [98],.ren 99 900,.weak 14 (i64 (↑0:Int)),.blk 900 (Blk.slc 9 1 (K_ rowS (blK (mdK A u T k++[ByteArray.mk #[109,111,100,101,108,32]++dg (↑k:Int)++ByteArray.mk #[32,98,108,111,99,107,115,32]++dg ((K_ blcC (u.m.getD k default).l).length:Int)]) (u.m.getD k default).l (Shp.mk u.1 u.2 u.3) (T.getD k default) 0))),.sort] (AI_ 6) (zO oz12),.r [] [.n ((↑k:Int)+1)]] [.any [12,13,14,81,82],.drop [13],.weak 11 (i64 (↑(k+1):Int)),.blk 900 (Blk.slc 9 1 (K_ rowS (mdK A u T (k+1)))),.sort] (.c8 (show decide ((↑k:Int)<((K_ mdlC u.m).length:Int))=true by (simp;omega)) (s_ (0≤(↑k:Int))) oz2 oz3 (show BinTo N_ BinOp.add 9 (Operand.const (L_ (ByteArray.mk #[109,111,100,101,108,32]))) (Operand.tmp 91) (L_ (ByteArray.mk #[109,111,100,101,108,32])) (L_ (dg (↑k:Int))) (L_ (ByteArray.mk #[109,111,100,101,108,32]++dg (↑k:Int))) from (bin_add (by (simp only[bapp_size,lit_size,AO_,AS_,Q_];omega)))) (show BinTo N_ BinOp.add 9 (Operand.tmp 92) (Operand.const (L_ (ByteArray.mk #[32,98,108,111,99,107,115,32]))) (L_ (ByteArray.mk #[109,111,100,101,108,32]++dg (↑k:Int))) (L_ (ByteArray.mk #[32,98,108,111,99,107,115,32])) (L_ (ByteArray.mk #[109,111,100,101,108,32]++dg (↑k:Int)++ByteArray.mk #[32,98,108,111,99,107,115,32])) from (bin_add (by (simp only[bapp_size,lit_size,AO_,AS_,Q_];omega)))) oz6 (show BinTo N_ BinOp.add 9 (Operand.tmp 93) (Operand.tmp 96) (L_ (ByteArray.mk #[109,111,100,101,108,32]++dg (↑k:Int)++ByteArray.mk #[32,98,108,111,99,107,115,32])) (L_ (dg ((K_ blcC (u.m.getD k default).l).length:Int))) (L_ (ByteArray.mk #[109,111,100,101,108,32]++dg (↑k:Int)++ByteArray.mk #[32,98,108,111,99,107,115,32]++dg ((K_ blcC (u.m.getD k default).l).length:Int))) from (bin_add (by (simp only[bapp_size,lit_size,AO_,AS_,Q_];omega))))<|.d8 (show ((K_ rowS (mdK A u T k)).length+1)*16≤140737488355328 by (simp only[bapp_size,lit_size,AO_,AS_,Q_];omega)) (show (K_ rowS (mdK A u T k)).length+1≤9223372036854775807 by (simp only[bapp_size,lit_size,AO_,AS_,Q_];omega)) w0_ (show BlkW (Blk.slc 9 1 (K_ rowS (mdK A u T k)++[[AV.lit (L_ (ByteArray.mk #[109,111,100,101,108,32]++dg (↑k:Int)++ByteArray.mk #[32,98,108,111,99,107,115,32]++dg ((K_ blcC (u.m.getD k default).l).length:Int)))]])) (Blk.slc 9 1 (K_ rowS (blK (mdK A u T k++[ByteArray.mk #[109,111,100,101,108,32]++dg (↑k:Int)++ByteArray.mk #[32,98,108,111,99,107,115,32]++dg ((K_ blcC (u.m.getD k default).l).length:Int)]) (u.m.getD k default).l (Shp.mk u.1 u.2 u.3) (T.getD k default) 0))) from (BZ_ (e:=9) (z:=1) (rows_to (rowS) (r:=K_ rowS (mdK A u T k)++[[AV.lit (L_ (ByteArray.mk #[109,111,100,101,108,32]++dg (↑k:Int)++ByteArray.mk #[32,98,108,111,99,107,115,32]++dg ((K_ blcC (u.m.getD k default).l).length:Int)))]]) (l:=mdK A u T k++[ByteArray.mk #[109,111,100,101,108,32]++dg (↑k:Int)++ByteArray.mk #[32,98,108,111,99,107,115,32]++dg ((K_ blcC (u.m.getD k default).l).length:Int)]) (m:=blK (mdK A u T k++[ByteArray.mk #[109,111,100,101,108,32]++dg (↑k:Int)++ByteArray.mk #[32,98,108,111,99,107,115,32]++dg ((K_ blcC (u.m.getD k default).l).length:Int)]) (u.m.getD k default).l (Shp.mk u.1 u.2 u.3) (T.getD k default) 0) (by first|(simp only[X_,Z_,AL_,AM_,V_,D_,AK_];done)|rfl|(simp only[X_,Z_,AL_,AM_,V_,D_,AK_];rfl)|(simp only[X_,Z_,AL_,AM_,V_,D_,AK_,rowS,ints];done)) (show (mdK A u T k++[ByteArray.mk #[109,111,100,101,108,32]++dg (↑k:Int)++ByteArray.mk #[32,98,108,111,99,107,115,32]++dg ((K_ blcC (u.m.getD k default).l).length:Int)])=(blK (mdK A u T k++[ByteArray.mk #[109,111,100,101,108,32]++dg (↑k:Int)++ByteArray.mk #[32,98,108,111,99,107,115,32]++dg ((K_ blcC (u.m.getD k default).l).length:Int)]) (u.m.getD k default).l (Shp.mk u.1 u.2 u.3) (T.getD k default) 0) from (by rfl))))) oz12 (i6n ((↑k:Int)+1) (by omega)) (wS_ k) (show BlkW (Blk.slc 9 1 (K_ rowS (blK (mdK A u T k++[ByteArray.mk #[109,111,100,101,108,32]++dg (↑k:Int)++ByteArray.mk #[32,98,108,111,99,107,115,32]++dg ((K_ blcC (u.m.getD k default).l).length:Int)]) (u.m.getD k default).l (Shp.mk u.1 u.2 u.3) (T.getD k default) (u.m.getD k default).l.length))) (Blk.slc 9 1 (K_ rowS (mdK A u T (k+1)))) from (BZ_ (e:=9) (z:=1) (rows_to (rowS) (r:=K_ rowS (blK (mdK A u T k++[ByteArray.mk #[109,111,100,101,108,32]++dg (↑k:Int)++ByteArray.mk #[32,98,108,111,99,107,115,32]++dg ((K_ blcC (u.m.getD k default).l).length:Int)]) (u.m.getD k default).l (Shp.mk u.1 u.2 u.3) (T.getD k default) (u.m.getD k default).l.length)) (l:=blK (mdK A u T k++[ByteArray.mk #[109,111,100,101,108,32]++dg (↑k:Int)++ByteArray.mk #[32,98,108,111,99,107,115,32]++dg ((K_ blcC (u.m.getD k default).l).length:Int)]) (u.m.getD k default).l (Shp.mk u.1 u.2 u.3) (T.getD k default) (u.m.getD k default).l.length) (m:=mdK A u T (k+1)) rfl (show (blK (mdK A u T k++[ByteArray.mk #[109,111,100,101,108,32]++dg (↑k:Int)++ByteArray.mk #[32,98,108,111,99,107,115,32]++dg ((K_ blcC (u.m.getD k default).l).length:Int)]) (u.m.getD k default).l (Shp.mk u.1 u.2 u.3) (T.getD k default) (u.m.getD k default).l.length)=(mdK A u T (k+1)) from (by (simp only[Q_];rw[mdK];rfl)))))))
theorem rln_o_e (u:Bun) (T:List (List Int)) (A:List ByteArray) (ok:u.Ok) (sm:u.Sm) (hT:TB T) (hl:T.length=u.m.length) (ht:∀ j,j<u.m.length→(T.getD j default).length=(u.m.getD j default).l.length) (h:∀ j,j<u.m.length→MOK (u.m.getD j default).l u.inp) (hA:A.length≤1):VT N_ (fnC Tryz.f10 [1,1,1,1,1,1,0,1,0,0]) (rln_o_I u T A (u.m.length)) (.exit 4) (rln_o_Z u T A):=by
 exact tR_ [r_,d_] [.any (rg [(76,5)]),.sort] (.d (show decide ((u.m.length:Int)<((K_ mdlC u.m).length:Int))=false by (simp;done)))
theorem rln_o (u:Bun) (T:List (List Int)) (A:List ByteArray) (ok:u.Ok) (sm:u.Sm) (hT:TB T) (hl:T.length=u.m.length) (ht:∀ j,j<u.m.length→(T.getD j default).length=(u.m.getD j default).l.length) (h:∀ j,j<u.m.length→MOK (u.m.getD j default).l u.inp) (hA:A.length≤1):VT N_ (fnC Tryz.f10 [1,1,1,1,1,1,0,1,0]) (rln_o_I u T A 0) (.exit 4) (rln_o_Z u T A) :=
 VT.loop (fun k=>rln_o_I u T A k) (u.m.length) (fun k hk=>rln_o_s u T A ok sm hT hl ht h hA k hk) (rln_o_e u T A ok sm hT hl ht h hA) (by intro h;cases h)
theorem rlines_y (u:Bun) (v:VBun u):VC N_ 10 ([bun u]) (.tup [strs (linesU u),i64 0]):=by
 have q0:=v.ok
 have q1:=v.sm
 have q2:=q1.l
 have q3:u.inp.Ok:=⟨q0.h,q0.x,q0.c⟩
 have q4:=v.s
 have q5:=tabK_bd q1 _ (AV_ _)
 have q6:=tabK_len u u.m.length
 have q7:∀ j,j<u.m.length→((tabK u u.m.length).getD j default).length=(u.m.getD j default).l.length:=fun j hj=>by rw[tabK_get u hj,rowK_len]
 have q8:((bunE u).w != 0)=false:=by rw[bunE_y v.w v.m];rfl
 have q9:=allC_bd q1
 have q10:=q0.cl
 have r1:=dg_size q0.cl
 have r2:=dg_size (n:=(u.m.length:Int)) ⟨by omega,by omega⟩
 have r3:=dg_size (n:=(endT (tabK u u.m.length) (tabK u u.m.length).length).al) ⟨by omega,by omega⟩
 have r4:(shS (Shp.mk u.h u.x u.c)).size≤65:=shS_size q3
 have oz0:=@rvbundle_v (u) q0 q1
 have oz2:=@rtab_y (u) q0 q1 q4
 have oz4:=w0_
 have oz5:=@rls_o (u) (tabK u u.m.length) (by omega) q5
 have oz6:=@rshape50_v (Shp.mk u.h u.x u.c) q3
 have oz9:=@rdigits_v (u.cl) q10
 have oz12:=@rdigits_v (((K_ mdlC u.m).length:Int)) (by (simp only[bapp_size,lit_size,AO_,AS_,Q_];omega))
 have oz15:=@rdigits_v ((endT (tabK u u.m.length) (tabK u u.m.length).length).al) (by omega)
 have oz19:=@rln_o (u) (tabK u u.m.length) ([ByteArray.mk #[98,117,110,100,108,101,32]++shS (Shp.mk u.h u.x u.c)++ByteArray.mk #[32,99,108,97,115,115,101,115,32]++dg u.cl++ByteArray.mk #[32,109,111,100,101,108,115,32]++dg ((K_ mdlC u.m).length:Int)++ByteArray.mk #[32,99,111,115,116,32]++dg (endT (tabK u u.m.length) (tabK u u.m.length).length).al]) q0 q1 q5 q6 q7 q4 (by (simp only[bapp_size,lit_size,AO_,AS_,Q_];omega))
 exact (cR_ [r_,.r [] [cr oz0],r_,d_,.r [] [cr oz2],r_,r_,.code [.any (rg [(0,1),(2,3),(6,1),(20,5),(27,5)]),.drop [4],.weak 7 (i64 (endT (tabK u u.m.length) 0).al),.weak 8 (wO oz4),.sort] (AI_ 0) (zO oz5),.r [] [cr oz6,.v (L_ (ByteArray.mk #[98,117,110,100,108,101,32]++shS (Shp.mk u.h u.x u.c))),.v (L_ (ByteArray.mk #[98,117,110,100,108,101,32]++shS (Shp.mk u.h u.x u.c)++ByteArray.mk #[32,99,108,97,115,115,101,115,32])),cr oz9,.v (L_ (ByteArray.mk #[98,117,110,100,108,101,32]++shS (Shp.mk u.h u.x u.c)++ByteArray.mk #[32,99,108,97,115,115,101,115,32]++dg u.cl)),.v (L_ (ByteArray.mk #[98,117,110,100,108,101,32]++shS (Shp.mk u.h u.x u.c)++ByteArray.mk #[32,99,108,97,115,115,101,115,32]++dg u.cl++ByteArray.mk #[32,109,111,100,101,108,115,32])),cr oz12,.v (L_ (ByteArray.mk #[98,117,110,100,108,101,32]++shS (Shp.mk u.h u.x u.c)++ByteArray.mk #[32,99,108,97,115,115,101,115,32]++dg u.cl++ByteArray.mk #[32,109,111,100,101,108,115,32]++dg ((K_ mdlC u.m).length:Int))),.v (L_ (ByteArray.mk #[98,117,110,100,108,101,32]++shS (Shp.mk u.h u.x u.c)++ByteArray.mk #[32,99,108,97,115,115,101,115,32]++dg u.cl++ByteArray.mk #[32,109,111,100,101,108,115,32]++dg ((K_ mdlC u.m).length:Int)++ByteArray.mk #[32,99,111,115,116,32])),cr oz15,.v (L_ (ByteArray.mk #[98,117,110,100,108,101,32]++shS (Shp.mk u.h u.x u.c)++ByteArray.mk #[32,99,108,97,115,115,101,115,32]++dg u.cl++ByteArray.mk #[32,109,111,100,101,108,115,32]++dg ((K_ mdlC u.m).length:Int)++ByteArray.mk #[32,99,111,115,116,32]++dg (endT (tabK u u.m.length) (tabK u u.m.length).length).al))],r_,.code [.any (rg [(7,2),(56,20)]),.ren 75 900,.weak 11 (wO oz4),.blk 900 (Blk.slc 9 1 (K_ rowS (mdK [ByteArray.mk #[98,117,110,100,108,101,32]++shS (Shp.mk u.h u.x u.c)++ByteArray.mk #[32,99,108,97,115,115,101,115,32]++dg u.cl++ByteArray.mk #[32,109,111,100,101,108,115,32]++dg ((K_ mdlC u.m).length:Int)++ByteArray.mk #[32,99,111,115,116,32]++dg (endT (tabK u u.m.length) (tabK u u.m.length).length).al] u (tabK u u.m.length) 0))),.sort] (AI_ 4) (zO oz19),r_] (AV.tup [AV.sl 1 (K_ rowS (mdK [ByteArray.mk #[98,117,110,100,108,101,32]++shS (Shp.mk u.h u.x u.c)++ByteArray.mk #[32,99,108,97,115,115,101,115,32]++dg u.cl++ByteArray.mk #[32,109,111,100,101,108,115,32]++dg ((K_ mdlC u.m).length:Int)++ByteArray.mk #[32,99,111,115,116,32]++dg (endT (tabK u u.m.length) (tabK u u.m.length).length).al] u (tabK u u.m.length) u.m.length)),i64 0]) Tryz.func10 (.c8 oz0 q8 oz2 (M_ (k:=.i64) (show ((0):Int)=((endT (tabK u u.m.length) 0).al) from (by rfl))) oz4 oz5 oz6 (show BinTo N_ BinOp.add 9 (Operand.const (L_ (ByteArray.mk #[98,117,110,100,108,101,32]))) (Operand.tmp 58) (L_ (ByteArray.mk #[98,117,110,100,108,101,32])) (L_ (shS (Shp.mk u.h u.x u.c))) (L_ (ByteArray.mk #[98,117,110,100,108,101,32]++shS (Shp.mk u.h u.x u.c))) from (bin_add (by (simp only[bapp_size,lit_size,AO_,AS_,Q_];omega))))<|.c8 (show BinTo N_ BinOp.add 9 (Operand.tmp 59) (Operand.const (L_ (ByteArray.mk #[32,99,108,97,115,115,101,115,32]))) (L_ (ByteArray.mk #[98,117,110,100,108,101,32]++shS (Shp.mk u.h u.x u.c))) (L_ (ByteArray.mk #[32,99,108,97,115,115,101,115,32])) (L_ (ByteArray.mk #[98,117,110,100,108,101,32]++shS (Shp.mk u.h u.x u.c)++ByteArray.mk #[32,99,108,97,115,115,101,115,32])) from (bin_add (by (simp only[bapp_size,lit_size,AO_,AS_,Q_];omega)))) oz9 (show BinTo N_ BinOp.add 9 (Operand.tmp 60) (Operand.tmp 63) (L_ (ByteArray.mk #[98,117,110,100,108,101,32]++shS (Shp.mk u.h u.x u.c)++ByteArray.mk #[32,99,108,97,115,115,101,115,32])) (L_ (dg u.cl)) (L_ (ByteArray.mk #[98,117,110,100,108,101,32]++shS (Shp.mk u.h u.x u.c)++ByteArray.mk #[32,99,108,97,115,115,101,115,32]++dg u.cl)) from (bin_add (by (simp only[bapp_size,lit_size,AO_,AS_,Q_];omega)))) (show BinTo N_ BinOp.add 9 (Operand.tmp 64) (Operand.const (L_ (ByteArray.mk #[32,109,111,100,101,108,115,32]))) (L_ (ByteArray.mk #[98,117,110,100,108,101,32]++shS (Shp.mk u.h u.x u.c)++ByteArray.mk #[32,99,108,97,115,115,101,115,32]++dg u.cl)) (L_ (ByteArray.mk #[32,109,111,100,101,108,115,32])) (L_ (ByteArray.mk #[98,117,110,100,108,101,32]++shS (Shp.mk u.h u.x u.c)++ByteArray.mk #[32,99,108,97,115,115,101,115,32]++dg u.cl++ByteArray.mk #[32,109,111,100,101,108,115,32])) from (bin_add (by (simp only[bapp_size,lit_size,AO_,AS_,Q_];omega)))) oz12 (show BinTo N_ BinOp.add 9 (Operand.tmp 65) (Operand.tmp 69) (L_ (ByteArray.mk #[98,117,110,100,108,101,32]++shS (Shp.mk u.h u.x u.c)++ByteArray.mk #[32,99,108,97,115,115,101,115,32]++dg u.cl++ByteArray.mk #[32,109,111,100,101,108,115,32])) (L_ (dg ((K_ mdlC u.m).length:Int))) (L_ (ByteArray.mk #[98,117,110,100,108,101,32]++shS (Shp.mk u.h u.x u.c)++ByteArray.mk #[32,99,108,97,115,115,101,115,32]++dg u.cl++ByteArray.mk #[32,109,111,100,101,108,115,32]++dg ((K_ mdlC u.m).length:Int))) from (bin_add (by (simp only[bapp_size,lit_size,AO_,AS_,Q_];omega)))) (show BinTo N_ BinOp.add 9 (Operand.tmp 70) (Operand.const (L_ (ByteArray.mk #[32,99,111,115,116,32]))) (L_ (ByteArray.mk #[98,117,110,100,108,101,32]++shS (Shp.mk u.h u.x u.c)++ByteArray.mk #[32,99,108,97,115,115,101,115,32]++dg u.cl++ByteArray.mk #[32,109,111,100,101,108,115,32]++dg ((K_ mdlC u.m).length:Int))) (L_ (ByteArray.mk #[32,99,111,115,116,32])) (L_ (ByteArray.mk #[98,117,110,100,108,101,32]++shS (Shp.mk u.h u.x u.c)++ByteArray.mk #[32,99,108,97,115,115,101,115,32]++dg u.cl++ByteArray.mk #[32,109,111,100,101,108,115,32]++dg ((K_ mdlC u.m).length:Int)++ByteArray.mk #[32,99,111,115,116,32])) from (bin_add (by (simp only[bapp_size,lit_size,AO_,AS_,Q_];omega)))) oz15<|.d4 (show BinTo N_ BinOp.add 9 (Operand.tmp 71) (Operand.tmp 73) (L_ (ByteArray.mk #[98,117,110,100,108,101,32]++shS (Shp.mk u.h u.x u.c)++ByteArray.mk #[32,99,108,97,115,115,101,115,32]++dg u.cl++ByteArray.mk #[32,109,111,100,101,108,115,32]++dg ((K_ mdlC u.m).length:Int)++ByteArray.mk #[32,99,111,115,116,32])) (L_ (dg (endT (tabK u u.m.length) (tabK u u.m.length).length).al)) (L_ (ByteArray.mk #[98,117,110,100,108,101,32]++shS (Shp.mk u.h u.x u.c)++ByteArray.mk #[32,99,108,97,115,115,101,115,32]++dg u.cl++ByteArray.mk #[32,109,111,100,101,108,115,32]++dg ((K_ mdlC u.m).length:Int)++ByteArray.mk #[32,99,111,115,116,32]++dg (endT (tabK u u.m.length) (tabK u u.m.length).length).al)) from (bin_add (by (simp only[bapp_size,lit_size,AO_,AS_,Q_];omega)))) oz4 (show BlkW (Blk.slc 9 1 [[AV.lit (L_ (ByteArray.mk #[98,117,110,100,108,101,32]++shS (Shp.mk u.h u.x u.c)++ByteArray.mk #[32,99,108,97,115,115,101,115,32]++dg u.cl++ByteArray.mk #[32,109,111,100,101,108,115,32]++dg ((K_ mdlC u.m).length:Int)++ByteArray.mk #[32,99,111,115,116,32]++dg (endT (tabK u u.m.length) (tabK u u.m.length).length).al))]]) (Blk.slc 9 1 [[AV.lit (L_ (ByteArray.mk #[98,117,110,100,108,101,32]++shS (Shp.mk u.h u.x u.c)++ByteArray.mk #[32,99,108,97,115,115,101,115,32]++dg u.cl++ByteArray.mk #[32,109,111,100,101,108,115,32]++dg ((K_ mdlC u.m).length:Int)++ByteArray.mk #[32,99,111,115,116,32]++dg (endT (tabK u u.m.length) (tabK u u.m.length).length).al))]]) from (BZ_ (e:=9) (z:=1) (rows_to (rowS) (r:=[[AV.lit (L_ (ByteArray.mk #[98,117,110,100,108,101,32]++shS (Shp.mk u.h u.x u.c)++ByteArray.mk #[32,99,108,97,115,115,101,115,32]++dg u.cl++ByteArray.mk #[32,109,111,100,101,108,115,32]++dg ((K_ mdlC u.m).length:Int)++ByteArray.mk #[32,99,111,115,116,32]++dg (endT (tabK u u.m.length) (tabK u u.m.length).length).al))]]) (l:=[ByteArray.mk #[98,117,110,100,108,101,32]++shS (Shp.mk u.h u.x u.c)++ByteArray.mk #[32,99,108,97,115,115,101,115,32]++dg u.cl++ByteArray.mk #[32,109,111,100,101,108,115,32]++dg ((K_ mdlC u.m).length:Int)++ByteArray.mk #[32,99,111,115,116,32]++dg (endT (tabK u u.m.length) (tabK u u.m.length).length).al]) (m:=mdK [ByteArray.mk #[98,117,110,100,108,101,32]++shS (Shp.mk u.h u.x u.c)++ByteArray.mk #[32,99,108,97,115,115,101,115,32]++dg u.cl++ByteArray.mk #[32,109,111,100,101,108,115,32]++dg ((K_ mdlC u.m).length:Int)++ByteArray.mk #[32,99,111,115,116,32]++dg (endT (tabK u u.m.length) (tabK u u.m.length).length).al] u (tabK u u.m.length) 0) (by first|(simp only[X_,Z_,AL_,AM_,V_,D_,AK_];done)|rfl|(simp only[X_,Z_,AL_,AM_,V_,D_,AK_];rfl)|(simp only[X_,Z_,AL_,AM_,V_,D_,AK_,rowS,ints];done)) (show ([ByteArray.mk #[98,117,110,100,108,101,32]++shS (Shp.mk u.h u.x u.c)++ByteArray.mk #[32,99,108,97,115,115,101,115,32]++dg u.cl++ByteArray.mk #[32,109,111,100,101,108,115,32]++dg ((K_ mdlC u.m).length:Int)++ByteArray.mk #[32,99,111,115,116,32]++dg (endT (tabK u u.m.length) (tabK u u.m.length).length).al])=(mdK [ByteArray.mk #[98,117,110,100,108,101,32]++shS (Shp.mk u.h u.x u.c)++ByteArray.mk #[32,99,108,97,115,115,101,115,32]++dg u.cl++ByteArray.mk #[32,109,111,100,101,108,115,32]++dg ((K_ mdlC u.m).length:Int)++ByteArray.mk #[32,99,111,115,116,32]++dg (endT (tabK u u.m.length) (tabK u u.m.length).length).al] u (tabK u u.m.length) 0) from (by (simp only[Q_];rfl)))))) oz19)).weak (A_ _) (AZ_ (.cons (Weak.rows (rows_to (rowS) (r:=K_ rowS (mdK [ByteArray.mk #[98,117,110,100,108,101,32]++shS (Shp.mk u.h u.x u.c)++ByteArray.mk #[32,99,108,97,115,115,101,115,32]++dg u.cl++ByteArray.mk #[32,109,111,100,101,108,115,32]++dg ((K_ mdlC u.m).length:Int)++ByteArray.mk #[32,99,111,115,116,32]++dg (endT (tabK u u.m.length) (tabK u u.m.length).length).al] u (tabK u u.m.length) u.m.length)) (l:=mdK [ByteArray.mk #[98,117,110,100,108,101,32]++shS (Shp.mk u.h u.x u.c)++ByteArray.mk #[32,99,108,97,115,115,101,115,32]++dg u.cl++ByteArray.mk #[32,109,111,100,101,108,115,32]++dg ((K_ mdlC u.m).length:Int)++ByteArray.mk #[32,99,111,115,116,32]++dg (endT (tabK u u.m.length) (tabK u u.m.length).length).al] u (tabK u u.m.length) u.m.length) (m:=linesU u) rfl (show (mdK [ByteArray.mk #[98,117,110,100,108,101,32]++shS (Shp.mk u.h u.x u.c)++ByteArray.mk #[32,99,108,97,115,115,101,115,32]++dg u.cl++ByteArray.mk #[32,109,111,100,101,108,115,32]++dg ((K_ mdlC u.m).length:Int)++ByteArray.mk #[32,99,111,115,116,32]++dg (endT (tabK u u.m.length) (tabK u u.m.length).length).al] u (tabK u u.m.length) u.m.length)=(linesU u) from (by (simp only[Q_];rfl))))) (.cons (.refl _) .nil)))
theorem rlines_n (u:Bun) (ok:u.Ok) (sm:u.Sm) (h:(bunE u).w≠0):VC N_ 10 ([bun u]) (.tup [nilv,i64 (bunE u).w]):=by
 have q8:((bunE u).w != 0)=true:=by simpa using h
 have oz0:=@rvbundle_v (u) ok sm
 exact cR_ [r_,.r [] [cr oz0],r_,b_,r_] _ Tryz.func10 (.d2 oz0 q8)
theorem joinS_x (x:Blc) (k p:Int) (h:x.ex=true):joinS [⟨#[]⟩,⟨#[98,108,111,99,107]⟩,dg k,⟨#[99,111,115,116]⟩,dg p,⟨#[101,120,105,116]⟩,dg x.nd]=blkS x k p:=by
 unfold joinS blkS
 rw[i_ h]
 refine bext ?_
 simp only[joinB_two,joinB_one,bapp,CP_];rfl
theorem joinS_t (x:Blc) (k p:Int) (h:x.ex=false):joinS [⟨#[]⟩,⟨#[98,108,111,99,107]⟩,dg k,⟨#[99,111,115,116]⟩,dg p,⟨#[116,104,114,111,117,103,104]⟩]=blkS x k p:=by
 unfold joinS blkS
 rw[j_ (by simp[h])]
 refine bext ?_
 simp only[joinB_two,joinB_one,bapp,CP_];rfl
theorem block50_x (x:Blc) (k p:Int) (ok:x.Ok) (hk:In64 k) (hp:In64 p) (h:x.ex=true):VC N_ 54 ([blc x,i64 k,i64 p]) (st (joinS [⟨#[]⟩,⟨#[98,108,111,99,107]⟩,dg k,⟨#[99,111,115,116]⟩,dg p,⟨#[101,120,105,116]⟩,dg x.nd])):=by
 have q0:=blkS_size ok hk hp
 rw[←joinS_x x k p h] at q0
 have e1:=ok.nd
 have oz0:=@digits_v (k) hk
 have oz1:=@digits_v (p) hp
 have oz4:=@digits_v (x.nd) (by omega)
 have oz8:=@joined_v ([ByteArray.mk #[],ByteArray.mk #[98,108,111,99,107],dg k,ByteArray.mk #[99,111,115,116],dg p,ByteArray.mk #[101,120,105,116],dg x.nd]) (by omega) (by (simp;done))
 exact cR_ [r_,.r [] [cr oz0,cr oz1],r_,b_,.r [] [.n x.nd,cr oz4,ca oz8]] _ Tryz.func54 (.c8 oz0 oz1 h (i6n x.nd (by omega)) oz4 (s_ ((5+2)*16≤140737488355328)) (s_ (5+2≤9223372036854775807)) (show WeakL [AV.sl 1 [[AV.lit (L_ (ByteArray.mk #[]))],[AV.lit (L_ (ByteArray.mk #[98,108,111,99,107]))],[AV.lit (L_ (dg k))],[AV.lit (L_ (ByteArray.mk #[99,111,115,116]))],[AV.lit (L_ (dg p))],[AV.lit (L_ (ByteArray.mk #[101,120,105,116]))],[AV.lit (L_ (dg x.nd))]]] [AV.sl 1 [[AV.lit (L_ (ByteArray.mk #[]))],[AV.lit (L_ (ByteArray.mk #[98,108,111,99,107]))],[AV.lit (L_ (dg k))],[AV.lit (L_ (ByteArray.mk #[99,111,115,116]))],[AV.lit (L_ (dg p))],[AV.lit (L_ (ByteArray.mk #[101,120,105,116]))],[AV.lit (L_ (dg x.nd))]]] from (.cons (Weak.rows (rows_to (rowS) (r:=[[AV.lit (L_ (ByteArray.mk #[]))],[AV.lit (L_ (ByteArray.mk #[98,108,111,99,107]))],[AV.lit (L_ (dg k))],[AV.lit (L_ (ByteArray.mk #[99,111,115,116]))],[AV.lit (L_ (dg p))],[AV.lit (L_ (ByteArray.mk #[101,120,105,116]))],[AV.lit (L_ (dg x.nd))]]) (l:=[ByteArray.mk #[],ByteArray.mk #[98,108,111,99,107],dg k,ByteArray.mk #[99,111,115,116],dg p,ByteArray.mk #[101,120,105,116],dg x.nd]) (m:=[ByteArray.mk #[],ByteArray.mk #[98,108,111,99,107],dg k,ByteArray.mk #[99,111,115,116],dg p,ByteArray.mk #[101,120,105,116],dg x.nd]) (by first|(simp only[X_,Z_,AL_,AM_,V_,D_,AK_];done)|rfl|(simp only[X_,Z_,AL_,AM_,V_,D_,AK_];rfl)|(simp only[X_,Z_,AL_,AM_,V_,D_,AK_,rowS,ints];done)) rfl)) .nil))<|.d oz8)
theorem block50_t (x:Blc) (k p:Int) (ok:x.Ok) (hk:In64 k) (hp:In64 p) (h:x.ex=false):VC N_ 54 ([blc x,i64 k,i64 p]) (st (joinS [⟨#[]⟩,⟨#[98,108,111,99,107]⟩,dg k,⟨#[99,111,115,116]⟩,dg p,⟨#[116,104,114,111,117,103,104]⟩])):=by
 have q0:=blkS_size ok hk hp
 rw[←joinS_t x k p h] at q0
 have oz0:=@digits_v (k) hk
 have oz1:=@digits_v (p) hp
 have oz6:=@joined_v ([ByteArray.mk #[],ByteArray.mk #[98,108,111,99,107],dg k,ByteArray.mk #[99,111,115,116],dg p,ByteArray.mk #[116,104,114,111,117,103,104]]) (by omega) (by (simp;done))
 exact cR_ [r_,.r [] [cr oz0,cr oz1],r_,d_,.r [] [ca oz6]] _ Tryz.func54 (.d7 oz0 oz1 h (s_ ((5+1)*16≤140737488355328)) (s_ (5+1≤9223372036854775807)) (show WeakL [AV.sl 1 [[AV.lit (L_ (ByteArray.mk #[]))],[AV.lit (L_ (ByteArray.mk #[98,108,111,99,107]))],[AV.lit (L_ (dg k))],[AV.lit (L_ (ByteArray.mk #[99,111,115,116]))],[AV.lit (L_ (dg p))],[AV.lit (L_ (ByteArray.mk #[116,104,114,111,117,103,104]))]]] [AV.sl 1 [[AV.lit (L_ (ByteArray.mk #[]))],[AV.lit (L_ (ByteArray.mk #[98,108,111,99,107]))],[AV.lit (L_ (dg k))],[AV.lit (L_ (ByteArray.mk #[99,111,115,116]))],[AV.lit (L_ (dg p))],[AV.lit (L_ (ByteArray.mk #[116,104,114,111,117,103,104]))]]] from (.cons (Weak.rows (rows_to (rowS) (r:=[[AV.lit (L_ (ByteArray.mk #[]))],[AV.lit (L_ (ByteArray.mk #[98,108,111,99,107]))],[AV.lit (L_ (dg k))],[AV.lit (L_ (ByteArray.mk #[99,111,115,116]))],[AV.lit (L_ (dg p))],[AV.lit (L_ (ByteArray.mk #[116,104,114,111,117,103,104]))]]) (l:=[ByteArray.mk #[],ByteArray.mk #[98,108,111,99,107],dg k,ByteArray.mk #[99,111,115,116],dg p,ByteArray.mk #[116,104,114,111,117,103,104]]) (m:=[ByteArray.mk #[],ByteArray.mk #[98,108,111,99,107],dg k,ByteArray.mk #[99,111,115,116],dg p,ByteArray.mk #[116,104,114,111,117,103,104]]) (by first|(simp only[X_,Z_,AL_,AM_,V_,D_,AK_];done)|rfl|(simp only[X_,Z_,AL_,AM_,V_,D_,AK_];rfl)|(simp only[X_,Z_,AL_,AM_,V_,D_,AK_,rowS,ints];done)) rfl)) .nil)) oz6)
theorem block50_v (x:Blc) (k p:Int) (ok:x.Ok) (hk:In64 k) (hp:In64 p):VC N_ 54 [blc x,i64 k,i64 p] (st (blkS x k p)):=by
 cases h:x.ex with
 | true=>rw[←joinS_x x k p h];exact block50_x x k p ok hk hp h
 | false=>rw[←joinS_t x k p h];exact block50_t x k p ok hk hp h
def lt50:List AV:=(stt 26 [(6,.ptr 100001 0 0)] []).t
def YldS (R:LoopR):Prop:=∀ (B:List ByteArray) (s:ByteArray),B.length≤499→VY N_ 100000 [st s] [(950,.slc 9 1 (B.map rowS)),(100000,.lp false R lt50),(100001,.var [.own 950])] (bv true) [(951,.slc 9 1 ((B++[s]).map rowS)),(100000,.lp false R lt50),(100001,.var [.own 951])]
noncomputable def model50_i_I (A:List ByteArray) (l:List Blc) (L:List Nod) (S:List Shp) (a:Shp) (P:List Int) (i:Int) (R:LoopR) (k:Nat):VS:=stt 68 [(2,ints .i64 P),(3,.yl 100000),(5,.ptr 5 0 0),(11,.sl 3 (S.map shpC)),(17,.sl 5 (l.map blcC)),(18,i64 (l.map blcC).length),(19,i64 i),(43,.sl 19 (L.map nodC)),(44,i64 (L.map nodC).length),(45,i64 k)] [(5,.var (shpC a)),(900,.slc 9 1 ((ndK A L S k).map rowS)),(100000,.lp false R lt50),(100001,.var [.own 900])]
noncomputable def model50_i_Z (A:List ByteArray) (l:List Blc) (L:List Nod) (S:List Shp) (a:Shp) (P:List Int) (i:Int) (R:LoopR):VS:=model50_i_I A l L S a P i R (L.length)
theorem model50_i_s (A:List ByteArray) (l:List Blc) (L:List Nod) (S:List Shp) (a:Shp) (P:List Int) (i:Int) (R:LoopR) (hy:YldS R) (ok:∀ n∈L,n.Ok) (h12:L.length≤12) (oks:∀ a∈S,a.Ok) (hS:S.length=L.length+1) (hA:A.length≤480) (k:Nat) (hk:k<L.length):VT N_ (fnC Tryz.f34 [1,0,1,0,0,1,1,0,0,1,1,1,0,1,0,0]) (model50_i_I A l L S a P i R k) .normal (model50_i_I A l L S a P i R (k+1)):=by
 have hy':=hy
 unfold YldS at hy'
 have q1:=getD_in ok hk
 have q2:=getD_in oks (s_ (k+1<S.length))
 have q3:=ndK_len A L S k
 have oz2:=(map_at (nodC) (default) (l:=L) (i:=k) hk)
 have oz3:=(i6n ((↑k:Int)+1) (by omega))
 have oz5:=(map_at (shpC) (default) (l:=S) (i:=((↑k:Int)+1).toNat) (by omega))
 have oz6:=@node50_v (L.getD k default) (S.getD ((↑k:Int)+1).toNat default) q1 (by (simp at *;omega))
 exact tR_ [r_,b_,.r [] [.row (sO oz2)],.r [] [.n (nO oz3),.row (sO oz5),cr oz6,.cally [(900,950),(100000,100000),(100001,100001)] [(951,20000)] (bv true) [(951,Blk.slc 9 1 (K_ rowS (ndK A L S k++[nodeS (L.getD k default) (S.getD ((↑k:Int)+1).toNat default)]))),(100000,Blk.lp false R [AV.any,AV.any,AV.any,AV.any,AV.any,AV.any,AV.ptr 100001 0 0,AV.any,AV.any,AV.any,AV.any,AV.any,AV.any,AV.any,AV.any,AV.any,AV.any,AV.any,AV.any,AV.any,AV.any,AV.any,AV.any,AV.any,AV.any,AV.any]),(100001,Blk.var [AV.own 951])]],d_,.r [] [.n (nO oz3)]] [.any (rg [(14,2),(46,15)]),.drop [15],.ren 20000 900,.weak 45 (i64 (↑(k+1):Int)),.blk 900 (Blk.slc 9 1 (K_ rowS (ndK A L S (k+1)))),.sort] (.c8 (show decide ((↑k:Int)<((K_ nodC L).length:Int))=true by (simp;omega)) (s_ (0≤(↑k:Int))) oz2 oz3 (s_ (0≤(↑k:Int)+1)) oz5 oz6 (@hy' (ndK A L S k) (nodeS (L.getD k default) (S.getD ((↑k:Int)+1).toNat default)) (by omega))<|.d4 z1_ oz3 (wS_ k) (show BlkW (Blk.slc 9 1 (K_ rowS (ndK A L S k++[nodeS (L.getD k default) (S.getD ((↑k:Int)+1).toNat default)]))) (Blk.slc 9 1 (K_ rowS (ndK A L S (k+1)))) from (BZ_ (e:=9) (z:=1) (rows_to (rowS) (r:=K_ rowS (ndK A L S k++[nodeS (L.getD k default) (S.getD ((↑k:Int)+1).toNat default)])) (l:=ndK A L S k++[nodeS (L.getD k default) (S.getD ((↑k:Int)+1).toNat default)]) (m:=ndK A L S (k+1)) rfl (show (ndK A L S k++[nodeS (L.getD k default) (S.getD ((↑k:Int)+1).toNat default)])=(ndK A L S (k+1)) from (by rfl))))))
theorem model50_i_e (A:List ByteArray) (l:List Blc) (L:List Nod) (S:List Shp) (a:Shp) (P:List Int) (i:Int) (R:LoopR) (hy:YldS R) (ok:∀ n∈L,n.Ok) (h12:L.length≤12) (oks:∀ a∈S,a.Ok) (hS:S.length=L.length+1) (hA:A.length≤480):VT N_ (fnC Tryz.f34 [1,0,1,0,0,1,1,0,0,1,1,1,0,1,0,0]) (model50_i_I A l L S a P i R (L.length)) (.exit 2) (model50_i_Z A l L S a P i R):=by
 exact tR_ [r_,d_] [.any [46],.sort] (.d (show decide ((L.length:Int)<((K_ nodC L).length:Int))=false by (simp;done)))
theorem model50_i (A:List ByteArray) (l:List Blc) (L:List Nod) (S:List Shp) (a:Shp) (P:List Int) (i:Int) (R:LoopR) (hy:YldS R) (ok:∀ n∈L,n.Ok) (h12:L.length≤12) (oks:∀ a∈S,a.Ok) (hS:S.length=L.length+1) (hA:A.length≤480):VT N_ (fnC Tryz.f34 [1,0,1,0,0,1,1,0,0,1,1,1,0,1,0]) (model50_i_I A l L S a P i R 0) (.exit 2) (model50_i_Z A l L S a P i R) :=
 VT.loop (fun k=>model50_i_I A l L S a P i R k) (L.length) (fun k hk=>model50_i_s A l L S a P i R hy ok h12 oks hS hA k hk) (model50_i_e A l L S a P i R hy ok h12 oks hS hA) (by intro h;cases h)
noncomputable def model50_o_I (A:List ByteArray) (l:List Blc) (a:Shp) (P:List Int) (R:LoopR) (k:Nat):VS:=stt 68 [(2,ints .i64 P),(3,.yl 100000),(5,.ptr 5 0 0),(17,.sl 5 (l.map blcC)),(18,i64 (l.map blcC).length),(19,i64 k)] [(5,.var (shpC (inS l a k))),(900,.slc 9 1 ((blK A l a P k).map rowS)),(100000,.lp false R lt50),(100001,.var [.own 900])]
noncomputable def model50_o_Z (A:List ByteArray) (l:List Blc) (a:Shp) (P:List Int) (R:LoopR):VS:=model50_o_I A l a P R (l.length)
theorem model50_o_s (A:List ByteArray) (l:List Blc) (a:Shp) (P:List Int) (R:LoopR) (hy:YldS R) (ok:∀ x∈l,x.Ok) (sm:∀ x∈l,x.Sm) (oka:a.Ok) (h:MOK l a) (hl:l.length≤8) (hP:P.length=l.length) (hv:∀ v∈P,In32 v) (hA:A.length≤370) (k:Nat) (hk:k<l.length):VT N_ (fnC Tryz.f34 [1,0,1,0,0]) (model50_o_I A l a P R k) .normal (model50_o_I A l a P R (k+1)):=by
 have hy':=hy
 unfold YldS at hy'
 have p3:=gt32 hv k
 have q:=h k hk
 have q2:=getD_in ok hk
 have q3:=getD_in sm hk
 have q4:=inS_ok (l:=l) oka k
 have q5:=q2.n
 have q6:=q3.s
 have q7:=q3.l
 have r4:=blK_len A l a P k
 have r5:=cnB_le (fun x hx=>(sm x hx).l) k (by omega)
 have r6:=shpsL_len (l.getD k default).n (inS l a k)
 have r7:∀ b∈shpsL (l.getD k default).n (inS l a k),b.Ok:=grow_ok q4 _
 have l1:=growL_len nextE (l.getD k default).n (inS l a k) (l.getD k default).n.length
 have l3:(K_ shpC (growL nextE (l.getD k default).n (inS l a k) (l.getD k default).n.length)).length=(growL nextE (l.getD k default).n (inS l a k) (l.getD k default).n.length).length:=Q_ _
 have i1:(((K_ shpC (growL nextE (l.getD k default).n (inS l a k) (l.getD k default).n.length)).length:Int)-1).toNat=(l.getD k default).n.length:=by omega
 have oz1:=(s_ (0≤(↑k:Int)))
 have oz2:=(map_at (blcC) (default) (l:=l) (i:=k) hk)
 have oz5:=@block50_v (l.getD k default) ((↑k:Int)) (P.getD k 0) q2 (by omega) (by omega)
 have oz8:=@shapes_y ((l.getD k default).n) (inS l a k) q5 q6 q
 have oz11:=@model50_i (blK A l a P k++[blkS (l.getD k default) (↑k:Int) (P.getD k 0)]) (l) ((l.getD k default).n) (growL nextE (l.getD k default).n (inS l a k) (l.getD k default).n.length) (inS l a k) (P) ((↑k:Int)) (R) hy q5 q7 r7 r6 (by (simp only[AW_,AO_,AS_];omega))
 have oz12:=(i6n (((K_ shpC (growL nextE (l.getD k default).n (inS l a k) (l.getD k default).n.length)).length:Int)-1) (by omega))
 have oz14:=(map_at (shpC) (default) (l:=growL nextE (l.getD k default).n (inS l a k) (l.getD k default).n.length) (i:=(((K_ shpC (growL nextE (l.getD k default).n (inS l a k) (l.getD k default).n.length)).length:Int)-1).toNat) (by omega))
 exact tR_ [r_,b_,.r [] [.row (sO oz2)],.r [] [.row [i64 (P.getD k 0)],cr oz5,.cally [(900,950),(100000,100000),(100001,100001)] [(951,20000)] (bv true) [(951,Blk.slc 9 1 (K_ rowS (blK A l a P k++[blkS (l.getD k default) (↑k:Int) (P.getD k 0)]))),(100000,Blk.lp false R [AV.any,AV.any,AV.any,AV.any,AV.any,AV.any,AV.ptr 100001 0 0,AV.any,AV.any,AV.any,AV.any,AV.any,AV.any,AV.any,AV.any,AV.any,AV.any,AV.any,AV.any,AV.any,AV.any,AV.any,AV.any,AV.any,AV.any,AV.any]),(100001,Blk.var [AV.own 951])]],d_,.r [] [cr oz8],r_,.code [.any (rg [(9,2),(12,2),(20,23)]),.drop [10],.ren 20000 900,.weak 45 (i64 (↑0:Int)),.blk 900 (Blk.slc 9 1 (K_ rowS (ndK (blK A l a P k++[blkS (l.getD k default) (↑k:Int) (P.getD k 0)]) (l.getD k default).n (growL nextE (l.getD k default).n (inS l a k) (l.getD k default).n.length) 0))),.sort] (AI_ 2) (zO oz11),.r [] [.n (nO oz12),.row (sO oz14)],.r [] [.n ((↑k:Int)+1)]] [.any (rg [(11,1),(43,3),(61,7)]),.weak 19 (i64 (↑(k+1):Int)),.blk 5 (Blk.var [i64 (inS l a (k+1)).h,i64 (inS l a (k+1)).x,i64 (inS l a (k+1)).c]),.blk 900 (Blk.slc 9 1 (K_ rowS (blK A l a P (k+1)))),.sort] (.c8 (show decide ((↑k:Int)<((K_ blcC l).length:Int))=true by (simp;omega)) oz1 oz2 oz1 (map_at (row1 .i64) (0) (l:=P) (i:=k) (by omega)) oz5 (@hy' (blK A l a P k) (blkS (l.getD k default) (↑k:Int) (P.getD k 0)) (by omega)) z1_<|.c8 oz8 w0_ (show BlkW (Blk.slc 9 1 (K_ rowS (blK A l a P k++[blkS (l.getD k default) (↑k:Int) (P.getD k 0)]))) (Blk.slc 9 1 (K_ rowS (ndK (blK A l a P k++[blkS (l.getD k default) (↑k:Int) (P.getD k 0)]) (l.getD k default).n (growL nextE (l.getD k default).n (inS l a k) (l.getD k default).n.length) 0))) from (BZ_ (e:=9) (z:=1) (rows_to (rowS) (r:=K_ rowS (blK A l a P k++[blkS (l.getD k default) (↑k:Int) (P.getD k 0)])) (l:=blK A l a P k++[blkS (l.getD k default) (↑k:Int) (P.getD k 0)]) (m:=ndK (blK A l a P k++[blkS (l.getD k default) (↑k:Int) (P.getD k 0)]) (l.getD k default).n (growL nextE (l.getD k default).n (inS l a k) (l.getD k default).n.length) 0) rfl (show (blK A l a P k++[blkS (l.getD k default) (↑k:Int) (P.getD k 0)])=(ndK (blK A l a P k++[blkS (l.getD k default) (↑k:Int) (P.getD k 0)]) (l.getD k default).n (growL nextE (l.getD k default).n (inS l a k) (l.getD k default).n.length) 0) from (by rfl))))) oz11 oz12 (s_ (0≤((K_ shpC (growL nextE (l.getD k default).n (inS l a k) (l.getD k default).n.length)).length:Int)-1)) oz14 (i6n ((↑k:Int)+1) (by omega))<|.d3 (wS_ k) (show BlkW (Blk.var [i64 ((growL nextE (l.getD k default).n (inS l a k) (l.getD k default).n.length).getD (((K_ shpC (growL nextE (l.getD k default).n (inS l a k) (l.getD k default).n.length)).length:Int)-1).toNat default).h,i64 ((growL nextE (l.getD k default).n (inS l a k) (l.getD k default).n.length).getD (((K_ shpC (growL nextE (l.getD k default).n (inS l a k) (l.getD k default).n.length)).length:Int)-1).toNat default).x,i64 ((growL nextE (l.getD k default).n (inS l a k) (l.getD k default).n.length).getD (((K_ shpC (growL nextE (l.getD k default).n (inS l a k) (l.getD k default).n.length)).length:Int)-1).toNat default).c]) (Blk.var [i64 (inS l a (k+1)).h,i64 (inS l a (k+1)).x,i64 (inS l a (k+1)).c]) from (BlkW.var (m:=[i64 (inS l a (k+1)).h,i64 (inS l a (k+1)).x,i64 (inS l a (k+1)).c]) (.cons (M_ (by (rw[i1]<;>rfl))) (.cons (M_ (by (rw[i1]<;>rfl))) (.cons (M_ (by (rw[i1]<;>rfl))) .nil))))) (show BlkW (Blk.slc 9 1 (K_ rowS (ndK (blK A l a P k++[blkS (l.getD k default) (↑k:Int) (P.getD k 0)]) (l.getD k default).n (growL nextE (l.getD k default).n (inS l a k) (l.getD k default).n.length) (l.getD k default).n.length))) (Blk.slc 9 1 (K_ rowS (blK A l a P (k+1)))) from (BZ_ (e:=9) (z:=1) (rows_to (rowS) (r:=K_ rowS (ndK (blK A l a P k++[blkS (l.getD k default) (↑k:Int) (P.getD k 0)]) (l.getD k default).n (growL nextE (l.getD k default).n (inS l a k) (l.getD k default).n.length) (l.getD k default).n.length)) (l:=ndK (blK A l a P k++[blkS (l.getD k default) (↑k:Int) (P.getD k 0)]) (l.getD k default).n (growL nextE (l.getD k default).n (inS l a k) (l.getD k default).n.length) (l.getD k default).n.length) (m:=blK A l a P (k+1)) rfl (show (ndK (blK A l a P k++[blkS (l.getD k default) (↑k:Int) (P.getD k 0)]) (l.getD k default).n (growL nextE (l.getD k default).n (inS l a k) (l.getD k default).n.length) (l.getD k default).n.length)=(blK A l a P (k+1)) from (by rfl))))))
theorem model50_o_e (A:List ByteArray) (l:List Blc) (a:Shp) (P:List Int) (R:LoopR) (hy:YldS R) (ok:∀ x∈l,x.Ok) (sm:∀ x∈l,x.Sm) (oka:a.Ok) (h:MOK l a) (hl:l.length≤8) (hP:P.length=l.length) (hv:∀ v∈P,In32 v) (hA:A.length≤370):VT N_ (fnC Tryz.f34 [1,0,1,0,0]) (model50_o_I A l a P R (l.length)) (.exit 0) (model50_o_Z A l a P R):=by
 exact tR_ [r_,d_] [.any [20],.sort] (.d (show decide ((l.length:Int)<((K_ blcC l).length:Int))=false by (simp;done)))
theorem model50_o (A:List ByteArray) (l:List Blc) (a:Shp) (P:List Int) (R:LoopR) (hy:YldS R) (ok:∀ x∈l,x.Ok) (sm:∀ x∈l,x.Sm) (oka:a.Ok) (h:MOK l a) (hl:l.length≤8) (hP:P.length=l.length) (hv:∀ v∈P,In32 v) (hA:A.length≤370):VT N_ (fnC Tryz.f34 [1,0,1,0]) (model50_o_I A l a P R 0) (.exit 0) (model50_o_Z A l a P R) :=
 VT.loop (fun k=>model50_o_I A l a P R k) (l.length) (fun k hk=>model50_o_s A l a P R hy ok sm oka h hl hP hv hA k hk) (model50_o_e A l a P R hy ok sm oka h hl hP hv hA) (by intro h;cases h)
theorem model50_v (A:List ByteArray) (l:List Blc) (a:Shp) (P:List Int) (R:LoopR) (hy:YldS R) (ok:∀ x∈l,x.Ok) (sm:∀ x∈l,x.Sm) (oka:a.Ok) (h:MOK l a) (hl:l.length≤8) (hP:P.length=l.length) (hv:∀ v∈P,In32 v) (hA:A.length≤370):VM N_ 34 ([.agg [.sl 5 (l.map blcC)],shp a,ints .i64 P,.yl 100000]) ([(950,.slc 9 1 (A.map rowS)),(100000,.lp false R lt50),(100001,.var [.own 950])]) (bv true) ([(951,.slc 9 1 ((blK A l a P l.length).map rowS)),(100000,.lp false R lt50),(100001,.var [.own 951])]):=by
 have hy':=hy
 unfold YldS at hy'
 have oz3:=@model50_o (A) (l) (a) (P) (R) hy ok sm oka h hl hP hv hA
 exact mR_ [r_,r_,.code [.any [0,1,4,8,16],.drop [4],.ren 950 900,.weak 19 (i64 (↑0:Int)),.blk 5 (Blk.var [i64 (inS l a 0).h,i64 (inS l a 0).x,i64 (inS l a 0).c]),.blk 900 (Blk.slc 9 1 (K_ rowS (blK A l a P 0))),.sort] (AI_ 0) (zO oz3),r_] [.drop [5],.ren 900 951,.sort] _ Tryz.func34 (.d4 w0_ (show BlkW (Blk.var [i64 a.h,i64 a.x,i64 a.c]) (Blk.var [i64 (inS l a 0).h,i64 (inS l a 0).x,i64 (inS l a 0).c]) from (BlkW.var (m:=[i64 (inS l a 0).h,i64 (inS l a 0).x,i64 (inS l a 0).c]) (.cons (.refl _) (.cons (M_ (by rfl)) (.cons (M_ (by rfl)) .nil))))) (show BlkW (Blk.slc 9 1 (K_ rowS A)) (Blk.slc 9 1 (K_ rowS (blK A l a P 0))) from (BZ_ (e:=9) (z:=1) (rows_to (rowS) (r:=K_ rowS A) (l:=A) (m:=blK A l a P 0) rfl (show (A)=(blK A l a P 0) from (by rfl))))) oz3)
theorem joinS_m (i n:Int):joinS [⟨#[109,111,100,101,108]⟩,dg i,⟨#[98,108,111,99,107,115]⟩,dg n]=mdlS' i n:=by
 unfold joinS mdlS'
 refine bext ?_
 simp only[joinB_two,joinB_one,bapp,CP_];rfl
theorem joinS_b (a:Shp) (cl n s:Int):joinS [⟨#[98,117,110,100,108,101]⟩,shS a,⟨#[99,108,97,115,115,101,115]⟩,dg cl,⟨#[109,111,100,101,108,115]⟩,dg n,⟨#[99,111,115,116]⟩,dg s]=bunS' a cl n s:=by
 unfold joinS bunS'
 refine bext ?_
 simp only[joinB_two,joinB_one,bapp,CP_];rfl
theorem lines50_v (u:Bun) (T:List (List Int))  : VM N_ 17 ([bun u,.sl 1 (T.map intsC)]) ([]) (.clo 32 [.ptr 951 0 0,.ptr 952 0 0]) ([(951,.var [.sl 1 (T.map intsC)]),(952,.var (bunC u))]):=by
 exact mR_ [r_,r_] [.ren 2 952,.ren 3 951,.sort] _ Tryz.func17 (.n)
noncomputable def lnz_l_I (A:List ByteArray) (u:Bun) (T:List (List Int)) (R:LoopR) (k:Nat):VS:=stt 64 [(0,.yl 100000),(1,.ptr 100002 0 0),(2,.ptr 100003 0 0),(33,.sl 1 (u.m.map mdlC)),(34,i64 (u.m.map mdlC).length),(35,i64 k)] [(900,.slc 9 1 ((mdK A u T k).map rowS)),(100000,.lp false R lt50),(100001,.var [.own 900]),(100002,.var [.sl 1 (T.map intsC)]),(100003,.var (bunC u))]
noncomputable def lnz_l_Z (A:List ByteArray) (u:Bun) (T:List (List Int)) (R:LoopR):VS:=lnz_l_I A u T R (u.m.length)
theorem lnz_l_s (A:List ByteArray) (u:Bun) (T:List (List Int)) (R:LoopR) (hy:YldS R) (ok:u.Ok) (sm:u.Sm) (hT:TB T) (hl:T.length=u.m.length) (ht:∀ j,j<u.m.length→(T.getD j default).length=(u.m.getD j default).l.length) (h:∀ j,j<u.m.length→MOK (u.m.getD j default).l u.inp) (hA:A.length≤1) (k:Nat) (hk:k<u.m.length):VT N_ (fnC Tryz.f32 [1,1,1,0,0]) (lnz_l_I A u T R k) .normal (lnz_l_I A u T R (k+1)):=by
 have hy':=hy
 unfold YldS at hy'
 have q0:=sm.l
 have q1:=h k hk
 have q2:=(getD_in ok.m hk).l
 have q3:=(getD_in sm.m hk).2
 have q4:=(getD_in sm.m hk).1
 have q5:u.inp.Ok:=⟨ok.h,ok.x,ok.c⟩
 have q6:=ht k hk
 have q7:=mdK_len A u T k
 have q8:=cnM_le sm k (by omega)
 have q9:=(getD_in hT (s_ (k<T.length))).2
 have r1:=mdlS'_size (i:=(k:Int)) (n:=((K_ blcC (u.m.getD k default).l).length:Int)) ⟨by omega,by omega⟩ ⟨by omega,by rw[Q_];omega⟩
 rw[←joinS_m] at r1
 have oz1:=(s_ (0≤(↑k:Int)))
 have oz2:=(map_at (mdlC) (default) (l:=u.m) (i:=k) hk)
 have oz3:=@digits_v ((↑k:Int)) (by omega)
 have oz4:=@digits_v (((K_ blcC (u.m.getD k default).l).length:Int)) (by (simp only[Q_] at *;omega))
 have oz6:=@joined_v ([ByteArray.mk #[109,111,100,101,108],dg (↑k:Int),ByteArray.mk #[98,108,111,99,107,115],dg ((K_ blcC (u.m.getD k default).l).length:Int)]) (by omega) (by (simp only[AW_,AO_,AS_];omega))
 have oz8:=z1_
 have oz15:=(map_at (intsC) (default) (l:=T) (i:=k) (by omega))
 have oz19:=@model50_v (mdK A u T k++[joinS [ByteArray.mk #[109,111,100,101,108],dg (↑k:Int),ByteArray.mk #[98,108,111,99,107,115],dg ((K_ blcC (u.m.getD k default).l).length:Int)]]) ((u.m.getD k default).l) (Shp.mk u.h u.x u.c) (T.getD k default) (R) hy q2 q3 q5 q1 q4 q6 q9 (by (simp only[AW_,AO_,AS_];omega))
 exact tR_ [r_,b_,.r [] [.row (sO oz2)],.r [] [cr oz3,cr oz4,ca oz6,.cally [(900,950),(100000,100000),(100001,100001)] [(951,20000)] (bv true) [(951,Blk.slc 9 1 (K_ rowS (mdK A u T k++[joinS [ByteArray.mk #[109,111,100,101,108],dg (↑k:Int),ByteArray.mk #[98,108,111,99,107,115],dg ((K_ blcC (u.m.getD k default).l).length:Int)]]))),(100000,Blk.lp false R [AV.any,AV.any,AV.any,AV.any,AV.any,AV.any,AV.ptr 100001 0 0,AV.any,AV.any,AV.any,AV.any,AV.any,AV.any,AV.any,AV.any,AV.any,AV.any,AV.any,AV.any,AV.any,AV.any,AV.any,AV.any,AV.any,AV.any,AV.any]),(100001,Blk.var [AV.own 951])],e_,e_,e_,e_,e_,e_,.row (sO oz15),e_,e_,e_,.callm [(20000,950),(100000,100000),(100001,100001)] [(951,20001)] (rM oz19) (oM oz19),e_,f_],d_,.r [] [.n ((↑k:Int)+1)]] [.any (rg [(7,2),(36,28)]),.drop [8,47],.ren 20001 900,.weak 35 (i64 (↑(k+1):Int)),.blk 900 (Blk.slc 9 1 (K_ rowS (mdK A u T (k+1)))),.sort] (.c8 (show decide ((↑k:Int)<((K_ mdlC u.m).length:Int))=true by (simp;omega)) oz1 oz2 oz3 oz4 (show WeakL [AV.sl 1 [[AV.lit (L_ (ByteArray.mk #[109,111,100,101,108]))],[AV.lit (L_ (dg (↑k:Int)))],[AV.lit (L_ (ByteArray.mk #[98,108,111,99,107,115]))],[AV.lit (L_ (dg ((K_ blcC (u.m.getD k default).l).length:Int)))]]] [AV.sl 1 [[AV.lit (L_ (ByteArray.mk #[109,111,100,101,108]))],[AV.lit (L_ (dg (↑k:Int)))],[AV.lit (L_ (ByteArray.mk #[98,108,111,99,107,115]))],[AV.lit (L_ (dg ((K_ blcC (u.m.getD k default).l).length:Int)))]]] from (.cons (Weak.rows (rows_to (rowS) (r:=[[AV.lit (L_ (ByteArray.mk #[109,111,100,101,108]))],[AV.lit (L_ (dg (↑k:Int)))],[AV.lit (L_ (ByteArray.mk #[98,108,111,99,107,115]))],[AV.lit (L_ (dg ((K_ blcC (u.m.getD k default).l).length:Int)))]]) (l:=[ByteArray.mk #[109,111,100,101,108],dg (↑k:Int),ByteArray.mk #[98,108,111,99,107,115],dg ((K_ blcC (u.m.getD k default).l).length:Int)]) (m:=[ByteArray.mk #[109,111,100,101,108],dg (↑k:Int),ByteArray.mk #[98,108,111,99,107,115],dg ((K_ blcC (u.m.getD k default).l).length:Int)]) (by first|(simp only[X_,Z_,AL_,AM_,V_,D_,AK_];done)|rfl|(simp only[X_,Z_,AL_,AM_,V_,D_,AK_];rfl)|(simp only[X_,Z_,AL_,AM_,V_,D_,AK_,rowS,ints];done)) rfl)) .nil)) oz6 (@hy' (mdK A u T k) (joinS [ByteArray.mk #[109,111,100,101,108],dg (↑k:Int),ByteArray.mk #[98,108,111,99,107,115],dg ((K_ blcC (u.m.getD k default).l).length:Int)]) (by omega))<|.c8 oz8 oz8 oz8 oz8 oz8 oz8 oz1 oz15<|.c8 oz8 oz8 oz8 oz19 oz8 oz8 oz8 (i6n ((↑k:Int)+1) (by omega))<|.d2 (wS_ k) (show BlkW (Blk.slc 9 1 (K_ rowS (blK (mdK A u T k++[joinS [ByteArray.mk #[109,111,100,101,108],dg (↑k:Int),ByteArray.mk #[98,108,111,99,107,115],dg ((K_ blcC (u.m.getD k default).l).length:Int)]]) (u.m.getD k default).l (Shp.mk u.h u.x u.c) (T.getD k default) (u.m.getD k default).l.length))) (Blk.slc 9 1 (K_ rowS (mdK A u T (k+1)))) from (BZ_ (e:=9) (z:=1) (rows_to (rowS) (r:=K_ rowS (blK (mdK A u T k++[joinS [ByteArray.mk #[109,111,100,101,108],dg (↑k:Int),ByteArray.mk #[98,108,111,99,107,115],dg ((K_ blcC (u.m.getD k default).l).length:Int)]]) (u.m.getD k default).l (Shp.mk u.h u.x u.c) (T.getD k default) (u.m.getD k default).l.length)) (l:=blK (mdK A u T k++[joinS [ByteArray.mk #[109,111,100,101,108],dg (↑k:Int),ByteArray.mk #[98,108,111,99,107,115],dg ((K_ blcC (u.m.getD k default).l).length:Int)]]) (u.m.getD k default).l (Shp.mk u.h u.x u.c) (T.getD k default) (u.m.getD k default).l.length) (m:=mdK A u T (k+1)) rfl (show (blK (mdK A u T k++[joinS [ByteArray.mk #[109,111,100,101,108],dg (↑k:Int),ByteArray.mk #[98,108,111,99,107,115],dg ((K_ blcC (u.m.getD k default).l).length:Int)]]) (u.m.getD k default).l (Shp.mk u.h u.x u.c) (T.getD k default) (u.m.getD k default).l.length)=(mdK A u T (k+1)) from (by (rw[joinS_m];simp only[Q_];(rw[mdK]<;>rfl))))))))
theorem lnz_l_e (A:List ByteArray) (u:Bun) (T:List (List Int)) (R:LoopR) (hy:YldS R) (ok:u.Ok) (sm:u.Sm) (hT:TB T) (hl:T.length=u.m.length) (ht:∀ j,j<u.m.length→(T.getD j default).length=(u.m.getD j default).l.length) (h:∀ j,j<u.m.length→MOK (u.m.getD j default).l u.inp) (hA:A.length≤1):VT N_ (fnC Tryz.f32 [1,1,1,0,0]) (lnz_l_I A u T R (u.m.length)) (.exit 0) (lnz_l_Z A u T R):=by
 exact tR_ [r_,d_] [.any [36],.sort] (.d (show decide ((u.m.length:Int)<((K_ mdlC u.m).length:Int))=false by (simp;done)))
theorem lnz_l (A:List ByteArray) (u:Bun) (T:List (List Int)) (R:LoopR) (hy:YldS R) (ok:u.Ok) (sm:u.Sm) (hT:TB T) (hl:T.length=u.m.length) (ht:∀ j,j<u.m.length→(T.getD j default).length=(u.m.getD j default).l.length) (h:∀ j,j<u.m.length→MOK (u.m.getD j default).l u.inp) (hA:A.length≤1):VT N_ (fnC Tryz.f32 [1,1,1,0]) (lnz_l_I A u T R 0) (.exit 0) (lnz_l_Z A u T R) :=
 VT.loop (fun k=>lnz_l_I A u T R k) (u.m.length) (fun k hk=>lnz_l_s A u T R hy ok sm hT hl ht h hA k hk) (lnz_l_e A u T R hy ok sm hT hl ht h hA) (by intro h;cases h)
theorem lnz_v (u:Bun) (T:List (List Int)) (R:LoopR) (hy:YldS R) (ok:u.Ok) (sm:u.Sm) (hT:TB T) (hl:T.length=u.m.length) (ht:∀ j,j<u.m.length→(T.getD j default).length=(u.m.getD j default).l.length) (h:∀ j,j<u.m.length→MOK (u.m.getD j default).l u.inp):VM N_ 32 ([.yl 100000,.ptr 100002 0 0,.ptr 100003 0 0]) ([(950,.slc 9 1 (([]:List ByteArray).map rowS)),(100000,.lp false R lt50),(100001,.var [.own 950]),(100002,.var [.sl 1 (T.map intsC)]),(100003,.var (bunC u))]) (.tup []) ([(951,.slc 9 1 ((mdK [joinS [⟨#[98,117,110,100,108,101]⟩,shS u.inp,⟨#[99,108,97,115,115,101,115]⟩,dg u.cl,⟨#[109,111,100,101,108,115]⟩,dg ((K_ mdlC u.m).length:Int),⟨#[99,111,115,116]⟩,dg (endT T T.length).al]] u T u.m.length).map rowS)),(100000,.lp false R lt50),(100001,.var [.own 951]),(100002,.var [.sl 1 (T.map intsC)]),(100003,.var (bunC u))]):=by
 have hy':=hy
 unfold YldS at hy'
 have q0:=sm.l
 have q5:u.inp.Ok:=⟨ok.h,ok.x,ok.c⟩
 have q6:=endT_bd hT _ (AV_ _)
 have q7:=ok.cl
 have q8:∀ l∈T,l.length≤50∧∀ v∈l,In32 v:=hT
 have r1:=bunS'_size (a:=Shp.mk u.h u.x u.c) (cl:=u.cl) (n:=((K_ mdlC u.m).length:Int)) (s:=(endT T T.length).al) q5 ok.cl ⟨by omega,by rw[Q_];omega⟩ ⟨by omega,by omega⟩
 rw[←joinS_b] at r1
 have oz0:=@ends_v (T) (by omega) q8
 have oz1:=@shape50_v (Shp.mk u.h u.x u.c) q5
 have oz2:=@digits_v (u.cl) q7
 have oz3:=@digits_v (((K_ mdlC u.m).length:Int)) (by (simp;omega))
 have oz4:=@digits_v ((endT T T.length).al) (by omega)
 have oz6:=@joined_v ([ByteArray.mk #[98,117,110,100,108,101],shS (Shp.mk u.h u.x u.c),ByteArray.mk #[99,108,97,115,115,101,115],dg u.cl,ByteArray.mk #[109,111,100,101,108,115],dg ((K_ mdlC u.m).length:Int),ByteArray.mk #[99,111,115,116],dg (endT T T.length).al]) (by omega) (by (simp;done))
 have oz11:=@lnz_l ([joinS [ByteArray.mk #[98,117,110,100,108,101],shS (Shp.mk u.h u.x u.c),ByteArray.mk #[99,108,97,115,115,101,115],dg u.cl,ByteArray.mk #[109,111,100,101,108,115],dg ((K_ mdlC u.m).length:Int),ByteArray.mk #[99,111,115,116],dg (endT T T.length).al]]) (u) (T) (R) hy ok sm hT hl ht h (by (simp;done))
 exact mR_ [.r [] [cr oz0],.r [] [cr oz1,cr oz2,cr oz3,cr oz4,ca oz6,.cally [(950,950),(100000,100000),(100001,100001)] [(951,20000)] (bv true) [(951,Blk.slc 9 1 (K_ rowS ([]++[joinS [ByteArray.mk #[98,117,110,100,108,101],shS (Shp.mk u.h u.x u.c),ByteArray.mk #[99,108,97,115,115,101,115],dg u.cl,ByteArray.mk #[109,111,100,101,108,115],dg ((K_ mdlC u.m).length:Int),ByteArray.mk #[99,111,115,116],dg (endT T T.length).al]]))),(100000,Blk.lp false R [AV.any,AV.any,AV.any,AV.any,AV.any,AV.any,AV.ptr 100001 0 0,AV.any,AV.any,AV.any,AV.any,AV.any,AV.any,AV.any,AV.any,AV.any,AV.any,AV.any,AV.any,AV.any,AV.any,AV.any,AV.any,AV.any,AV.any,AV.any]),(100001,Blk.var [AV.own 951])]],d_,r_,.code [.any (rg [(4,3),(9,24)]),.drop [28],.ren 20000 900,.weak 35 (i64 (↑0:Int)),.blk 900 (Blk.slc 9 1 (K_ rowS (mdK [joinS [ByteArray.mk #[98,117,110,100,108,101],shS (Shp.mk u.h u.x u.c),ByteArray.mk #[99,108,97,115,115,101,115],dg u.cl,ByteArray.mk #[109,111,100,101,108,115],dg ((K_ mdlC u.m).length:Int),ByteArray.mk #[99,111,115,116],dg (endT T T.length).al]] u T 0))),.sort] (AI_ 0) (zO oz11)] [.ren 900 951,.sort] _ Tryz.func32 (.c8 oz0 oz1 oz2 oz3 oz4 (show WeakL [AV.sl 1 [[AV.lit (L_ (ByteArray.mk #[98,117,110,100,108,101]))],[AV.lit (L_ (shS (Shp.mk u.h u.x u.c)))],[AV.lit (L_ (ByteArray.mk #[99,108,97,115,115,101,115]))],[AV.lit (L_ (dg u.cl))],[AV.lit (L_ (ByteArray.mk #[109,111,100,101,108,115]))],[AV.lit (L_ (dg ((K_ mdlC u.m).length:Int)))],[AV.lit (L_ (ByteArray.mk #[99,111,115,116]))],[AV.lit (L_ (dg (endT T T.length).al))]]] [AV.sl 1 [[AV.lit (L_ (ByteArray.mk #[98,117,110,100,108,101]))],[AV.lit (L_ (shS (Shp.mk u.h u.x u.c)))],[AV.lit (L_ (ByteArray.mk #[99,108,97,115,115,101,115]))],[AV.lit (L_ (dg u.cl))],[AV.lit (L_ (ByteArray.mk #[109,111,100,101,108,115]))],[AV.lit (L_ (dg ((K_ mdlC u.m).length:Int)))],[AV.lit (L_ (ByteArray.mk #[99,111,115,116]))],[AV.lit (L_ (dg (endT T T.length).al))]]] from (.cons (Weak.rows (rows_to (rowS) (r:=[[AV.lit (L_ (ByteArray.mk #[98,117,110,100,108,101]))],[AV.lit (L_ (shS (Shp.mk u.h u.x u.c)))],[AV.lit (L_ (ByteArray.mk #[99,108,97,115,115,101,115]))],[AV.lit (L_ (dg u.cl))],[AV.lit (L_ (ByteArray.mk #[109,111,100,101,108,115]))],[AV.lit (L_ (dg ((K_ mdlC u.m).length:Int)))],[AV.lit (L_ (ByteArray.mk #[99,111,115,116]))],[AV.lit (L_ (dg (endT T T.length).al))]]) (l:=[ByteArray.mk #[98,117,110,100,108,101],shS (Shp.mk u.h u.x u.c),ByteArray.mk #[99,108,97,115,115,101,115],dg u.cl,ByteArray.mk #[109,111,100,101,108,115],dg ((K_ mdlC u.m).length:Int),ByteArray.mk #[99,111,115,116],dg (endT T T.length).al]) (m:=[ByteArray.mk #[98,117,110,100,108,101],shS (Shp.mk u.h u.x u.c),ByteArray.mk #[99,108,97,115,115,101,115],dg u.cl,ByteArray.mk #[109,111,100,101,108,115],dg ((K_ mdlC u.m).length:Int),ByteArray.mk #[99,111,115,116],dg (endT T T.length).al]) (by first|(simp only[X_,Z_,AL_,AM_,V_,D_,AK_];done)|rfl|(simp only[X_,Z_,AL_,AM_,V_,D_,AK_];rfl)|(simp only[X_,Z_,AL_,AM_,V_,D_,AK_,rowS,ints];done)) rfl)) .nil)) oz6 (@VY.pre _ _ ([AV.lit (L_ (joinS [ByteArray.mk #[98,117,110,100,108,101],shS (Shp.mk u.h u.x u.c),ByteArray.mk #[99,108,97,115,115,101,115],dg u.cl,ByteArray.mk #[109,111,100,101,108,115],dg ((K_ mdlC u.m).length:Int),ByteArray.mk #[99,111,115,116],dg (endT T T.length).al]))]) _ ([(950,Blk.slc 9 1 []),(100000,Blk.lp false R [AV.any,AV.any,AV.any,AV.any,AV.any,AV.any,AV.ptr 100001 0 0,AV.any,AV.any,AV.any,AV.any,AV.any,AV.any,AV.any,AV.any,AV.any,AV.any,AV.any,AV.any,AV.any,AV.any,AV.any,AV.any,AV.any,AV.any,AV.any]),(100001,Blk.var [AV.own 950])]) _ _ _ ([GI.sort]) _ (@hy' ([]) (joinS [ByteArray.mk #[98,117,110,100,108,101],shS (Shp.mk u.h u.x u.c),ByteArray.mk #[99,108,97,115,115,101,115],dg u.cl,ByteArray.mk #[109,111,100,101,108,115],dg ((K_ mdlC u.m).length:Int),ByteArray.mk #[99,111,115,116],dg (endT T T.length).al]) (by (simp;done))) (by kernel_rfl) (.n))<|.d4 z1_ w0_ (show BlkW (Blk.slc 9 1 [[AV.lit (L_ (joinS [ByteArray.mk #[98,117,110,100,108,101],shS (Shp.mk u.h u.x u.c),ByteArray.mk #[99,108,97,115,115,101,115],dg u.cl,ByteArray.mk #[109,111,100,101,108,115],dg ((K_ mdlC u.m).length:Int),ByteArray.mk #[99,111,115,116],dg (endT T T.length).al]))]]) (Blk.slc 9 1 [[AV.lit (L_ (joinS [ByteArray.mk #[98,117,110,100,108,101],shS (Shp.mk u.h u.x u.c),ByteArray.mk #[99,108,97,115,115,101,115],dg u.cl,ByteArray.mk #[109,111,100,101,108,115],dg ((K_ mdlC u.m).length:Int),ByteArray.mk #[99,111,115,116],dg (endT T T.length).al]))]]) from (BZ_ (e:=9) (z:=1) (rows_to (rowS) (r:=[[AV.lit (L_ (joinS [ByteArray.mk #[98,117,110,100,108,101],shS (Shp.mk u.h u.x u.c),ByteArray.mk #[99,108,97,115,115,101,115],dg u.cl,ByteArray.mk #[109,111,100,101,108,115],dg ((K_ mdlC u.m).length:Int),ByteArray.mk #[99,111,115,116],dg (endT T T.length).al]))]]) (l:=[joinS [ByteArray.mk #[98,117,110,100,108,101],shS (Shp.mk u.h u.x u.c),ByteArray.mk #[99,108,97,115,115,101,115],dg u.cl,ByteArray.mk #[109,111,100,101,108,115],dg ((K_ mdlC u.m).length:Int),ByteArray.mk #[99,111,115,116],dg (endT T T.length).al]]) (m:=mdK [joinS [ByteArray.mk #[98,117,110,100,108,101],shS (Shp.mk u.h u.x u.c),ByteArray.mk #[99,108,97,115,115,101,115],dg u.cl,ByteArray.mk #[109,111,100,101,108,115],dg ((K_ mdlC u.m).length:Int),ByteArray.mk #[99,111,115,116],dg (endT T T.length).al]] u T 0) (by first|(simp only[X_,Z_,AL_,AM_,V_,D_,AK_];done)|rfl|(simp only[X_,Z_,AL_,AM_,V_,D_,AK_];rfl)|(simp only[X_,Z_,AL_,AM_,V_,D_,AK_,rowS,ints];done)) (show ([joinS [ByteArray.mk #[98,117,110,100,108,101],shS (Shp.mk u.h u.x u.c),ByteArray.mk #[99,108,97,115,115,101,115],dg u.cl,ByteArray.mk #[109,111,100,101,108,115],dg ((K_ mdlC u.m).length:Int),ByteArray.mk #[99,111,115,116],dg (endT T T.length).al]])=(mdK [joinS [ByteArray.mk #[98,117,110,100,108,101],shS (Shp.mk u.h u.x u.c),ByteArray.mk #[99,108,97,115,115,101,115],dg u.cl,ByteArray.mk #[109,111,100,101,108,115],dg ((K_ mdlC u.m).length:Int),ByteArray.mk #[99,111,115,116],dg (endT T T.length).al]] u T 0) from (by rfl))))) oz11)
noncomputable def lasg_r_A (s:ByteArray) (B:List ByteArray) (R:LoopR):VS:=stt 26 [(6,.ptr 100001 0 0),(20,st s)] [(950,.slc 9 1 (B.map rowS)),(100000,.lp false R lt50),(100001,.var [.own 950])]
noncomputable def lasg_r_Z (s:ByteArray) (B:List ByteArray) (R:LoopR):VS:=stt 26 [(6,.ptr 100001 0 0),(7,st s)] [(950,.slc 9 1 (B.map rowS)),(100000,.lp false R lt50),(100001,.var [.own 950])]
theorem lasg_r (s:ByteArray) (B:List ByteArray) (R:LoopR)  (rd:Nat):VTo (some rd) N_ (fnC Tryz.f8 [1,1,1,1,0,1,0,0]) (lasg_r_A s B R) .normal (lasg_r_Z s B R):=by
 exact VTo.run (W:=[r_]) (G:=[.any [20],.sort]) (by kernel_rfl) (by kernel_rfl) (.n)
noncomputable def lbody_r_A (s:ByteArray) (B:List ByteArray) (R:LoopR):VS:=stt 26 [(6,.ptr 100001 0 0),(7,st s)] [(950,.slc 9 1 (B.map rowS)),(100000,.lp true R lt50),(100001,.var [.own 950])]
noncomputable def lbody_r_Z (s:ByteArray) (B:List ByteArray) (R:LoopR):VS:=stt 26 [] [(951,.slc 9 1 ((B++[s]).map rowS)),(100000,.lp true R lt50),(100001,.var [.own 951])]
theorem lbody_r (s:ByteArray) (B:List ByteArray) (R:LoopR) (hB:B.length≤499) (rd:Nat):VTo (some rd) N_ (fnC Tryz.f8 [1,1,1,1,0,1,0,1]) (lbody_r_A s B R) .normal (lbody_r_Z s B R):=by
 exact VTo.run (W:=[r_]) (G:=[.any [6,7,21,22,23,24],.drop [23],.ren 24 951,.blk 951 (Blk.slc 9 1 (K_ rowS (B++[s]))),.sort]) (by kernel_rfl) (by kernel_rfl) (.d3 (show ((K_ rowS B).length+1)*16≤140737488355328 by (simp only[Q_];omega)) (show (K_ rowS B).length+1≤9223372036854775807 by (simp only[Q_];omega)) (show BlkW (Blk.slc 9 1 (K_ rowS B++[[AV.lit (L_ s)]])) (Blk.slc 9 1 (K_ rowS (B++[s]))) from (BZ_ (e:=9) (z:=1) (rows_to (rowS) (r:=K_ rowS B++[[AV.lit (L_ s)]]) (l:=B++[s]) (m:=B++[s]) (by first|(simp only[X_,Z_,AL_,AM_,V_,D_,AK_];done)|rfl|(simp only[X_,Z_,AL_,AM_,V_,D_,AK_];rfl)|(simp only[X_,Z_,AL_,AM_,V_,D_,AK_,rowS,ints];done)) rfl))))
noncomputable def lnR:LoopR:=⟨#[20],fnC Tryz.f8 [1,1,1,1,0,1,0,0],fnC Tryz.f8 [1,1,1,1,0,1,0,1]⟩
theorem lround_v:YldS lnR:=by
 intro B s hB
 have e1:(⟨putPs lt50 lnR.ps.toList [st s],[(950,.slc 9 1 (B.map rowS)),(100000,.lp false lnR lt50),(100001,.var [.own 950])]⟩:VS)=lasg_r_A s B lnR:=by kernel_rfl
 have e2:(⟨(lasg_r_Z s B lnR).t,put1 100000 (.lp true lnR lt50) (lasg_r_Z s B lnR).o⟩:VS)=lbody_r_A s B lnR:=by kernel_rfl
 have e3:put1 100000 (.lp false lnR lt50) (lbody_r_Z s B lnR).o=[(951,.slc 9 1 ((B++[s]).map rowS)),(100000,.lp false lnR lt50),(100001,.var [.own 951])]:=by kernel_rfl
 have l1:look (lasg_r_Z s B lnR).o 100000=some (.lp false lnR lt50):=by kernel_rfl
 have l2:look (lbody_r_Z s B lnR).o 100000=some (.lp true lnR lt50):=by kernel_rfl
 have l0:look [(950,Blk.slc 9 1 (B.map rowS)),(100000,.lp false lnR lt50),(100001,.var [.own 950])] 100000=some (.lp false lnR lt50):=by kernel_rfl
 rw[←e3]
 refine VY.of (R:=lnR) (t:=lt50) (t':=lt50) (t'':=lt50) (t1:=(lasg_r_Z s B lnR).t) (o1:=(lasg_r_Z s B lnR).o) (t2:=(lbody_r_Z s B lnR).t) (o2:=(lbody_r_Z s B lnR).o) rfl l0 (fun q=>?_) l1 (fun q=>?_) l2
 ·rw[e1];exact lasg_r s B lnR q
 ·rw[e2];exact lbody_r s B lnR hB q
noncomputable def lnI (u:Bun) (T:List (List Int)):VS:=stt 26 [(6,.ptr 6 0 0),(19,.clo 32 [.ptr 960 0 0,.ptr 961 0 0])] [(6,.var [.own 900]),(900,.slc 9 1 (([]:List ByteArray).map rowS)),(960,.var [.sl 1 (T.map intsC)]),(961,.var (bunC u))]
noncomputable def lnZ (u:Bun) (T:List (List Int)) (L:List ByteArray):VS:=stt 26 [(6,.ptr 6 0 0),(19,.clo 32 [.ptr 960 0 0,.ptr 961 0 0])] [(6,.var [.own 980]),(960,.var [.sl 1 (T.map intsC)]),(961,.var (bunC u)),(980,.slc 9 1 (L.map rowS))]
def vrangeG (P:Program) (gv:Operand) (ps:Array Tmp) (asg body:Code) (σ:VS) (dr:List Nat) (kl kp:Nat) (ren out:List (Nat×Nat)) (r:AV) (o':List (Nat×Blk)) (G:List GI):Option (List Prop×VS):=match vrange P gv ps asg body σ dr kl kp ren out r o' with
 | some (ob,σ1)=>match ghosts G σ1 with
  | some (ob2,σ2)=>some (ob++ob2,σ2)
  | none=>none
 | none=>none
theorem VT.rangeG {P:Program} {gv:Operand} {ps:Array Tmp} {asg body:Code} {σ σ':VS} {dr:List Nat} {kl kp:Nat} {ren out:List (Nat×Nat)} {r:AV} {o':List (Nat×Blk)} {G:List GI} {ob:List Prop} (h:vrangeG P gv ps asg body σ dr kl kp ren out r o' G=some (ob,σ')) (hob:All ob):VT P (.rangeFunc gv ps asg body) σ .normal σ':=by
 unfold vrangeG at h
 split at h
 ·rename_i ob1 σ1 h1
  split at h
  ·rename_i ob2 σ2 h2
   injection h with h;injection h with a1 a2;subst a1 a2
   exact (VT.range h1 (All.app hob).1).post h2 (All.app hob).2
  ·cases h
 ·cases h
theorem lncode:fnC Tryz.f8 [1,1,1,1,0,1,0]=.rangeFunc (.tmp 19) #[20] (fnC Tryz.f8 [1,1,1,1,0,1,0,0]) (fnC Tryz.f8 [1,1,1,1,0,1,0,1]):=by kernel_rfl
abbrev lnL (u:Bun) (T:List (List Int)):List ByteArray:=mdK [joinS [⟨#[98,117,110,100,108,101]⟩,shS u.inp,⟨#[99,108,97,115,115,101,115]⟩,dg u.cl,⟨#[109,111,100,101,108,115]⟩,dg ((K_ mdlC u.m).length:Int),⟨#[99,111,115,116]⟩,dg (endT T T.length).al]] u T u.m.length
theorem lnL_eq (u:Bun):lnL u (tabK u u.m.length)=linesU u:=by
 unfold lnL linesU
 rw[joinS_b,Q_]
theorem lrange_v (u:Bun) (T:List (List Int)) (ok:u.Ok) (sm:u.Sm) (hT:TB T) (hl:T.length=u.m.length) (ht:∀ j,j<u.m.length→(T.getD j default).length=(u.m.getD j default).l.length) (h:∀ j,j<u.m.length→MOK (u.m.getD j default).l u.inp):VT N_ (fnC Tryz.f8 [1,1,1,1,0,1,0]) (lnI u T) .normal (lnZ u T (lnL u T)):=by
 rw[lncode]
 have hv:=lnz_v u T lnR lround_v ok sm hT hl ht h
 have key:vrangeG N_ (.tmp 19) #[20] (fnC Tryz.f8 [1,1,1,1,0,1,0,0]) (fnC Tryz.f8 [1,1,1,1,0,1,0,1]) (lnI u T) [19] 970 100000 [(900,950),(970,100000),(6,100001),(960,100002),(961,100003)] [(951,980)] (.tup []) [(951,.slc 9 1 ((lnL u T).map rowS)),(100000,.lp false lnR lt50),(100001,.var [.own 951]),(100002,.var [.sl 1 (T.map intsC)]),(100003,.var (bunC u))] [.sort]=some ([VM N_ 32 [.yl 100000,.ptr 100002 0 0,.ptr 100003 0 0] [(950,.slc 9 1 (([]:List ByteArray).map rowS)),(100000,.lp false lnR lt50),(100001,.var [.own 950]),(100002,.var [.sl 1 (T.map intsC)]),(100003,.var (bunC u))] (.tup []) [(951,.slc 9 1 ((lnL u T).map rowS)),(100000,.lp false lnR lt50),(100001,.var [.own 951]),(100002,.var [.sl 1 (T.map intsC)]),(100003,.var (bunC u))]],lnZ u T (lnL u T)):=by
  kernel_rfl
 exact VT.rangeG key ⟨hv,trivial⟩
theorem lines_w (u:Bun) (v:VBun u):VC N_ 8 ([bun u]) (.tup [strs (lnL u (tabK u u.m.length)),i64 0]):=by
 have q0:=v.ok
 have q1:=v.sm
 have q2:=q1.l
 have q4:=v.s
 have q5:=tabK_bd q1 _ (AV_ _)
 have q6:=tabK_len u u.m.length
 have q7:∀ j,j<u.m.length→((tabK u u.m.length).getD j default).length=(u.m.getD j default).l.length:=fun j hj=>by rw[tabK_get u hj,rowK_len]
 have q8:∀ l∈tabK u u.m.length,l.length≤1000:=fun l hl=>by have:=(q5 l hl).1;omega
 have oz0:=@new_y (u) v
 have oz2:=@tabl_v (u) (tabK u u.m.length) (inW u u.m.length) (by omega) q8
 have oz3:=@lines50_v (u) (tabK u u.m.length)
 have oz4:=@lrange_v (u) (tabK u u.m.length) q0 q1 q5 q6 q7 q4
 exact cR_ [r_,.r [] [.callm [] [(951,20000)] (rM oz0) (oM oz0)],r_,d_,r_,.r [] [.callm [(20000,100000)] [] (rM oz2) (oM oz2),.callm [] [(951,20001),(952,20002)] (rM oz3) (oM oz3)],.code [.any (rg [(0,6),(8,7),(16,3)]),.drop [1,20000],.ren 20002 961,.ren 20001 960,.nilc 900 9 1 6 0,.sort] (Exit.normal) (zO oz4),r_] _ Tryz.func8 (.d5 oz0 z1_ oz2 oz3 oz4)
theorem lines_y (u:Bun) (v:VBun u):VC N_ 8 [bun u] (.tup [strs (linesU u),i64 0]):=by
 have:=lines_w u v
 rw[lnL_eq] at this;exact this
theorem lines_n (u:Bun) (ok:u.Ok) (sm:u.Sm) (h:(bunE u).w≠0):VC N_ 8 ([bun u]) (.tup [nilv,i64 (bunE u).w]):=by
 have q8:((bunE u).w != 0)=true:=by simpa using h
 have oz0:=@new_n (u) ok sm h
 exact cR_ [r_,.r [] [cr oz0],r_,b_,r_] _ Tryz.func8 (.d2 oz0 q8)
theorem text_y (u:Bun) (v:VBun u):VC N_ 9 ([bun u]) (.tup [st (joinB (linesU u) ⟨#[10]⟩++⟨#[10]⟩),i64 0]):=by
 have q1:=linesU_len v.sm
 have q2:=LB.join (s:=⟨#[10]⟩) (linesU_lb v.ok v.sm) (by decide)
 have oz0:=@lines_y (u) v
 have oz2:=@join_v (linesU u) (ByteArray.mk #[10]) (by omega) (by omega)
 exact cR_ [r_,.r [] [cr oz0],r_,d_,.r [] [cr oz2,.v (L_ (joinB (linesU u) (ByteArray.mk #[10])++ByteArray.mk #[10]))]] _ Tryz.func9 (.d4 oz0 z1_ oz2 (show BinTo N_ BinOp.add 9 (Operand.tmp 15) (Operand.const (L_ (ByteArray.mk #[10]))) (L_ (joinB (linesU u) (ByteArray.mk #[10]))) (L_ (ByteArray.mk #[10])) (L_ (joinB (linesU u) (ByteArray.mk #[10])++ByteArray.mk #[10])) from (bin_add (by (simp only[bapp_size,lit_size,AO_,AS_];omega)))))
theorem text_n (u:Bun) (ok:u.Ok) (sm:u.Sm) (h:(bunE u).w≠0):VC N_ 9 ([bun u]) (.tup [st ⟨#[]⟩,i64 (bunE u).w]):=by
 have q8:((bunE u).w != 0)=true:=by simpa using h
 have oz0:=@lines_n (u) ok sm h
 exact cR_ [r_,.r [] [cr oz0],r_,b_,r_] _ Tryz.func9 (.d2 oz0 q8)
def txK (L:List ByteArray):Nat→ByteArray
 | 0=>⟨#[]⟩
 | k+1=>txK L k++L.getD k default++⟨#[10]⟩
theorem txK_size {L:List ByteArray} (h:LB L):∀ k,k≤L.length→(txK L k).size≤301*k
 | 0,_=>AV_ _
 | k+1,hk=>by
  have:=txK_size h k (by omega)
  have:=getD_in h (s_ (k<L.length))
  rw[txK,bapp_size,bapp_size,show (⟨#[10]⟩:ByteArray).size=1 from rfl];omega
def catB:List ByteArray→ByteArray
 | []=>⟨#[]⟩
 | x::l=>x++(⟨#[10]⟩++catB l)
theorem bnil (a:ByteArray):a++⟨#[]⟩=a:=bext (by rw[bapp];simp)
theorem nilb (a:ByteArray):(⟨#[]⟩:ByteArray)++a=a:=bext (by rw[bapp];simp)
theorem catB_app (l:List ByteArray) (x:ByteArray):catB (l++[x])=catB l++x++⟨#[10]⟩:=by
 induction l with
 | nil=>simp only[List.nil_append,catB,nilb,bnil]
 | cons y l ih=>simp only[List.cons_append,catB,ih,bassoc]
theorem txK_cat (L:List ByteArray):∀ k,k≤L.length→txK L k=catB (L.take k)
 | 0,_=>rfl
 | k+1,hk=>by
  have e:L.take (k+1)=L.take k++[L.getD k default]:=by
   rw[List.take_add_one,Y_ (s_ (k<L.length)),AR_,Y_ (s_ (k<L.length))];rfl
  rw[txK,txK_cat L k (by omega),e,catB_app]
theorem joinB_cat:∀ (L:List ByteArray),L≠[]→joinB L ⟨#[10]⟩++⟨#[10]⟩=catB L
 | [],h=>absurd rfl h
 | [x],_=>by simp only[joinB_one,catB,bnil]
 | x::y::l,_=>by rw[joinB_two,catB,←joinB_cat (y::l) (by simp)];simp only[bassoc]
theorem text_eq {L:List ByteArray} (h:L≠[]):joinB L ⟨#[10]⟩++⟨#[10]⟩=txK L L.length:=by
 rw[joinB_cat L h,txK_cat L _ (AV_ _),List.take_length]
noncomputable def rlaw_l_I (L:List ByteArray) (X:ByteArray) (k:Nat):VS:=stt 73 [(3,strs L),(5,st X),(7,strs L),(9,st (txK L k)),(10,i64 k)] []
noncomputable def rlaw_l_Z (L:List ByteArray) (X:ByteArray):VS:=rlaw_l_I L X (L.length)
theorem rlaw_l_s (L:List ByteArray) (X:ByteArray) (hB:LB L) (hl:L.length≤500) (k:Nat) (hk:k<L.length):VT N_ (fnC Tryz.f3 [1,1,1,1,1,1,1,0,1,0,0]) (rlaw_l_I L X k) .normal (rlaw_l_I L X (k+1)):=by
 have q1:=txK_size hB k (by omega)
 have q2:=getD_in hB hk
 have q3:(!((L.getD k default).toList==(L.getD k default).toList))=false:=by rw[beq_self_eq_true];rfl
 have oz1:=(s_ (0≤(↑k:Int)))
 have oz2:=(map_at (rowS) (default) (l:=L) (i:=k) hk)
 exact tR_ [r_,b_,.r [] [.row (sO oz2),.row (sO oz2)],d_,.r [] [.row (sO oz2),.v (L_ (txK L k++L.getD k default)),.v (L_ (txK L k++L.getD k default++ByteArray.mk #[10]))],.r [] [.n ((↑k:Int)+1)]] [.any (rg [(45,22)]),.weak 9 (AV.lit (L_ (txK L (k+1)))),.weak 10 (i64 (↑(k+1):Int)),.sort] (.c8 (show decide ((↑k:Int)<((K_ rowS L).length:Int))=true by (simp;omega)) oz1 oz2 oz1 oz2 q3 oz1 oz2<|.d5 (show BinTo N_ BinOp.add 9 (Operand.tmp 60) (Operand.tmp 64) (L_ (txK L k)) (L_ (L.getD k default)) (L_ (txK L k++L.getD k default)) from (bin_add (by omega))) (show BinTo N_ BinOp.add 9 (Operand.tmp 65) (Operand.const (L_ (ByteArray.mk #[10]))) (L_ (txK L k++L.getD k default)) (L_ (ByteArray.mk #[10])) (L_ (txK L k++L.getD k default++ByteArray.mk #[10])) from (bin_add (by (simp only[bapp_size,lit_size,AO_,AS_];omega)))) (i6n ((↑k:Int)+1) (by omega)) (show Weak (AV.lit (L_ (txK L k++L.getD k default++ByteArray.mk #[10]))) (AV.lit (L_ (txK L (k+1)))) from (Weak.str (show ((txK L k++L.getD k default++ByteArray.mk #[10]):ByteArray)=(txK L (k+1)) from (by rfl)))) (wS_ k))
theorem rlaw_l_e (L:List ByteArray) (X:ByteArray) (hB:LB L) (hl:L.length≤500):VT N_ (fnC Tryz.f3 [1,1,1,1,1,1,1,0,1,0,0]) (rlaw_l_I L X (L.length)) (.exit 0) (rlaw_l_Z L X):=by
 exact tR_ [r_,d_] [.any (rg [(45,4)]),.sort] (.d (show decide ((L.length:Int)<((K_ rowS L).length:Int))=false by (simp;done)))
theorem rlaw_l (L:List ByteArray) (X:ByteArray) (hB:LB L) (hl:L.length≤500):VT N_ (fnC Tryz.f3 [1,1,1,1,1,1,1,0,1,0]) (rlaw_l_I L X 0) (.exit 0) (rlaw_l_Z L X) :=
 VT.loop (fun k=>rlaw_l_I L X k) (L.length) (fun k hk=>rlaw_l_s L X hB hl k hk) (rlaw_l_e L X hB hl) (by intro h;cases h)
theorem reportLines_f (u:Bun) (h:bunS u=false):VC N_ 3 ([bun u]) (bv true):=by
 have oz0:=@few31_v (u)
 have oz2:=@known50_v
 exact cR_ [r_,.r [] [cr oz0],b_,.r [] [cr oz2]] _ Tryz.func3 (.d3 oz0 (show (!bunS u)=true by (simp;omega)) oz2)
theorem reportLines_n (u:Bun) (ok:u.Ok) (few:bunS u=true) (h:(bunE u).w≠0):VC N_ 3 ([bun u]) (bv true):=by
 have sm:=Bun.sm few
 have q1:LB ([]:List ByteArray):=fun s hs=>by cases hs
 have q2:((txK [] 0).toList==(ByteArray.mk #[]).toList)=true:=beq_self_eq_true _
 have oz0:=@few31_v (u)
 have oz2:=@lines_n (u) ok sm h
 have oz3:=@text_n (u) ok sm h
 have oz4:=@rlines_n (u) ok sm h
 have oz6:=(show Weak (AV.lit (AC_ none 0 0)) (AV.sl 1 []) from (Weak.nil _))
 have oz10:=@rlaw_l ([]) (ByteArray.mk #[]) q1 (by (simp;done))
 have oz11:=z0_
 have oz12:=@known50_v
 exact cR_ [r_,.r [] [cr oz0],d_,.r [] [cr oz2],.r [] [cr oz3],.r [] [cr oz4],.r [] [o_,o_,o_,.sel 1,o_,o_,o_,o_,o_,.sel 1],d_,r_,r_,.code [.any (rg [(0,3),(4,1),(6,1),(8,1),(11,3),(15,19),(37,2),(44,1)]),.drop [1],.weak 3 (AV.sl 1 (K_ rowS [])),.weak 7 (AV.sl 1 (K_ rowS [])),.weak 9 (AV.lit (L_ (txK [] 0))),.weak 10 (i64 (↑0:Int)),.sort] (AI_ 0) (zO oz10),.r [] [e_,cr oz12,e_]] _ Tryz.func3 (.c8 oz0 (show (!bunS u)=false by (simp;omega)) oz2 oz3 oz4 (show ((bunE u).w != (bunE u).w || (bunE u).w != (bunE u).w || false)=false by (simp;done)) oz6 oz6<|.d6 (show Weak (AV.lit (L_ (ByteArray.mk #[]))) (AV.lit (L_ (txK [] 0))) from (Weak.str (show ((ByteArray.mk #[]):ByteArray)=(txK [] 0) from (by rfl)))) w0_ oz10 oz11 oz12 oz11)
theorem reportLines_y (u:Bun) (few:bunS u=true) (v:VBun u):VC N_ 3 ([bun u]) (bv true):=by
 have q1:=linesU_lb v.ok v.sm
 have q2:=linesU_len v.sm
 have q3:((joinB (linesU u) ⟨#[10]⟩++⟨#[10]⟩).toList==(txK (linesU u) (linesU u).length).toList)=true:=by
  rw[text_eq (by intro e;rw[e] at q2;simp at q2;omega)];exact beq_self_eq_true _
 have oz0:=@few31_v (u)
 have oz2:=@lines_y (u) v
 have oz3:=@text_y (u) v
 have oz4:=@rlines_y (u) v
 have oz5:=z1_
 have oz18:=@rlaw_l (linesU u) (joinB (linesU u) (ByteArray.mk #[10])++ByteArray.mk #[10]) q1 (by omega)
 have oz20:=@known50_v
 exact cR_ [r_,.r [] [cr oz0],d_,.r [] [cr oz2],.r [] [cr oz3],.r [] [cr oz4],.r [] [e_,e_,e_,f_,e_,e_,e_,e_,e_,f_],d_,r_,r_,.code [.any (rg [(0,3),(4,1),(6,1),(8,1),(11,3),(15,30)]),.drop [1],.weak 9 (AV.lit (L_ (txK (linesU u) 0))),.weak 10 (i64 (↑0:Int)),.sort] (AI_ 0) (zO oz18),.r [] [e_,cr oz20,e_]] _ Tryz.func3 (.c8 oz0 (show (!bunS u)=false by (simp;omega)) oz2 oz3 oz4 oz5 oz5 oz5<|.c8 oz5 oz5 oz5 oz5 oz5 oz5 oz5 (show (((K_ rowS (linesU u)).length:Int) != ((K_ rowS (linesU u)).length:Int))=false by (simp;done))<|.d6 (show Weak (AV.lit (L_ (ByteArray.mk #[]))) (AV.lit (L_ (txK (linesU u) 0))) from (Weak.str (show ((ByteArray.mk #[]):ByteArray)=(txK (linesU u) 0) from (by rfl)))) w0_ oz18 q3 oz20 q3)
theorem reportLines_v (u:Bun) (ok:u.Ok):VC N_ 3 [bun u] (bv true):=by
 cases few:bunS u with
 | false=>exact reportLines_f u few
 | true =>
  by_cases h:(bunE u).w=0
  ·exact reportLines_y u few (VBun.of ok few h)
  ·exact reportLines_n u ok few h
end Go.Proofs.YtdmkhinckljddaaGreatDoor
