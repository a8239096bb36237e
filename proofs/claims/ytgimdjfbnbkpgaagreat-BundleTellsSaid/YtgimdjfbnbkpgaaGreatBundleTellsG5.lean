/- A part of this claim. No condition. -/
import Derived.Test.YtgimdjfbnbkpgaaGreatBundleTellsG4
set_option maxRecDepth 100000
set_option maxHeartbeats 2000000
set_option linter.unusedVariables false
set_option linter.unusedSimpArgs false
set_option linter.unnecessarySimpa false
namespace Go.Proofs.YtgimdjfbnbkpgaaGreat
open Go.RowKit
open BlkW renaming rows→AE_
open Bool renaming and_eq_true→P_,and_eq_false_iff→S_,or_eq_false_iff→T_,not_eq_false'→W_,not_eq_true'→X_,or_eq_true→AK_,and_true→AN_,false_eq_true→AI_,false_and→BK_,not_true→BU_,false_or→BV_,true_and→BW_,not_false→BX_,and_false→BY_,or_false→BG_,not_eq_eq_eq_not→CK_,true_eq_false→CX_
open Exit renaming exit→AF_
open Int renaming toNat_natCast→BZ_,not_lt→CC_
open IntKind renaming i64→Q_,wrap_u64→CF_
open IntWalk renaming i32_in→CJ_
open List renaming map→K_,length_append→N_,length_map→O_,map_replicate→U_,map_append→Y_,map_cons→C_,map_take→AL_,map_drop→AM_,map_nil→AO_,map_set→AP_,length_cons→AJ_,take→BL_,drop→BM_,length_take→BT_,length_replicate→BC_,length_set→BF_,length_nil→BI_,length_drop→CN_,map_eq_nil_iff→CV_,length_range→CW_,all_eq_true→CE_
open Nat renaming le_refl→AX_,zero_add→BS_,le_of_lt→CH_
open Tryz renaming prog→M_
open Value renaming int→AR_,slice→AY_,bool→BA_,agg→CS_
open Weak renaming int→R_,bool→AZ_,tup→AB_,agg→AG_,nil→BQ_,rows→BE_
open WeakL renaming refl→D_
def stepR (n:Nod) (L:List Rng):Rng×Int:=if thereB n L.length=true then nodeR n (L.getD n.na.toNat default) (L.getD (secN n).toNat default) else (⟨0,0⟩,8)
theorem gstep_v (n:Nod) (L:List Rng) (ok:n.Ok) (okL:∀ r∈L,r.In8) (hL:L.length≤100) (wl:n.w.length≤100000) (bl:n.b.length≤100000):VC M_ 174 ([nod n,.sl 2 (L.map rchC)]) (.tup [rch (stepR n L).1,i64 (stepR n L).2]):=by
 have q1:=@there_iff n L.length
 have q2:(K_ rchC L).length=L.length:=O_ _
 have q3:=fun (h:n.na.toNat<L.length)=>getD_in okL h
 have q4:=fun (h:(secN n).toNat<L.length)=>getD_in okL h
 have q5:n.kd=6→secN n=n.nb:=fun h=>i_ h
 have q6:¬ n.kd=6→secN n=n.na:=fun h=>j_ h
 rcases bft (n.kd==6) with hc0|hc0
 ·have gc0:n.kd=6:=bet hc0
  have oz1:=@ends64_1 (n.na) (n.nb)
  rcases bft (decide (min n.na n.nb<0) || decide (max n.na n.nb≥((K_ rchC L).length:Int))) with hc1|hc1
  ·have gc1:min n.na n.nb<0∨max n.na n.nb≥((K_ rchC L).length:Int):=by simp only[AK_,T_,P_,S_,X_,W_,E_,F_,I_,J_,ne_eq,H_,G_,eqNums,AN_] at hc1;first|exact hc1|omega
   exact (VC.run (fn:=Tryz.f174) (W:=[r_,r_,r_,b_,r_,.r [] [.callr (rO oz1)],.r [] [o_,o_,o_,o_,.sel 1],b_,r_]) (r:=AV.tup [AV.agg [i8 0,i8 0],i64 8]) Tryz.func174 (by kernel_rfl) (.c hc0<|.c oz1<|.c hc1<|.n)).weak (D_ _) (AB_ (.cons (AG_ (.cons (R_ (by (unfold stepR;rw[j_ (by rw[q1];omega)]))) (.cons (R_ (by (unfold stepR;rw[j_ (by rw[q1];omega)]))) .nil))) (.cons (R_ (by (unfold stepR;rw[j_ (by rw[q1];omega)]))) .nil)))
  ·have gc1:¬min n.na n.nb<0∧¬max n.na n.nb≥((K_ rchC L).length:Int):=by simp only[AK_,T_,P_,S_,X_,W_,E_,F_,I_,J_,ne_eq,H_,G_,eqNums,AN_] at hc1;first|exact hc1|omega
   have oz4:=(map_at (rchC) (default) (l:=L) (i:=n.na.toNat) (by omega))
   have oz6:=(map_at (rchC) (default) (l:=L) (i:=n.nb.toNat) (by omega))
   have oz7:=@gnode_v (n) (L.getD n.na.toNat default) (L.getD n.nb.toNat default) ok (by (exact q3 (by omega))) (by (rw[←q5 (by omega)];exact q4 (by rw[q5 (by omega)];omega))) wl bl
   exact (VC.run (fn:=Tryz.f174) (W:=[r_,r_,r_,b_,r_,.r [] [.callr (rO oz1)],.r [] [o_,o_,o_,o_,.sel 1],d_,.r [] [.row (sO oz4),.row (sO oz6),.callr (rO oz7)]]) (r:=AV.tup [AV.agg [i8 (nodeR n (L.getD n.na.toNat default) (L.getD n.nb.toNat default)).fst.lo,i8 (nodeR n (L.getD n.na.toNat default) (L.getD n.nb.toNat default)).fst.hi],i64 (nodeR n (L.getD n.na.toNat default) (L.getD n.nb.toNat default)).snd]) Tryz.func174 (by kernel_rfl) (.c hc0<|.c oz1<|.c hc1<|.c (show 0≤n.na by omega)<|.c oz4<|.c (show 0≤n.nb by omega)<|.c oz6<|.c oz7<|.n)).weak (D_ _) (AB_ (.cons (AG_ (.cons (R_ (by (unfold stepR;rw[q5 (by omega),i_ (by rw[q1];omega)]))) (.cons (R_ (by (unfold stepR;rw[q5 (by omega),i_ (by rw[q1];omega)]))) .nil))) (.cons (R_ (by (unfold stepR;rw[q5 (by omega),i_ (by rw[q1];omega)]))) .nil)))
 ·have gc0:¬n.kd=6:=bef hc0
  have oz1:=@ends64_1 (n.na) (n.na)
  rcases bft (decide (min n.na n.na<0) || decide (max n.na n.na≥((K_ rchC L).length:Int))) with hc1|hc1
  ·have gc1:min n.na n.na<0∨max n.na n.na≥((K_ rchC L).length:Int):=by simp only[AK_,T_,P_,S_,X_,W_,E_,F_,I_,J_,ne_eq,H_,G_,eqNums,AN_] at hc1;first|exact hc1|omega
   exact (VC.run (fn:=Tryz.f174) (W:=[r_,r_,r_,d_,.r [] [.callr (rO oz1)],.r [] [o_,o_,o_,o_,.sel 1],b_,r_]) (r:=AV.tup [AV.agg [i8 0,i8 0],i64 8]) Tryz.func174 (by kernel_rfl) (.c hc0<|.c oz1<|.c hc1<|.n)).weak (D_ _) (AB_ (.cons (AG_ (.cons (R_ (by (unfold stepR;rw[j_ (by rw[q1];omega)]))) (.cons (R_ (by (unfold stepR;rw[j_ (by rw[q1];omega)]))) .nil))) (.cons (R_ (by (unfold stepR;rw[j_ (by rw[q1];omega)]))) .nil)))
  ·have gc1:¬min n.na n.na<0∧¬max n.na n.na≥((K_ rchC L).length:Int):=by simp only[AK_,T_,P_,S_,X_,W_,E_,F_,I_,J_,ne_eq,H_,G_,eqNums,AN_] at hc1;first|exact hc1|omega
   have oz3:=(show 0≤n.na by omega)
   have oz4:=(map_at (rchC) (default) (l:=L) (i:=n.na.toNat) (by omega))
   have oz7:=@gnode_v (n) (L.getD n.na.toNat default) (L.getD n.na.toNat default) ok (by (exact q3 (by omega))) (by (exact q3 (by omega))) wl bl
   exact (VC.run (fn:=Tryz.f174) (W:=[r_,r_,r_,d_,.r [] [.callr (rO oz1)],.r [] [o_,o_,o_,o_,.sel 1],d_,.r [] [.row (sO oz4),.row (sO oz4),.callr (rO oz7)]]) (r:=AV.tup [AV.agg [i8 (nodeR n (L.getD n.na.toNat default) (L.getD n.na.toNat default)).fst.lo,i8 (nodeR n (L.getD n.na.toNat default) (L.getD n.na.toNat default)).fst.hi],i64 (nodeR n (L.getD n.na.toNat default) (L.getD n.na.toNat default)).snd]) Tryz.func174 (by kernel_rfl) (.c hc0<|.c oz1<|.c hc1<|.c oz3<|.c oz4<|.c oz3<|.c oz4<|.c oz7<|.n)).weak (D_ _) (AB_ (.cons (AG_ (.cons (R_ (by (unfold stepR;rw[q6 (by omega),i_ (by rw[q1];omega)]))) (.cons (R_ (by (unfold stepR;rw[q6 (by omega),i_ (by rw[q1];omega)]))) .nil))) (.cons (R_ (by (unfold stepR;rw[q6 (by omega),i_ (by rw[q1];omega)]))) .nil)))
def FOK (l:List Nod) (a:Rng):Prop:=0<l.length∧l.length≤8∧a.lo≤a.hi∧∀ k,k<l.length→errL stepR l a k=0
theorem nodeR_in {n:Nod} {a b:Rng} (ok:n.Ok) (ha:a.In8) (hb:b.In8):(nodeR n a b).1.In8:=by
 have hz:Rng.In8 ⟨0,0⟩:=⟨⟨by dsimp only;decide,by dsimp only;decide⟩,⟨by dsimp only;decide,by dsimp only;decide⟩⟩
 have held:∀ x m s z,In8 (heldQ x m s z n.lo n.hi):=fun x m s z=>by
  unfold heldQ;split
  ·exact clamp_in _ ok.lo ok.hi
  ·exact ⟨by decide,by decide⟩
 unfold nodeR
 split
 ·exact hz
 ·split
  ·exact hz
  ·split
   ·unfold sumG;split
    ·unfold afterE
     have h1:=held (held32 (bothR (spansN n a) (spansN n a).length).lo) n.qm n.qs n.qz
     have h2:=held (held32 (bothR (spansN n a) (spansN n a).length).hi) n.qm n.qs n.qz
     constructor<;>dsimp only<;>omega
    ·exact hz
   ·split
    ·have hj:∀ x y,In8 (joinE x y n):=fun x y=>by
      unfold joinE;split
      ·exact clamp_in _ ok.lo ok.hi
      ·exact ⟨by decide,by decide⟩
     exact ⟨hj _ _,hj _ _⟩
    ·split
     ·exact ⟨held _ _ _ _,held _ _ _ _⟩
     ·obtain ⟨p1,p2⟩:=ha
      have p3:=ok.za
      split
      ·constructor<;>dsimp only<;>omega
      ·exact ⟨p1,p2⟩
theorem stepR_in {n:Nod} {L:List Rng} (ok:n.Ok) (hL:∀ r∈L,r.In8):(stepR n L).1.In8:=by
 unfold stepR
 split
 ·rename_i h
  have h:=there_iff.1 h
  exact nodeR_in ok (getD_in hL (by omega)) (getD_in hL (by omega))
 ·exact ⟨⟨by dsimp only;decide,by dsimp only;decide⟩,⟨by dsimp only;decide,by dsimp only;decide⟩⟩
theorem flow_in {l:List Nod} {a:Rng} (okl:∀ n∈l,n.Ok) (ha:a.In8) {k:Nat} (hk:k≤l.length):∀ r∈growL stepR l a k,r.In8 :=
 growL_all (n:=k) ha (fun j hj h=>stepR_in (getD_in okl (by omega)) h) k (AX_ _)
noncomputable def flow_ly_I (l:List Nod) (a:Rng) (k:Nat):VS:=stt 50 [(0,.sl 19 (l.map nodC)),(7,.own 900),(25,.sl 19 (l.map nodC)),(26,i64 l.length),(27,i64 k)] [(900,.slc 228 2 ((growL stepR l a k).map rchC))]
noncomputable def flow_ly_Z (l:List Nod) (a:Rng):VS:=flow_ly_I l a (l.length)
theorem flow_ly_s (l:List Nod) (a:Rng) (okl:∀ n∈l,n.Ok) (wl:∀ n∈l,n.w.length≤100000∧n.b.length≤100000) (ha:a.In8) (f8:l.length≤8) (h:∀ k,k<l.length→errL stepR l a k=0) (k:Nat) (hk:k<l.length):VT M_ (fnC Tryz.f145 [1,1,1,0,1,0,0]) (flow_ly_I l a k) .normal (flow_ly_I l a (k+1)):=by
 have q:=h k hk
 have q1:=growL_len stepR l a k
 have q2:=flow_in okl ha (CH_ hk)
 have q3:=getD_in okl hk
 have q4:=getD_in wl hk
 obtain ⟨q5,q6⟩:=q4
 unfold errL at q
 have oz2:=(map_at (nodC) (default) (l:=l) (i:=k) hk)
 have oz3:=@gstep_v (l.getD k default) (growL stepR l a k) q3 q2 (by omega) q5 q6
 exact VT.run (W:=[r_,b_,.r [] [.row (sO oz2)],.r [] [.callr (rO oz3)],r_,d_,r_,.r [] [.n ((↑k:Int)+1)]]) (G:=[.any (rg [(8,4),(28,12),(42,5)]),.drop [9,10,44],.ren 45 900,.weak 27 (i64 (↑(k+1):Int)),.blk 900 (Blk.slc 228 2 (K_ rchC (growL stepR l a (k+1)))),.sort]) (by kernel_rfl) (.c (decide_eq_true (p:=((↑k:Int)<(l.length:Int))) (by omega))<|.c (show 0≤(↑k:Int) by omega)<|.c oz2<|.c oz3<|.c (show ((stepR (l.getD k default) (growL stepR l a k)).snd != 0)=false by (simp at *;omega))<|.c (show ((K_ rchC (growL stepR l a k)).length+1)*2≤140737488355328 by (simp;omega))<|.c (show (K_ rchC (growL stepR l a k)).length+1≤9223372036854775807 by (simp;omega))<|.c (i6n ((↑k:Int)+1) (by omega))<|.c (wS_ k)<|.c (show BlkW (Blk.slc 228 2 (K_ rchC (growL stepR l a k)++[[i8 (stepR (l.getD k default) (growL stepR l a k)).fst.lo,i8 (stepR (l.getD k default) (growL stepR l a k)).fst.hi]])) (Blk.slc 228 2 (K_ rchC (growL stepR l a (k+1)))) from (AE_ (e:=228) (z:=2) (rows_to (rchC) (r:=K_ rchC (growL stepR l a k)++[[i8 (stepR (l.getD k default) (growL stepR l a k)).fst.lo,i8 (stepR (l.getD k default) (growL stepR l a k)).fst.hi]]) (l:=growL stepR l a k++[Rng.mk (stepR (l.getD k default) (growL stepR l a k)).fst.lo (stepR (l.getD k default) (growL stepR l a k)).fst.hi]) (m:=growL stepR l a (k+1)) (by first|(simp only[Y_,C_,AO_,AP_,U_,AL_,AM_];done)|rfl|(simp only[Y_,C_,AO_,AP_,U_,AL_,AM_];rfl)|(simp only[Y_,C_,AO_,AP_,U_,AL_,AM_,rchC,ints];done)) (show (growL stepR l a k++[Rng.mk (stepR (l.getD k default) (growL stepR l a k)).fst.lo (stepR (l.getD k default) (growL stepR l a k)).fst.hi])=(growL stepR l a (k+1)) from (by rfl)))))<|.n)
theorem flow_ly_e (l:List Nod) (a:Rng) (okl:∀ n∈l,n.Ok) (wl:∀ n∈l,n.w.length≤100000∧n.b.length≤100000) (ha:a.In8) (f8:l.length≤8) (h:∀ k,k<l.length→errL stepR l a k=0):VT M_ (fnC Tryz.f145 [1,1,1,0,1,0,0]) (flow_ly_I l a (l.length)) (.exit 1) (flow_ly_Z l a):=by
 exact VT.run (W:=[r_,d_]) (G:=[.any [28],.sort]) (by kernel_rfl) (.c (decide_eq_false (p:=((l.length:Int)<(l.length:Int))) (by omega))<|.n)
theorem flow_ly (l:List Nod) (a:Rng) (okl:∀ n∈l,n.Ok) (wl:∀ n∈l,n.w.length≤100000∧n.b.length≤100000) (ha:a.In8) (f8:l.length≤8) (h:∀ k,k<l.length→errL stepR l a k=0):VT M_ (fnC Tryz.f145 [1,1,1,0,1,0]) (flow_ly_I l a 0) (.exit 1) (flow_ly_Z l a) :=
 VT.loop (fun k=>flow_ly_I l a k) (l.length) (fun k hk=>flow_ly_s l a okl wl ha f8 h k hk) (flow_ly_e l a okl wl ha f8 h) (by intro h;cases h)
noncomputable def flow_ln_I (l:List Nod) (a:Rng) (m:Nat) (k:Nat):VS:=stt 50 [(0,.sl 19 (l.map nodC)),(7,.own 900),(25,.sl 19 (l.map nodC)),(26,i64 l.length),(27,i64 k)] [(900,.slc 228 2 ((growL stepR l a k).map rchC))]
noncomputable def flow_ln_Z (l:List Nod) (a:Rng) (m:Nat):VS:=stt 50 [(4,nilv),(5,i64 m),(6,i64 (errL stepR l a m))] []
theorem flow_ln_s (l:List Nod) (a:Rng) (m:Nat) (okl:∀ n∈l,n.Ok) (wl:∀ n∈l,n.w.length≤100000∧n.b.length≤100000) (ha:a.In8) (f8:l.length≤8) (hm:m<l.length) (hf:errL stepR l a m≠0) (h:∀ k,k<m→errL stepR l a k=0) (k:Nat) (hk:k<m):VT M_ (fnC Tryz.f145 [1,1,1,0,1,0,0]) (flow_ln_I l a m k) .normal (flow_ln_I l a m (k+1)):=by
 have q:=h k hk
 have q1:=growL_len stepR l a k
 have q2:=flow_in okl ha (show k≤l.length by omega)
 have q3:=getD_in okl (show k<l.length by omega)
 have q4:=getD_in wl (show k<l.length by omega)
 obtain ⟨q5,q6⟩:=q4
 unfold errL at q
 have oz2:=(map_at (nodC) (default) (l:=l) (i:=k) (by omega))
 have oz3:=@gstep_v (l.getD k default) (growL stepR l a k) q3 q2 (by omega) q5 q6
 exact VT.run (W:=[r_,b_,.r [] [.row (sO oz2)],.r [] [.callr (rO oz3)],r_,d_,r_,.r [] [.n ((↑k:Int)+1)]]) (G:=[.any (rg [(8,4),(28,12),(42,5)]),.drop [9,10,44],.ren 45 900,.weak 27 (i64 (↑(k+1):Int)),.blk 900 (Blk.slc 228 2 (K_ rchC (growL stepR l a (k+1)))),.sort]) (by kernel_rfl) (.c (decide_eq_true (p:=((↑k:Int)<(l.length:Int))) (by omega))<|.c (show 0≤(↑k:Int) by omega)<|.c oz2<|.c oz3<|.c (show ((stepR (l.getD k default) (growL stepR l a k)).snd != 0)=false by (simp at *;omega))<|.c (show ((K_ rchC (growL stepR l a k)).length+1)*2≤140737488355328 by (simp;omega))<|.c (show (K_ rchC (growL stepR l a k)).length+1≤9223372036854775807 by (simp;omega))<|.c (i6n ((↑k:Int)+1) (by omega))<|.c (wS_ k)<|.c (show BlkW (Blk.slc 228 2 (K_ rchC (growL stepR l a k)++[[i8 (stepR (l.getD k default) (growL stepR l a k)).fst.lo,i8 (stepR (l.getD k default) (growL stepR l a k)).fst.hi]])) (Blk.slc 228 2 (K_ rchC (growL stepR l a (k+1)))) from (AE_ (e:=228) (z:=2) (rows_to (rchC) (r:=K_ rchC (growL stepR l a k)++[[i8 (stepR (l.getD k default) (growL stepR l a k)).fst.lo,i8 (stepR (l.getD k default) (growL stepR l a k)).fst.hi]]) (l:=growL stepR l a k++[Rng.mk (stepR (l.getD k default) (growL stepR l a k)).fst.lo (stepR (l.getD k default) (growL stepR l a k)).fst.hi]) (m:=growL stepR l a (k+1)) (by first|(simp only[Y_,C_,AO_,AP_,U_,AL_,AM_];done)|rfl|(simp only[Y_,C_,AO_,AP_,U_,AL_,AM_];rfl)|(simp only[Y_,C_,AO_,AP_,U_,AL_,AM_,rchC,ints];done)) (show (growL stepR l a k++[Rng.mk (stepR (l.getD k default) (growL stepR l a k)).fst.lo (stepR (l.getD k default) (growL stepR l a k)).fst.hi])=(growL stepR l a (k+1)) from (by rfl)))))<|.n)
theorem flow_ln_e (l:List Nod) (a:Rng) (m:Nat) (okl:∀ n∈l,n.Ok) (wl:∀ n∈l,n.w.length≤100000∧n.b.length≤100000) (ha:a.In8) (f8:l.length≤8) (hm:m<l.length) (hf:errL stepR l a m≠0) (h:∀ k,k<m→errL stepR l a k=0):VT M_ (fnC Tryz.f145 [1,1,1,0,1,0,0]) (flow_ln_I l a m (m)) (.ret) (flow_ln_Z l a m):=by
 have q1:=growL_len stepR l a m
 have q2:=flow_in okl ha (CH_ hm)
 have q3:=getD_in okl hm
 have q4:=getD_in wl hm
 obtain ⟨q5,q6⟩:=q4
 unfold errL at hf
 have oz2:=(map_at (nodC) (default) (l:=l) (i:=m) hm)
 have oz3:=@gstep_v (l.getD m default) (growL stepR l a m) q3 q2 (by omega) q5 q6
 have oz5:=(R_ (k:=.i64) (show (((stepR (l.getD m default) (growL stepR l a m)).snd):Int)=(errL stepR l a m) from (by rfl)))
 exact VT.run (W:=[r_,b_,.r [] [.row (sO oz2)],.r [] [.callr (rO oz3)],r_,b_,r_]) (G:=[.any (rg [(0,1),(7,5),(25,17)]),.drop [900,9,10],.weak 6 (wO oz5),.sort]) (by kernel_rfl) (.c (decide_eq_true (p:=((↑m:Int)<(l.length:Int))) (by omega))<|.c (show 0≤(↑m:Int) by omega)<|.c oz2<|.c oz3<|.c (show ((stepR (l.getD m default) (growL stepR l a m)).snd != 0)=true by (simp at *;omega))<|.c oz5<|.n)
theorem flow_ln (l:List Nod) (a:Rng) (m:Nat) (okl:∀ n∈l,n.Ok) (wl:∀ n∈l,n.w.length≤100000∧n.b.length≤100000) (ha:a.In8) (f8:l.length≤8) (hm:m<l.length) (hf:errL stepR l a m≠0) (h:∀ k,k<m→errL stepR l a k=0):VT M_ (fnC Tryz.f145 [1,1,1,0,1,0]) (flow_ln_I l a m 0) (.ret) (flow_ln_Z l a m) :=
 VT.loop (fun k=>flow_ln_I l a m k) (m) (fun k hk=>flow_ln_s l a m okl wl ha f8 hm hf h k hk) (flow_ln_e l a m okl wl ha f8 hm hf h) (by intro h;cases h)
theorem flow_y (l:List Nod) (a:Rng) (okl:∀ n∈l,n.Ok) (wl:∀ n∈l,n.w.length≤100000∧n.b.length≤100000) (ha:a.In8) (h:FOK l a):VC M_ 145 ([.sl 19 (l.map nodC),rch a]) (.tup [.sl 2 ((growL stepR l a l.length).map rchC),i64 l.length,i64 0]):=by
 obtain ⟨q2,q3,q1,q4⟩:=id h
 have oz2:=@upside_v (a.lo) (a.hi)
 have oz6:=@flow_ly (l) (a) okl wl ha q3 q4
 exact (VC.run (fn:=Tryz.f145) (W:=[r_,r_,d_,r_,d_,.r [] [.callr (rO oz2)],d_,r_,r_,.code [.any (rg [(1,1),(3,4),(12,13)]),.drop [3],.ren 24 900,.weak 26 (i64 (l.length:Int)),.weak 27 (i64 (↑0:Int)),.sort] (AF_ 1) (zO oz6),r_]) (r:=AV.tup [AV.sl 2 (K_ rchC (growL stepR l a l.length)),i64 ((K_ nodC l).length:Int),i64 0]) Tryz.func145 (by kernel_rfl) (.c (show (((K_ nodC l).length:Int)==0)=false by (simp only[E_,F_,I_,J_,ne_eq,H_,G_,X_,W_,CK_,BU_,BX_,Classical.not_not,CC_,Int.not_le,P_,S_,AK_,T_,AN_,BW_,BY_,BK_,BG_,BV_,eqNums,O_,N_,AJ_,BI_,BF_,BC_,BT_,CN_,CW_,BZ_,BS_,CV_];(first|done|with_reducible assumption|omega|contradiction)))<|.c (show decide (((K_ nodC l).length:Int)>8)=false by (simp;omega))<|.c oz2<|.c (decide_eq_false (p:=(a.lo>a.hi)) (by omega))<|.c (R_ (k:=.i64) (show ((((K_ nodC l).length:Int)):Int)=((l.length:Int)) from (by (simp;done))))<|.c w0_<|.c oz6<|.n)).weak (D_ _) (AB_ (.cons (.refl _) (.cons (R_ (by (simp;done))) (.cons (.refl _) .nil))))
theorem flow_m (l:List Nod) (a:Rng) (m:Nat) (okl:∀ n∈l,n.Ok) (wl:∀ n∈l,n.w.length≤100000∧n.b.length≤100000) (ha:a.In8) (i:a.lo≤a.hi) (f8:l.length≤8) (hm:m<l.length) (hf:errL stepR l a m≠0) (h:∀ k,k<m→errL stepR l a k=0):VC M_ 145 ([.sl 19 (l.map nodC),rch a]) (.tup [nilv,i64 m,i64 (errL stepR l a m)]):=by
 have oz2:=@upside_v (a.lo) (a.hi)
 have oz6:=@flow_ln (l) (a) (m) okl wl ha f8 hm hf h
 exact VC.run (fn:=Tryz.f145) (W:=[r_,r_,d_,r_,d_,.r [] [.callr (rO oz2)],d_,r_,r_,.code [.any (rg [(1,1),(3,4),(12,13)]),.drop [3],.ren 24 900,.weak 26 (i64 (l.length:Int)),.weak 27 (i64 (↑0:Int)),.sort] (Exit.ret) (zO oz6)]) Tryz.func145 (by kernel_rfl) (.c (show (((K_ nodC l).length:Int)==0)=false by (simp only[E_,F_,I_,J_,ne_eq,H_,G_,X_,W_,CK_,BU_,BX_,Classical.not_not,CC_,Int.not_le,P_,S_,AK_,T_,AN_,BW_,BY_,BK_,BG_,BV_,eqNums,O_,N_,AJ_,BI_,BF_,BC_,BT_,CN_,CW_,BZ_,BS_,CV_];(first|done|with_reducible assumption|omega|contradiction)))<|.c (show decide (((K_ nodC l).length:Int)>8)=false by (simp;omega))<|.c oz2<|.c (decide_eq_false (p:=(a.lo>a.hi)) (by omega))<|.c (R_ (k:=.i64) (show ((((K_ nodC l).length:Int)):Int)=((l.length:Int)) from (by (simp;done))))<|.c w0_<|.c oz6<|.n)
def flowB (l:List Nod) (a:Rng):Nat→Bool:=fun k=>errL stepR l a k==0
def flowE (l:List Nod) (a:Rng):Int×Int :=
 if l.length=0 then (-1,12) else if 8<l.length then (-1,4) else if a.lo>a.hi then (-1,2)
 else if firstBad (flowB l a) l.length<l.length then (firstBad (flowB l a) l.length,errL stepR l a (firstBad (flowB l a) l.length)) else (l.length,0)
theorem flow_a (l:List Nod) (a:Rng) (hl:l.length≤1000) (h:l.length=0∨8<l.length∨a.lo>a.hi):VC M_ 145 ([.sl 19 (l.map nodC),rch a]) (.tup [nilv,i64 (flowE l a).1,i64 (flowE l a).2]):=by
 rcases bft (((K_ nodC l).length:Int)==0) with hc0|hc0
 ·have gc0:((K_ nodC l).length:Int)=0:=bet hc0
  exact (VC.run (fn:=Tryz.f145) (W:=[r_,r_,b_,r_]) (r:=AV.tup [AV.lit (AY_ none 0 0),i64 (-1),i64 12]) Tryz.func145 (by kernel_rfl) (.c hc0<|.n)).weak (D_ _) (AB_ (.cons (.refl _) (.cons (R_ (by (unfold flowE;(try simp only[O_] at *);(repeat first|rw[i_ (by omega)]|rw[j_ (by omega)])))) (.cons (R_ (by (unfold flowE;(try simp only[O_] at *);(repeat first|rw[i_ (by omega)]|rw[j_ (by omega)])))) .nil))))
 ·have gc0:¬((K_ nodC l).length:Int)=0:=bef hc0
  rcases bft (decide (((K_ nodC l).length:Int)>8)) with hc1|hc1
  ·have gc1:=of_decide_eq_true hc1
   exact (VC.run (fn:=Tryz.f145) (W:=[r_,r_,d_,r_,b_,r_]) (r:=AV.tup [AV.lit (AY_ none 0 0),i64 (-1),i64 4]) Tryz.func145 (by kernel_rfl) (.c hc0<|.c hc1<|.n)).weak (D_ _) (AB_ (.cons (.refl _) (.cons (R_ (by (unfold flowE;(try simp only[O_] at *);(repeat first|rw[i_ (by omega)]|rw[j_ (by omega)])))) (.cons (R_ (by (unfold flowE;(try simp only[O_] at *);(repeat first|rw[i_ (by omega)]|rw[j_ (by omega)])))) .nil))))
  ·have gc1:=of_decide_eq_false hc1
   have oz2:=@upside_v (a.lo) (a.hi)
   exact (VC.run (fn:=Tryz.f145) (W:=[r_,r_,d_,r_,d_,.r [] [.callr (rO oz2)],b_,r_]) (r:=AV.tup [AV.lit (AY_ none 0 0),i64 (-1),i64 2]) Tryz.func145 (by kernel_rfl) (.c hc0<|.c hc1<|.c oz2<|.c (show decide (a.lo>a.hi)=true by (simp only[E_,F_,I_,J_,ne_eq,H_,G_,X_,W_,CK_,BU_,BX_,Classical.not_not,CC_,Int.not_le,P_,S_,AK_,T_,AN_,BW_,BY_,BK_,BG_,BV_,eqNums,O_,N_,AJ_,BI_,BF_,BC_,BT_,CN_,CW_,BZ_,BS_,CV_] at *;(first|done|with_reducible assumption|omega|contradiction)))<|.n)).weak (D_ _) (AB_ (.cons (.refl _) (.cons (R_ (by (unfold flowE;(try simp only[O_] at *);(repeat first|rw[i_ (by omega)]|rw[j_ (by omega)])))) (.cons (R_ (by (unfold flowE;(try simp only[O_] at *);(repeat first|rw[i_ (by omega)]|rw[j_ (by omega)])))) .nil))))
theorem flowE_y {l:List Nod} {a:Rng} (h:FOK l a):flowE l a=((l.length:Int),0):=by
 obtain ⟨q2,q3,q1,q4⟩:=h
 unfold flowE
 rw[j_ (by omega),j_ (by omega),j_ (by omega),firstBad_all fun k hk=>by simpa [flowB] using q4 k hk,j_ (by omega)]
theorem flowE_at {l:List Nod} {a:Rng} {m:Nat} (i:a.lo≤a.hi) (e:0<l.length) (f:l.length≤8) (hm:m<l.length) (hf:errL stepR l a m≠0) (h:∀ k,k<m→errL stepR l a k=0):flowE l a=((m:Int),errL stepR l a m):=by
 have:=firstBad_at (p:=flowB l a) (m:=m) (by simpa [flowB] using hf) (fun k hk=>by simpa [flowB] using h k hk) hm
 unfold flowE
 rw[j_ (by omega),j_ (by omega),j_ (by omega),this,i_ hm]
theorem FOK.cases (l:List Nod) (a:Rng):FOK l a∨(l.length=0∨8<l.length∨a.lo>a.hi)∨(a.lo≤a.hi∧0<l.length∧l.length≤8∧∃ m,m<l.length∧errL stepR l a m≠0∧∀ k,k<m→errL stepR l a k=0):=by
 by_cases c:l.length=0∨8<l.length∨a.lo>a.hi
 ·exact .inr (.inl c)
 ·rcases all_or (flowB l a) l.length with h|⟨m,h1,h2,h3⟩
  ·exact .inl ⟨by omega,by omega,by omega,fun k hk=>by simpa [flowB] using h k hk⟩
  ·exact .inr (.inr ⟨by omega,by omega,by omega,m,h1,by simpa [flowB] using h2,fun k hk=>by simpa [flowB] using h3 k hk⟩)
theorem flowE_n {l:List Nod} {a:Rng} (h:¬ FOK l a):(flowE l a).2≠0:=by
 rcases FOK.cases l a with q|q|⟨i,e,f,m,h1,h2,h3⟩
 ·exact absurd q h
 ·unfold flowE
  by_cases c1:l.length=0
  ·rw[i_ c1];dsimp only;decide
  ·rw[j_ c1]
   by_cases c2:8<l.length
   ·rw[i_ c2];dsimp only;decide
   ·rw[j_ c2,i_ (by omega)];dsimp only;decide
 ·rw[flowE_at i e f h1 h2 h3];exact h2
theorem flow_n (l:List Nod) (a:Rng) (okl:∀ n∈l,n.Ok) (wl:∀ n∈l,n.w.length≤100000∧n.b.length≤100000) (ha:a.In8) (hl:l.length≤1000) (h:¬ FOK l a):VC M_ 145 [.sl 19 (l.map nodC),rch a] (.tup [nilv,i64 (flowE l a).1,i64 (flowE l a).2]):=by
 rcases FOK.cases l a with q|q|⟨i,e,f,m,h1,h2,h3⟩
 ·exact absurd q h
 ·exact flow_a l a hl q
 ·rw[flowE_at i e f h1 h2 h3];exact flow_m l a m okl wl ha i f h1 h2 h3
def smallB (n:Nod):Bool:=decide (n.w.length≤1000)&&decide (n.b.length≤100)
def fewB (l:List Nod) (d:Nat):Bool:=decide (l.length≤12)&&decide (d≤300)&&l.all smallB
noncomputable def few_ly_I (l:List Nod) (k:Nat):VS:=stt 37 [(0,.sl 19 (l.map nodC)),(5,i64 k)] []
noncomputable def few_ly_Z (l:List Nod):VS:=few_ly_I l (l.length)
theorem few_ly_s (l:List Nod) (hl:l.length≤12) (h:∀ k,k<l.length→smallB (l.getD k default)=true) (k:Nat) (hk:k<l.length):VT M_ (fnC Tryz.f27 [1,1,0,1,0,0]) (few_ly_I l k) .normal (few_ly_I l (k+1)):=by
 have q:=h k hk
 simp only[smallB,P_,E_] at q
 obtain ⟨q1,q2⟩:=q
 have oz1:=(show 0≤(↑k:Int) by omega)
 have oz2:=(map_at (nodC) (default) (l:=l) (i:=k) hk)
 exact VT.run (W:=[r_,b_,.r [] [.row (sO oz2),o_,o_,o_,.row (sO oz2),o_,o_,o_,o_,.sel 1],d_,.r [] [.n ((↑k:Int)+1)]]) (G:=[.any (rg [(15,14),(36,1)]),.weak 5 (i64 (↑(k+1):Int)),.sort]) (by kernel_rfl) (.c (show decide ((↑k:Int)<((K_ nodC l).length:Int))=true by (simp;omega))<|.c oz1<|.c oz2<|.c oz1<|.c oz2<|.c (show (decide (((K_ (row1 .i8) (l.getD k default).w).length:Int)>1000) || decide (((K_ (row1 .i32) (l.getD k default).b).length:Int)>100))=false by (simp at *;omega))<|.c (i6n ((↑k:Int)+1) (by omega))<|.c (wS_ k)<|.n)
theorem few_ly_e (l:List Nod) (hl:l.length≤12) (h:∀ k,k<l.length→smallB (l.getD k default)=true):VT M_ (fnC Tryz.f27 [1,1,0,1,0,0]) (few_ly_I l (l.length)) (.exit 0) (few_ly_Z l):=by
 exact VT.run (W:=[r_,d_]) (G:=[.any (rg [(15,4)]),.sort]) (by kernel_rfl) (.c (show decide ((l.length:Int)<((K_ nodC l).length:Int))=false by (simp;done))<|.n)
theorem few_ly (l:List Nod) (hl:l.length≤12) (h:∀ k,k<l.length→smallB (l.getD k default)=true):VT M_ (fnC Tryz.f27 [1,1,0,1,0]) (few_ly_I l 0) (.exit 0) (few_ly_Z l) :=
 VT.loop (fun k=>few_ly_I l k) (l.length) (fun k hk=>few_ly_s l hl h k hk) (few_ly_e l hl h) (by intro h;cases h)
noncomputable def few_ln_I (l:List Nod) (m:Nat) (k:Nat):VS:=stt 37 [(0,.sl 19 (l.map nodC)),(5,i64 k)] []
noncomputable def few_ln_Z (l:List Nod) (m:Nat):VS:=stt 37 [(4,bv false)] []
theorem few_ln_s (l:List Nod) (m:Nat) (hl:l.length≤12) (hm:m<l.length) (hf:smallB (l.getD m default)=false) (h:∀ k,k<m→smallB (l.getD k default)=true) (k:Nat) (hk:k<m):VT M_ (fnC Tryz.f27 [1,1,0,1,0,0]) (few_ln_I l m k) .normal (few_ln_I l m (k+1)):=by
 have q:=h k hk
 simp only[smallB,P_,E_] at q
 obtain ⟨q1,q2⟩:=q
 have oz1:=(show 0≤(↑k:Int) by omega)
 have oz2:=(map_at (nodC) (default) (l:=l) (i:=k) (by omega))
 exact VT.run (W:=[r_,b_,.r [] [.row (sO oz2),o_,o_,o_,.row (sO oz2),o_,o_,o_,o_,.sel 1],d_,.r [] [.n ((↑k:Int)+1)]]) (G:=[.any (rg [(15,14),(36,1)]),.weak 5 (i64 (↑(k+1):Int)),.sort]) (by kernel_rfl) (.c (show decide ((↑k:Int)<((K_ nodC l).length:Int))=true by (simp;omega))<|.c oz1<|.c oz2<|.c oz1<|.c oz2<|.c (show (decide (((K_ (row1 .i8) (l.getD k default).w).length:Int)>1000) || decide (((K_ (row1 .i32) (l.getD k default).b).length:Int)>100))=false by (simp at *;omega))<|.c (i6n ((↑k:Int)+1) (by omega))<|.c (wS_ k)<|.n)
theorem few_ln_e (l:List Nod) (m:Nat) (hl:l.length≤12) (hm:m<l.length) (hf:smallB (l.getD m default)=false) (h:∀ k,k<m→smallB (l.getD k default)=true):VT M_ (fnC Tryz.f27 [1,1,0,1,0,0]) (few_ln_I l m (m)) (.ret) (few_ln_Z l m):=by
 simp only[smallB,S_,F_] at hf
 have oz1:=(show 0≤(↑m:Int) by omega)
 have oz2:=(map_at (nodC) (default) (l:=l) (i:=m) hm)
 exact VT.run (W:=[r_,b_,.r [] [.row (sO oz2),o_,o_,o_,.row (sO oz2),o_,o_,o_,o_,.sel 1],b_,r_]) (G:=[.any (rg [(0,1),(5,1),(15,4),(21,8),(36,1)]),.sort]) (by kernel_rfl) (.c (show decide ((↑m:Int)<((K_ nodC l).length:Int))=true by (simp;omega))<|.c oz1<|.c oz2<|.c oz1<|.c oz2<|.c (show (decide (((K_ (row1 .i8) (l.getD m default).w).length:Int)>1000) || decide (((K_ (row1 .i32) (l.getD m default).b).length:Int)>100))=true by (simp at *;omega))<|.n)
theorem few_ln (l:List Nod) (m:Nat) (hl:l.length≤12) (hm:m<l.length) (hf:smallB (l.getD m default)=false) (h:∀ k,k<m→smallB (l.getD k default)=true):VT M_ (fnC Tryz.f27 [1,1,0,1,0]) (few_ln_I l m 0) (.ret) (few_ln_Z l m) :=
 VT.loop (fun k=>few_ln_I l m k) (m) (fun k hk=>few_ln_s l m hl hm hf h k hk) (few_ln_e l m hl hm hf h) (by intro h;cases h)
theorem few_a (l:List Nod) (T:Ten) (h:12<l.length∨300<T.d.length):VC M_ 27 ([.sl 19 (l.map nodC),ten .i8 T]) (bv false):=by
 exact VC.run (fn:=Tryz.f27) (W:=[r_,.r [] [o_,o_,o_,o_,.sel 1],b_,r_]) Tryz.func27 (by kernel_rfl) (.c (show (decide (((K_ nodC l).length:Int)>12) || decide (((K_ (row1 .i8) T.d).length:Int)>300))=true by (simp;omega))<|.n)
theorem few_y (l:List Nod) (T:Ten) (hl:l.length≤12) (hd:T.d.length≤300) (h:∀ k,k<l.length→smallB (l.getD k default)=true):VC M_ 27 ([.sl 19 (l.map nodC),ten .i8 T]) (bv true):=by
 have oz2:=@few_ly (l) hl h
 exact VC.run (fn:=Tryz.f27) (W:=[r_,.r [] [o_,o_,o_,o_,.sel 1],d_,r_,.code [.any [1,3,4,6,7,8,9,14],.drop [3],.weak 5 (i64 (↑0:Int)),.sort] (AF_ 0) (zO oz2),r_]) Tryz.func27 (by kernel_rfl) (.c (show (decide (((K_ nodC l).length:Int)>12) || decide (((K_ (row1 .i8) T.d).length:Int)>300))=false by (simp;omega))<|.c w0_<|.c oz2<|.n)
theorem few_n (l:List Nod) (T:Ten) (m:Nat) (hl:l.length≤12) (hd:T.d.length≤300) (hm:m<l.length) (hf:smallB (l.getD m default)=false) (h:∀ k,k<m→smallB (l.getD k default)=true):VC M_ 27 ([.sl 19 (l.map nodC),ten .i8 T]) (bv false):=by
 have oz2:=@few_ln (l) (m) hl hm hf h
 exact VC.run (fn:=Tryz.f27) (W:=[r_,.r [] [o_,o_,o_,o_,.sel 1],d_,r_,.code [.any [1,3,4,6,7,8,9,14],.drop [3],.weak 5 (i64 (↑0:Int)),.sort] (Exit.ret) (zO oz2)]) Tryz.func27 (by kernel_rfl) (.c (show (decide (((K_ nodC l).length:Int)>12) || decide (((K_ (row1 .i8) T.d).length:Int)>300))=false by (simp;omega))<|.c w0_<|.c oz2<|.n)
theorem few_v (l:List Nod) (T:Ten):VC M_ 27 [.sl 19 (l.map nodC),ten .i8 T] (bv (fewB l T.d.length)):=by
 unfold fewB
 by_cases h1:l.length≤12
 ·by_cases h2:T.d.length≤300
  ·rw[decide_eq_true h1,decide_eq_true h2]
   rcases all_or (fun k=>smallB (l.getD k default)) l.length with h|⟨m,g1,g2,g3⟩
   ·rw[all_getD.2 h];exact few_y l T h1 h2 h
   ·have:l.all smallB=false:=by
     cases e:l.all smallB with
     | false=>rfl
     | true=>have:=all_getD.1 e m g1;exact absurd (this.symm.trans g2) (by simp)
    rw[this];exact few_n l T m h1 h2 g1 g2 g3
  ·rw[decide_eq_false h2,BY_,BK_];exact few_a l T (.inr (by omega))
 ·rw[decide_eq_false h1,BK_,BK_];exact few_a l T (.inl (by omega))
theorem few_0 (l:List Nod):VC M_ 27 [.sl 19 (l.map nodC),.agg [i64 0,i64 0,i64 0,.sl 1 []]] (bv (fewB l 0)):=few_v l ⟨0,0,0,[]⟩
theorem few_facts {l:List Nod} {d:Nat} (h:fewB l d=true):l.length≤12∧d≤300∧∀ n∈l,n.w.length≤1000∧n.b.length≤100:=by
 simp only[fewB,P_,E_,CE_,smallB] at h
 exact ⟨h.1.1,h.1.2,fun n hn=>h.2 n hn⟩
theorem few_wide {l:List Nod} {d:Nat} (h:fewB l d=true):∀ n∈l,n.w.length≤100000∧n.b.length≤100000:=fun n hn=>by
 have:=(few_facts h).2.2 n hn;omega
def Shp.Rt (s:Shp):Prop:=0<elems s.h s.x s.c
abbrev zsh:Shp:=⟨0,0,0⟩
theorem zsh_ok:zsh.Ok:=by constructor<;>exact ⟨by decide,by decide⟩
theorem Shp.Rt.ok {s:Shp} (h:s.Rt):s.Ok:=by
 have:=elems_ok h
 exact ⟨⟨by omega,by omega⟩,⟨by omega,by omega⟩,⟨by omega,by omega⟩⟩
def Told (r:Shp×Int):Prop:=(r.2=0∧r.1.Rt)∨(r.2≠0∧r.1=zsh)
theorem slideE_told (t:Shp) (k s p o:Int):Told (slideE t k s p o):=by
 unfold slideE
 split
 ·exact .inr ⟨by dsimp only;decide,rfl⟩
 ·split
  ·exact .inr ⟨by assumption,rfl⟩
  ·split
   ·exact .inr ⟨by assumption,rfl⟩
   ·split
    ·exact .inr ⟨by dsimp only;decide,rfl⟩
    ·rename_i h;exact .inl ⟨rfl,Classical.not_not.1 h⟩
theorem convE_told (t:Shp) (n:Nod):Told (convE t n):=by
 have q:=slideE_told t n.nk n.ns n.np n.no
 unfold convE
 split
 ·exact .inr ⟨by assumption,rfl⟩
 ·split
  ·exact .inr ⟨by dsimp only;decide,rfl⟩
  ·rcases q with q|q
   ·exact .inl ⟨rfl,q.2⟩
   ·exact absurd q.1 (by assumption)
theorem depthE_told (t:Shp) (n:Nod):Told (depthE t n):=by
 have q:=slideE_told t n.nk n.ns n.np t.c
 unfold depthE
 split
 ·exact .inr ⟨by assumption,rfl⟩
 ·split
  ·exact .inr ⟨by dsimp only;decide,rfl⟩
  ·rcases q with q|q
   ·exact .inl ⟨rfl,q.2⟩
   ·exact absurd q.1 (by assumption)
theorem denseE_told (t:Shp) (n:Nod):Told (denseE t n):=by
 unfold denseE
 split
 ·exact .inr ⟨by dsimp only;decide,rfl⟩
 ·split
  ·exact .inr ⟨by dsimp only;decide,rfl⟩
  ·rename_i h _
   have:=elems_in 1 1 n.no
   exact .inl ⟨rfl,by unfold Shp.Rt;dsimp only;omega⟩
theorem aroundE_told (a:Shp) (p:Int):Told (aroundE a p):=by
 unfold aroundE
 split
 ·exact .inr ⟨by dsimp only;decide,rfl⟩
 ·split
  ·exact .inr ⟨by dsimp only;decide,rfl⟩
  ·have:=elems_in (a.h+2*p) (a.x+2*p) a.c
   exact .inl ⟨rfl,by unfold Shp.Rt;dsimp only;omega⟩
theorem flat_rt {n:Int} (h0:0<n) (h:n≤1024):0<elems 1 1 n:=by
 unfold elems;rw[i_ (by omega)];omega
theorem shapeE_told (n:Nod) (a b:Shp):Told (shapeE n a b):=by
 unfold shapeE
 split
 ·exact convE_told a n
 ·split
  ·exact depthE_told a n
  ·split
   ·exact denseE_told a n
   ·split
    ·exact slideE_told a n.nk n.ns n.np a.c
    ·split
     ·exact .inr ⟨by dsimp only;decide,rfl⟩
     ·split
      ·exact .inr ⟨by dsimp only;decide,rfl⟩
      ·rename_i h
       have q:=elems_in a.h a.x a.c
       split
       ·exact (.inl ⟨rfl,show 0<elems 1 1 (elems a.h a.x a.c) from flat_rt (by omega) q.2⟩)
       ·split
        ·exact aroundE_told a n.np
        ·exact .inl ⟨rfl,by unfold Shp.Rt;dsimp only;omega⟩
theorem nextE_told (n:Nod) (L:List Shp):Told (nextE n L):=by
 unfold nextE
 split
 ·exact .inr ⟨by assumption,rfl⟩
 ·split
  ·exact shapeE_told _ _ _
  ·exact .inr ⟨by dsimp only;decide,rfl⟩
theorem Told.ok {r:Shp×Int} (h:Told r):r.1.Ok:=by
 rcases h with h|h
 ·exact h.2.ok
 ·rw[h.2];exact zsh_ok
structure SOK (l:List Nod) (a:Shp):Prop where
 i:a.Rt
 e:0<l.length
 f:l.length≤8
 k:∀ k,k<l.length→errL nextE l a k=0
def shapesB (l:List Nod) (a:Shp):Nat→Bool:=fun k=>errL nextE l a k==0
def shapesE (l:List Nod) (a:Shp):Int×Int :=
 if ¬ 0<elems a.h a.x a.c then (-1,5) else if l.length=0 then (-1,12) else if 8<l.length then (-1,4)
 else if firstBad (shapesB l a) l.length<l.length then (firstBad (shapesB l a) l.length,errL nextE l a (firstBad (shapesB l a) l.length)) else (l.length,0)
theorem shapesE_y {l:List Nod} {a:Shp} (h:SOK l a):shapesE l a=((l.length:Int),0):=by
 have h0:=h.i
 unfold Shp.Rt at h0
 have h1:=h.e
 have h2:=h.f
 unfold shapesE
 rw[j_ (by omega),j_ (by omega),j_ (by omega),firstBad_all fun k hk=>by simpa [shapesB] using h.k k hk,j_ (by omega)]
theorem shapesE_at {l:List Nod} {a:Shp} {m:Nat} (i:a.Rt) (e:0<l.length) (f:l.length≤8) (hm:m<l.length) (hf:errL nextE l a m≠0) (h:∀ k,k<m→errL nextE l a k=0):shapesE l a=((m:Int),errL nextE l a m):=by
 unfold Shp.Rt at i
 have:=firstBad_at (p:=shapesB l a) (m:=m) (by simpa [shapesB] using hf) (fun k hk=>by simpa [shapesB] using h k hk) hm
 unfold shapesE
 rw[j_ (by omega),j_ (by omega),j_ (by omega),this,i_ hm]
theorem SOK.cases (l:List Nod) (a:Shp):SOK l a∨¬ a.Rt∨l.length=0∨8<l.length∨(a.Rt∧0<l.length∧l.length≤8∧∃ m,m<l.length∧errL nextE l a m≠0∧∀ k,k<m→errL nextE l a k=0):=by
 by_cases i:a.Rt
 ·by_cases e:0<l.length
  ·by_cases f:l.length≤8
   ·rcases all_or (shapesB l a) l.length with h|⟨m,h1,h2,h3⟩
    ·exact .inl ⟨i,e,f,fun k hk=>by simpa [shapesB] using h k hk⟩
    ·exact .inr (.inr (.inr (.inr ⟨i,e,f,m,h1,by simpa [shapesB] using h2,fun k hk=>by simpa [shapesB] using h3 k hk⟩)))
   ·exact .inr (.inr (.inr (.inl (by omega))))
  ·exact .inr (.inr (.inl (by omega)))
 ·exact .inr (.inl i)
theorem shapesE_n {l:List Nod} {a:Shp} (h:¬ SOK l a):(shapesE l a).2≠0:=by
 rcases SOK.cases l a with q|q|q|q|⟨i,e,f,m,h1,h2,h3⟩
 ·exact absurd q h
 ·have e:shapesE l a=(-1,5):=by unfold shapesE;exact i_ q
  rw[e];decide
 ·unfold shapesE
  by_cases c1:¬ 0<elems a.h a.x a.c
  ·rw[i_ c1];dsimp only;decide
  ·rw[j_ c1,i_ q];dsimp only;decide
 ·unfold shapesE
  by_cases c1:¬ 0<elems a.h a.x a.c
  ·rw[i_ c1];dsimp only;decide
  ·rw[j_ c1,j_ (by omega),i_ q];dsimp only;decide
 ·rw[shapesE_at i e f h1 h2 h3];exact h2
theorem grow_ok {l:List Nod} {a:Shp} (i:a.Ok) (k:Nat):∀ s∈growL nextE l a k,s.Ok :=
 growL_all (n:=k) i (fun j _ _=>(nextE_told _ _).ok) k (AX_ _)
noncomputable def shapes_ly_I (l:List Nod) (a:Shp) (k:Nat):VS:=stt 51 [(0,.sl 19 (l.map nodC)),(7,.own 900),(26,.sl 19 (l.map nodC)),(27,i64 l.length),(28,i64 k)] [(900,.slc 23 3 ((growL nextE l a k).map shpC))]
noncomputable def shapes_ly_Z (l:List Nod) (a:Shp):VS:=shapes_ly_I l a (l.length)
theorem shapes_ly_s (l:List Nod) (a:Shp) (okl:∀ n∈l,n.Ok) (wl:∀ n∈l,n.w.length≤100000∧n.b.length≤100000) (i:a.Ok) (f8:l.length≤8) (h:∀ k,k<l.length→errL nextE l a k=0) (k:Nat) (hk:k<l.length):VT M_ (fnC Tryz.f101 [1,1,1,0,1,0,0]) (shapes_ly_I l a k) .normal (shapes_ly_I l a (k+1)):=by
 have q:=h k hk
 have q1:=growL_len nextE l a k
 have q2:=grow_ok (l:=l) i k
 have q3:=getD_in okl hk
 have q4:=getD_in wl hk
 obtain ⟨q5,q6⟩:=q4
 unfold errL at q
 have oz2:=(map_at (nodC) (default) (l:=l) (i:=k) hk)
 have oz3:=@next_v (l.getD k default) (growL nextE l a k) q3 q2 (by omega) q5 q6
 exact VT.run (W:=[r_,b_,.r [] [.row (sO oz2)],.r [] [.callr (rO oz3)],r_,d_,r_,.r [] [.n ((↑k:Int)+1)]]) (G:=[.any (rg [(8,4),(29,12),(43,5)]),.drop [9,10,45],.ren 46 900,.weak 28 (i64 (↑(k+1):Int)),.blk 900 (Blk.slc 23 3 (K_ shpC (growL nextE l a (k+1)))),.sort]) (by kernel_rfl) (.c (decide_eq_true (p:=((↑k:Int)<(l.length:Int))) (by omega))<|.c (show 0≤(↑k:Int) by omega)<|.c oz2<|.c oz3<|.c (show ((nextE (l.getD k default) (growL nextE l a k)).snd != 0)=false by (simp at *;omega))<|.c (show ((K_ shpC (growL nextE l a k)).length+1)*24≤140737488355328 by (simp;omega))<|.c (show (K_ shpC (growL nextE l a k)).length+1≤9223372036854775807 by (simp;omega))<|.c (i6n ((↑k:Int)+1) (by omega))<|.c (wS_ k)<|.c (show BlkW (Blk.slc 23 3 (K_ shpC (growL nextE l a k)++[[i64 (nextE (l.getD k default) (growL nextE l a k)).fst.h,i64 (nextE (l.getD k default) (growL nextE l a k)).fst.x,i64 (nextE (l.getD k default) (growL nextE l a k)).fst.c]])) (Blk.slc 23 3 (K_ shpC (growL nextE l a (k+1)))) from (AE_ (e:=23) (z:=3) (rows_to (shpC) (r:=K_ shpC (growL nextE l a k)++[[i64 (nextE (l.getD k default) (growL nextE l a k)).fst.h,i64 (nextE (l.getD k default) (growL nextE l a k)).fst.x,i64 (nextE (l.getD k default) (growL nextE l a k)).fst.c]]) (l:=growL nextE l a k++[Shp.mk (nextE (l.getD k default) (growL nextE l a k)).fst.h (nextE (l.getD k default) (growL nextE l a k)).fst.x (nextE (l.getD k default) (growL nextE l a k)).fst.c]) (m:=growL nextE l a (k+1)) (by first|(simp only[Y_,C_,AO_,AP_,U_,AL_,AM_];done)|rfl|(simp only[Y_,C_,AO_,AP_,U_,AL_,AM_];rfl)|(simp only[Y_,C_,AO_,AP_,U_,AL_,AM_,shpC,ints];done)) (show (growL nextE l a k++[Shp.mk (nextE (l.getD k default) (growL nextE l a k)).fst.h (nextE (l.getD k default) (growL nextE l a k)).fst.x (nextE (l.getD k default) (growL nextE l a k)).fst.c])=(growL nextE l a (k+1)) from (by rfl)))))<|.n)
theorem shapes_ly_e (l:List Nod) (a:Shp) (okl:∀ n∈l,n.Ok) (wl:∀ n∈l,n.w.length≤100000∧n.b.length≤100000) (i:a.Ok) (f8:l.length≤8) (h:∀ k,k<l.length→errL nextE l a k=0):VT M_ (fnC Tryz.f101 [1,1,1,0,1,0,0]) (shapes_ly_I l a (l.length)) (.exit 1) (shapes_ly_Z l a):=by
 exact VT.run (W:=[r_,d_]) (G:=[.any [29],.sort]) (by kernel_rfl) (.c (decide_eq_false (p:=((l.length:Int)<(l.length:Int))) (by omega))<|.n)
theorem shapes_ly (l:List Nod) (a:Shp) (okl:∀ n∈l,n.Ok) (wl:∀ n∈l,n.w.length≤100000∧n.b.length≤100000) (i:a.Ok) (f8:l.length≤8) (h:∀ k,k<l.length→errL nextE l a k=0):VT M_ (fnC Tryz.f101 [1,1,1,0,1,0]) (shapes_ly_I l a 0) (.exit 1) (shapes_ly_Z l a) :=
 VT.loop (fun k=>shapes_ly_I l a k) (l.length) (fun k hk=>shapes_ly_s l a okl wl i f8 h k hk) (shapes_ly_e l a okl wl i f8 h) (by intro h;cases h)
noncomputable def shapes_ln_I (l:List Nod) (a:Shp) (m:Nat) (k:Nat):VS:=stt 51 [(0,.sl 19 (l.map nodC)),(7,.own 900),(26,.sl 19 (l.map nodC)),(27,i64 l.length),(28,i64 k)] [(900,.slc 23 3 ((growL nextE l a k).map shpC))]
noncomputable def shapes_ln_Z (l:List Nod) (a:Shp) (m:Nat):VS:=stt 51 [(4,nilv),(5,i64 m),(6,i64 (errL nextE l a m))] []
theorem shapes_ln_s (l:List Nod) (a:Shp) (m:Nat) (okl:∀ n∈l,n.Ok) (wl:∀ n∈l,n.w.length≤100000∧n.b.length≤100000) (i:a.Ok) (f8:l.length≤8) (hm:m<l.length) (hf:errL nextE l a m≠0) (h:∀ k,k<m→errL nextE l a k=0) (k:Nat) (hk:k<m):VT M_ (fnC Tryz.f101 [1,1,1,0,1,0,0]) (shapes_ln_I l a m k) .normal (shapes_ln_I l a m (k+1)):=by
 have q:=h k hk
 have q1:=growL_len nextE l a k
 have q2:=grow_ok (l:=l) i k
 have q3:=getD_in okl (show k<l.length by omega)
 have q4:=getD_in wl (show k<l.length by omega)
 obtain ⟨q5,q6⟩:=q4
 unfold errL at q
 have oz2:=(map_at (nodC) (default) (l:=l) (i:=k) (by omega))
 have oz3:=@next_v (l.getD k default) (growL nextE l a k) q3 q2 (by omega) q5 q6
 exact VT.run (W:=[r_,b_,.r [] [.row (sO oz2)],.r [] [.callr (rO oz3)],r_,d_,r_,.r [] [.n ((↑k:Int)+1)]]) (G:=[.any (rg [(8,4),(29,12),(43,5)]),.drop [9,10,45],.ren 46 900,.weak 28 (i64 (↑(k+1):Int)),.blk 900 (Blk.slc 23 3 (K_ shpC (growL nextE l a (k+1)))),.sort]) (by kernel_rfl) (.c (decide_eq_true (p:=((↑k:Int)<(l.length:Int))) (by omega))<|.c (show 0≤(↑k:Int) by omega)<|.c oz2<|.c oz3<|.c (show ((nextE (l.getD k default) (growL nextE l a k)).snd != 0)=false by (simp at *;omega))<|.c (show ((K_ shpC (growL nextE l a k)).length+1)*24≤140737488355328 by (simp;omega))<|.c (show (K_ shpC (growL nextE l a k)).length+1≤9223372036854775807 by (simp;omega))<|.c (i6n ((↑k:Int)+1) (by omega))<|.c (wS_ k)<|.c (show BlkW (Blk.slc 23 3 (K_ shpC (growL nextE l a k)++[[i64 (nextE (l.getD k default) (growL nextE l a k)).fst.h,i64 (nextE (l.getD k default) (growL nextE l a k)).fst.x,i64 (nextE (l.getD k default) (growL nextE l a k)).fst.c]])) (Blk.slc 23 3 (K_ shpC (growL nextE l a (k+1)))) from (AE_ (e:=23) (z:=3) (rows_to (shpC) (r:=K_ shpC (growL nextE l a k)++[[i64 (nextE (l.getD k default) (growL nextE l a k)).fst.h,i64 (nextE (l.getD k default) (growL nextE l a k)).fst.x,i64 (nextE (l.getD k default) (growL nextE l a k)).fst.c]]) (l:=growL nextE l a k++[Shp.mk (nextE (l.getD k default) (growL nextE l a k)).fst.h (nextE (l.getD k default) (growL nextE l a k)).fst.x (nextE (l.getD k default) (growL nextE l a k)).fst.c]) (m:=growL nextE l a (k+1)) (by first|(simp only[Y_,C_,AO_,AP_,U_,AL_,AM_];done)|rfl|(simp only[Y_,C_,AO_,AP_,U_,AL_,AM_];rfl)|(simp only[Y_,C_,AO_,AP_,U_,AL_,AM_,shpC,ints];done)) (show (growL nextE l a k++[Shp.mk (nextE (l.getD k default) (growL nextE l a k)).fst.h (nextE (l.getD k default) (growL nextE l a k)).fst.x (nextE (l.getD k default) (growL nextE l a k)).fst.c])=(growL nextE l a (k+1)) from (by rfl)))))<|.n)
theorem shapes_ln_e (l:List Nod) (a:Shp) (m:Nat) (okl:∀ n∈l,n.Ok) (wl:∀ n∈l,n.w.length≤100000∧n.b.length≤100000) (i:a.Ok) (f8:l.length≤8) (hm:m<l.length) (hf:errL nextE l a m≠0) (h:∀ k,k<m→errL nextE l a k=0):VT M_ (fnC Tryz.f101 [1,1,1,0,1,0,0]) (shapes_ln_I l a m (m)) (.ret) (shapes_ln_Z l a m):=by
 have q1:=growL_len nextE l a m
 have q2:=grow_ok (l:=l) i m
 have q3:=getD_in okl hm
 have q4:=getD_in wl hm
 obtain ⟨q5,q6⟩:=q4
 unfold errL at hf
 have oz2:=(map_at (nodC) (default) (l:=l) (i:=m) hm)
 have oz3:=@next_v (l.getD m default) (growL nextE l a m) q3 q2 (by omega) q5 q6
 have oz5:=(R_ (k:=.i64) (show (((nextE (l.getD m default) (growL nextE l a m)).snd):Int)=(errL nextE l a m) from (by rfl)))
 exact VT.run (W:=[r_,b_,.r [] [.row (sO oz2)],.r [] [.callr (rO oz3)],r_,b_,r_]) (G:=[.any (rg [(0,1),(7,5),(26,17)]),.drop [900,9,10],.weak 6 (wO oz5),.sort]) (by kernel_rfl) (.c (decide_eq_true (p:=((↑m:Int)<(l.length:Int))) (by omega))<|.c (show 0≤(↑m:Int) by omega)<|.c oz2<|.c oz3<|.c (show ((nextE (l.getD m default) (growL nextE l a m)).snd != 0)=true by (simp at *;omega))<|.c oz5<|.n)
theorem shapes_ln (l:List Nod) (a:Shp) (m:Nat) (okl:∀ n∈l,n.Ok) (wl:∀ n∈l,n.w.length≤100000∧n.b.length≤100000) (i:a.Ok) (f8:l.length≤8) (hm:m<l.length) (hf:errL nextE l a m≠0) (h:∀ k,k<m→errL nextE l a k=0):VT M_ (fnC Tryz.f101 [1,1,1,0,1,0]) (shapes_ln_I l a m 0) (.ret) (shapes_ln_Z l a m) :=
 VT.loop (fun k=>shapes_ln_I l a m k) (m) (fun k hk=>shapes_ln_s l a m okl wl i f8 hm hf h k hk) (shapes_ln_e l a m okl wl i f8 hm hf h) (by intro h;cases h)
theorem shapes_y (l:List Nod) (a:Shp) (okl:∀ n∈l,n.Ok) (wl:∀ n∈l,n.w.length≤100000∧n.b.length≤100000) (h:SOK l a):VC M_ 101 ([.sl 19 (l.map nodC),shp a]) (.tup [.sl 3 ((growL nextE l a l.length).map shpC),i64 l.length,i64 0]):=by
 have q1:=h.i
 have q2:=h.e
 have q3:=h.f
 have q4:=h.k
 have q5:=q1.ok
 unfold Shp.Rt at q1
 have oz0:=@sRight_v (a) q5
 have oz6:=@shapes_ly (l) (a) okl wl q5 q3 q4
 exact (VC.run (fn:=Tryz.f101) (W:=[r_,.r [] [.callr (rO oz0)],d_,r_,d_,r_,d_,r_,r_,.code [.any (rg [(1,1),(3,4),(12,14)]),.drop [3],.ren 25 900,.weak 27 (i64 (l.length:Int)),.weak 28 (i64 (↑0:Int)),.sort] (AF_ 1) (zO oz6),r_]) (r:=AV.tup [AV.sl 3 (K_ shpC (growL nextE l a l.length)),i64 ((K_ nodC l).length:Int),i64 0]) Tryz.func101 (by kernel_rfl) (.c oz0<|.c (show (!decide (0<elems a.h a.x a.c))=false by (simp;omega))<|.c (show (((K_ nodC l).length:Int)==0)=false by (simp only[E_,F_,I_,J_,ne_eq,H_,G_,X_,W_,CK_,BU_,BX_,Classical.not_not,CC_,Int.not_le,P_,S_,AK_,T_,AN_,BW_,BY_,BK_,BG_,BV_,eqNums,O_,N_,AJ_,BI_,BF_,BC_,BT_,CN_,CW_,BZ_,BS_,CV_];(first|done|with_reducible assumption|omega|contradiction)))<|.c (show decide (((K_ nodC l).length:Int)>8)=false by (simp;omega))<|.c (R_ (k:=.i64) (show ((((K_ nodC l).length:Int)):Int)=((l.length:Int)) from (by (simp;done))))<|.c w0_<|.c oz6<|.n)).weak (D_ _) (AB_ (.cons (.refl _) (.cons (R_ (by (simp;done))) (.cons (.refl _) .nil))))
theorem shapes_a (l:List Nod) (a:Shp) (i:a.Ok) (hl:l.length≤1000) (h:¬ 0<elems a.h a.x a.c∨l.length=0∨8<l.length):VC M_ 101 ([.sl 19 (l.map nodC),shp a]) (.tup [nilv,i64 (shapesE l a).1,i64 (shapesE l a).2]):=by
 have q:=elems_in a.h a.x a.c
 have oz0:=@sRight_v (a) i
 rcases bft (!decide (0<elems a.h a.x a.c)) with hc0|hc0
 ·have gc0:=bnt hc0
  exact (VC.run (fn:=Tryz.f101) (W:=[r_,.r [] [.callr (rO oz0)],b_,r_]) (r:=AV.tup [AV.lit (AY_ none 0 0),i64 (-1),i64 5]) Tryz.func101 (by kernel_rfl) (.c oz0<|.c hc0<|.n)).weak (D_ _) (AB_ (.cons (.refl _) (.cons (R_ (by (unfold shapesE;(try simp only[O_] at *);(repeat first|rw[i_ (by omega)]|rw[j_ (by omega)])))) (.cons (R_ (by (unfold shapesE;(try simp only[O_] at *);(repeat first|rw[i_ (by omega)]|rw[j_ (by omega)])))) .nil))))
 ·have gc0:=bnf hc0
  rcases bft (((K_ nodC l).length:Int)==0) with hc1|hc1
  ·have gc1:((K_ nodC l).length:Int)=0:=bet hc1
   exact (VC.run (fn:=Tryz.f101) (W:=[r_,.r [] [.callr (rO oz0)],d_,r_,b_,r_]) (r:=AV.tup [AV.lit (AY_ none 0 0),i64 (-1),i64 12]) Tryz.func101 (by kernel_rfl) (.c oz0<|.c hc0<|.c hc1<|.n)).weak (D_ _) (AB_ (.cons (.refl _) (.cons (R_ (by (unfold shapesE;(try simp only[O_] at *);(repeat first|rw[i_ (by omega)]|rw[j_ (by omega)])))) (.cons (R_ (by (unfold shapesE;(try simp only[O_] at *);(repeat first|rw[i_ (by omega)]|rw[j_ (by omega)])))) .nil))))
  ·have gc1:¬((K_ nodC l).length:Int)=0:=bef hc1
   exact (VC.run (fn:=Tryz.f101) (W:=[r_,.r [] [.callr (rO oz0)],d_,r_,d_,r_,b_,r_]) (r:=AV.tup [AV.lit (AY_ none 0 0),i64 (-1),i64 4]) Tryz.func101 (by kernel_rfl) (.c oz0<|.c hc0<|.c hc1<|.c (show decide (((K_ nodC l).length:Int)>8)=true by (simp only[E_,F_,I_,J_,ne_eq,H_,G_,X_,W_,CK_,BU_,BX_,Classical.not_not,CC_,Int.not_le,P_,S_,AK_,T_,AN_,BW_,BY_,BK_,BG_,BV_,eqNums,O_,N_,AJ_,BI_,BF_,BC_,BT_,CN_,CW_,BZ_,BS_,CV_] at *;(first|done|with_reducible assumption|omega|contradiction)))<|.n)).weak (D_ _) (AB_ (.cons (.refl _) (.cons (R_ (by (unfold shapesE;(try simp only[O_] at *);(repeat first|rw[i_ (by omega)]|rw[j_ (by omega)])))) (.cons (R_ (by (unfold shapesE;(try simp only[O_] at *);(repeat first|rw[i_ (by omega)]|rw[j_ (by omega)])))) .nil))))
theorem shapes_m (l:List Nod) (a:Shp) (m:Nat) (okl:∀ n∈l,n.Ok) (wl:∀ n∈l,n.w.length≤100000∧n.b.length≤100000) (i:0<elems a.h a.x a.c) (f8:l.length≤8) (hm:m<l.length) (hf:errL nextE l a m≠0) (h:∀ k,k<m→errL nextE l a k=0):VC M_ 101 ([.sl 19 (l.map nodC),shp a]) (.tup [nilv,i64 m,i64 (errL nextE l a m)]):=by
 have q:=Shp.Rt.ok i
 have oz0:=@sRight_v (a) q
 have oz6:=@shapes_ln (l) (a) (m) okl wl q f8 hm hf h
 exact VC.run (fn:=Tryz.f101) (W:=[r_,.r [] [.callr (rO oz0)],d_,r_,d_,r_,d_,r_,r_,.code [.any (rg [(1,1),(3,4),(12,14)]),.drop [3],.ren 25 900,.weak 27 (i64 (l.length:Int)),.weak 28 (i64 (↑0:Int)),.sort] (Exit.ret) (zO oz6)]) Tryz.func101 (by kernel_rfl) (.c oz0<|.c (show (!decide (0<elems a.h a.x a.c))=false by (simp;omega))<|.c (show (((K_ nodC l).length:Int)==0)=false by (simp only[E_,F_,I_,J_,ne_eq,H_,G_,X_,W_,CK_,BU_,BX_,Classical.not_not,CC_,Int.not_le,P_,S_,AK_,T_,AN_,BW_,BY_,BK_,BG_,BV_,eqNums,O_,N_,AJ_,BI_,BF_,BC_,BT_,CN_,CW_,BZ_,BS_,CV_];(first|done|with_reducible assumption|omega|contradiction)))<|.c (show decide (((K_ nodC l).length:Int)>8)=false by (simp;omega))<|.c (R_ (k:=.i64) (show ((((K_ nodC l).length:Int)):Int)=((l.length:Int)) from (by (simp;done))))<|.c w0_<|.c oz6<|.n)
theorem shapes_n (l:List Nod) (a:Shp) (okl:∀ n∈l,n.Ok) (wl:∀ n∈l,n.w.length≤100000∧n.b.length≤100000) (i:a.Ok) (hl:l.length≤1000) (h:¬ SOK l a):VC M_ 101 [.sl 19 (l.map nodC),shp a] (.tup [nilv,i64 (shapesE l a).1,i64 (shapesE l a).2]):=by
 rcases SOK.cases l a with q|q|q|q|⟨i',e,f,m,h1,h2,h3⟩
 ·exact absurd q h
 ·exact shapes_a l a i hl (.inl q)
 ·exact shapes_a l a i hl (.inr (.inl q))
 ·exact shapes_a l a i hl (.inr (.inr q))
 ·rw[shapesE_at i' e f h1 h2 h3];exact shapes_m l a m okl wl i' f h1 h2 h3
abbrev shpsL (l:List Nod) (a:Shp):List Shp:=growL nextE l a l.length
def lastS (l:List Nod) (a:Shp):Shp:=(shpsL l a).getD l.length default
theorem shpsL_len (l:List Nod) (a:Shp):(shpsL l a).length=l.length+1:=growL_len nextE l a l.length
theorem lastS_ok {l:List Nod} {a:Shp} (h:a.Ok):(lastS l a).Ok:=getD_in (grow_ok (l:=l) h l.length) (show l.length<(shpsL l a).length by rw[shpsL_len];omega)
theorem lastS_i {l:List Nod} {a:Shp} {i:Nat} (hi:i=l.length):(growL nextE l a l.length).getD i default=lastS l a:=by subst hi;rfl
structure Blc where
 n:List Nod
 ex:Bool
 w:List Int
 b:List Int
 nd:Int
abbrev blcC (x:Blc):List AV:=[.sl 19 (x.n.map nodC),bv x.ex,ints .i8 x.w,ints .i32 x.b,i32 x.nd]
structure Blc.Ok (x:Blc):Prop where
 n:∀ d∈x.n,Nod.Ok d
 w:∀ v∈x.w,In8 v
 b:∀ v∈x.b,In32 v
 nd:In32 x.nd
instance:Inhabited Blc:=⟨⟨[],false,[],[],0⟩⟩
structure Mdl where
 l:List Blc
abbrev mdlC (m:Mdl):List AV:=[.sl 5 (m.l.map blcC)]
structure Mdl.Ok (m:Mdl):Prop where
 l:∀ d∈m.l,Blc.Ok d
instance:Inhabited Mdl:=⟨⟨[]⟩⟩
structure Bun where
 h:Int
 x:Int
 c:Int
 cl:Int
 m:List Mdl
abbrev bunC (u:Bun):List AV:=[i64 u.h,i64 u.x,i64 u.c,i64 u.cl,.sl 1 (u.m.map mdlC)]
structure Bun.Ok (u:Bun):Prop where
 h:In64 u.h
 x:In64 u.x
 c:In64 u.c
 cl:In64 u.cl
 m:∀ d∈u.m,Mdl.Ok d
abbrev Bun.inp (u:Bun):Shp:=⟨u.h,u.x,u.c⟩
abbrev blc (x:Blc):AV:=.agg (blcC x)
abbrev bun (u:Bun):AV:=.agg (bunC u)
def blcS (x:Blc):Bool:=fewB x.n 0&&decide (x.w.length≤4000)&&decide (x.b.length≤100)
def mdlS (m:Mdl):Bool:=decide (m.l.length≤8)&&m.l.all blcS
def bunS (u:Bun):Bool:=decide (u.m.length≤4)&&u.m.all mdlS
theorem blcS_iff {x:Blc}:blcS x=true↔fewB x.n 0=true∧x.w.length≤4000∧x.b.length≤100:=by
 simp only[blcS,P_,E_,and_assoc]
theorem mdlS_iff {m:Mdl}:mdlS m=true↔m.l.length≤8∧∀ k,k<m.l.length→blcS (m.l.getD k default)=true:=by
 simp only[mdlS,P_,E_,all_getD]
noncomputable def few31_iy_I (u:Bun) (K:Int) (l:List Blc) (k:Nat):VS:=stt 60 [(1,.ptr 1 0 0),(3,i64 K),(4,.sl 5 (l.map blcC)),(5,i64 k)] [(1,.var (bunC u))]
noncomputable def few31_iy_Z (u:Bun) (K:Int) (l:List Blc):VS:=few31_iy_I u K l (l.length)
theorem few31_iy_s (u:Bun) (K:Int) (l:List Blc) (hl:l.length≤8) (h:∀ k,k<l.length→blcS (l.getD k default)=true) (k:Nat) (hk:k<l.length):VT M_ (fnC Tryz.f9 [1,1,0,1,0,0,1,0,0,1,1,1,0,0]) (few31_iy_I u K l k) .normal (few31_iy_I u K l (k+1)):=by
 have q:=blcS_iff.1 (h k hk)
 obtain ⟨q1,q2,q3⟩:=q
 have oz1:=(show 0≤(↑k:Int) by omega)
 have oz2:=(map_at (blcC) (default) (l:=l) (i:=k) hk)
 have oz4:=@few_0 ((l.getD k default).n)
 exact VT.run (W:=[r_,b_,.r [] [.row (sO oz2),.call (aO oz4) (rO oz4),o_,o_,o_,.row (sO oz2),o_,o_,o_,o_,o_,.sel 1,o_,o_,o_,.row (sO oz2),o_,o_,o_,o_,o_,.sel 1],d_,.r [] [.n ((↑k:Int)+1)]]) (G:=[.any (rg [(26,15),(49,2),(59,1)]),.weak 5 (i64 (↑(k+1):Int)),.sort]) (by kernel_rfl) (.c (show decide ((↑k:Int)<((K_ blcC l).length:Int))=true by (simp;omega))<|.c oz1<|.c oz2<|.c (show WeakL [AV.sl 19 (K_ nodC (l.getD k default).n),AV.agg [i64 0,i64 0,i64 0,AV.lit (AY_ none 0 0)]] [AV.sl 19 (K_ nodC (l.getD k default).n),AV.agg [i64 0,i64 0,i64 0,AV.sl 1 []]] from (.cons (.refl _) (.cons (AG_ (.cons (.refl _) (.cons (.refl _) (.cons (.refl _) (.cons (BQ_ _) .nil))))) .nil)))<|.c oz4<|.c oz1<|.c oz2<|.c oz1<|.c oz2<|.c (show (!fewB (l.getD k default).n 0 || decide (((K_ (row1 .i8) (l.getD k default).w).length:Int)>4000) || decide (((K_ (row1 .i32) (l.getD k default).b).length:Int)>100))=false by (rw[q1];simp only[BU_,BV_,T_,F_,O_];omega))<|.c (i6n ((↑k:Int)+1) (by omega))<|.c (wS_ k)<|.n)
theorem few31_iy_e (u:Bun) (K:Int) (l:List Blc) (hl:l.length≤8) (h:∀ k,k<l.length→blcS (l.getD k default)=true):VT M_ (fnC Tryz.f9 [1,1,0,1,0,0,1,0,0,1,1,1,0,0]) (few31_iy_I u K l (l.length)) (.exit 2) (few31_iy_Z u K l):=by
 exact VT.run (W:=[r_,d_]) (G:=[.any (rg [(26,4)]),.sort]) (by kernel_rfl) (.c (show decide ((l.length:Int)<((K_ blcC l).length:Int))=false by (simp;done))<|.n)
theorem few31_iy (u:Bun) (K:Int) (l:List Blc) (hl:l.length≤8) (h:∀ k,k<l.length→blcS (l.getD k default)=true):VT M_ (fnC Tryz.f9 [1,1,0,1,0,0,1,0,0,1,1,1,0]) (few31_iy_I u K l 0) (.exit 2) (few31_iy_Z u K l) :=
 VT.loop (fun k=>few31_iy_I u K l k) (l.length) (fun k hk=>few31_iy_s u K l hl h k hk) (few31_iy_e u K l hl h) (by intro h;cases h)
noncomputable def few31_in_I (u:Bun) (K:Int) (l:List Blc) (m:Nat) (k:Nat):VS:=stt 60 [(1,.ptr 1 0 0),(3,i64 K),(4,.sl 5 (l.map blcC)),(5,i64 k)] [(1,.var (bunC u))]
noncomputable def few31_in_Z (u:Bun) (K:Int) (l:List Blc) (m:Nat):VS:=stt 60 [(2,bv false)] []
theorem few31_in_s (u:Bun) (K:Int) (l:List Blc) (m:Nat) (hl:l.length≤8) (hm:m<l.length) (hf:blcS (l.getD m default)=false) (h:∀ k,k<m→blcS (l.getD k default)=true) (k:Nat) (hk:k<m):VT M_ (fnC Tryz.f9 [1,1,0,1,0,0,1,0,0,1,1,1,0,0]) (few31_in_I u K l m k) .normal (few31_in_I u K l m (k+1)):=by
 have q:=blcS_iff.1 (h k hk)
 obtain ⟨q1,q2,q3⟩:=q
 have oz1:=(show 0≤(↑k:Int) by omega)
 have oz2:=(map_at (blcC) (default) (l:=l) (i:=k) (by omega))
 have oz4:=@few_0 ((l.getD k default).n)
 exact VT.run (W:=[r_,b_,.r [] [.row (sO oz2),.call (aO oz4) (rO oz4),o_,o_,o_,.row (sO oz2),o_,o_,o_,o_,o_,.sel 1,o_,o_,o_,.row (sO oz2),o_,o_,o_,o_,o_,.sel 1],d_,.r [] [.n ((↑k:Int)+1)]]) (G:=[.any (rg [(26,15),(49,2),(59,1)]),.weak 5 (i64 (↑(k+1):Int)),.sort]) (by kernel_rfl) (.c (show decide ((↑k:Int)<((K_ blcC l).length:Int))=true by (simp;omega))<|.c oz1<|.c oz2<|.c (show WeakL [AV.sl 19 (K_ nodC (l.getD k default).n),AV.agg [i64 0,i64 0,i64 0,AV.lit (AY_ none 0 0)]] [AV.sl 19 (K_ nodC (l.getD k default).n),AV.agg [i64 0,i64 0,i64 0,AV.sl 1 []]] from (.cons (.refl _) (.cons (AG_ (.cons (.refl _) (.cons (.refl _) (.cons (.refl _) (.cons (BQ_ _) .nil))))) .nil)))<|.c oz4<|.c oz1<|.c oz2<|.c oz1<|.c oz2<|.c (show (!fewB (l.getD k default).n 0 || decide (((K_ (row1 .i8) (l.getD k default).w).length:Int)>4000) || decide (((K_ (row1 .i32) (l.getD k default).b).length:Int)>100))=false by (rw[q1];simp only[BU_,BV_,T_,F_,O_];omega))<|.c (i6n ((↑k:Int)+1) (by omega))<|.c (wS_ k)<|.n)
theorem few31_in_e (u:Bun) (K:Int) (l:List Blc) (m:Nat) (hl:l.length≤8) (hm:m<l.length) (hf:blcS (l.getD m default)=false) (h:∀ k,k<m→blcS (l.getD k default)=true):VT M_ (fnC Tryz.f9 [1,1,0,1,0,0,1,0,0,1,1,1,0,0]) (few31_in_I u K l m (m)) (.ret) (few31_in_Z u K l m):=by
 have q0:fewB (l.getD m default).n 0=true→¬ ((l.getD m default).w.length≤4000∧(l.getD m default).b.length≤100):=fun c d=>by rw[blcS_iff.2 ⟨c,d⟩] at hf;cases hf
 have oz1:=(show 0≤(↑m:Int) by omega)
 have oz2:=(map_at (blcC) (default) (l:=l) (i:=m) hm)
 have oz4:=@few_0 ((l.getD m default).n)
 exact VT.run (W:=[r_,b_,.r [] [.row (sO oz2),.call (aO oz4) (rO oz4),o_,o_,o_,.row (sO oz2),o_,o_,o_,o_,o_,.sel 1,o_,o_,o_,.row (sO oz2),o_,o_,o_,o_,o_,.sel 1],b_,r_]) (G:=[.any (rg [(1,1),(3,3),(26,4),(32,9),(49,2),(59,1)]),.drop [1],.sort]) (by kernel_rfl) (.c (show decide ((↑m:Int)<((K_ blcC l).length:Int))=true by (simp;omega))<|.c oz1<|.c oz2<|.c (show WeakL [AV.sl 19 (K_ nodC (l.getD m default).n),AV.agg [i64 0,i64 0,i64 0,AV.lit (AY_ none 0 0)]] [AV.sl 19 (K_ nodC (l.getD m default).n),AV.agg [i64 0,i64 0,i64 0,AV.sl 1 []]] from (.cons (.refl _) (.cons (AG_ (.cons (.refl _) (.cons (.refl _) (.cons (.refl _) (.cons (BQ_ _) .nil))))) .nil)))<|.c oz4<|.c oz1<|.c oz2<|.c oz1<|.c oz2<|.c (show (!fewB (l.getD m default).n 0 || decide (((K_ (row1 .i8) (l.getD m default).w).length:Int)>4000) || decide (((K_ (row1 .i32) (l.getD m default).b).length:Int)>100))=true by (cases ef:fewB (l.getD m default).n 0 with|false=>rfl|true=>(have q9:=q0 ef;simp only[BU_,BV_,AK_,E_,O_];omega)))<|.n)
theorem few31_in (u:Bun) (K:Int) (l:List Blc) (m:Nat) (hl:l.length≤8) (hm:m<l.length) (hf:blcS (l.getD m default)=false) (h:∀ k,k<m→blcS (l.getD k default)=true):VT M_ (fnC Tryz.f9 [1,1,0,1,0,0,1,0,0,1,1,1,0]) (few31_in_I u K l m 0) (.ret) (few31_in_Z u K l m) :=
 VT.loop (fun k=>few31_in_I u K l m k) (m) (fun k hk=>few31_in_s u K l m hl hm hf h k hk) (few31_in_e u K l m hl hm hf h) (by intro h;cases h)
noncomputable def few31_oy_I (u:Bun) (k:Nat):VS:=stt 60 [(1,.ptr 1 0 0),(3,i64 k)] [(1,.var (bunC u))]
noncomputable def few31_oy_Z (u:Bun):VS:=few31_oy_I u (u.m.length)
theorem few31_oy_s (u:Bun) (hl:u.m.length≤4) (h:∀ k,k<u.m.length→mdlS (u.m.getD k default)=true) (k:Nat) (hk:k<u.m.length):VT M_ (fnC Tryz.f9 [1,1,0,1,0,0]) (few31_oy_I u k) .normal (few31_oy_I u (k+1)):=by
 have q:=mdlS_iff.1 (h k hk)
 obtain ⟨q1,q2⟩:=q
 have oz2:=(map_at (mdlC) (default) (l:=u.m) (i:=k) hk)
 have oz5:=@few31_iy (u) ((↑k:Int)) ((u.m.getD k default).l) q1 q2
 exact VT.run (W:=[r_,b_,.r [] [.row (sO oz2)],r_,d_,r_,.code [.any (rg [(10,5),(17,9)]),.weak 5 (i64 (↑0:Int)),.sort] (AF_ 2) (zO oz5),.r [] [.n ((↑k:Int)+1)]]) (G:=[.any [4,5,15,16],.weak 3 (i64 (↑(k+1):Int)),.sort]) (by kernel_rfl) (.c (show decide ((↑k:Int)<((K_ mdlC u.m).length:Int))=true by (simp;omega))<|.c (show 0≤(↑k:Int) by omega)<|.c oz2<|.c (show decide (((K_ blcC (u.m.getD k default).l).length:Int)>8)=false by (simp at *;omega))<|.c w0_<|.c oz5<|.c (i6n ((↑k:Int)+1) (by omega))<|.c (wS_ k)<|.n)
theorem few31_oy_e (u:Bun) (hl:u.m.length≤4) (h:∀ k,k<u.m.length→mdlS (u.m.getD k default)=true):VT M_ (fnC Tryz.f9 [1,1,0,1,0,0]) (few31_oy_I u (u.m.length)) (.exit 0) (few31_oy_Z u):=by
 exact VT.run (W:=[r_,d_]) (G:=[.any (rg [(10,5)]),.sort]) (by kernel_rfl) (.c (show decide ((u.m.length:Int)<((K_ mdlC u.m).length:Int))=false by (simp;done))<|.n)
theorem few31_oy (u:Bun) (hl:u.m.length≤4) (h:∀ k,k<u.m.length→mdlS (u.m.getD k default)=true):VT M_ (fnC Tryz.f9 [1,1,0,1,0]) (few31_oy_I u 0) (.exit 0) (few31_oy_Z u) :=
 VT.loop (fun k=>few31_oy_I u k) (u.m.length) (fun k hk=>few31_oy_s u hl h k hk) (few31_oy_e u hl h) (by intro h;cases h)
noncomputable def few31_oa_I (u:Bun) (m:Nat) (k:Nat):VS:=stt 60 [(1,.ptr 1 0 0),(3,i64 k)] [(1,.var (bunC u))]
noncomputable def few31_oa_Z (u:Bun) (m:Nat):VS:=stt 60 [(2,bv false)] []
theorem few31_oa_s (u:Bun) (m:Nat) (hl:u.m.length≤4) (hm:m<u.m.length) (hf:8<(u.m.getD m default).l.length) (h:∀ k,k<m→mdlS (u.m.getD k default)=true) (k:Nat) (hk:k<m):VT M_ (fnC Tryz.f9 [1,1,0,1,0,0]) (few31_oa_I u m k) .normal (few31_oa_I u m (k+1)):=by
 have q:=mdlS_iff.1 (h k hk)
 obtain ⟨q1,q2⟩:=q
 have oz2:=(map_at (mdlC) (default) (l:=u.m) (i:=k) (by omega))
 have oz5:=@few31_iy (u) ((↑k:Int)) ((u.m.getD k default).l) q1 q2
 exact VT.run (W:=[r_,b_,.r [] [.row (sO oz2)],r_,d_,r_,.code [.any (rg [(10,5),(17,9)]),.weak 5 (i64 (↑0:Int)),.sort] (AF_ 2) (zO oz5),.r [] [.n ((↑k:Int)+1)]]) (G:=[.any [4,5,15,16],.weak 3 (i64 (↑(k+1):Int)),.sort]) (by kernel_rfl) (.c (show decide ((↑k:Int)<((K_ mdlC u.m).length:Int))=true by (simp;omega))<|.c (show 0≤(↑k:Int) by omega)<|.c oz2<|.c (show decide (((K_ blcC (u.m.getD k default).l).length:Int)>8)=false by (simp at *;omega))<|.c w0_<|.c oz5<|.c (i6n ((↑k:Int)+1) (by omega))<|.c (wS_ k)<|.n)
theorem few31_oa_e (u:Bun) (m:Nat) (hl:u.m.length≤4) (hm:m<u.m.length) (hf:8<(u.m.getD m default).l.length) (h:∀ k,k<m→mdlS (u.m.getD k default)=true):VT M_ (fnC Tryz.f9 [1,1,0,1,0,0]) (few31_oa_I u m (m)) (.ret) (few31_oa_Z u m):=by
 have oz2:=(map_at (mdlC) (default) (l:=u.m) (i:=m) hm)
 exact VT.run (W:=[r_,b_,.r [] [.row (sO oz2)],r_,b_,r_]) (G:=[.any (rg [(1,1),(3,2),(10,5),(17,9)]),.drop [1],.sort]) (by kernel_rfl) (.c (show decide ((↑m:Int)<((K_ mdlC u.m).length:Int))=true by (simp;omega))<|.c (show 0≤(↑m:Int) by omega)<|.c oz2<|.c (show decide (((K_ blcC (u.m.getD m default).l).length:Int)>8)=true by (simp at *;omega))<|.n)
theorem few31_oa (u:Bun) (m:Nat) (hl:u.m.length≤4) (hm:m<u.m.length) (hf:8<(u.m.getD m default).l.length) (h:∀ k,k<m→mdlS (u.m.getD k default)=true):VT M_ (fnC Tryz.f9 [1,1,0,1,0]) (few31_oa_I u m 0) (.ret) (few31_oa_Z u m) :=
 VT.loop (fun k=>few31_oa_I u m k) (m) (fun k hk=>few31_oa_s u m hl hm hf h k hk) (few31_oa_e u m hl hm hf h) (by intro h;cases h)
noncomputable def few31_ob_I (u:Bun) (m j:Nat) (k:Nat):VS:=stt 60 [(1,.ptr 1 0 0),(3,i64 k)] [(1,.var (bunC u))]
noncomputable def few31_ob_Z (u:Bun) (m j:Nat):VS:=stt 60 [(2,bv false)] []
theorem few31_ob_s (u:Bun) (m j:Nat) (hl:u.m.length≤4) (hm:m<u.m.length) (hs:(u.m.getD m default).l.length≤8) (hj:j<(u.m.getD m default).l.length) (hf:blcS ((u.m.getD m default).l.getD j default)=false) (hb:∀ k,k<j→blcS ((u.m.getD m default).l.getD k default)=true) (h:∀ k,k<m→mdlS (u.m.getD k default)=true) (k:Nat) (hk:k<m):VT M_ (fnC Tryz.f9 [1,1,0,1,0,0]) (few31_ob_I u m j k) .normal (few31_ob_I u m j (k+1)):=by
 have q:=mdlS_iff.1 (h k hk)
 obtain ⟨q1,q2⟩:=q
 have oz2:=(map_at (mdlC) (default) (l:=u.m) (i:=k) (by omega))
 have oz5:=@few31_iy (u) ((↑k:Int)) ((u.m.getD k default).l) q1 q2
 exact VT.run (W:=[r_,b_,.r [] [.row (sO oz2)],r_,d_,r_,.code [.any (rg [(10,5),(17,9)]),.weak 5 (i64 (↑0:Int)),.sort] (AF_ 2) (zO oz5),.r [] [.n ((↑k:Int)+1)]]) (G:=[.any [4,5,15,16],.weak 3 (i64 (↑(k+1):Int)),.sort]) (by kernel_rfl) (.c (show decide ((↑k:Int)<((K_ mdlC u.m).length:Int))=true by (simp;omega))<|.c (show 0≤(↑k:Int) by omega)<|.c oz2<|.c (show decide (((K_ blcC (u.m.getD k default).l).length:Int)>8)=false by (simp at *;omega))<|.c w0_<|.c oz5<|.c (i6n ((↑k:Int)+1) (by omega))<|.c (wS_ k)<|.n)
theorem few31_ob_e (u:Bun) (m j:Nat) (hl:u.m.length≤4) (hm:m<u.m.length) (hs:(u.m.getD m default).l.length≤8) (hj:j<(u.m.getD m default).l.length) (hf:blcS ((u.m.getD m default).l.getD j default)=false) (hb:∀ k,k<j→blcS ((u.m.getD m default).l.getD k default)=true) (h:∀ k,k<m→mdlS (u.m.getD k default)=true):VT M_ (fnC Tryz.f9 [1,1,0,1,0,0]) (few31_ob_I u m j (m)) (.ret) (few31_ob_Z u m j):=by
 have oz2:=(map_at (mdlC) (default) (l:=u.m) (i:=m) hm)
 have oz5:=@few31_in (u) ((↑m:Int)) ((u.m.getD m default).l) (j) hs hj hf hb
 exact VT.run (W:=[r_,b_,.r [] [.row (sO oz2)],r_,d_,r_,.code [.any (rg [(10,5),(17,9)]),.weak 5 (i64 (↑0:Int)),.sort] (Exit.ret) (zO oz5)]) (G:=[.sort]) (by kernel_rfl) (.c (show decide ((↑m:Int)<((K_ mdlC u.m).length:Int))=true by (simp;omega))<|.c (show 0≤(↑m:Int) by omega)<|.c oz2<|.c (show decide (((K_ blcC (u.m.getD m default).l).length:Int)>8)=false by (simp at *;omega))<|.c w0_<|.c oz5<|.n)
theorem few31_ob (u:Bun) (m j:Nat) (hl:u.m.length≤4) (hm:m<u.m.length) (hs:(u.m.getD m default).l.length≤8) (hj:j<(u.m.getD m default).l.length) (hf:blcS ((u.m.getD m default).l.getD j default)=false) (hb:∀ k,k<j→blcS ((u.m.getD m default).l.getD k default)=true) (h:∀ k,k<m→mdlS (u.m.getD k default)=true):VT M_ (fnC Tryz.f9 [1,1,0,1,0]) (few31_ob_I u m j 0) (.ret) (few31_ob_Z u m j) :=
 VT.loop (fun k=>few31_ob_I u m j k) (m) (fun k hk=>few31_ob_s u m j hl hm hs hj hf hb h k hk) (few31_ob_e u m j hl hm hs hj hf hb h) (by intro h;cases h)
theorem few31_a (u:Bun) (h:4<u.m.length):VC M_ 9 ([bun u]) (bv false):=by
 exact VC.run (fn:=Tryz.f9) (W:=[r_,r_,b_,r_]) Tryz.func9 (by kernel_rfl) (.c (show decide (((K_ mdlC u.m).length:Int)>4)=true by (simp;omega))<|.n)
theorem few31_y (u:Bun) (hl:u.m.length≤4) (h:∀ k,k<u.m.length→mdlS (u.m.getD k default)=true):VC M_ 9 ([bun u]) (bv true):=by
 have oz2:=@few31_oy (u) hl h
 exact VC.run (fn:=Tryz.f9) (W:=[r_,r_,d_,r_,.code [.any [0,2,6,7,8,9],.weak 3 (i64 (↑0:Int)),.sort] (AF_ 0) (zO oz2),r_]) Tryz.func9 (by kernel_rfl) (.c (show decide (((K_ mdlC u.m).length:Int)>4)=false by (simp;omega))<|.c w0_<|.c oz2<|.n)
theorem few31_na (u:Bun) (m:Nat) (hl:u.m.length≤4) (hm:m<u.m.length) (hf:8<(u.m.getD m default).l.length) (h:∀ k,k<m→mdlS (u.m.getD k default)=true):VC M_ 9 ([bun u]) (bv false):=by
 have oz2:=@few31_oa (u) (m) hl hm hf h
 exact VC.run (fn:=Tryz.f9) (W:=[r_,r_,d_,r_,.code [.any [0,2,6,7,8,9],.weak 3 (i64 (↑0:Int)),.sort] (Exit.ret) (zO oz2)]) Tryz.func9 (by kernel_rfl) (.c (show decide (((K_ mdlC u.m).length:Int)>4)=false by (simp;omega))<|.c w0_<|.c oz2<|.n)
theorem few31_nb (u:Bun) (m j:Nat) (hl:u.m.length≤4) (hm:m<u.m.length) (hs:(u.m.getD m default).l.length≤8) (hj:j<(u.m.getD m default).l.length) (hf:blcS ((u.m.getD m default).l.getD j default)=false) (hb:∀ k,k<j→blcS ((u.m.getD m default).l.getD k default)=true) (h:∀ k,k<m→mdlS (u.m.getD k default)=true):VC M_ 9 ([bun u]) (bv false):=by
 have oz2:=@few31_ob (u) (m) (j) hl hm hs hj hf hb h
 exact VC.run (fn:=Tryz.f9) (W:=[r_,r_,d_,r_,.code [.any [0,2,6,7,8,9],.weak 3 (i64 (↑0:Int)),.sort] (Exit.ret) (zO oz2)]) Tryz.func9 (by kernel_rfl) (.c (show decide (((K_ mdlC u.m).length:Int)>4)=false by (simp;omega))<|.c w0_<|.c oz2<|.n)
theorem few31_v (u:Bun):VC M_ 9 [bun u] (bv (bunS u)):=by
 unfold bunS
 by_cases h1:u.m.length≤4
 ·rw[decide_eq_true h1,BW_]
  rcases all_or (fun k=>mdlS (u.m.getD k default)) u.m.length with h|⟨m,g1,g2,g3⟩
  ·rw[all_getD.2 h];exact few31_y u h1 h
  ·have:u.m.all mdlS=false:=by
    cases e:u.m.all mdlS with
    | false=>rfl
    | true=>have:=all_getD.1 e m g1;exact absurd (this.symm.trans g2) (by simp)
   rw[this]
   by_cases h2:8<(u.m.getD m default).l.length
   ·exact few31_na u m h1 g1 h2 g3
   ·rcases all_or (fun k=>blcS ((u.m.getD m default).l.getD k default)) (u.m.getD m default).l.length with h|⟨j,j1,j2,j3⟩
    ·exfalso
     have:mdlS (u.m.getD m default)=true:=mdlS_iff.2 ⟨by omega,h⟩
     exact absurd (this.symm.trans g2) (by simp)
    ·exact few31_nb u m j h1 g1 (by omega) j1 j2 j3 g3
 ·rw[decide_eq_false h1,BK_];exact few31_a u (by omega)
theorem blc_facts {x:Blc} (h:blcS x=true):x.n.length≤12∧(∀ n∈x.n,n.w.length≤1000∧n.b.length≤100)∧(∀ n∈x.n,n.w.length≤100000∧n.b.length≤100000)∧x.w.length≤4000∧x.b.length≤100:=by
 have h:=blcS_iff.1 h
 exact ⟨(few_facts h.1).1,(few_facts h.1).2.2,few_wide h.1,h.2.1,h.2.2⟩
abbrev fullR:Rng:=⟨-128,127⟩
theorem fullR_in:fullR.In8:=⟨⟨by decide,by decide⟩,⟨by decide,by decide⟩⟩
abbrev rchsL (l:List Nod):List Rng:=growL stepR l fullR l.length
def lastR (l:List Nod):Rng:=(rchsL l).getD l.length default
theorem rchsL_len (l:List Nod):(rchsL l).length=l.length+1:=growL_len stepR l fullR l.length
theorem lastR_in {l:List Nod} (okl:∀ n∈l,n.Ok):(lastR l).In8:=getD_in (flow_in okl fullR_in (AX_ _)) (show l.length<(rchsL l).length by rw[rchsL_len];omega)
theorem lastR_i {l:List Nod} {i:Nat} (hi:i=l.length):(growL stepR l fullR l.length).getD i default=lastR l:=by subst hi;rfl
def verdE (s:Shp) (w b:List Int) (nd cl:Int):Int :=
 if elems s.h s.x s.c=0 then 5 else if cl<2∨16<cl then 2
 else if (w.length:Int)≠cl*elems s.h s.x s.c∨16384<(w.length:Int)∨(b.length:Int)≠cl then 9 else if nd<0 then 11 else 0
theorem clel_bd {cl:Int} (s:Shp) (h:2≤cl∧cl≤16):0≤cl*elems s.h s.x s.c∧cl*elems s.h s.x s.c≤16384:=by
 have h1:=elems_in s.h s.x s.c
 have:=mul_bd (A:=16) (B:=1024) (a:=cl) (by omega) (by omega) h1.1 h1.2
 omega
theorem vcheck_v (s:Shp) (w b:List Int) (nd cl:Int) (ok:s.Ok) (wl:w.length≤100000) (bl:b.length≤100000):VC M_ 176 ([shp s,.agg (hedC w b nd),i64 cl]) (i64 (verdE s w b nd cl)):=by
 obtain ⟨p1,p2,p3⟩:=id ok
 have q1:=elems_in s.h s.x s.c
 have q2:=@clel_bd cl s
 have oz0:=@elems_v (s.h) (s.x) (s.c) p1 p2 p3
 rcases bft (elems s.h s.x s.c==0) with hc0|hc0
 ·have gc0:elems s.h s.x s.c=0:=bet hc0
  exact (VC.run (fn:=Tryz.f176) (W:=[r_,.r [] [.callr (rO oz0)],r_,b_,r_]) (r:=i64 5) Tryz.func176 (by kernel_rfl) (.c oz0<|.c hc0<|.n)).weak (D_ _) (R_ (by (unfold verdE;(try simp only[O_] at *);(repeat first|rw[i_ (by omega)]|rw[j_ (by omega)]))))
 ·have gc0:¬elems s.h s.x s.c=0:=bef hc0
  rcases bft (decide (cl<2) || decide (cl>16)) with hc1|hc1
  ·have gc1:cl<2∨cl>16:=by simp only[AK_,T_,P_,S_,X_,W_,E_,F_,I_,J_,ne_eq,H_,G_,eqNums,AN_] at hc1;first|exact hc1|omega
   exact (VC.run (fn:=Tryz.f176) (W:=[r_,.r [] [.callr (rO oz0)],r_,d_,.r [] [o_,o_,.sel 1],b_,r_]) (r:=i64 2) Tryz.func176 (by kernel_rfl) (.c oz0<|.c hc0<|.c hc1<|.n)).weak (D_ _) (R_ (by (unfold verdE;(try simp only[O_] at *);(repeat first|rw[i_ (by omega)]|rw[j_ (by omega)]))))
  ·have gc1:¬cl<2∧¬cl>16:=by simp only[AK_,T_,P_,S_,X_,W_,E_,F_,I_,J_,ne_eq,H_,G_,eqNums,AN_] at hc1;first|exact hc1|omega
   have oz3:=(i6n (cl*elems s.h s.x s.c) (by omega))
   rcases bft (((K_ (row1 .i8) w).length:Int) != cl*elems s.h s.x s.c || decide (((K_ (row1 .i8) w).length:Int)>16384) || ((K_ (row1 .i32) b).length:Int) != cl) with hc2|hc2
   ·have gc2:(¬((K_ (row1 .i8) w).length:Int)=cl*elems s.h s.x s.c∨((K_ (row1 .i8) w).length:Int)>16384)∨¬((K_ (row1 .i32) b).length:Int)=cl:=by simp only[AK_,T_,P_,S_,X_,W_,E_,F_,I_,J_,ne_eq,H_,G_,eqNums,AN_] at hc2;first|exact hc2|omega
    exact (VC.run (fn:=Tryz.f176) (W:=[r_,.r [] [.callr (rO oz0)],r_,d_,.r [] [o_,o_,.sel 1],d_,.r [] [.n (nO oz3),o_,o_,o_,o_,.sel 1,o_,o_,o_,o_,o_,.sel 1],b_,r_]) (r:=i64 9) Tryz.func176 (by kernel_rfl) (.c oz0<|.c hc0<|.c hc1<|.c oz3<|.c hc2<|.n)).weak (D_ _) (R_ (by (unfold verdE;(try simp only[O_] at *);(repeat first|rw[i_ (by omega)]|rw[j_ (by omega)]))))
   ·have gc2:(((K_ (row1 .i8) w).length:Int)=cl*elems s.h s.x s.c∧¬((K_ (row1 .i8) w).length:Int)>16384)∧((K_ (row1 .i32) b).length:Int)=cl:=by simp only[AK_,T_,P_,S_,X_,W_,E_,F_,I_,J_,ne_eq,H_,G_,eqNums,AN_] at hc2;first|exact hc2|omega
    rcases bft (decide (nd<0)) with hc3|hc3
    ·have gc3:=of_decide_eq_true hc3
     exact (VC.run (fn:=Tryz.f176) (W:=[r_,.r [] [.callr (rO oz0)],r_,d_,.r [] [o_,o_,.sel 1],d_,.r [] [.n (nO oz3),o_,o_,o_,o_,.sel 1,o_,o_,o_,o_,o_,.sel 1],d_,r_,b_,r_]) (r:=i64 11) Tryz.func176 (by kernel_rfl) (.c oz0<|.c hc0<|.c hc1<|.c oz3<|.c hc2<|.c hc3<|.n)).weak (D_ _) (R_ (by (unfold verdE;(try simp only[O_] at *);(repeat first|rw[i_ (by omega)]|rw[j_ (by omega)]))))
    ·have gc3:=of_decide_eq_false hc3
     exact (VC.run (fn:=Tryz.f176) (W:=[r_,.r [] [.callr (rO oz0)],r_,d_,.r [] [o_,o_,.sel 1],d_,.r [] [.n (nO oz3),o_,o_,o_,o_,.sel 1,o_,o_,o_,o_,o_,.sel 1],d_,r_,d_,r_]) (r:=i64 0) Tryz.func176 (by kernel_rfl) (.c oz0<|.c hc0<|.c hc1<|.c oz3<|.c hc2<|.c hc3<|.n)).weak (D_ _) (R_ (by (unfold verdE;(try simp only[O_] at *);(repeat first|rw[i_ (by omega)]|rw[j_ (by omega)]))))
theorem bare_v (w b:List Int) (nd:Int) (wl:w.length≤100000) (bl:b.length≤100000):VC M_ 175 ([.agg (hedC w b nd)]) (bv (decide (w.length=0∧b.length=0∧nd=0))):=by
 exact (VC.run (fn:=Tryz.f175) (W:=[r_,.r [] [o_,o_,o_,o_,.sel 2,o_,o_,o_,.sel 2]]) (r:=bv (((K_ (row1 .i8) w).length:Int)==0&&((K_ (row1 .i32) b).length:Int)==0&&nd==0)) Tryz.func175 (by kernel_rfl) (.n)).weak (D_ _) (AZ_ (by (rw[Bool.eq_iff_iff];simp only[E_,F_,I_,J_,ne_eq,H_,G_,X_,W_,CK_,BU_,BX_,Classical.not_not,CC_,Int.not_le,P_,S_,AK_,T_,AN_,BW_,BY_,BK_,BG_,BV_,eqNums,O_,N_,AJ_,BI_,BF_,BC_,BT_,CN_,CW_,BZ_,BS_,CV_,AI_,CX_,false_iff,true_iff,iff_false,iff_true] at *;first|done|omega)))
def exitE (x:Blc) (out:Shp) (r:Rng) (cl:Int) (last:Bool):Int :=
 if x.ex=false∧(last=true∨¬ (x.w.length=0∧x.b.length=0∧x.nd=0)) then 11 else if x.ex=false then 0
 else if verdE out x.w x.b x.nd cl≠0 then verdE out x.w x.b x.nd cl else headE x.w x.b r.lo r.hi
theorem vexit_v (x:Blc) (out:Shp) (r:Rng) (cl:Int) (last:Bool) (ok:x.Ok) (oks:out.Ok) (hr:r.In8) (wl:x.w.length≤100000) (bl:x.b.length≤100000):VC M_ 146 ([blc x,shp out,rch r,i64 cl,bv last]) (i64 (exitE x out r cl last)):=by
 have q1:=ok.w
 have q2:=ok.b
 obtain ⟨q3,q4⟩:=id hr
 rcases bft (last && !x.ex) with hc0|hc0
 ·have gc0:last=true∧x.ex=false:=by simp only[AK_,T_,P_,S_,X_,W_,E_,F_,I_,J_,ne_eq,H_,G_,eqNums,AN_] at hc0;first|exact hc0|omega
  exact (VC.run (fn:=Tryz.f146) (W:=[r_,.r [] [o_,o_,o_,.sel 2],b_,b_,r_]) (r:=i64 11) Tryz.func146 (by kernel_rfl) (.c hc0<|.c hc0<|.n)).weak (D_ _) (R_ (by (unfold exitE;simp_all;done)))
 ·have gc0:last=false∨x.ex=true:=by simp only[AK_,T_,P_,S_,X_,W_,E_,F_,I_,J_,ne_eq,H_,G_,eqNums,AN_] at hc0;first|exact hc0|omega
  have oz1:=@bare_v (x.w) (x.b) (x.nd) wl bl
  rcases bft (!x.ex && !decide (x.w.length=0∧x.b.length=0∧x.nd=0)) with hc1|hc1
  ·have gc1:x.ex=false∧¬(x.w.length=0∧x.b.length=0∧x.nd=0):=by simp only[AK_,T_,P_,S_,X_,W_,E_,F_,I_,J_,ne_eq,H_,G_,eqNums,AN_] at hc1;first|exact hc1|omega
   exact (VC.run (fn:=Tryz.f146) (W:=[r_,.r [] [o_,o_,o_,.sel 2],d_,.r [] [o_,o_,o_,.callr (rO oz1),o_,.sel 2],b_,r_]) (r:=i64 11) Tryz.func146 (by kernel_rfl) (.c hc0<|.c oz1<|.c hc1<|.n)).weak (D_ _) (R_ (by (unfold exitE;simp_all;done)))
  ·have gc1:x.ex=true∨x.w.length=0∧x.b.length=0∧x.nd=0:=by simp only[AK_,T_,P_,S_,X_,W_,E_,F_,I_,J_,ne_eq,H_,G_,eqNums,AN_] at hc1;first|exact hc1|omega
   rcases bft (!x.ex) with hc2|hc2
   ·have gc2:x.ex=false:=by first|exact hc2|exact of_decide_eq_true hc2|exact of_decide_eq_false hc2|simpa [eqNums] using hc2|(simp[eqNums] at hc2 ⊢;first|done|assumption|omega)
    exact (VC.run (fn:=Tryz.f146) (W:=[r_,.r [] [o_,o_,o_,.sel 2],d_,.r [] [o_,o_,o_,.callr (rO oz1),o_,.sel 2],d_,r_,b_,r_]) (r:=i64 0) Tryz.func146 (by kernel_rfl) (.c hc0<|.c oz1<|.c hc1<|.c hc2<|.n)).weak (D_ _) (R_ (by (unfold exitE;simp_all;done)))
   ·have gc2:x.ex=true:=by first|exact hc2|exact of_decide_eq_true hc2|exact of_decide_eq_false hc2|simpa [eqNums] using hc2|(simp[eqNums] at hc2 ⊢;first|done|assumption|omega)
    have oz4:=@vcheck_v (out) (x.w) (x.b) (x.nd) (cl) oks wl bl
    rcases bft (verdE out x.w x.b x.nd cl != 0) with hc3|hc3
    ·have gc3:¬verdE out x.w x.b x.nd cl=0:=bdt hc3
     exact (VC.run (fn:=Tryz.f146) (W:=[r_,.r [] [o_,o_,o_,.sel 2],d_,.r [] [o_,o_,o_,.callr (rO oz1),o_,.sel 2],d_,r_,d_,.r [] [.callr (rO oz4)],r_,b_,r_]) (r:=i64 (verdE out x.w x.b x.nd cl)) Tryz.func146 (by kernel_rfl) (.c hc0<|.c oz1<|.c hc1<|.c hc2<|.c oz4<|.c hc3<|.n)).weak (D_ _) (R_ (by (unfold exitE;simp_all;done)))
    ·have gc3:verdE out x.w x.b x.nd cl=0:=bdf hc3
     have oz6:=@ghead_v (x.w) (x.b) (x.nd) (r.lo) (r.hi) q1 q2 wl bl q3 q4
     exact (VC.run (fn:=Tryz.f146) (W:=[r_,.r [] [o_,o_,o_,.sel 2],d_,.r [] [o_,o_,o_,.callr (rO oz1),o_,.sel 2],d_,r_,d_,.r [] [.callr (rO oz4)],r_,d_,.r [] [.callr (rO oz6)]]) (r:=i64 (headE x.w x.b r.lo r.hi)) Tryz.func146 (by kernel_rfl) (.c hc0<|.c oz1<|.c hc1<|.c hc2<|.c oz4<|.c hc3<|.c oz6<|.n)).weak (D_ _) (R_ (by (unfold exitE;simp_all;done)))
def validE (x:Blc) (a:Shp) (cl:Int) (last:Bool):Int×Int :=
 if (shapesE x.n a).2≠0 then shapesE x.n a else if (flowE x.n fullR).2≠0 then flowE x.n fullR
 else if exitE x (lastS x.n a) (lastR x.n) cl last≠0 then (-1,exitE x (lastS x.n a) (lastR x.n) cl last) else ((x.n.length:Int),0)
theorem validE_s {x:Blc} {a:Shp} {cl:Int} {last:Bool} (h:¬ SOK x.n a):validE x a cl last=shapesE x.n a:=i_ (shapesE_n h)
theorem validE_f {x:Blc} {a:Shp} {cl:Int} {last:Bool} (h:SOK x.n a) (g:¬ FOK x.n fullR):validE x a cl last=flowE x.n fullR:=by
 unfold validE;rw[j_ (by rw[shapesE_y h];simp),i_ (flowE_n g)]
theorem validE_y {x:Blc} {a:Shp} {cl:Int} {last:Bool} (h:SOK x.n a) (g:FOK x.n fullR):validE x a cl last=if exitE x (lastS x.n a) (lastR x.n) cl last≠0 then (-1,exitE x (lastS x.n a) (lastR x.n) cl last) else ((x.n.length:Int),0):=by
 unfold validE;rw[j_ (by rw[shapesE_y h];simp),j_ (by rw[flowE_y g];simp)]
structure Blc.Sm (x:Blc):Prop where
 l:x.n.length≤12
 s:∀ n∈x.n,n.w.length≤100000∧n.b.length≤100000
 w:x.w.length≤100000
 b:x.b.length≤100000
theorem Blc.sm {x:Blc} (h:blcS x=true):x.Sm:=by
 have q:=blc_facts h
 exact ⟨q.1,q.2.2.1,by omega,by omega⟩
theorem vblock_s (x:Blc) (a:Shp) (cl:Int) (last:Bool) (ok:x.Ok) (oka:a.Ok) (sm:x.Sm) (h:¬ SOK x.n a):VC M_ 100 ([blc x,shp a,i64 cl,bv last]) (.tup [i64 (validE x a cl last).1,i64 (validE x a cl last).2]):=by
 have q1:=ok.n
 obtain ⟨q2,q3,q4,q5⟩:=id sm
 have q6:=shapesE_n h
 have q7:=@validE_s x a cl last h
 have oz0:=@shapes_n (x.n) (a) q1 q3 oka (by omega) h
 exact (VC.run (fn:=Tryz.f100) (W:=[r_,.r [] [.callr (rO oz0)],r_,b_,r_]) (r:=AV.tup [i64 (shapesE x.n a).fst,i64 (shapesE x.n a).snd]) Tryz.func100 (by kernel_rfl) (.c oz0<|.c (show ((shapesE x.n a).snd != 0)=true by (simp;omega))<|.n)).weak (D_ _) (AB_ (.cons (R_ (by (rw[q7]))) (.cons (R_ (by (rw[q7]))) .nil)))
theorem vblock_f (x:Blc) (a:Shp) (cl:Int) (last:Bool) (ok:x.Ok) (oka:a.Ok) (sm:x.Sm) (h:SOK x.n a) (g:¬ FOK x.n fullR):VC M_ 100 ([blc x,shp a,i64 cl,bv last]) (.tup [i64 (validE x a cl last).1,i64 (validE x a cl last).2]):=by
 have q1:=ok.n
 obtain ⟨q2,q3,q4,q5⟩:=id sm
 have q6:=flowE_n g
 have q7:=@validE_f x a cl last h g
 have q8:=fullR_in
 have oz0:=@shapes_y (x.n) (a) q1 q3 h
 have oz2:=@flow_n (x.n) (Rng.mk (-128) 127) q1 q3 q8 (by omega) g
 exact (VC.run (fn:=Tryz.f100) (W:=[r_,.r [] [.callr (rO oz0)],r_,d_,.r [] [.callr (rO oz2)],r_,b_,r_]) (r:=AV.tup [i64 (flowE x.n (Rng.mk (-128) 127)).fst,i64 (flowE x.n (Rng.mk (-128) 127)).snd]) Tryz.func100 (by kernel_rfl) (.c oz0<|.c (show false=false by with_reducible rfl)<|.c oz2<|.c (show ((flowE x.n (Rng.mk (-128) 127)).snd != 0)=true by (simp;omega))<|.n)).weak (D_ _) (AB_ (.cons (R_ (by (rw[q7]))) (.cons (R_ (by (rw[q7]))) .nil)))
theorem vblock_y (x:Blc) (a:Shp) (cl:Int) (last:Bool) (ok:x.Ok) (oka:a.Ok) (sm:x.Sm) (h:SOK x.n a) (g:FOK x.n fullR):VC M_ 100 ([blc x,shp a,i64 cl,bv last]) (.tup [i64 (validE x a cl last).1,i64 (validE x a cl last).2]):=by
 have q1:=ok.n
 obtain ⟨q2,q3,q4,q5⟩:=id sm
 have q7:=@validE_y x a cl last h g
 have q8:=fullR_in
 have l1:=shpsL_len x.n a
 have l2:=rchsL_len x.n
 have l3:(K_ shpC (shpsL x.n a)).length=(shpsL x.n a).length:=O_ _
 have l4:(K_ rchC (rchsL x.n)).length=(rchsL x.n).length:=O_ _
 have l5:(K_ nodC x.n).length=x.n.length:=O_ _
 have s1:=@lastS_i x.n a
 have s2:=@lastR_i x.n
 have s3:=lastS_ok (l:=x.n) oka
 have s4:=lastR_in q1
 have oz0:=@shapes_y (x.n) (a) q1 q3 h
 have oz1:=(show false=false by with_reducible rfl)
 have oz2:=@flow_y (x.n) (Rng.mk (-128) 127) q1 q3 q8 g
 have oz4:=(show 0≤((K_ nodC x.n).length:Int) by omega)
 have oz5:=(map_at (shpC) (default) (l:=growL nextE x.n a x.n.length) (i:=(K_ nodC x.n).length) (by (simp_all;done)))
 have oz7:=(map_at (rchC) (default) (l:=growL stepR x.n (Rng.mk (-128) 127) x.n.length) (i:=(K_ nodC x.n).length) (by (simp_all;done)))
 have oz8:=@vexit_v (x) ((growL nextE x.n a x.n.length).getD (K_ nodC x.n).length default) ((growL stepR x.n (Rng.mk (-128) 127) x.n.length).getD (K_ nodC x.n).length default) (cl) (last) ok (by (rw[s1 (by omega)];exact s3)) (by (rw[s2 (by omega)];exact s4)) q4 q5
 rcases bft (exitE x ((growL nextE x.n a x.n.length).getD (K_ nodC x.n).length default) ((growL stepR x.n (Rng.mk (-128) 127) x.n.length).getD (K_ nodC x.n).length default) cl last != 0) with hc0|hc0
 ·have gc0:¬exitE x ((growL nextE x.n a x.n.length).getD (K_ nodC x.n).length default) ((growL stepR x.n (Rng.mk (-128) 127) x.n.length).getD (K_ nodC x.n).length default) cl last=0:=bdt hc0
  exact (VC.run (fn:=Tryz.f100) (W:=[r_,.r [] [.callr (rO oz0)],r_,d_,.r [] [.callr (rO oz2)],r_,d_,.r [] [.row (sO oz5),.row (sO oz7),.callr (rO oz8)],r_,b_,r_]) (r:=AV.tup [i64 (-1),i64 (exitE x ((growL nextE x.n a x.n.length).getD (K_ nodC x.n).length default) ((growL stepR x.n (Rng.mk (-128) 127) x.n.length).getD (K_ nodC x.n).length default) cl last)]) Tryz.func100 (by kernel_rfl) (.c oz0<|.c oz1<|.c oz2<|.c oz1<|.c oz4<|.c oz5<|.c oz4<|.c oz7<|.c oz8<|.c hc0<|.n)).weak (D_ _) (AB_ (.cons (R_ (by (rw[q7,i_ (by simp_all)]))) (.cons (R_ (by (simp_all;done))) .nil)))
 ·have gc0:exitE x ((growL nextE x.n a x.n.length).getD (K_ nodC x.n).length default) ((growL stepR x.n (Rng.mk (-128) 127) x.n.length).getD (K_ nodC x.n).length default) cl last=0:=bdf hc0
  exact (VC.run (fn:=Tryz.f100) (W:=[r_,.r [] [.callr (rO oz0)],r_,d_,.r [] [.callr (rO oz2)],r_,d_,.r [] [.row (sO oz5),.row (sO oz7),.callr (rO oz8)],r_,d_,r_]) (r:=AV.tup [i64 ((K_ nodC x.n).length:Int),i64 0]) Tryz.func100 (by kernel_rfl) (.c oz0<|.c oz1<|.c oz2<|.c oz1<|.c oz4<|.c oz5<|.c oz4<|.c oz7<|.c oz8<|.c hc0<|.n)).weak (D_ _) (AB_ (.cons (R_ (by (simp_all;done))) (.cons (R_ (by (rw[q7,j_ (by simp_all)]))) .nil)))
theorem vblock_v (x:Blc) (a:Shp) (cl:Int) (last:Bool) (ok:x.Ok) (oka:a.Ok) (sm:x.Sm):VC M_ 100 [blc x,shp a,i64 cl,bv last] (.tup [i64 (validE x a cl last).1,i64 (validE x a cl last).2]):=by
 by_cases h:SOK x.n a
 ·by_cases g:FOK x.n fullR
  ·exact vblock_y x a cl last ok oka sm h g
  ·exact vblock_f x a cl last ok oka sm h g
 ·exact vblock_s x a cl last ok oka sm h
structure Flt where
 w:Int
 m:Int
 b:Int
 n:Int
abbrev fltC (f:Flt):List AV:=[i64 f.w,i64 f.m,i64 f.b,i64 f.n]
abbrev flt (f:Flt):AV:=.agg (fltC f)
def wholeE (u:Bun):Int:=if ¬ 0<elems u.h u.x u.c then 5 else if u.cl<2∨u.cl>16 then 2 else if u.m.length=0 then 12 else if 3<u.m.length then 4 else 0
theorem vwhole_v (u:Bun) (ok:u.Ok) (hl:u.m.length≤1000):VC M_ 65 ([bun u]) (i64 (wholeE u)):=by
 have q1:=elems_in u.h u.x u.c
 have q2:u.inp.Ok:=⟨ok.h,ok.x,ok.c⟩
 have oz0:=@sRight_v (Shp.mk u.h u.x u.c) q2
 rcases bft (!decide (0<elems u.h u.x u.c)) with hc0|hc0
 ·have gc0:=bnt hc0
  exact (VC.run (fn:=Tryz.f65) (W:=[r_,.r [] [.callr (rO oz0)],b_,r_]) (r:=i64 5) Tryz.func65 (by kernel_rfl) (.c oz0<|.c hc0<|.n)).weak (D_ _) (R_ (by (unfold wholeE;(try simp only[O_] at *);(repeat first|rw[i_ (by omega)]|rw[j_ (by omega)]))))
 ·have gc0:=bnf hc0
  rcases bft (decide (u.cl<2) || decide (u.cl>16)) with hc1|hc1
  ·have gc1:u.cl<2∨u.cl>16:=by simp only[AK_,T_,P_,S_,X_,W_,E_,F_,I_,J_,ne_eq,H_,G_,eqNums,AN_] at hc1;first|exact hc1|omega
   exact (VC.run (fn:=Tryz.f65) (W:=[r_,.r [] [.callr (rO oz0)],d_,.r [] [o_,o_,o_,.sel 1],b_,r_]) (r:=i64 2) Tryz.func65 (by kernel_rfl) (.c oz0<|.c hc0<|.c hc1<|.n)).weak (D_ _) (R_ (by (unfold wholeE;(try simp only[O_] at *);(repeat first|rw[i_ (by omega)]|rw[j_ (by omega)]))))
  ·have gc1:¬u.cl<2∧¬u.cl>16:=by simp only[AK_,T_,P_,S_,X_,W_,E_,F_,I_,J_,ne_eq,H_,G_,eqNums,AN_] at hc1;first|exact hc1|omega
   rcases bft (((K_ mdlC u.m).length:Int)==0) with hc2|hc2
   ·have gc2:((K_ mdlC u.m).length:Int)=0:=bet hc2
    exact (VC.run (fn:=Tryz.f65) (W:=[r_,.r [] [.callr (rO oz0)],d_,.r [] [o_,o_,o_,.sel 1],d_,r_,b_,r_]) (r:=i64 12) Tryz.func65 (by kernel_rfl) (.c oz0<|.c hc0<|.c hc1<|.c hc2<|.n)).weak (D_ _) (R_ (by (unfold wholeE;(try simp only[O_] at *);(repeat first|rw[i_ (by omega)]|rw[j_ (by omega)]))))
   ·have gc2:¬((K_ mdlC u.m).length:Int)=0:=bef hc2
    rcases bft (decide (((K_ mdlC u.m).length:Int)>3)) with hc3|hc3
    ·have gc3:=of_decide_eq_true hc3
     exact (VC.run (fn:=Tryz.f65) (W:=[r_,.r [] [.callr (rO oz0)],d_,.r [] [o_,o_,o_,.sel 1],d_,r_,d_,r_,b_,r_]) (r:=i64 4) Tryz.func65 (by kernel_rfl) (.c oz0<|.c hc0<|.c hc1<|.c hc2<|.c hc3<|.n)).weak (D_ _) (R_ (by (unfold wholeE;(try simp only[O_] at *);(repeat first|rw[i_ (by omega)]|rw[j_ (by omega)]))))
    ·have gc3:=of_decide_eq_false hc3
     exact (VC.run (fn:=Tryz.f65) (W:=[r_,.r [] [.callr (rO oz0)],d_,.r [] [o_,o_,o_,.sel 1],d_,r_,d_,r_,d_,r_]) (r:=i64 0) Tryz.func65 (by kernel_rfl) (.c oz0<|.c hc0<|.c hc1<|.c hc2<|.c hc3<|.n)).weak (D_ _) (R_ (by (unfold wholeE;(try simp only[O_] at *);(repeat first|rw[i_ (by omega)]|rw[j_ (by omega)]))))
def inS (l:List Blc) (a:Shp):Nat→Shp
 | 0=>a
 | k+1=>lastS (l.getD k default).n (inS l a k)
theorem inS_ok {l:List Blc} {a:Shp} (h:a.Ok):∀ k,(inS l a k).Ok
 | 0=>h
 | k+1=>lastS_ok (inS_ok h k)
abbrev vB (l:List Blc) (a:Shp) (cl:Int) (k:Nat):Int×Int:=validE (l.getD k default) (inS l a k) cl ((k:Int)==((K_ blcC l).length:Int)-1)
theorem validE_ok {x:Blc} {a:Shp} {cl:Int} {last:Bool} (h:(validE x a cl last).2=0):SOK x.n a:=by
 by_cases g:SOK x.n a
 ·exact g
 ·rw[validE_s g] at h;exact absurd h (shapesE_n g)
noncomputable def vmodel_ly_I (u:Bun) (l:List Blc) (a:Shp) (j:Int) (k:Nat):VS:=stt 77 [(1,i64 j),(2,.ptr 2 0 0),(4,.ptr 4 0 0),(5,.sl 5 (l.map blcC)),(6,.ptr 6 0 0),(34,.sl 5 (l.map blcC)),(35,i64 l.length),(36,i64 k)] [(2,.var (bunC u)),(4,.var [i64 0,i64 0,i64 0,i64 0]),(6,.var (shpC (inS l a k)))]
noncomputable def vmodel_ly_Z (u:Bun) (l:List Blc) (a:Shp) (j:Int):VS:=vmodel_ly_I u l a j (l.length)
theorem vmodel_ly_s (u:Bun) (l:List Blc) (a:Shp) (j:Int) (ok:∀ d∈l,d.Ok) (sm:∀ d∈l,d.Sm) (oka:a.Ok) (hl:l.length≤6) (h:∀ k,k<l.length→(vB l a u.cl k).2=0) (k:Nat) (hk:k<l.length):VT M_ (fnC Tryz.f66 [1,1,1,1,0,1,0,0]) (vmodel_ly_I u l a j k) .normal (vmodel_ly_I u l a j (k+1)):=by
 have q:=h k hk
 have q1:=validE_ok q
 have q2:=getD_in ok hk
 have q3:=getD_in sm hk
 have q4:=inS_ok (l:=l) oka k
 have lb:(K_ blcC l).length=l.length:=O_ _
 have q5:=q2.n
 have q6:=q3.s
 have q7:=q3.l
 have l1:=growL_len nextE (l.getD k default).n (inS l a k) (l.getD k default).n.length
 have l3:(K_ shpC (growL nextE (l.getD k default).n (inS l a k) (l.getD k default).n.length)).length=(growL nextE (l.getD k default).n (inS l a k) (l.getD k default).n.length).length:=O_ _
 have i1:(((K_ shpC (growL nextE (l.getD k default).n (inS l a k) (l.getD k default).n.length)).length:Int)-1).toNat=(l.getD k default).n.length:=by omega
 have oz2:=(map_at (blcC) (default) (l:=l) (i:=k) hk)
 have oz3:=(i6n (((K_ blcC l).length:Int)-1) (by omega))
 have oz4:=@vblock_v (l.getD k default) (inS l a k) (u.cl) ((↑k:Int)==((K_ blcC l).length:Int)-1) q2 q4 q3
 have oz6:=@shapes_y ((l.getD k default).n) (inS l a k) q5 q6 q1
 have oz7:=(i6n (((K_ shpC (growL nextE (l.getD k default).n (inS l a k) (l.getD k default).n.length)).length:Int)-1) (by omega))
 have oz9:=(map_at (shpC) (default) (l:=growL nextE (l.getD k default).n (inS l a k) (l.getD k default).n.length) (i:=(((K_ shpC (growL nextE (l.getD k default).n (inS l a k) (l.getD k default).n.length)).length:Int)-1).toNat) (by omega))
 exact VT.run (W:=[r_,b_,.r [] [.row (sO oz2)],.r [] [.n (nO oz3),.callr (rO oz4)],r_,d_,.r [] [.callr (rO oz6)],.r [] [.n (nO oz7),.row (sO oz9)],.r [] [.n ((↑k:Int)+1)]]) (G:=[.any (rg [(7,7),(37,19),(61,15)]),.drop [8],.weak 36 (i64 (↑(k+1):Int)),.blk 6 (Blk.var [i64 (inS l a (k+1)).h,i64 (inS l a (k+1)).x,i64 (inS l a (k+1)).c]),.sort]) (by kernel_rfl) (.c (decide_eq_true (p:=((↑k:Int)<(l.length:Int))) (by omega))<|.c (show 0≤(↑k:Int) by omega)<|.c oz2<|.c oz3<|.c oz4<|.c (show ((validE (l.getD k default) (inS l a k) u.cl ((↑k:Int)==((K_ blcC l).length:Int)-1)).snd != 0)=false by (rw[q];rfl))<|.c oz6<|.c oz7<|.c (show 0≤((K_ shpC (growL nextE (l.getD k default).n (inS l a k) (l.getD k default).n.length)).length:Int)-1 by omega)<|.c oz9<|.c (i6n ((↑k:Int)+1) (by omega))<|.c (wS_ k)<|.c (show BlkW (Blk.var [i64 ((growL nextE (l.getD k default).n (inS l a k) (l.getD k default).n.length).getD (((K_ shpC (growL nextE (l.getD k default).n (inS l a k) (l.getD k default).n.length)).length:Int)-1).toNat default).h,i64 ((growL nextE (l.getD k default).n (inS l a k) (l.getD k default).n.length).getD (((K_ shpC (growL nextE (l.getD k default).n (inS l a k) (l.getD k default).n.length)).length:Int)-1).toNat default).x,i64 ((growL nextE (l.getD k default).n (inS l a k) (l.getD k default).n.length).getD (((K_ shpC (growL nextE (l.getD k default).n (inS l a k) (l.getD k default).n.length)).length:Int)-1).toNat default).c]) (Blk.var [i64 (inS l a (k+1)).h,i64 (inS l a (k+1)).x,i64 (inS l a (k+1)).c]) from (BlkW.var (m:=[i64 (inS l a (k+1)).h,i64 (inS l a (k+1)).x,i64 (inS l a (k+1)).c]) (.cons (R_ (by (rw[i1]<;>rfl))) (.cons (R_ (by (rw[i1]<;>rfl))) (.cons (R_ (by (rw[i1]<;>rfl))) .nil)))))<|.n)
theorem vmodel_ly_e (u:Bun) (l:List Blc) (a:Shp) (j:Int) (ok:∀ d∈l,d.Ok) (sm:∀ d∈l,d.Sm) (oka:a.Ok) (hl:l.length≤6) (h:∀ k,k<l.length→(vB l a u.cl k).2=0):VT M_ (fnC Tryz.f66 [1,1,1,1,0,1,0,0]) (vmodel_ly_I u l a j (l.length)) (.exit 1) (vmodel_ly_Z u l a j):=by
 exact VT.run (W:=[r_,d_]) (G:=[.any [37],.sort]) (by kernel_rfl) (.c (decide_eq_false (p:=((l.length:Int)<(l.length:Int))) (by omega))<|.n)
theorem vmodel_ly (u:Bun) (l:List Blc) (a:Shp) (j:Int) (ok:∀ d∈l,d.Ok) (sm:∀ d∈l,d.Sm) (oka:a.Ok) (hl:l.length≤6) (h:∀ k,k<l.length→(vB l a u.cl k).2=0):VT M_ (fnC Tryz.f66 [1,1,1,1,0,1,0]) (vmodel_ly_I u l a j 0) (.exit 1) (vmodel_ly_Z u l a j) :=
 VT.loop (fun k=>vmodel_ly_I u l a j k) (l.length) (fun k hk=>vmodel_ly_s u l a j ok sm oka hl h k hk) (vmodel_ly_e u l a j ok sm oka hl h) (by intro h;cases h)
noncomputable def vmodel_ln_I (u:Bun) (l:List Blc) (a:Shp) (j:Int) (m:Nat) (k:Nat):VS:=stt 77 [(1,i64 j),(2,.ptr 2 0 0),(4,.ptr 4 0 0),(5,.sl 5 (l.map blcC)),(6,.ptr 6 0 0),(34,.sl 5 (l.map blcC)),(35,i64 l.length),(36,i64 k)] [(2,.var (bunC u)),(4,.var [i64 0,i64 0,i64 0,i64 0]),(6,.var (shpC (inS l a k)))]
noncomputable def vmodel_ln_Z (u:Bun) (l:List Blc) (a:Shp) (j:Int) (m:Nat):VS:=stt 77 [(4,.ptr 4 0 0)] [(4,.var [i64 (vB l a u.cl m).2,i64 j,i64 m,i64 (vB l a u.cl m).1])]
theorem vmodel_ln_s (u:Bun) (l:List Blc) (a:Shp) (j:Int) (m:Nat) (ok:∀ d∈l,d.Ok) (sm:∀ d∈l,d.Sm) (oka:a.Ok) (hl:l.length≤6) (hm:m<l.length) (hf:(vB l a u.cl m).2≠0) (h:∀ k,k<m→(vB l a u.cl k).2=0) (k:Nat) (hk:k<m):VT M_ (fnC Tryz.f66 [1,1,1,1,0,1,0,0]) (vmodel_ln_I u l a j m k) .normal (vmodel_ln_I u l a j m (k+1)):=by
 have q:=h k hk
 have q1:=validE_ok q
 have q2:=getD_in ok (show k<l.length by omega)
 have q3:=getD_in sm (show k<l.length by omega)
 have q4:=inS_ok (l:=l) oka k
 have lb:(K_ blcC l).length=l.length:=O_ _
 have q5:=q2.n
 have q6:=q3.s
 have q7:=q3.l
 have l1:=growL_len nextE (l.getD k default).n (inS l a k) (l.getD k default).n.length
 have l3:(K_ shpC (growL nextE (l.getD k default).n (inS l a k) (l.getD k default).n.length)).length=(growL nextE (l.getD k default).n (inS l a k) (l.getD k default).n.length).length:=O_ _
 have i1:(((K_ shpC (growL nextE (l.getD k default).n (inS l a k) (l.getD k default).n.length)).length:Int)-1).toNat=(l.getD k default).n.length:=by omega
 have oz2:=(map_at (blcC) (default) (l:=l) (i:=k) (by omega))
 have oz3:=(i6n (((K_ blcC l).length:Int)-1) (by omega))
 have oz4:=@vblock_v (l.getD k default) (inS l a k) (u.cl) ((↑k:Int)==((K_ blcC l).length:Int)-1) q2 q4 q3
 have oz6:=@shapes_y ((l.getD k default).n) (inS l a k) q5 q6 q1
 have oz7:=(i6n (((K_ shpC (growL nextE (l.getD k default).n (inS l a k) (l.getD k default).n.length)).length:Int)-1) (by omega))
 have oz9:=(map_at (shpC) (default) (l:=growL nextE (l.getD k default).n (inS l a k) (l.getD k default).n.length) (i:=(((K_ shpC (growL nextE (l.getD k default).n (inS l a k) (l.getD k default).n.length)).length:Int)-1).toNat) (by omega))
 exact VT.run (W:=[r_,b_,.r [] [.row (sO oz2)],.r [] [.n (nO oz3),.callr (rO oz4)],r_,d_,.r [] [.callr (rO oz6)],.r [] [.n (nO oz7),.row (sO oz9)],.r [] [.n ((↑k:Int)+1)]]) (G:=[.any (rg [(7,7),(37,19),(61,15)]),.drop [8],.weak 36 (i64 (↑(k+1):Int)),.blk 6 (Blk.var [i64 (inS l a (k+1)).h,i64 (inS l a (k+1)).x,i64 (inS l a (k+1)).c]),.sort]) (by kernel_rfl) (.c (decide_eq_true (p:=((↑k:Int)<(l.length:Int))) (by omega))<|.c (show 0≤(↑k:Int) by omega)<|.c oz2<|.c oz3<|.c oz4<|.c (show ((validE (l.getD k default) (inS l a k) u.cl ((↑k:Int)==((K_ blcC l).length:Int)-1)).snd != 0)=false by (rw[q];rfl))<|.c oz6<|.c oz7<|.c (show 0≤((K_ shpC (growL nextE (l.getD k default).n (inS l a k) (l.getD k default).n.length)).length:Int)-1 by omega)<|.c oz9<|.c (i6n ((↑k:Int)+1) (by omega))<|.c (wS_ k)<|.c (show BlkW (Blk.var [i64 ((growL nextE (l.getD k default).n (inS l a k) (l.getD k default).n.length).getD (((K_ shpC (growL nextE (l.getD k default).n (inS l a k) (l.getD k default).n.length)).length:Int)-1).toNat default).h,i64 ((growL nextE (l.getD k default).n (inS l a k) (l.getD k default).n.length).getD (((K_ shpC (growL nextE (l.getD k default).n (inS l a k) (l.getD k default).n.length)).length:Int)-1).toNat default).x,i64 ((growL nextE (l.getD k default).n (inS l a k) (l.getD k default).n.length).getD (((K_ shpC (growL nextE (l.getD k default).n (inS l a k) (l.getD k default).n.length)).length:Int)-1).toNat default).c]) (Blk.var [i64 (inS l a (k+1)).h,i64 (inS l a (k+1)).x,i64 (inS l a (k+1)).c]) from (BlkW.var (m:=[i64 (inS l a (k+1)).h,i64 (inS l a (k+1)).x,i64 (inS l a (k+1)).c]) (.cons (R_ (by (rw[i1]<;>rfl))) (.cons (R_ (by (rw[i1]<;>rfl))) (.cons (R_ (by (rw[i1]<;>rfl))) .nil)))))<|.n)
theorem vmodel_ln_e (u:Bun) (l:List Blc) (a:Shp) (j:Int) (m:Nat) (ok:∀ d∈l,d.Ok) (sm:∀ d∈l,d.Sm) (oka:a.Ok) (hl:l.length≤6) (hm:m<l.length) (hf:(vB l a u.cl m).2≠0) (h:∀ k,k<m→(vB l a u.cl k).2=0):VT M_ (fnC Tryz.f66 [1,1,1,1,0,1,0,0]) (vmodel_ln_I u l a j m (m)) (.ret) (vmodel_ln_Z u l a j m):=by
 have q2:=getD_in ok hm
 have q3:=getD_in sm hm
 have q4:=inS_ok (l:=l) oka m
 have lb:(K_ blcC l).length=l.length:=O_ _
 have oz2:=(map_at (blcC) (default) (l:=l) (i:=m) hm)
 have oz3:=(i6n (((K_ blcC l).length:Int)-1) (by omega))
 have oz4:=@vblock_v (l.getD m default) (inS l a m) (u.cl) ((↑m:Int)==((K_ blcC l).length:Int)-1) q2 q4 q3
 exact VT.run (W:=[r_,b_,.r [] [.row (sO oz2)],.r [] [.n (nO oz3),.callr (rO oz4)],r_,b_,r_]) (G:=[.any (rg [(1,2),(5,6),(34,27)]),.drop [2,6,8],.sort]) (by kernel_rfl) (.c (decide_eq_true (p:=((↑m:Int)<(l.length:Int))) (by omega))<|.c (show 0≤(↑m:Int) by omega)<|.c oz2<|.c oz3<|.c oz4<|.c (show ((validE (l.getD m default) (inS l a m) u.cl ((↑m:Int)==((K_ blcC l).length:Int)-1)).snd != 0)=true by (rw[J_];exact hf))<|.n)
theorem vmodel_ln (u:Bun) (l:List Blc) (a:Shp) (j:Int) (m:Nat) (ok:∀ d∈l,d.Ok) (sm:∀ d∈l,d.Sm) (oka:a.Ok) (hl:l.length≤6) (hm:m<l.length) (hf:(vB l a u.cl m).2≠0) (h:∀ k,k<m→(vB l a u.cl k).2=0):VT M_ (fnC Tryz.f66 [1,1,1,1,0,1,0]) (vmodel_ln_I u l a j m 0) (.ret) (vmodel_ln_Z u l a j m) :=
 VT.loop (fun k=>vmodel_ln_I u l a j m k) (m) (fun k hk=>vmodel_ln_s u l a j m ok sm oka hl hm hf h k hk) (vmodel_ln_e u l a j m ok sm oka hl hm hf h) (by intro h;cases h)
def modelE (l:List Blc) (a:Shp) (cl j:Int):Flt :=
 if l.length=0 then ⟨12,j,-1,-1⟩ else if 6<l.length then ⟨4,j,-1,-1⟩
 else if firstBad (fun k=>(vB l a cl k).2==0) l.length<l.length then ⟨(vB l a cl (firstBad (fun k=>(vB l a cl k).2==0) l.length)).2,j,firstBad (fun k=>(vB l a cl k).2==0) l.length,(vB l a cl (firstBad (fun k=>(vB l a cl k).2==0) l.length)).1⟩
 else ⟨0,0,0,0⟩
theorem modelE_y {l:List Blc} {a:Shp} {cl j:Int} (h0:¬ l.length=0) (h6:l.length≤6) (h:∀ k,k<l.length→(vB l a cl k).2=0):modelE l a cl j=⟨0,0,0,0⟩:=by
 unfold modelE
 rw[j_ h0,j_ (by omega),firstBad_all fun k hk=>by simpa using h k hk,j_ (by omega)]
theorem modelE_m {l:List Blc} {a:Shp} {cl j:Int} {m:Nat} (h6:l.length≤6) (hm:m<l.length) (hf:(vB l a cl m).2≠0) (h:∀ k,k<m→(vB l a cl k).2=0):modelE l a cl j=⟨(vB l a cl m).2,j,m,(vB l a cl m).1⟩:=by
 have e:=firstBad_at (p:=fun k=>(vB l a cl k).2==0) (m:=m) (by simpa using hf) (fun k hk=>by simpa using h k hk) hm
 unfold modelE
 rw[j_ (by omega),j_ (by omega),e,i_ hm]
theorem modelE_cases (l:List Blc) (a:Shp) (cl:Int):(¬ l.length=0∧l.length≤6∧∀ k,k<l.length→(vB l a cl k).2=0)∨(l.length=0∨6<l.length)∨(l.length≤6∧∃ m,m<l.length∧(vB l a cl m).2≠0∧∀ k,k<m→(vB l a cl k).2=0):=by
 by_cases c:l.length=0∨6<l.length
 ·exact .inr (.inl c)
 ·rcases all_or (fun k=>(vB l a cl k).2==0) l.length with h|⟨m,h1,h2,h3⟩
  ·exact .inl ⟨by omega,by omega,fun k hk=>by simpa using h k hk⟩
  ·exact .inr (.inr ⟨by omega,m,h1,by simpa using h2,fun k hk=>by simpa using h3 k hk⟩)
structure Bun.Sm (u:Bun):Prop where
 l:u.m.length≤4
 m:∀ d∈u.m,d.l.length≤8∧∀ x∈d.l,x.Sm
theorem Bun.sm {u:Bun} (h:bunS u=true):u.Sm:=by
 simp only[bunS,mdlS,P_,E_,CE_] at h
 exact ⟨h.1,fun d hd=>⟨(h.2 d hd).1,fun x hx=>Blc.sm ((h.2 d hd).2 x hx)⟩⟩
theorem vmodel_y (u:Bun) (j:Nat) (ok:u.Ok) (sm:u.Sm) (hj:j<u.m.length) (h0:¬ (u.m.getD j default).l.length=0) (h6:(u.m.getD j default).l.length≤6) (h:∀ k,k<(u.m.getD j default).l.length→(vB (u.m.getD j default).l u.inp u.cl k).2=0):VC M_ 66 ([bun u,i64 j]) (flt ⟨0,0,0,0⟩):=by
 have q2:u.inp.Ok:=⟨ok.h,ok.x,ok.c⟩
 have q3:=(getD_in ok.m hj).l
 have q4:=(getD_in sm.m hj).2
 have q5:=sm.l
 have oz1:=(map_at (mdlC) (default) (l:=u.m) (i:=j) hj)
 have oz4:=(R_ (k:=.i64) (show ((((K_ blcC (u.m.getD j default).l).length:Int)):Int)=((↑(u.m.getD j default).l.length:Int)) from (by (simp;done))))
 have oz6:=@vmodel_ly (u) ((u.m.getD j default).l) (Shp.mk u.1 u.2 u.3) ((↑j:Int)) q3 q4 q2 h6 h
 exact VC.run (fn:=Tryz.f66) (W:=[r_,.r [] [.row (sO oz1)],r_,d_,r_,d_,r_,r_,.code [.any (rg [(0,1),(14,10),(26,4),(32,2)]),.weak 35 (wO oz4),.weak 36 (i64 (↑0:Int)),.sort] (AF_ 1) (zO oz6),r_]) Tryz.func66 (by kernel_rfl) (.c (show 0≤(↑j:Int) by omega)<|.c oz1<|.c (show (((K_ blcC (u.m.getD j default).l).length:Int)==0)=false by (simp at *;omega))<|.c (show decide (((K_ blcC (u.m.getD j default).l).length:Int)>6)=false by (simp at *;omega))<|.c oz4<|.c w0_<|.c oz6<|.n)
theorem vmodel_m (u:Bun) (j m:Nat) (ok:u.Ok) (sm:u.Sm) (hj:j<u.m.length) (h6:(u.m.getD j default).l.length≤6) (hm:m<(u.m.getD j default).l.length) (hf:(vB (u.m.getD j default).l u.inp u.cl m).2≠0) (h:∀ k,k<m→(vB (u.m.getD j default).l u.inp u.cl k).2=0):VC M_ 66 ([bun u,i64 j]) (flt ⟨(vB (u.m.getD j default).l u.inp u.cl m).2,j,m,(vB (u.m.getD j default).l u.inp u.cl m).1⟩):=by
 have q2:u.inp.Ok:=⟨ok.h,ok.x,ok.c⟩
 have q3:=(getD_in ok.m hj).l
 have q4:=(getD_in sm.m hj).2
 have q5:=sm.l
 have oz1:=(map_at (mdlC) (default) (l:=u.m) (i:=j) hj)
 have oz4:=(R_ (k:=.i64) (show ((((K_ blcC (u.m.getD j default).l).length:Int)):Int)=((↑(u.m.getD j default).l.length:Int)) from (by (simp;done))))
 have oz6:=@vmodel_ln (u) ((u.m.getD j default).l) (Shp.mk u.1 u.2 u.3) ((↑j:Int)) (m) q3 q4 q2 h6 hm hf h
 exact VC.run (fn:=Tryz.f66) (W:=[r_,.r [] [.row (sO oz1)],r_,d_,r_,d_,r_,r_,.code [.any (rg [(0,1),(14,10),(26,4),(32,2)]),.weak 35 (wO oz4),.weak 36 (i64 (↑0:Int)),.sort] (Exit.ret) (zO oz6)]) Tryz.func66 (by kernel_rfl) (.c (show 0≤(↑j:Int) by omega)<|.c oz1<|.c (show (((K_ blcC (u.m.getD j default).l).length:Int)==0)=false by (simp only[E_,F_,I_,J_,ne_eq,H_,G_,X_,W_,CK_,BU_,BX_,Classical.not_not,CC_,Int.not_le,P_,S_,AK_,T_,AN_,BW_,BY_,BK_,BG_,BV_,eqNums,O_,N_,AJ_,BI_,BF_,BC_,BT_,CN_,CW_,BZ_,BS_,CV_];(first|done|with_reducible assumption|omega|contradiction)))<|.c (show decide (((K_ blcC (u.m.getD j default).l).length:Int)>6)=false by (simp at *;omega))<|.c oz4<|.c w0_<|.c oz6<|.n)
theorem vmodel_a (u:Bun) (j:Nat) (sm:u.Sm) (hj:j<u.m.length) (h:(u.m.getD j default).l.length=0∨6<(u.m.getD j default).l.length):VC M_ 66 ([bun u,i64 j]) (flt (modelE (u.m.getD j default).l u.inp u.cl j)):=by
 have q5:=sm.l
 have oz0:=(show 0≤(↑j:Int) by omega)
 have oz1:=(map_at (mdlC) (default) (l:=u.m) (i:=j) hj)
 rcases bft (((K_ blcC (u.m.getD j default).l).length:Int)==0) with hc0|hc0
 ·have gc0:((K_ blcC (u.m.getD j default).l).length:Int)=0:=bet hc0
  exact (VC.run (fn:=Tryz.f66) (W:=[r_,.r [] [.row (sO oz1)],r_,b_,r_]) (r:=AV.agg [i64 12,i64 (↑j:Int),i64 (-1),i64 (-1)]) Tryz.func66 (by kernel_rfl) (.c oz0<|.c oz1<|.c hc0<|.n)).weak (D_ _) (AG_ (.cons (R_ (by (unfold modelE;(try simp only[O_] at *);(repeat first|rw[i_ (by omega)]|rw[j_ (by omega)])))) (.cons (R_ (by (unfold modelE;(try simp only[O_] at *);(repeat first|rw[i_ (by omega)]|rw[j_ (by omega)])))) (.cons (R_ (by (unfold modelE;(try simp only[O_] at *);(repeat first|rw[i_ (by omega)]|rw[j_ (by omega)])))) (.cons (R_ (by (unfold modelE;(try simp only[O_] at *);(repeat first|rw[i_ (by omega)]|rw[j_ (by omega)])))) .nil)))))
 ·have gc0:¬((K_ blcC (u.m.getD j default).l).length:Int)=0:=bef hc0
  exact (VC.run (fn:=Tryz.f66) (W:=[r_,.r [] [.row (sO oz1)],r_,d_,r_,b_,r_]) (r:=AV.agg [i64 4,i64 (↑j:Int),i64 (-1),i64 (-1)]) Tryz.func66 (by kernel_rfl) (.c oz0<|.c oz1<|.c hc0<|.c (show decide (((K_ blcC (u.m.getD j default).l).length:Int)>6)=true by (simp only[E_,F_,I_,J_,ne_eq,H_,G_,X_,W_,CK_,BU_,BX_,Classical.not_not,CC_,Int.not_le,P_,S_,AK_,T_,AN_,BW_,BY_,BK_,BG_,BV_,eqNums,O_,N_,AJ_,BI_,BF_,BC_,BT_,CN_,CW_,BZ_,BS_,CV_] at *;(first|done|with_reducible assumption|omega|contradiction)))<|.n)).weak (D_ _) (AG_ (.cons (R_ (by (unfold modelE;(try simp only[O_] at *);(repeat first|rw[i_ (by omega)]|rw[j_ (by omega)])))) (.cons (R_ (by (unfold modelE;(try simp only[O_] at *);(repeat first|rw[i_ (by omega)]|rw[j_ (by omega)])))) (.cons (R_ (by (unfold modelE;(try simp only[O_] at *);(repeat first|rw[i_ (by omega)]|rw[j_ (by omega)])))) (.cons (R_ (by (unfold modelE;(try simp only[O_] at *);(repeat first|rw[i_ (by omega)]|rw[j_ (by omega)])))) .nil)))))
theorem vmodel_v (u:Bun) (j:Nat) (ok:u.Ok) (sm:u.Sm) (hj:j<u.m.length):VC M_ 66 [bun u,i64 j] (flt (modelE (u.m.getD j default).l u.inp u.cl j)):=by
 rcases modelE_cases (u.m.getD j default).l u.inp u.cl with ⟨h0,h6,h⟩|h|⟨h6,m,h1,h2,h3⟩
 ·rw[modelE_y h0 h6 h];exact vmodel_y u j ok sm hj h0 h6 h
 ·exact vmodel_a u j sm hj h
 ·rw[modelE_m h6 h1 h2 h3];exact vmodel_m u j m ok sm hj h6 h1 h2 h3
theorem modelE_z {l:List Blc} {a:Shp} {cl j:Int} (h:(modelE l a cl j).w=0):modelE l a cl j=⟨0,0,0,0⟩:=by
 rcases modelE_cases l a cl with ⟨h0,h6,g⟩|g|⟨h6,m,h1,h2,h3⟩
 ·exact modelE_y h0 h6 g
 ·exfalso
  revert h
  unfold modelE
  by_cases c:l.length=0
  ·rw[i_ c];dsimp only;decide
  ·rw[j_ c,i_ (by omega)];dsimp only;decide
 ·rw[modelE_m h6 h1 h2 h3] at h;exact absurd h h2
abbrev mE (u:Bun) (j:Nat):Flt:=modelE (u.m.getD j default).l u.inp u.cl j
noncomputable def vbundle_ly_I (u:Bun) (k:Nat):VS:=stt 27 [(1,.ptr 1 0 0),(2,.ptr 2 0 0),(14,i64 u.m.length),(15,i64 k)] [(1,.var (bunC u)),(2,.var [i64 0,i64 0,i64 0,i64 0])]
noncomputable def vbundle_ly_Z (u:Bun):VS:=vbundle_ly_I u (u.m.length)
theorem vbundle_ly_s (u:Bun) (ok:u.Ok) (sm:u.Sm) (h:∀ j,j<u.m.length→mE u j=⟨0,0,0,0⟩) (k:Nat) (hk:k<u.m.length):VT M_ (fnC Tryz.f31 [1,1,0,1,0,0]) (vbundle_ly_I u k) .normal (vbundle_ly_I u (k+1)):=by
 have q:modelE (u.m.getD k default).l u.inp u.cl k=⟨0,0,0,0⟩:=h k hk
 have q5:=sm.l
 have oz1:=@vmodel_v (u) (k) ok sm hk
 exact VT.run (W:=[r_,b_,r_,.r [] [.callr (rO oz1)],.r [] [.v (BA_ !eqNums [(Q_,(modelE (u.m.getD k default).l u.inp u.cl (↑k:Int)).w,0),(Q_,(modelE (u.m.getD k default).l u.inp u.cl (↑k:Int)).m,0),(Q_,(modelE (u.m.getD k default).l u.inp u.cl (↑k:Int)).b,0),(Q_,(modelE (u.m.getD k default).l u.inp u.cl (↑k:Int)).n,0)])],d_,.r [] [.n ((↑k:Int)+1)]]) (G:=[.any (rg [(4,2),(16,8),(25,1)]),.drop [5],.weak 15 (i64 (↑(k+1):Int)),.sort]) (by kernel_rfl) (.c (decide_eq_true (p:=((↑k:Int)<(u.m.length:Int))) (by omega))<|.c oz1<|.c (show BinTo M_ BinOp.neq 86 (Operand.tmp 21) (Operand.tmp 22) (CS_ #[AR_ Q_ (modelE (u.m.getD k default).l u.inp u.cl (↑k:Int)).w,AR_ Q_ (modelE (u.m.getD k default).l u.inp u.cl (↑k:Int)).m,AR_ Q_ (modelE (u.m.getD k default).l u.inp u.cl (↑k:Int)).b,AR_ Q_ (modelE (u.m.getD k default).l u.inp u.cl (↑k:Int)).n]) (CS_ #[AR_ Q_ 0,AR_ Q_ 0,AR_ Q_ 0,AR_ Q_ 0]) (BA_ !eqNums [(Q_,(modelE (u.m.getD k default).l u.inp u.cl (↑k:Int)).w,0),(Q_,(modelE (u.m.getD k default).l u.inp u.cl (↑k:Int)).m,0),(Q_,(modelE (u.m.getD k default).l u.inp u.cl (↑k:Int)).b,0),(Q_,(modelE (u.m.getD k default).l u.inp u.cl (↑k:Int)).n,0)]) from ((bin_nums (l:=[(Q_,(modelE (u.m.getD k default).l u.inp u.cl (↑k:Int)).w,0),(Q_,(modelE (u.m.getD k default).l u.inp u.cl (↑k:Int)).m,0),(Q_,(modelE (u.m.getD k default).l u.inp u.cl (↑k:Int)).b,0),(Q_,(modelE (u.m.getD k default).l u.inp u.cl (↑k:Int)).n,0)]) (by kernel_rfl) (by kernel_rfl) (by kernel_rfl) (by kernel_rfl) _ _).2))<|.c (show (!eqNums [(Q_,(modelE (u.m.getD k default).l u.inp u.cl (↑k:Int)).w,0),(Q_,(modelE (u.m.getD k default).l u.inp u.cl (↑k:Int)).m,0),(Q_,(modelE (u.m.getD k default).l u.inp u.cl (↑k:Int)).b,0),(Q_,(modelE (u.m.getD k default).l u.inp u.cl (↑k:Int)).n,0)])=false by (rw[q];rfl))<|.c (i6n ((↑k:Int)+1) (by omega))<|.c (wS_ k)<|.n)
theorem vbundle_ly_e (u:Bun) (ok:u.Ok) (sm:u.Sm) (h:∀ j,j<u.m.length→mE u j=⟨0,0,0,0⟩):VT M_ (fnC Tryz.f31 [1,1,0,1,0,0]) (vbundle_ly_I u (u.m.length)) (.exit 0) (vbundle_ly_Z u):=by
 exact VT.run (W:=[r_,d_]) (G:=[.any [16],.sort]) (by kernel_rfl) (.c (decide_eq_false (p:=((u.m.length:Int)<(u.m.length:Int))) (by omega))<|.n)
theorem vbundle_ly (u:Bun) (ok:u.Ok) (sm:u.Sm) (h:∀ j,j<u.m.length→mE u j=⟨0,0,0,0⟩):VT M_ (fnC Tryz.f31 [1,1,0,1,0]) (vbundle_ly_I u 0) (.exit 0) (vbundle_ly_Z u) :=
 VT.loop (fun k=>vbundle_ly_I u k) (u.m.length) (fun k hk=>vbundle_ly_s u ok sm h k hk) (vbundle_ly_e u ok sm h) (by intro h;cases h)
noncomputable def vbundle_ln_I (u:Bun) (m:Nat) (k:Nat):VS:=stt 27 [(1,.ptr 1 0 0),(2,.ptr 2 0 0),(14,i64 u.m.length),(15,i64 k)] [(1,.var (bunC u)),(2,.var [i64 0,i64 0,i64 0,i64 0])]
noncomputable def vbundle_ln_Z (u:Bun) (m:Nat):VS:=stt 27 [(2,.ptr 2 0 0)] [(2,.var (fltC (mE u m)))]
theorem vbundle_ln_s (u:Bun) (m:Nat) (ok:u.Ok) (sm:u.Sm) (hm:m<u.m.length) (hf:(mE u m).w≠0) (h:∀ j,j<m→mE u j=⟨0,0,0,0⟩) (k:Nat) (hk:k<m):VT M_ (fnC Tryz.f31 [1,1,0,1,0,0]) (vbundle_ln_I u m k) .normal (vbundle_ln_I u m (k+1)):=by
 have q:modelE (u.m.getD k default).l u.inp u.cl k=⟨0,0,0,0⟩:=h k hk
 have q5:=sm.l
 have oz1:=@vmodel_v (u) (k) ok sm (by omega)
 exact VT.run (W:=[r_,b_,r_,.r [] [.callr (rO oz1)],.r [] [.v (BA_ !eqNums [(Q_,(modelE (u.m.getD k default).l u.inp u.cl (↑k:Int)).w,0),(Q_,(modelE (u.m.getD k default).l u.inp u.cl (↑k:Int)).m,0),(Q_,(modelE (u.m.getD k default).l u.inp u.cl (↑k:Int)).b,0),(Q_,(modelE (u.m.getD k default).l u.inp u.cl (↑k:Int)).n,0)])],d_,.r [] [.n ((↑k:Int)+1)]]) (G:=[.any (rg [(4,2),(16,8),(25,1)]),.drop [5],.weak 15 (i64 (↑(k+1):Int)),.sort]) (by kernel_rfl) (.c (decide_eq_true (p:=((↑k:Int)<(u.m.length:Int))) (by omega))<|.c oz1<|.c (show BinTo M_ BinOp.neq 86 (Operand.tmp 21) (Operand.tmp 22) (CS_ #[AR_ Q_ (modelE (u.m.getD k default).l u.inp u.cl (↑k:Int)).w,AR_ Q_ (modelE (u.m.getD k default).l u.inp u.cl (↑k:Int)).m,AR_ Q_ (modelE (u.m.getD k default).l u.inp u.cl (↑k:Int)).b,AR_ Q_ (modelE (u.m.getD k default).l u.inp u.cl (↑k:Int)).n]) (CS_ #[AR_ Q_ 0,AR_ Q_ 0,AR_ Q_ 0,AR_ Q_ 0]) (BA_ !eqNums [(Q_,(modelE (u.m.getD k default).l u.inp u.cl (↑k:Int)).w,0),(Q_,(modelE (u.m.getD k default).l u.inp u.cl (↑k:Int)).m,0),(Q_,(modelE (u.m.getD k default).l u.inp u.cl (↑k:Int)).b,0),(Q_,(modelE (u.m.getD k default).l u.inp u.cl (↑k:Int)).n,0)]) from ((bin_nums (l:=[(Q_,(modelE (u.m.getD k default).l u.inp u.cl (↑k:Int)).w,0),(Q_,(modelE (u.m.getD k default).l u.inp u.cl (↑k:Int)).m,0),(Q_,(modelE (u.m.getD k default).l u.inp u.cl (↑k:Int)).b,0),(Q_,(modelE (u.m.getD k default).l u.inp u.cl (↑k:Int)).n,0)]) (by kernel_rfl) (by kernel_rfl) (by kernel_rfl) (by kernel_rfl) _ _).2))<|.c (show (!eqNums [(Q_,(modelE (u.m.getD k default).l u.inp u.cl (↑k:Int)).w,0),(Q_,(modelE (u.m.getD k default).l u.inp u.cl (↑k:Int)).m,0),(Q_,(modelE (u.m.getD k default).l u.inp u.cl (↑k:Int)).b,0),(Q_,(modelE (u.m.getD k default).l u.inp u.cl (↑k:Int)).n,0)])=false by (rw[q];rfl))<|.c (i6n ((↑k:Int)+1) (by omega))<|.c (wS_ k)<|.n)
theorem vbundle_ln_e (u:Bun) (m:Nat) (ok:u.Ok) (sm:u.Sm) (hm:m<u.m.length) (hf:(mE u m).w≠0) (h:∀ j,j<m→mE u j=⟨0,0,0,0⟩):VT M_ (fnC Tryz.f31 [1,1,0,1,0,0]) (vbundle_ln_I u m (m)) (.ret) (vbundle_ln_Z u m):=by
 have q5:=sm.l
 have hg:¬ (modelE (u.m.getD m default).l u.inp u.cl m).w=0:=hf
 have oz1:=@vmodel_v (u) (m) ok sm hm
 exact VT.run (W:=[r_,b_,r_,.r [] [.callr (rO oz1)],.r [] [.v (BA_ !eqNums [(Q_,(modelE (u.m.getD m default).l u.inp u.cl (↑m:Int)).w,0),(Q_,(modelE (u.m.getD m default).l u.inp u.cl (↑m:Int)).m,0),(Q_,(modelE (u.m.getD m default).l u.inp u.cl (↑m:Int)).b,0),(Q_,(modelE (u.m.getD m default).l u.inp u.cl (↑m:Int)).n,0)])],b_,r_]) (G:=[.any (rg [(1,1),(4,2),(14,11)]),.drop [1,5],.sort]) (by kernel_rfl) (.c (decide_eq_true (p:=((↑m:Int)<(u.m.length:Int))) (by omega))<|.c oz1<|.c (show BinTo M_ BinOp.neq 86 (Operand.tmp 21) (Operand.tmp 22) (CS_ #[AR_ Q_ (modelE (u.m.getD m default).l u.inp u.cl (↑m:Int)).w,AR_ Q_ (modelE (u.m.getD m default).l u.inp u.cl (↑m:Int)).m,AR_ Q_ (modelE (u.m.getD m default).l u.inp u.cl (↑m:Int)).b,AR_ Q_ (modelE (u.m.getD m default).l u.inp u.cl (↑m:Int)).n]) (CS_ #[AR_ Q_ 0,AR_ Q_ 0,AR_ Q_ 0,AR_ Q_ 0]) (BA_ !eqNums [(Q_,(modelE (u.m.getD m default).l u.inp u.cl (↑m:Int)).w,0),(Q_,(modelE (u.m.getD m default).l u.inp u.cl (↑m:Int)).m,0),(Q_,(modelE (u.m.getD m default).l u.inp u.cl (↑m:Int)).b,0),(Q_,(modelE (u.m.getD m default).l u.inp u.cl (↑m:Int)).n,0)]) from ((bin_nums (l:=[(Q_,(modelE (u.m.getD m default).l u.inp u.cl (↑m:Int)).w,0),(Q_,(modelE (u.m.getD m default).l u.inp u.cl (↑m:Int)).m,0),(Q_,(modelE (u.m.getD m default).l u.inp u.cl (↑m:Int)).b,0),(Q_,(modelE (u.m.getD m default).l u.inp u.cl (↑m:Int)).n,0)]) (by kernel_rfl) (by kernel_rfl) (by kernel_rfl) (by kernel_rfl) _ _).2))<|.c (show (!eqNums [(Q_,(modelE (u.m.getD m default).l u.inp u.cl (↑m:Int)).w,0),(Q_,(modelE (u.m.getD m default).l u.inp u.cl (↑m:Int)).m,0),(Q_,(modelE (u.m.getD m default).l u.inp u.cl (↑m:Int)).b,0),(Q_,(modelE (u.m.getD m default).l u.inp u.cl (↑m:Int)).n,0)])=true by (simp only[eqNums];rw[beq_eq_false_iff_ne.2 hg];rfl))<|.n)
theorem vbundle_ln (u:Bun) (m:Nat) (ok:u.Ok) (sm:u.Sm) (hm:m<u.m.length) (hf:(mE u m).w≠0) (h:∀ j,j<m→mE u j=⟨0,0,0,0⟩):VT M_ (fnC Tryz.f31 [1,1,0,1,0]) (vbundle_ln_I u m 0) (.ret) (vbundle_ln_Z u m) :=
 VT.loop (fun k=>vbundle_ln_I u m k) (m) (fun k hk=>vbundle_ln_s u m ok sm hm hf h k hk) (vbundle_ln_e u m ok sm hm hf h) (by intro h;cases h)
def bunE (u:Bun):Flt:=if wholeE u≠0 then ⟨wholeE u,-1,-1,-1⟩ else if firstBad (fun j=>(mE u j).w==0) u.m.length<u.m.length then mE u (firstBad (fun j=>(mE u j).w==0) u.m.length) else ⟨0,0,0,0⟩
theorem bunE_y {u:Bun} (w:wholeE u=0) (h:∀ j,j<u.m.length→mE u j=⟨0,0,0,0⟩):bunE u=⟨0,0,0,0⟩:=by
 unfold bunE
 rw[j_ (by simp[w]),firstBad_all fun j hj=>by rw[h j hj];rfl,j_ (by omega)]
theorem bunE_m {u:Bun} {m:Nat} (w:wholeE u=0) (hm:m<u.m.length) (hf:(mE u m).w≠0) (h:∀ j,j<m→mE u j=⟨0,0,0,0⟩):bunE u=mE u m:=by
 have e:=firstBad_at (p:=fun j=>(mE u j).w==0) (m:=m) (by simpa using hf) (fun j hj=>by rw[h j hj];rfl) hm
 unfold bunE
 rw[j_ (by simp[w]),e,i_ hm]
theorem bunE_cases (u:Bun):wholeE u≠0∨(wholeE u=0∧∀ j,j<u.m.length→mE u j=⟨0,0,0,0⟩)∨(wholeE u=0∧∃ m,m<u.m.length∧(mE u m).w≠0∧∀ j,j<m→mE u j=⟨0,0,0,0⟩):=by
 by_cases w:wholeE u=0
 ·rcases all_or (fun j=>(mE u j).w==0) u.m.length with h|⟨m,h1,h2,h3⟩
  ·exact .inr (.inl ⟨w,fun j hj=>modelE_z (beq_iff_eq.1 (h j hj))⟩)
  ·exact .inr (.inr ⟨w,m,h1,by simpa using h2,fun j hj=>modelE_z (beq_iff_eq.1 (h3 j hj))⟩)
 ·exact .inl w
theorem vbundle_a (u:Bun) (ok:u.Ok) (sm:u.Sm) (h:wholeE u≠0):VC M_ 31 ([bun u]) (flt (bunE u)):=by
 have q5:=sm.l
 have oz0:=@vwhole_v (u) ok (by omega)
 exact (VC.run (fn:=Tryz.f31) (W:=[r_,.r [] [.callr (rO oz0)],r_,b_,r_]) (r:=AV.agg [i64 (wholeE u),i64 (-1),i64 (-1),i64 (-1)]) Tryz.func31 (by kernel_rfl) (.c oz0<|.c (show (wholeE u != 0)=true by (simp;omega))<|.n)).weak (D_ _) (AG_ (.cons (R_ (by (unfold bunE;rw[i_ h]))) (.cons (R_ (by (unfold bunE;rw[i_ h]))) (.cons (R_ (by (unfold bunE;rw[i_ h]))) (.cons (R_ (by (unfold bunE;rw[i_ h]))) .nil)))))
theorem vbundle_y (u:Bun) (ok:u.Ok) (sm:u.Sm) (w:wholeE u=0) (h:∀ j,j<u.m.length→mE u j=⟨0,0,0,0⟩):VC M_ 31 ([bun u]) (flt ⟨0,0,0,0⟩):=by
 have q5:=sm.l
 have oz0:=@vwhole_v (u) ok (by omega)
 have oz4:=@vbundle_ly (u) ok sm h
 exact VC.run (fn:=Tryz.f31) (W:=[r_,.r [] [.callr (rO oz0)],r_,d_,r_,.code [.any [0,3,6,7,8,9,12,13],.weak 14 (i64 (u.m.length:Int)),.weak 15 (i64 (↑0:Int)),.sort] (AF_ 0) (zO oz4),r_]) Tryz.func31 (by kernel_rfl) (.c oz0<|.c (show (wholeE u != 0)=false by (rw[w];rfl))<|.c (R_ (k:=.i64) (show ((((K_ mdlC u.m).length:Int)):Int)=((u.m.length:Int)) from (by (simp;done))))<|.c w0_<|.c oz4<|.n)
theorem vbundle_m (u:Bun) (m:Nat) (ok:u.Ok) (sm:u.Sm) (w:wholeE u=0) (hm:m<u.m.length) (hf:(mE u m).w≠0) (h:∀ j,j<m→mE u j=⟨0,0,0,0⟩):VC M_ 31 ([bun u]) (flt (mE u m)):=by
 have q5:=sm.l
 have oz0:=@vwhole_v (u) ok (by omega)
 have oz4:=@vbundle_ln (u) (m) ok sm hm hf h
 exact VC.run (fn:=Tryz.f31) (W:=[r_,.r [] [.callr (rO oz0)],r_,d_,r_,.code [.any [0,3,6,7,8,9,12,13],.weak 14 (i64 (u.m.length:Int)),.weak 15 (i64 (↑0:Int)),.sort] (Exit.ret) (zO oz4)]) Tryz.func31 (by kernel_rfl) (.c oz0<|.c (show (wholeE u != 0)=false by (rw[w];rfl))<|.c (R_ (k:=.i64) (show ((((K_ mdlC u.m).length:Int)):Int)=((u.m.length:Int)) from (by (simp;done))))<|.c w0_<|.c oz4<|.n)
theorem vbundle_v (u:Bun) (ok:u.Ok) (sm:u.Sm):VC M_ 31 [bun u] (flt (bunE u)):=by
 rcases bunE_cases u with h|⟨w,h⟩|⟨w,m,h1,h2,h3⟩
 ·exact vbundle_a u ok sm h
 ·rw[bunE_y w h];exact vbundle_y u ok sm w h
 ·rw[bunE_m w h1 h2 h3];exact vbundle_m u m ok sm w h1 h2 h3
theorem modelE_ok {l:List Blc} {a:Shp} {cl j:Int} (h:modelE l a cl j=⟨0,0,0,0⟩):¬ l.length=0∧l.length≤6∧∀ k,k<l.length→(vB l a cl k).2=0:=by
 rcases modelE_cases l a cl with g|g|⟨h6,m,h1,h2,h3⟩
 ·exact g
 ·exfalso
  revert h
  unfold modelE
  by_cases c:l.length=0
  ·rw[i_ c];intro h;injection h with h;revert h;decide
  ·rw[j_ c,i_ (by omega)];intro h;injection h with h;revert h;decide
 ·rw[modelE_m h6 h1 h2 h3] at h;injection h with h;exact absurd h h2
theorem open_s (l:List Int) (h:l.length<8):VC M_ 41 ([ints .u8 l]) (.tup [.sl 1 (([]:List Int).map (row1 .u8)),i64 20]):=by
 exact (VC.run (fn:=Tryz.f41) (W:=[r_,r_,d_,r_,b_,r_]) (r:=AV.tup [AV.lit (AY_ none 0 0),i64 20]) Tryz.func41 (by kernel_rfl) (.c (show decide (((K_ (row1 .u8) l).length:Int)>1048576)=false by (simp;omega))<|.c (show decide (((K_ (row1 .u8) l).length:Int)<8)=true by (simp;omega))<|.n)).weak (D_ _) (AB_ (.cons (BQ_ _) (.cons (.refl _) .nil)))
theorem open_l (l:List Int) (h:1048576<l.length) (hb:l.length≤20000000):VC M_ 41 ([ints .u8 l]) (.tup [.sl 1 (([]:List Int).map (row1 .u8)),i64 25]):=by
 exact (VC.run (fn:=Tryz.f41) (W:=[r_,r_,b_,r_]) (r:=AV.tup [AV.lit (AY_ none 0 0),i64 25]) Tryz.func41 (by kernel_rfl) (.c (show decide (((K_ (row1 .u8) l).length:Int)>1048576)=true by (simp;omega))<|.n)).weak (D_ _) (AB_ (.cons (BQ_ _) (.cons (.refl _) .nil)))
theorem dec_o (l:List Int) (e:Int) (he:e≠0) (h:VC M_ 41 [ints .u8 l] (.tup [.sl 1 (([]:List Int).map (row1 .u8)),i64 e])):VC M_ 18 ([ints .u8 l]) (.tup [.agg [i64 0,i64 0,i64 0,i64 0,nilv],i64 e]):=by
 have oz0:=@h
 exact VC.run (fn:=Tryz.f18) (W:=[r_,.r [] [.callr (rO oz0)],r_,b_,r_]) Tryz.func18 (by kernel_rfl) (.c oz0<|.c (show (e != 0)=true by (simp;omega))<|.n)
theorem known35_v (S:List Int) (hS:S.length=5) (h2:VC M_ 26 [ints .u8 [1]] (ints .u8 S)) (h:VC M_ 18 [ints .u8 []] (.tup [.agg [i64 0,i64 0,i64 0,i64 0,nilv],i64 20])):VC M_ 17 ([]) (bv true):=by
 have q:(((S.map (row1 .u8)).length:Int)==5)=true:=by rw[O_,hS];rfl
 have oz1:=@h
 have oz2:=(show true=true by with_reducible rfl)
 have oz5:=@h2
 exact (VC.run (fn:=Tryz.f17) (W:=[r_,.r [] [.call (aO oz1) (rO oz1)],.r [] [e_,e_,.frz 0,e_,.callr (rO oz5),e_,e_,e_]]) (r:=bv (((K_ (row1 .u8) S).length:Int)==5)) Tryz.func17 (by kernel_rfl) (.c (show WeakL [AV.lit (AY_ none 0 0)] [AV.sl 1 []] from (.cons (BQ_ _) .nil))<|.c oz1<|.c oz2<|.c oz2<|.c oz2<|.c oz5<|.c oz2<|.c oz2<|.c oz2<|.n)).weak (D_ _) (AZ_ (q))
theorem end_eq {l:List Int} (h:4≤l.length) (hb:l.length≤20000000):(((l.map (row1 .u8)).length:Int)-4).toNat=l.length-4:=by
 rw[O_];omega
theorem str_eq (l:List Int):((strOfNums l).toList==(ByteArray.mk #[83,84,87,49]).toList)=(l.map (fun n=>UInt8.ofNat n.toNat)==[83,84,87,49]):=by
 rw[ByteArray.toList_eq,ByteArray.toList_eq,strOfNums_data]
theorem str_y {l:List Int} (h:l.take 4=[83,84,87,49]):((strOfNums (BL_ (4-0) (BM_ 0 l))).toList==(ByteArray.mk #[83,84,87,49]).toList)=true:=by
 rw[List.drop_zero,Nat.sub_zero,h,str_eq];decide
theorem u8_nat {n:Int} {k:Nat} (h:0≤n∧n≤255) (hk:k<256) (e:UInt8.ofNat n.toNat=UInt8.ofNat k):n=k:=by
 have:=congrArg UInt8.toNat e
 simp only[UInt8.toNat_ofNat'] at this
 omega
theorem str_n {l:List Int} (hx:∀ x∈l,0≤x∧x≤255) (h:l.take 4≠[83,84,87,49]):((strOfNums (BL_ (4-0) (BM_ 0 l))).toList==(ByteArray.mk #[83,84,87,49]).toList)=false:=by
 rw[List.drop_zero,Nat.sub_zero,str_eq]
 have hy:∀ x∈l.take 4,0≤x∧x≤255:=fun x q=>hx x (List.mem_of_mem_take q)
 revert h hy
 generalize l.take 4=m
 intro h hy
 refine beq_eq_false_iff_ne.2 fun e=>h ?_
 have e:m.map (fun n=>UInt8.ofNat n.toNat)=[83,84,87,49]:=e
 obtain ⟨a,m,rfl,e1,e⟩:=List.map_eq_cons_iff.1 e
 obtain ⟨b,m,rfl,e2,e⟩:=List.map_eq_cons_iff.1 e
 obtain ⟨c,m,rfl,e3,e⟩:=List.map_eq_cons_iff.1 e
 obtain ⟨d,m,rfl,e4,e⟩:=List.map_eq_cons_iff.1 e
 have e:=List.map_eq_nil_iff.1 e
 subst e
 rw[u8_nat (k:=83) (hy a (by simp)) (by decide) e1,u8_nat (k:=84) (hy b (by simp)) (by decide) e2,u8_nat (k:=87) (hy c (by simp)) (by decide) e3,u8_nat (k:=49) (hy d (by simp)) (by decide) e4];rfl
theorem open_m (l:List Int) (hx:∀ x∈l,0≤x∧x≤255) (h8:8≤l.length) (hb:l.length≤1048576) (hm:l.take 4≠[83,84,87,49]):VC M_ 41 ([ints .u8 l]) (.tup [.sl 1 (([]:List Int).map (row1 .u8)),i64 22]):=by
 have z1:=str_n hx hm
 exact (VC.run (fn:=Tryz.f41) (W:=[r_,r_,d_,r_,d_,.r [] [.nats 0 4,.il (BL_ (4-0) (BM_ 0 l))],b_,r_]) (r:=AV.tup [AV.lit (AY_ none 0 0),i64 22]) Tryz.func41 (by kernel_rfl) (.c (show decide (((K_ (row1 .u8) l).length:Int)>1048576)=false by (simp;omega))<|.c (show decide (((K_ (row1 .u8) l).length:Int)<8)=false by (simp;omega))<|.c (show (0:Nat)=(0:Nat) by with_reducible rfl)<|.c (show (4:Int)=(↑(4:Nat):Int) by omega)<|.c (show (0:Nat)≤(4:Nat) by omega)<|.c (show 4≤(K_ (row1 .u8) l).length by (simp;omega))<|.c (show BL_ (4-0) (BM_ 0 (K_ (row1 .u8) l))=K_ (fun (n:Int)=>[u8 n]) (BL_ (4-0) (BM_ 0 l)) by (simp;done))<|.c (show (!(strOfNums (BL_ (4-0) (BM_ 0 l))).toList==(ByteArray.mk #[83,84,87,49]).toList)=true by (simp at *;omega))<|.n)).weak (D_ _) (AB_ (.cons (BQ_ _) (.cons (.refl _) .nil)))
theorem open_u (G:List Int→List Int) (l:List Int) (hG:Seals G) (hx:∀ x∈l,0≤x∧x≤255) (h8:8≤l.length) (hb:l.length≤1048576) (hm:l.take 4=[83,84,87,49]) (hs:G (l.take (l.length-4))≠l):VC M_ 41 ([ints .u8 l]) (.tup [.sl 1 (([]:List Int).map (row1 .u8)),i64 23]):=by
 have z1:=str_y hm
 have qe:=end_eq (l:=l) (by omega) (by omega)
 have q0:BL_ ((((l.map (row1 .u8)).length:Int)-4).toNat-0) (BM_ 0 l)=l.take (l.length-4):=by rw[qe,List.drop_zero,Nat.sub_zero]
 have q1:∀ x∈BL_ ((((l.map (row1 .u8)).length:Int)-4).toNat-0) (BM_ 0 l),0≤x∧x≤255:=by rw[q0];exact fun x h=>hx x (List.mem_of_mem_take h)
 have q2:(BL_ ((((l.map (row1 .u8)).length:Int)-4).toNat-0) (BM_ 0 l)).length=l.length-4:=by rw[q0,BT_];omega
 have q3:=hG.l (BL_ ((((l.map (row1 .u8)).length:Int)-4).toNat-0) (BM_ 0 l))
 have z2:decide (G (BL_ ((((l.map (row1 .u8)).length:Int)-4).toNat-0) (BM_ 0 l))=l)=false:=by rw[q0];exact decide_eq_false hs
 have oz2:=(show (0:Nat)=(0:Nat) by with_reducible rfl)
 have oz8:=(i6n (((K_ (row1 .u8) l).length:Int)-4) (by omega))
 have oz14:=@seal_v (G) hG (BL_ ((((K_ (row1 .u8) l).length:Int)-4).toNat-0) (BM_ 0 l)) q1 (by omega)
 have oz15:=@eqb_v (G (BL_ ((((K_ (row1 .u8) l).length:Int)-4).toNat-0) (BM_ 0 l))) (l) (by omega)
 exact (VC.run (fn:=Tryz.f41) (W:=[r_,r_,d_,r_,d_,.r [] [.nats 0 4,.il (BL_ (4-0) (BM_ 0 l))],d_,.r [] [.n (nO oz8)],.r [] [.nats 0 (((K_ (row1 .u8) l).length:Int)-4).toNat,.call (aO oz14) (rO oz14),.callr (rO oz15)],b_,r_]) (r:=AV.tup [AV.lit (AY_ none 0 0),i64 23]) Tryz.func41 (by kernel_rfl) (.c (decide_eq_false (p:=(((K_ (row1 .u8) l).length:Int)>1048576)) (by omega))<|.c (decide_eq_false (p:=(((K_ (row1 .u8) l).length:Int)<8)) (by omega))<|.c oz2<|.c (show (4:Int)=(↑(4:Nat):Int) by omega)<|.c (show (0:Nat)≤(4:Nat) by omega)<|.c (show 4≤(K_ (row1 .u8) l).length by omega)<|.c (show BL_ (4-0) (BM_ 0 (K_ (row1 .u8) l))=K_ (fun (n:Int)=>[u8 n]) (BL_ (4-0) (BM_ 0 l)) by (simp;done))<|.c (show (!(strOfNums (BL_ (4-0) (BM_ 0 l))).toList==(ByteArray.mk #[83,84,87,49]).toList)=false by (simp at *;omega))<|.c oz8<|.c oz2<|.c (show ((K_ (row1 .u8) l).length:Int)-4=(↑(((K_ (row1 .u8) l).length:Int)-4).toNat:Int) by omega)<|.c (show 0≤(((K_ (row1 .u8) l).length:Int)-4).toNat by omega)<|.c (show (((K_ (row1 .u8) l).length:Int)-4).toNat≤(K_ (row1 .u8) l).length by omega)<|.c (show WeakL [AV.sl 1 (BL_ ((((K_ (row1 .u8) l).length:Int)-4).toNat-0) (BM_ 0 (K_ (row1 .u8) l)))] [AV.sl 1 (K_ (row1 .u8) (BL_ ((((K_ (row1 .u8) l).length:Int)-4).toNat-0) (BM_ 0 l)))] from (.cons (BE_ (rows_to (row1 .u8) (r:=BL_ ((((K_ (row1 .u8) l).length:Int)-4).toNat-0) (BM_ 0 (K_ (row1 .u8) l))) (l:=BL_ ((((K_ (row1 .u8) l).length:Int)-4).toNat-0) (BM_ 0 l)) (m:=BL_ ((((K_ (row1 .u8) l).length:Int)-4).toNat-0) (BM_ 0 l)) (by first|(simp only[Y_,C_,AO_,AP_,U_,AL_,AM_];done)|rfl|(simp only[Y_,C_,AO_,AP_,U_,AL_,AM_];rfl)) rfl)) .nil))<|.c oz14<|.c oz15<|.c (show (!decide (G (BL_ ((((K_ (row1 .u8) l).length:Int)-4).toNat-0) (BM_ 0 l))=l))=true by (simp at *;omega))<|.n)).weak (D_ _) (AB_ (.cons (BQ_ _) (.cons (.refl _) .nil)))
abbrev Rst:=List Int×Int
def cntS (s:Rst) (most:Int):Rst :=
 if s.2≠0 then s else if getE s.1≠0 then ([],getE s.1) else if max most 0<getV s.1 then ([],3) else (s.1.drop (getN s.1).toNat,0)
def cntV (s:Rst) (most:Int):Int :=
 if s.2≠0 then 0 else if getE s.1≠0 then 0 else if max most 0<getV s.1 then 0 else getV s.1
def intS (s:Rst) (lo hi:Int):Rst :=
 if s.2≠0 then s else if getE s.1≠0 then ([],getE s.1) else if unfoldN (getV s.1)<lo∨hi<unfoldN (getV s.1) then ([],3) else (s.1.drop (getN s.1).toNat,0)
def intV (s:Rst) (lo hi:Int):Int :=
 if s.2≠0 then 0 else if getE s.1≠0 then 0 else if unfoldN (getV s.1)<lo∨hi<unfoldN (getV s.1) then 0 else unfoldN (getV s.1)
def dpW (l:List Int):Nat→List Int
 | 0=>l
 | k+1=>(dpW l k).drop 1
def tkW (l:List Int):Nat→List Int
 | 0=>[]
 | k+1=>tkW l k++[IntKind.i8.wrap ((dpW l k).getD 0 default)]
def itS (s:Rst):Nat→Rst
 | 0=>s
 | k+1=>intS (itS s k) (-2147483648) 2147483647
def itV (s:Rst):Nat→List Int
 | 0=>[]
 | k+1=>itV s k++[intV (itS s k) (-2147483648) 2147483647]
def smlS (s:Rst) (n:Int):Rst :=
 if s.2≠0 then s else if n<1 then s else if (s.1.length:Int)<n then ([],20) else (dpW s.1 n.toNat,0)
def smlV (s:Rst) (n:Int):List Int :=
 if s.2≠0 then [] else if n<1 then [] else if (s.1.length:Int)<n then [] else tkW s.1 n.toNat
def widS (s:Rst) (n:Int):Rst :=
 if s.2≠0 then s else if n<1 then s else if (s.1.length:Int)<n then ([],20) else itS s n.toNat
def widV (s:Rst) (n:Int):List Int :=
 if s.2≠0 then [] else if n<1 then [] else if (s.1.length:Int)<n then [] else if (itS s n.toNat).2≠0 then [] else itV s n.toNat
def putN (x:Int):List Int:=putL (IntKind.u64.wrap x).toNat
theorem wrap_rng (x:Int):0≤IntKind.u64.wrap x∧IntKind.u64.wrap x≤18446744073709551615:=by
 rw[CF_];omega
theorem putN_len (x:Int):(putN x).length≤10:=by
 have:=wrap_rng x
 exact putL_len10 _ (by omega)
def PutsV (L:Int→List Int):Prop:=∀ x:Int,VC M_ 53 [.lit (.int .u64 (IntKind.u64.wrap x))] (.sl 1 ((L x).map (row1 .u8)))
structure Puts (L:Int→List Int):Prop where
 v:PutsV L
 l:∀ x,(L x).length≤10
def RPutsV (L:Int→List Int):Prop:=∀ x:Int,VC M_ 55 [.lit (.int .u64 (IntKind.u64.wrap x))] (.sl 1 ((L x).map (row1 .u8)))
structure RPuts (L:Int→List Int):Prop where
 v:RPutsV L
 l:∀ x,(L x).length≤10
theorem puts_v (L:Int→List Int) (hL:Puts L) (x:Int):VC M_ 53 [.lit (.int .u64 (IntKind.u64.wrap x))] (.sl 1 ((L x).map (row1 .u8))):=hL.v x
theorem rputs_v (L:Int→List Int) (hL:RPuts L) (x:Int):VC M_ 55 [.lit (.int .u64 (IntKind.u64.wrap x))] (.sl 1 ((L x).map (row1 .u8))):=hL.v x
theorem puts:Puts putN:=⟨fun x=>put_v _ (wrap_rng x).1 (wrap_rng x).2,putN_len⟩
theorem rputs:RPuts putN:=⟨fun x=>refPut_v _ (wrap_rng x).1 (wrap_rng x).2,putN_len⟩
theorem lnum_1 (B:List Int) (L:Int→List Int) (x most:Int) (hB:B.length≤1000000) (hL:Puts L):VM M_ 92 ([.ptr 100000 0 0,.ptr 100001 0 0,i64 most]) ([(950,.slc 5 1 (B.map (row1 .u8))),(100000,.var [.own 950]),(100001,.var [i64 x])]) (.tup []) ([(951,.slc 5 1 ((B++L x).map (row1 .u8))),(100000,.var [.own 951]),(100001,.var [i64 x])]):=by
 have q:=hL.l x
 have oz0:=@puts_v (L) hL (x)
 exact VM.run (fn:=Tryz.f92) (W:=[.r [] [.w,.callr (rO oz0)]]) (G:=[.ren 16 951,.blk 951 (Blk.slc 5 1 (K_ (row1 .u8) (B++L x))),.sort]) Tryz.func92 (by kernel_rfl) (.c oz0<|.c (show ((K_ (row1 .u8) B).length+(K_ (row1 .u8) (L x)).length)*1≤140737488355328 by (simp only[O_];omega))<|.c (show (K_ (row1 .u8) B).length+(K_ (row1 .u8) (L x)).length≤9223372036854775807 by (simp only[O_];omega))<|.c (show BlkW (Blk.slc 5 1 (K_ (row1 .u8) B++K_ (row1 .u8) (L x))) (Blk.slc 5 1 (K_ (row1 .u8) (B++L x))) from (AE_ (e:=5) (z:=1) (rows_to (row1 .u8) (r:=K_ (row1 .u8) B++K_ (row1 .u8) (L x)) (l:=B++L x) (m:=B++L x) (by first|(simp only[Y_,C_,AO_,AP_,U_,AL_,AM_];done)|rfl|(simp only[Y_,C_,AO_,AP_,U_,AL_,AM_];rfl)) rfl)))<|.n)
theorem lnum_na (B:List Int) (L:Int→List Int) (n:Nod) (most:Int) (hB:B.length≤1000000) (hL:Puts L):VM M_ 92 ([.ptr 100000 0 0,.ptr 100001 0 1,i64 most]) ([(950,.slc 5 1 (B.map (row1 .u8))),(100000,.var [.own 950]),(100001,.var (nodC n))]) (.tup []) ([(951,.slc 5 1 ((B++L n.na).map (row1 .u8))),(100000,.var [.own 951]),(100001,.var (nodC n))]):=by
 have q:=hL.l n.na
 have oz0:=@puts_v (L) hL (n.na)
 exact VM.run (fn:=Tryz.f92) (W:=[.r [] [.w,.callr (rO oz0)]]) (G:=[.ren 16 951,.blk 951 (Blk.slc 5 1 (K_ (row1 .u8) (B++L n.na))),.sort]) Tryz.func92 (by kernel_rfl) (.c oz0<|.c (show ((K_ (row1 .u8) B).length+(K_ (row1 .u8) (L n.na)).length)*1≤140737488355328 by (simp only[O_];omega))<|.c (show (K_ (row1 .u8) B).length+(K_ (row1 .u8) (L n.na)).length≤9223372036854775807 by (simp only[O_];omega))<|.c (show BlkW (Blk.slc 5 1 (K_ (row1 .u8) B++K_ (row1 .u8) (L n.na))) (Blk.slc 5 1 (K_ (row1 .u8) (B++L n.na))) from (AE_ (e:=5) (z:=1) (rows_to (row1 .u8) (r:=K_ (row1 .u8) B++K_ (row1 .u8) (L n.na)) (l:=B++L n.na) (m:=B++L n.na) (by first|(simp only[Y_,C_,AO_,AP_,U_,AL_,AM_];done)|rfl|(simp only[Y_,C_,AO_,AP_,U_,AL_,AM_];rfl)) rfl)))<|.n)
theorem lnum_nb (B:List Int) (L:Int→List Int) (n:Nod) (most:Int) (hB:B.length≤1000000) (hL:Puts L):VM M_ 92 ([.ptr 100000 0 0,.ptr 100001 0 2,i64 most]) ([(950,.slc 5 1 (B.map (row1 .u8))),(100000,.var [.own 950]),(100001,.var (nodC n))]) (.tup []) ([(951,.slc 5 1 ((B++L n.nb).map (row1 .u8))),(100000,.var [.own 951]),(100001,.var (nodC n))]):=by
 have q:=hL.l n.nb
 have oz0:=@puts_v (L) hL (n.nb)
 exact VM.run (fn:=Tryz.f92) (W:=[.r [] [.w,.callr (rO oz0)]]) (G:=[.ren 16 951,.blk 951 (Blk.slc 5 1 (K_ (row1 .u8) (B++L n.nb))),.sort]) Tryz.func92 (by kernel_rfl) (.c oz0<|.c (show ((K_ (row1 .u8) B).length+(K_ (row1 .u8) (L n.nb)).length)*1≤140737488355328 by (simp only[O_];omega))<|.c (show (K_ (row1 .u8) B).length+(K_ (row1 .u8) (L n.nb)).length≤9223372036854775807 by (simp only[O_];omega))<|.c (show BlkW (Blk.slc 5 1 (K_ (row1 .u8) B++K_ (row1 .u8) (L n.nb))) (Blk.slc 5 1 (K_ (row1 .u8) (B++L n.nb))) from (AE_ (e:=5) (z:=1) (rows_to (row1 .u8) (r:=K_ (row1 .u8) B++K_ (row1 .u8) (L n.nb)) (l:=B++L n.nb) (m:=B++L n.nb) (by first|(simp only[Y_,C_,AO_,AP_,U_,AL_,AM_];done)|rfl|(simp only[Y_,C_,AO_,AP_,U_,AL_,AM_];rfl)) rfl)))<|.n)
theorem lnum_nk (B:List Int) (L:Int→List Int) (n:Nod) (most:Int) (hB:B.length≤1000000) (hL:Puts L):VM M_ 92 ([.ptr 100000 0 0,.ptr 100001 0 3,i64 most]) ([(950,.slc 5 1 (B.map (row1 .u8))),(100000,.var [.own 950]),(100001,.var (nodC n))]) (.tup []) ([(951,.slc 5 1 ((B++L n.nk).map (row1 .u8))),(100000,.var [.own 951]),(100001,.var (nodC n))]):=by
 have q:=hL.l n.nk
 have oz0:=@puts_v (L) hL (n.nk)
 exact VM.run (fn:=Tryz.f92) (W:=[.r [] [.w,.callr (rO oz0)]]) (G:=[.ren 16 951,.blk 951 (Blk.slc 5 1 (K_ (row1 .u8) (B++L n.nk))),.sort]) Tryz.func92 (by kernel_rfl) (.c oz0<|.c (show ((K_ (row1 .u8) B).length+(K_ (row1 .u8) (L n.nk)).length)*1≤140737488355328 by (simp only[O_];omega))<|.c (show (K_ (row1 .u8) B).length+(K_ (row1 .u8) (L n.nk)).length≤9223372036854775807 by (simp only[O_];omega))<|.c (show BlkW (Blk.slc 5 1 (K_ (row1 .u8) B++K_ (row1 .u8) (L n.nk))) (Blk.slc 5 1 (K_ (row1 .u8) (B++L n.nk))) from (AE_ (e:=5) (z:=1) (rows_to (row1 .u8) (r:=K_ (row1 .u8) B++K_ (row1 .u8) (L n.nk)) (l:=B++L n.nk) (m:=B++L n.nk) (by first|(simp only[Y_,C_,AO_,AP_,U_,AL_,AM_];done)|rfl|(simp only[Y_,C_,AO_,AP_,U_,AL_,AM_];rfl)) rfl)))<|.n)
theorem lnum_ns (B:List Int) (L:Int→List Int) (n:Nod) (most:Int) (hB:B.length≤1000000) (hL:Puts L):VM M_ 92 ([.ptr 100000 0 0,.ptr 100001 0 4,i64 most]) ([(950,.slc 5 1 (B.map (row1 .u8))),(100000,.var [.own 950]),(100001,.var (nodC n))]) (.tup []) ([(951,.slc 5 1 ((B++L n.ns).map (row1 .u8))),(100000,.var [.own 951]),(100001,.var (nodC n))]):=by
 have q:=hL.l n.ns
 have oz0:=@puts_v (L) hL (n.ns)
 exact VM.run (fn:=Tryz.f92) (W:=[.r [] [.w,.callr (rO oz0)]]) (G:=[.ren 16 951,.blk 951 (Blk.slc 5 1 (K_ (row1 .u8) (B++L n.ns))),.sort]) Tryz.func92 (by kernel_rfl) (.c oz0<|.c (show ((K_ (row1 .u8) B).length+(K_ (row1 .u8) (L n.ns)).length)*1≤140737488355328 by (simp only[O_];omega))<|.c (show (K_ (row1 .u8) B).length+(K_ (row1 .u8) (L n.ns)).length≤9223372036854775807 by (simp only[O_];omega))<|.c (show BlkW (Blk.slc 5 1 (K_ (row1 .u8) B++K_ (row1 .u8) (L n.ns))) (Blk.slc 5 1 (K_ (row1 .u8) (B++L n.ns))) from (AE_ (e:=5) (z:=1) (rows_to (row1 .u8) (r:=K_ (row1 .u8) B++K_ (row1 .u8) (L n.ns)) (l:=B++L n.ns) (m:=B++L n.ns) (by first|(simp only[Y_,C_,AO_,AP_,U_,AL_,AM_];done)|rfl|(simp only[Y_,C_,AO_,AP_,U_,AL_,AM_];rfl)) rfl)))<|.n)
theorem lnum_np (B:List Int) (L:Int→List Int) (n:Nod) (most:Int) (hB:B.length≤1000000) (hL:Puts L):VM M_ 92 ([.ptr 100000 0 0,.ptr 100001 0 5,i64 most]) ([(950,.slc 5 1 (B.map (row1 .u8))),(100000,.var [.own 950]),(100001,.var (nodC n))]) (.tup []) ([(951,.slc 5 1 ((B++L n.np).map (row1 .u8))),(100000,.var [.own 951]),(100001,.var (nodC n))]):=by
 have q:=hL.l n.np
 have oz0:=@puts_v (L) hL (n.np)
 exact VM.run (fn:=Tryz.f92) (W:=[.r [] [.w,.callr (rO oz0)]]) (G:=[.ren 16 951,.blk 951 (Blk.slc 5 1 (K_ (row1 .u8) (B++L n.np))),.sort]) Tryz.func92 (by kernel_rfl) (.c oz0<|.c (show ((K_ (row1 .u8) B).length+(K_ (row1 .u8) (L n.np)).length)*1≤140737488355328 by (simp only[O_];omega))<|.c (show (K_ (row1 .u8) B).length+(K_ (row1 .u8) (L n.np)).length≤9223372036854775807 by (simp only[O_];omega))<|.c (show BlkW (Blk.slc 5 1 (K_ (row1 .u8) B++K_ (row1 .u8) (L n.np))) (Blk.slc 5 1 (K_ (row1 .u8) (B++L n.np))) from (AE_ (e:=5) (z:=1) (rows_to (row1 .u8) (r:=K_ (row1 .u8) B++K_ (row1 .u8) (L n.np)) (l:=B++L n.np) (m:=B++L n.np) (by first|(simp only[Y_,C_,AO_,AP_,U_,AL_,AM_];done)|rfl|(simp only[Y_,C_,AO_,AP_,U_,AL_,AM_];rfl)) rfl)))<|.n)
theorem lnum_no (B:List Int) (L:Int→List Int) (n:Nod) (most:Int) (hB:B.length≤1000000) (hL:Puts L):VM M_ 92 ([.ptr 100000 0 0,.ptr 100001 0 6,i64 most]) ([(950,.slc 5 1 (B.map (row1 .u8))),(100000,.var [.own 950]),(100001,.var (nodC n))]) (.tup []) ([(951,.slc 5 1 ((B++L n.no).map (row1 .u8))),(100000,.var [.own 951]),(100001,.var (nodC n))]):=by
 have q:=hL.l n.no
 have oz0:=@puts_v (L) hL (n.no)
 exact VM.run (fn:=Tryz.f92) (W:=[.r [] [.w,.callr (rO oz0)]]) (G:=[.ren 16 951,.blk 951 (Blk.slc 5 1 (K_ (row1 .u8) (B++L n.no))),.sort]) Tryz.func92 (by kernel_rfl) (.c oz0<|.c (show ((K_ (row1 .u8) B).length+(K_ (row1 .u8) (L n.no)).length)*1≤140737488355328 by (simp only[O_];omega))<|.c (show (K_ (row1 .u8) B).length+(K_ (row1 .u8) (L n.no)).length≤9223372036854775807 by (simp only[O_];omega))<|.c (show BlkW (Blk.slc 5 1 (K_ (row1 .u8) B++K_ (row1 .u8) (L n.no))) (Blk.slc 5 1 (K_ (row1 .u8) (B++L n.no))) from (AE_ (e:=5) (z:=1) (rows_to (row1 .u8) (r:=K_ (row1 .u8) B++K_ (row1 .u8) (L n.no)) (l:=B++L n.no) (m:=B++L n.no) (by first|(simp only[Y_,C_,AO_,AP_,U_,AL_,AM_];done)|rfl|(simp only[Y_,C_,AO_,AP_,U_,AL_,AM_];rfl)) rfl)))<|.n)
theorem lnum_qs (B:List Int) (L:Int→List Int) (n:Nod) (most:Int) (hB:B.length≤1000000) (hL:Puts L):VM M_ 92 ([.ptr 100000 0 0,.ptr 100001 0 12,i64 most]) ([(950,.slc 5 1 (B.map (row1 .u8))),(100000,.var [.own 950]),(100001,.var (nodC n))]) (.tup []) ([(951,.slc 5 1 ((B++L n.qs).map (row1 .u8))),(100000,.var [.own 951]),(100001,.var (nodC n))]):=by
 have q:=hL.l n.qs
 have oz0:=@puts_v (L) hL (n.qs)
 exact VM.run (fn:=Tryz.f92) (W:=[.r [] [.w,.callr (rO oz0)]]) (G:=[.ren 16 951,.blk 951 (Blk.slc 5 1 (K_ (row1 .u8) (B++L n.qs))),.sort]) Tryz.func92 (by kernel_rfl) (.c oz0<|.c (show ((K_ (row1 .u8) B).length+(K_ (row1 .u8) (L n.qs)).length)*1≤140737488355328 by (simp only[O_];omega))<|.c (show (K_ (row1 .u8) B).length+(K_ (row1 .u8) (L n.qs)).length≤9223372036854775807 by (simp only[O_];omega))<|.c (show BlkW (Blk.slc 5 1 (K_ (row1 .u8) B++K_ (row1 .u8) (L n.qs))) (Blk.slc 5 1 (K_ (row1 .u8) (B++L n.qs))) from (AE_ (e:=5) (z:=1) (rows_to (row1 .u8) (r:=K_ (row1 .u8) B++K_ (row1 .u8) (L n.qs)) (l:=B++L n.qs) (m:=B++L n.qs) (by first|(simp only[Y_,C_,AO_,AP_,U_,AL_,AM_];done)|rfl|(simp only[Y_,C_,AO_,AP_,U_,AL_,AM_];rfl)) rfl)))<|.n)
theorem lnum_rs (B:List Int) (L:Int→List Int) (n:Nod) (most:Int) (hB:B.length≤1000000) (hL:Puts L):VM M_ 92 ([.ptr 100000 0 0,.ptr 100001 0 15,i64 most]) ([(950,.slc 5 1 (B.map (row1 .u8))),(100000,.var [.own 950]),(100001,.var (nodC n))]) (.tup []) ([(951,.slc 5 1 ((B++L n.rs).map (row1 .u8))),(100000,.var [.own 951]),(100001,.var (nodC n))]):=by
 have q:=hL.l n.rs
 have oz0:=@puts_v (L) hL (n.rs)
 exact VM.run (fn:=Tryz.f92) (W:=[.r [] [.w,.callr (rO oz0)]]) (G:=[.ren 16 951,.blk 951 (Blk.slc 5 1 (K_ (row1 .u8) (B++L n.rs))),.sort]) Tryz.func92 (by kernel_rfl) (.c oz0<|.c (show ((K_ (row1 .u8) B).length+(K_ (row1 .u8) (L n.rs)).length)*1≤140737488355328 by (simp only[O_];omega))<|.c (show (K_ (row1 .u8) B).length+(K_ (row1 .u8) (L n.rs)).length≤9223372036854775807 by (simp only[O_];omega))<|.c (show BlkW (Blk.slc 5 1 (K_ (row1 .u8) B++K_ (row1 .u8) (L n.rs))) (Blk.slc 5 1 (K_ (row1 .u8) (B++L n.rs))) from (AE_ (e:=5) (z:=1) (rows_to (row1 .u8) (r:=K_ (row1 .u8) B++K_ (row1 .u8) (L n.rs)) (l:=B++L n.rs) (m:=B++L n.rs) (by first|(simp only[Y_,C_,AO_,AP_,U_,AL_,AM_];done)|rfl|(simp only[Y_,C_,AO_,AP_,U_,AL_,AM_];rfl)) rfl)))<|.n)
theorem lnum_kd0 (L:Int→List Int) (n:Nod) (most:Int) (hL:Puts L):VM M_ 92 ([.ptr 100000 0 0,.ptr 100001 0 0,i64 most]) ([(100000,.var [.lit (.slice none 0 0)]),(100001,.var (nodC n))]) (.tup []) ([(951,.slc 5 1 ((L n.kd).map (row1 .u8))),(100000,.var [.own 951]),(100001,.var (nodC n))]):=by
 have q:=hL.l n.kd
 have oz0:=@puts_v (L) hL (n.kd)
 exact VM.run (fn:=Tryz.f92) (W:=[.r [] [.w,.callr (rO oz0)]]) (G:=[.ren 16 951,.sort]) Tryz.func92 (by kernel_rfl) (.c oz0<|.c (show (K_ (row1 .u8) (L n.kd)).length*1≤140737488355328 by (simp only[O_];omega))<|.c (show (K_ (row1 .u8) (L n.kd)).length≤9223372036854775807 by (simp only[O_];omega))<|.n)
theorem lsml_w (B:List Int) (n:Nod) (m:Int) (hB:B.length≤1000000) (hw:n.w.length≤100000):VM M_ 258 ([.ptr 100000 0 0,.ptr 100001 0 9,i64 m]) ([(950,.slc 5 1 (B.map (row1 .u8))),(100000,.var [.own 950]),(100001,.var (nodC n))]) (.tup []) ([(951,.slc 5 1 ((B++smallL n.w).map (row1 .u8))),(100000,.var [.own 951]),(100001,.var (nodC n))]):=by
 have q:(smallL n.w).length=n.w.length:=O_ _
 have oz0:=@small_v (n.w) (by omega)
 exact VM.run (fn:=Tryz.f258) (W:=[.r [] [.callr (rO oz0)]]) (G:=[.ren 15 951,.blk 951 (Blk.slc 5 1 (K_ (row1 .u8) (B++smallL n.w))),.sort]) Tryz.func258 (by kernel_rfl) (.c oz0<|.c (show ((K_ (row1 .u8) B).length+(K_ (row1 .u8) (smallL n.w)).length)*1≤140737488355328 by (simp only[O_];omega))<|.c (show (K_ (row1 .u8) B).length+(K_ (row1 .u8) (smallL n.w)).length≤9223372036854775807 by (simp only[O_];omega))<|.c (show BlkW (Blk.slc 5 1 (K_ (row1 .u8) B++K_ (row1 .u8) (smallL n.w))) (Blk.slc 5 1 (K_ (row1 .u8) (B++smallL n.w))) from (AE_ (e:=5) (z:=1) (rows_to (row1 .u8) (r:=K_ (row1 .u8) B++K_ (row1 .u8) (smallL n.w)) (l:=B++smallL n.w) (m:=B++smallL n.w) (by first|(simp only[Y_,C_,AO_,AP_,U_,AL_,AM_];done)|rfl|(simp only[Y_,C_,AO_,AP_,U_,AL_,AM_];rfl)) rfl)))<|.n)
theorem lwid_b (B:List Int) (n:Nod) (m:Int) (hB:B.length≤1000000) (hw:n.b.length≤100000) (hb:∀ x∈n.b,-2147483648≤x∧x≤2147483647):VM M_ 259 ([.ptr 100000 0 0,.ptr 100001 0 10,i64 m]) ([(950,.slc 5 1 (B.map (row1 .u8))),(100000,.var [.own 950]),(100001,.var (nodC n))]) (.tup []) ([(951,.slc 5 1 ((B++wideL n.b).map (row1 .u8))),(100000,.var [.own 951]),(100001,.var (nodC n))]):=by
 have q:=wideL_len n.b hb
 have oz0:=@wide_v (n.b) hb (by omega)
 exact VM.run (fn:=Tryz.f259) (W:=[.r [] [.callr (rO oz0)]]) (G:=[.ren 15 951,.blk 951 (Blk.slc 5 1 (K_ (row1 .u8) (B++wideL n.b))),.sort]) Tryz.func259 (by kernel_rfl) (.c oz0<|.c (show ((K_ (row1 .u8) B).length+(K_ (row1 .u8) (wideL n.b)).length)*1≤140737488355328 by (simp only[O_];omega))<|.c (show (K_ (row1 .u8) B).length+(K_ (row1 .u8) (wideL n.b)).length≤9223372036854775807 by (simp only[O_];omega))<|.c (show BlkW (Blk.slc 5 1 (K_ (row1 .u8) B++K_ (row1 .u8) (wideL n.b))) (Blk.slc 5 1 (K_ (row1 .u8) (B++wideL n.b))) from (AE_ (e:=5) (z:=1) (rows_to (row1 .u8) (r:=K_ (row1 .u8) B++K_ (row1 .u8) (wideL n.b)) (l:=B++wideL n.b) (m:=B++wideL n.b) (by first|(simp only[Y_,C_,AO_,AP_,U_,AL_,AM_];done)|rfl|(simp only[Y_,C_,AO_,AP_,U_,AL_,AM_];rfl)) rfl)))<|.n)
def oneV (s:Rst):Int:=(smlV s 1).getD 0 0
theorem of_1 (k:Int) (h:k=1):VC M_ 198 ([i64 k]) (.agg [bv false,bv true,bv true,bv true,bv true,bv true]):=by
 have oz0:=(show (k==1) = !false by (refine decide_eq_true ?_;omega))
 have oz2:=(show (k==1)=true by (refine decide_eq_true ?_;omega))
 have oz3:=(show true = !false by (simp;done))
 have oz5:=(show true=true by with_reducible rfl)
 exact (VC.run (fn:=Tryz.f198) (W:=[r_,.r [] [f_,f_,e_,f_,f_,e_],.r [] [f_,f_,e_,f_,f_,e_,f_,f_,e_],.r [] [f_,f_,e_,f_,f_,e_],.r [] [f_,f_,e_,f_,f_,e_]]) (r:=AV.agg [bv (k==6),bv true,bv true,bv true,bv true,bv true]) Tryz.func198 (by kernel_rfl) (.c oz0<|.c oz0<|.c oz2<|.c oz3<|.c oz3<|.c oz5<|.c oz0<|.c oz0<|.c oz2<|.c oz3<|.c oz3<|.c oz5<|.c oz3<|.c oz3<|.c oz5<|.c oz3<|.c oz3<|.c oz5<|.c oz3<|.c oz3<|.c oz5<|.c oz0<|.c oz0<|.c oz2<|.c oz3<|.c oz3<|.c oz5<|.n)).weak (D_ _) (AG_ (.cons (AZ_ (by (refine decide_eq_false ?_;omega))) (.cons (.refl _) (.cons (.refl _) (.cons (.refl _) (.cons (.refl _) (.cons (.refl _) .nil)))))))
theorem of_2 (k:Int) (h:k=2):VC M_ 198 ([i64 k]) (.agg [bv false,bv true,bv false,bv true,bv true,bv true]):=by
 have oz0:=(show (k==1)=false by (refine decide_eq_false ?_;omega))
 have oz3:=(show (k==2) = !false by (refine decide_eq_true ?_;omega))
 have oz5:=(show (k==2)=true by (refine decide_eq_true ?_;omega))
 have oz12:=(show true = !false by (simp;done))
 have oz14:=(show true=true by with_reducible rfl)
 exact (VC.run (fn:=Tryz.f198) (W:=[r_,.r [] [e_,e_,f_,f_,f_,e_],.r [] [e_,e_,f_,f_,f_,e_,f_,f_,e_],.r [] [f_,f_,e_,f_,f_,e_],.r [] [e_,e_,f_,f_,f_,e_]]) (r:=AV.agg [bv (k==6),bv true,bv (k==3),bv true,bv true,bv true]) Tryz.func198 (by kernel_rfl) (.c oz0<|.c oz0<|.c oz0<|.c oz3<|.c oz3<|.c oz5<|.c oz0<|.c oz0<|.c oz0<|.c oz3<|.c oz3<|.c oz5<|.c oz12<|.c oz12<|.c oz14<|.c oz12<|.c oz12<|.c oz14<|.c oz12<|.c oz12<|.c oz14<|.c oz0<|.c oz0<|.c oz0<|.c oz12<|.c oz12<|.c oz14<|.n)).weak (D_ _) (AG_ (.cons (AZ_ (by (refine decide_eq_false ?_;omega))) (.cons (.refl _) (.cons (AZ_ (by (refine decide_eq_false ?_;omega))) (.cons (.refl _) (.cons (.refl _) (.cons (.refl _) .nil)))))))
theorem of_3 (k:Int) (h:k=3):VC M_ 198 ([i64 k]) (.agg [bv false,bv false,bv true,bv true,bv true,bv true]):=by
 have oz0:=(show (k==1)=false by (refine decide_eq_false ?_;omega))
 have oz3:=(show (k==2)=false by (refine decide_eq_false ?_;omega))
 have oz12:=(show (k==4)=false by (refine decide_eq_false ?_;omega))
 have oz15:=(show (k==3) = !false by (refine decide_eq_true ?_;omega))
 have oz18:=(show true = !false by (simp;done))
 have oz20:=(show true=true by with_reducible rfl)
 exact (VC.run (fn:=Tryz.f198) (W:=[r_,.r [] [e_,e_,f_,e_,e_,f_],.r [] [e_,e_,f_,e_,e_,f_,e_,e_,f_],.r [] [f_,f_,e_,f_,f_,e_],.r [] [e_,e_,f_,f_,f_,e_]]) (r:=AV.agg [bv (k==6),bv (k==5),bv (k==3),bv true,bv (k==3),bv true]) Tryz.func198 (by kernel_rfl) (.c oz0<|.c oz0<|.c oz0<|.c oz3<|.c oz3<|.c oz3<|.c oz0<|.c oz0<|.c oz0<|.c oz3<|.c oz3<|.c oz3<|.c oz12<|.c oz12<|.c oz12<|.c oz15<|.c oz15<|.c (show (k==3)=true by (refine decide_eq_true ?_;omega))<|.c oz18<|.c oz18<|.c oz20<|.c oz0<|.c oz0<|.c oz0<|.c oz18<|.c oz18<|.c oz20<|.n)).weak (D_ _) (AG_ (.cons (AZ_ (by (refine decide_eq_false ?_;omega))) (.cons (AZ_ (by (refine decide_eq_false ?_;omega))) (.cons (AZ_ (by (refine decide_eq_true ?_;omega))) (.cons (.refl _) (.cons (AZ_ (by (refine decide_eq_true ?_;omega))) (.cons (.refl _) .nil)))))))
theorem of_4 (k:Int) (h:k=4∨k=5):VC M_ 198 ([i64 k]) (.agg [bv false,bv true,bv false,bv false,bv false,bv false]):=by
 have oz0:=(show (k==1)=false by (refine decide_eq_false ?_;omega))
 have oz3:=(show (k==2)=false by (refine decide_eq_false ?_;omega))
 have oz12:=(show (k==3)=false by (refine decide_eq_false ?_;omega))
 have oz15:=(show (k==6)=false by (refine decide_eq_false ?_;omega))
 have oz21:=(show (k==7)=false by (refine decide_eq_false ?_;omega))
 exact (VC.run (fn:=Tryz.f198) (W:=[r_,.r [] [e_,e_,f_,e_,e_,f_],.r [] [e_,e_,f_,e_,e_,f_,o_,o_,.sel 1],.r [] [e_,e_,f_,e_,e_,f_],.r [] [e_,e_,f_,e_,e_,f_]]) (r:=AV.agg [bv (k==6),bv (k==4 || k==5),bv (k==3),bv (k==8),bv (k==3),bv (k==7)]) Tryz.func198 (by kernel_rfl) (.c oz0<|.c oz0<|.c oz0<|.c oz3<|.c oz3<|.c oz3<|.c oz0<|.c oz0<|.c oz0<|.c oz3<|.c oz3<|.c oz3<|.c oz12<|.c oz12<|.c oz12<|.c oz15<|.c oz15<|.c oz15<|.c oz0<|.c oz0<|.c oz0<|.c oz21<|.c oz21<|.c oz21<|.n)).weak (D_ _) (AG_ (.cons (AZ_ (by (refine decide_eq_false ?_;omega))) (.cons (AZ_ (by (simp;omega))) (.cons (AZ_ (by (refine decide_eq_false ?_;omega))) (.cons (AZ_ (by (refine decide_eq_false ?_;omega))) (.cons (AZ_ (by (refine decide_eq_false ?_;omega))) (.cons (AZ_ (by (refine decide_eq_false ?_;omega))) .nil)))))))
theorem of_6 (k:Int) (h:k=6):VC M_ 198 ([i64 k]) (.agg [bv true,bv false,bv false,bv true,bv false,bv true]):=by
 have oz0:=(show (k==1)=false by (refine decide_eq_false ?_;omega))
 have oz3:=(show (k==2)=false by (refine decide_eq_false ?_;omega))
 have oz12:=(show (k==4)=false by (refine decide_eq_false ?_;omega))
 have oz15:=(show (k==3)=false by (refine decide_eq_false ?_;omega))
 have oz18:=(show (k==6) = !false by (refine decide_eq_true ?_;omega))
 have oz24:=(show true = !false by (simp;done))
 exact (VC.run (fn:=Tryz.f198) (W:=[r_,.r [] [e_,e_,f_,e_,e_,f_],.r [] [e_,e_,f_,e_,e_,f_,e_,e_,f_],.r [] [e_,e_,f_,f_,f_,e_],.r [] [e_,e_,f_,f_,f_,e_]]) (r:=AV.agg [bv (k==6),bv (k==5),bv (k==3),bv true,bv (k==3),bv true]) Tryz.func198 (by kernel_rfl) (.c oz0<|.c oz0<|.c oz0<|.c oz3<|.c oz3<|.c oz3<|.c oz0<|.c oz0<|.c oz0<|.c oz3<|.c oz3<|.c oz3<|.c oz12<|.c oz12<|.c oz12<|.c oz15<|.c oz15<|.c oz15<|.c oz18<|.c oz18<|.c (show (k==6)=true by (refine decide_eq_true ?_;omega))<|.c oz0<|.c oz0<|.c oz0<|.c oz24<|.c oz24<|.c (show true=true by with_reducible rfl)<|.n)).weak (D_ _) (AG_ (.cons (AZ_ (by (refine decide_eq_true ?_;omega))) (.cons (AZ_ (by (refine decide_eq_false ?_;omega))) (.cons (AZ_ (by (refine decide_eq_false ?_;omega))) (.cons (.refl _) (.cons (AZ_ (by (refine decide_eq_false ?_;omega))) (.cons (.refl _) .nil)))))))
theorem of_7 (k:Int) (h:k=7):VC M_ 198 ([i64 k]) (.agg [bv false,bv false,bv false,bv true,bv false,bv true]):=by
 have oz0:=(show (k==1)=false by (refine decide_eq_false ?_;omega))
 have oz3:=(show (k==2)=false by (refine decide_eq_false ?_;omega))
 have oz12:=(show (k==4)=false by (refine decide_eq_false ?_;omega))
 have oz15:=(show (k==3)=false by (refine decide_eq_false ?_;omega))
 have oz18:=(show (k==6)=false by (refine decide_eq_false ?_;omega))
 have oz24:=(show (k==7) = !false by (refine decide_eq_true ?_;omega))
 exact (VC.run (fn:=Tryz.f198) (W:=[r_,.r [] [e_,e_,f_,e_,e_,f_],.r [] [e_,e_,f_,e_,e_,f_,e_,e_,f_],.r [] [e_,e_,f_,e_,e_,f_],.r [] [e_,e_,f_,f_,f_,e_]]) (r:=AV.agg [bv (k==6),bv (k==5),bv (k==3),bv true,bv (k==3),bv (k==7)]) Tryz.func198 (by kernel_rfl) (.c oz0<|.c oz0<|.c oz0<|.c oz3<|.c oz3<|.c oz3<|.c oz0<|.c oz0<|.c oz0<|.c oz3<|.c oz3<|.c oz3<|.c oz12<|.c oz12<|.c oz12<|.c oz15<|.c oz15<|.c oz15<|.c oz18<|.c oz18<|.c oz18<|.c oz0<|.c oz0<|.c oz0<|.c oz24<|.c oz24<|.c (show (k==7)=true by (refine decide_eq_true ?_;omega))<|.n)).weak (D_ _) (AG_ (.cons (AZ_ (by (refine decide_eq_false ?_;omega))) (.cons (AZ_ (by (refine decide_eq_false ?_;omega))) (.cons (AZ_ (by (refine decide_eq_false ?_;omega))) (.cons (.refl _) (.cons (AZ_ (by (refine decide_eq_false ?_;omega))) (.cons (AZ_ (by (refine decide_eq_true ?_;omega))) .nil)))))))
theorem of_8 (k:Int) (h:k=8):VC M_ 198 ([i64 k]) (.agg [bv false,bv false,bv false,bv true,bv false,bv false]):=by
 have oz0:=(show (k==1)=false by (refine decide_eq_false ?_;omega))
 have oz3:=(show (k==2)=false by (refine decide_eq_false ?_;omega))
 have oz12:=(show (k==4)=false by (refine decide_eq_false ?_;omega))
 have oz15:=(show (k==3)=false by (refine decide_eq_false ?_;omega))
 have oz18:=(show (k==6)=false by (refine decide_eq_false ?_;omega))
 have oz24:=(show (k==7)=false by (refine decide_eq_false ?_;omega))
 exact (VC.run (fn:=Tryz.f198) (W:=[r_,.r [] [e_,e_,f_,e_,e_,f_],.r [] [e_,e_,f_,e_,e_,f_,e_,e_,f_],.r [] [e_,e_,f_,e_,e_,f_],.r [] [e_,e_,f_,e_,e_,f_]]) (r:=AV.agg [bv (k==6),bv (k==5),bv (k==3),bv (k==8),bv (k==3),bv (k==7)]) Tryz.func198 (by kernel_rfl) (.c oz0<|.c oz0<|.c oz0<|.c oz3<|.c oz3<|.c oz3<|.c oz0<|.c oz0<|.c oz0<|.c oz3<|.c oz3<|.c oz3<|.c oz12<|.c oz12<|.c oz12<|.c oz15<|.c oz15<|.c oz15<|.c oz18<|.c oz18<|.c oz18<|.c oz0<|.c oz0<|.c oz0<|.c oz24<|.c oz24<|.c oz24<|.n)).weak (D_ _) (AG_ (.cons (AZ_ (by (refine decide_eq_false ?_;omega))) (.cons (AZ_ (by (refine decide_eq_false ?_;omega))) (.cons (AZ_ (by (refine decide_eq_false ?_;omega))) (.cons (AZ_ (by (refine decide_eq_true ?_;omega))) (.cons (AZ_ (by (refine decide_eq_false ?_;omega))) (.cons (AZ_ (by (refine decide_eq_false ?_;omega))) .nil)))))))
theorem of_9 (k:Int) (h:k<1∨8<k):VC M_ 198 ([i64 k]) (.agg [bv false,bv false,bv false,bv false,bv false,bv false]):=by
 have oz0:=(show (k==1)=false by (refine decide_eq_false ?_;omega))
 have oz3:=(show (k==2)=false by (refine decide_eq_false ?_;omega))
 have oz12:=(show (k==4)=false by (refine decide_eq_false ?_;omega))
 have oz15:=(show (k==3)=false by (refine decide_eq_false ?_;omega))
 have oz18:=(show (k==6)=false by (refine decide_eq_false ?_;omega))
 have oz24:=(show (k==7)=false by (refine decide_eq_false ?_;omega))
 exact (VC.run (fn:=Tryz.f198) (W:=[r_,.r [] [e_,e_,f_,e_,e_,f_],.r [] [e_,e_,f_,e_,e_,f_,e_,e_,f_],.r [] [e_,e_,f_,e_,e_,f_],.r [] [e_,e_,f_,e_,e_,f_]]) (r:=AV.agg [bv (k==6),bv (k==5),bv (k==3),bv (k==8),bv (k==3),bv (k==7)]) Tryz.func198 (by kernel_rfl) (.c oz0<|.c oz0<|.c oz0<|.c oz3<|.c oz3<|.c oz3<|.c oz0<|.c oz0<|.c oz0<|.c oz3<|.c oz3<|.c oz3<|.c oz12<|.c oz12<|.c oz12<|.c oz15<|.c oz15<|.c oz15<|.c oz18<|.c oz18<|.c oz18<|.c oz0<|.c oz0<|.c oz0<|.c oz24<|.c oz24<|.c oz24<|.n)).weak (D_ _) (AG_ (.cons (AZ_ (by (refine decide_eq_false ?_;omega))) (.cons (AZ_ (by (refine decide_eq_false ?_;omega))) (.cons (AZ_ (by (refine decide_eq_false ?_;omega))) (.cons (AZ_ (by (refine decide_eq_false ?_;omega))) (.cons (AZ_ (by (refine decide_eq_false ?_;omega))) (.cons (AZ_ (by (refine decide_eq_false ?_;omega))) .nil)))))))
theorem lside_nb (B:List Int) (L:Int→List Int) (n:Nod) (hB:B.length≤1000000) (hL:Puts L):VM M_ 220 ([bv true,.ptr 100001 0 2,.ptr 100002 0 0]) ([(950,.slc 5 1 (B.map (row1 .u8))),(100000,.var [.own 950]),(100001,.var (nodC n)),(100002,.var [.ifc 169 (.ptr 100000 0 0)])]) (.tup []) ([(951,.slc 5 1 ((B++L n.nb).map (row1 .u8))),(100000,.var [.own 951]),(100001,.var (nodC n)),(100002,.var [.ifc 169 (.ptr 100000 0 0)])]):=by
 have oz1:=@lnum_nb (B) (L) (n) (1024) hB hL
 exact VM.run (fn:=Tryz.f220) (W:=[r_,b_,.r [] [.callm [(950,950),(100000,100000),(100001,100001)] [(951,20000)] (rM oz1) (oM oz1)]]) (G:=[.ren 20000 951,.sort]) Tryz.func220 (by kernel_rfl) (.c (show true=true by with_reducible rfl)<|.c oz1<|.c (show MethodIs M_ (169:Nat) "stepwell/pack.number" (methF M_ (169:Nat) "stepwell/pack.number") from (methodIs (by kernel_rfl)))<|.n)
theorem lside_nk (B:List Int) (L:Int→List Int) (n:Nod) (hB:B.length≤1000000) (hL:Puts L):VM M_ 220 ([bv true,.ptr 100001 0 3,.ptr 100002 0 0]) ([(950,.slc 5 1 (B.map (row1 .u8))),(100000,.var [.own 950]),(100001,.var (nodC n)),(100002,.var [.ifc 169 (.ptr 100000 0 0)])]) (.tup []) ([(951,.slc 5 1 ((B++L n.nk).map (row1 .u8))),(100000,.var [.own 951]),(100001,.var (nodC n)),(100002,.var [.ifc 169 (.ptr 100000 0 0)])]):=by
 have oz1:=@lnum_nk (B) (L) (n) (1024) hB hL
 exact VM.run (fn:=Tryz.f220) (W:=[r_,b_,.r [] [.callm [(950,950),(100000,100000),(100001,100001)] [(951,20000)] (rM oz1) (oM oz1)]]) (G:=[.ren 20000 951,.sort]) Tryz.func220 (by kernel_rfl) (.c (show true=true by with_reducible rfl)<|.c oz1<|.c (show MethodIs M_ (169:Nat) "stepwell/pack.number" (methF M_ (169:Nat) "stepwell/pack.number") from (methodIs (by kernel_rfl)))<|.n)
theorem lside_ns (B:List Int) (L:Int→List Int) (n:Nod) (hB:B.length≤1000000) (hL:Puts L):VM M_ 220 ([bv true,.ptr 100001 0 4,.ptr 100002 0 0]) ([(950,.slc 5 1 (B.map (row1 .u8))),(100000,.var [.own 950]),(100001,.var (nodC n)),(100002,.var [.ifc 169 (.ptr 100000 0 0)])]) (.tup []) ([(951,.slc 5 1 ((B++L n.ns).map (row1 .u8))),(100000,.var [.own 951]),(100001,.var (nodC n)),(100002,.var [.ifc 169 (.ptr 100000 0 0)])]):=by
 have oz1:=@lnum_ns (B) (L) (n) (1024) hB hL
 exact VM.run (fn:=Tryz.f220) (W:=[r_,b_,.r [] [.callm [(950,950),(100000,100000),(100001,100001)] [(951,20000)] (rM oz1) (oM oz1)]]) (G:=[.ren 20000 951,.sort]) Tryz.func220 (by kernel_rfl) (.c (show true=true by with_reducible rfl)<|.c oz1<|.c (show MethodIs M_ (169:Nat) "stepwell/pack.number" (methF M_ (169:Nat) "stepwell/pack.number") from (methodIs (by kernel_rfl)))<|.n)
theorem lside_np (B:List Int) (L:Int→List Int) (n:Nod) (hB:B.length≤1000000) (hL:Puts L):VM M_ 220 ([bv true,.ptr 100001 0 5,.ptr 100002 0 0]) ([(950,.slc 5 1 (B.map (row1 .u8))),(100000,.var [.own 950]),(100001,.var (nodC n)),(100002,.var [.ifc 169 (.ptr 100000 0 0)])]) (.tup []) ([(951,.slc 5 1 ((B++L n.np).map (row1 .u8))),(100000,.var [.own 951]),(100001,.var (nodC n)),(100002,.var [.ifc 169 (.ptr 100000 0 0)])]):=by
 have oz1:=@lnum_np (B) (L) (n) (1024) hB hL
 exact VM.run (fn:=Tryz.f220) (W:=[r_,b_,.r [] [.callm [(950,950),(100000,100000),(100001,100001)] [(951,20000)] (rM oz1) (oM oz1)]]) (G:=[.ren 20000 951,.sort]) Tryz.func220 (by kernel_rfl) (.c (show true=true by with_reducible rfl)<|.c oz1<|.c (show MethodIs M_ (169:Nat) "stepwell/pack.number" (methF M_ (169:Nat) "stepwell/pack.number") from (methodIs (by kernel_rfl)))<|.n)
theorem lside_no (B:List Int) (L:Int→List Int) (n:Nod) (hB:B.length≤1000000) (hL:Puts L):VM M_ 220 ([bv true,.ptr 100001 0 6,.ptr 100002 0 0]) ([(950,.slc 5 1 (B.map (row1 .u8))),(100000,.var [.own 950]),(100001,.var (nodC n)),(100002,.var [.ifc 169 (.ptr 100000 0 0)])]) (.tup []) ([(951,.slc 5 1 ((B++L n.no).map (row1 .u8))),(100000,.var [.own 951]),(100001,.var (nodC n)),(100002,.var [.ifc 169 (.ptr 100000 0 0)])]):=by
 have oz1:=@lnum_no (B) (L) (n) (1024) hB hL
 exact VM.run (fn:=Tryz.f220) (W:=[r_,b_,.r [] [.callm [(950,950),(100000,100000),(100001,100001)] [(951,20000)] (rM oz1) (oM oz1)]]) (G:=[.ren 20000 951,.sort]) Tryz.func220 (by kernel_rfl) (.c (show true=true by with_reducible rfl)<|.c oz1<|.c (show MethodIs M_ (169:Nat) "stepwell/pack.number" (methF M_ (169:Nat) "stepwell/pack.number") from (methodIs (by kernel_rfl)))<|.n)
theorem side_n   : VM M_ 220 ([bv false,.any,.any]) ([]) (.tup []) ([]):=by
 exact VM.run (fn:=Tryz.f220) (W:=[r_,d_]) (G:=[.sort]) Tryz.func220 (by kernel_rfl) (.c (show false=false by with_reducible rfl)<|.n)
theorem small1 (x:Int):smallL [x]=[IntKind.u8.wrap x]:=by simp[smallL,IntKind.wrap_u8']
theorem lsml_1 (B:List Int) (x m:Int) (hB:B.length≤1000000):VM M_ 258 ([.ptr 100000 0 0,.ptr 100001 0 0,i64 m]) ([(950,.slc 5 1 (B.map (row1 .u8))),(951,.slc 67 1 ([x].map (row1 .i8))),(100000,.var [.own 950]),(100001,.var [.own 951])]) (.tup []) ([(951,.slc 5 1 ((B++[IntKind.u8.wrap x]).map (row1 .u8))),(100000,.var [.own 951]),(100001,.var [.sl 1 ([x].map (row1 .i8))])]):=by
 have e1:=small1 x
 have oz1:=@small_v ([x]) (by (simp;done))
 exact VM.run (fn:=Tryz.f258) (W:=[.r [.frz 951] [.call (aO oz1) (rO oz1)]]) (G:=[.ren 15 951,.blk 951 (Blk.slc 5 1 (K_ (row1 .u8) (B++[IntKind.u8.wrap x]))),.sort]) Tryz.func258 (by kernel_rfl) (.c (show WeakL [AV.sl 1 [[i8 x]]] [AV.sl 1 [[i8 x]]] from (.cons (BE_ (rows_to (row1 .i8) (r:=[[i8 x]]) (l:=[x]) (m:=[x]) (by first|(simp only[Y_,C_,AO_,AP_,U_,AL_,AM_];done)|rfl|(simp only[Y_,C_,AO_,AP_,U_,AL_,AM_];rfl)) rfl)) .nil))<|.c oz1<|.c (show ((K_ (row1 .u8) B).length+1)*1≤140737488355328 by (simp only[O_];omega))<|.c (show (K_ (row1 .u8) B).length+1≤9223372036854775807 by (simp only[O_];omega))<|.c (show BlkW (Blk.slc 5 1 (K_ (row1 .u8) B++[[u8 (x % 256)]])) (Blk.slc 5 1 (K_ (row1 .u8) (B++[IntKind.u8.wrap x]))) from (AE_ (e:=5) (z:=1) (rows_to (row1 .u8) (r:=K_ (row1 .u8) B++[[u8 (x % 256)]]) (l:=B++[x % 256]) (m:=B++[IntKind.u8.wrap x]) (by first|(simp only[Y_,C_,AO_,AP_,U_,AL_,AM_];done)|rfl|(simp only[Y_,C_,AO_,AP_,U_,AL_,AM_];rfl)) (show (B++[x % 256])=(B++[IntKind.u8.wrap x]) from (by (simp[IntKind.wrap_u8'];done))))))<|.n)
theorem lone_za (B:List Int) (n:Nod) (hB:B.length≤1000000):VM M_ 200 ([.ifc 169 (.ptr 100000 0 0),.ptr 100001 0 7]) ([(950,.slc 5 1 (B.map (row1 .u8))),(100000,.var [.own 950]),(100001,.var (nodC n))]) (.tup []) ([(951,.slc 5 1 ((B++[IntKind.u8.wrap n.za]).map (row1 .u8))),(100000,.var [.own 951]),(100001,.var (nodC n))]):=by
 have oz0:=@lsml_1 (B) (n.za) (1) hB
 exact VM.run (fn:=Tryz.f200) (W:=[r_,.r [] [.callm [(950,950),(8,951),(100000,100000),(4,100001)] [(951,20000)] (rM oz0) (oM oz0)],r_,b_,.r [] [.row [i8 n.za]]]) (G:=[.drop [4],.ren 20000 951,.sort]) Tryz.func200 (by kernel_rfl) (.c oz0<|.c (show MethodIs M_ (169:Nat) "stepwell/pack.small" (methF M_ (169:Nat) "stepwell/pack.small") from (methodIs (by kernel_rfl)))<|.c (show ((↑1:Int)==1)=true by (refine decide_eq_true ?_;omega))<|.c (show (0:Int)≤(0:Int) by omega)<|.c (show [[i8 n.za]][Int.toNat 0]? = some [i8 n.za] from rfl)<|.n)
theorem lone_zb (B:List Int) (n:Nod) (hB:B.length≤1000000):VM M_ 200 ([.ifc 169 (.ptr 100000 0 0),.ptr 100001 0 8]) ([(950,.slc 5 1 (B.map (row1 .u8))),(100000,.var [.own 950]),(100001,.var (nodC n))]) (.tup []) ([(951,.slc 5 1 ((B++[IntKind.u8.wrap n.zb]).map (row1 .u8))),(100000,.var [.own 951]),(100001,.var (nodC n))]):=by
 have oz0:=@lsml_1 (B) (n.zb) (1) hB
 exact VM.run (fn:=Tryz.f200) (W:=[r_,.r [] [.callm [(950,950),(8,951),(100000,100000),(4,100001)] [(951,20000)] (rM oz0) (oM oz0)],r_,b_,.r [] [.row [i8 n.zb]]]) (G:=[.drop [4],.ren 20000 951,.sort]) Tryz.func200 (by kernel_rfl) (.c oz0<|.c (show MethodIs M_ (169:Nat) "stepwell/pack.small" (methF M_ (169:Nat) "stepwell/pack.small") from (methodIs (by kernel_rfl)))<|.c (show ((↑1:Int)==1)=true by (refine decide_eq_true ?_;omega))<|.c (show (0:Int)≤(0:Int) by omega)<|.c (show [[i8 n.zb]][Int.toNat 0]? = some [i8 n.zb] from rfl)<|.n)
theorem lone_qz (B:List Int) (n:Nod) (hB:B.length≤1000000):VM M_ 200 ([.ifc 169 (.ptr 100000 0 0),.ptr 100001 0 13]) ([(950,.slc 5 1 (B.map (row1 .u8))),(100000,.var [.own 950]),(100001,.var (nodC n))]) (.tup []) ([(951,.slc 5 1 ((B++[IntKind.u8.wrap n.qz]).map (row1 .u8))),(100000,.var [.own 951]),(100001,.var (nodC n))]):=by
 have oz0:=@lsml_1 (B) (n.qz) (1) hB
 exact VM.run (fn:=Tryz.f200) (W:=[r_,.r [] [.callm [(950,950),(8,951),(100000,100000),(4,100001)] [(951,20000)] (rM oz0) (oM oz0)],r_,b_,.r [] [.row [i8 n.qz]]]) (G:=[.drop [4],.ren 20000 951,.sort]) Tryz.func200 (by kernel_rfl) (.c oz0<|.c (show MethodIs M_ (169:Nat) "stepwell/pack.small" (methF M_ (169:Nat) "stepwell/pack.small") from (methodIs (by kernel_rfl)))<|.c (show ((↑1:Int)==1)=true by (refine decide_eq_true ?_;omega))<|.c (show (0:Int)≤(0:Int) by omega)<|.c (show [[i8 n.qz]][Int.toNat 0]? = some [i8 n.qz] from rfl)<|.n)
theorem lone_lo (B:List Int) (n:Nod) (hB:B.length≤1000000):VM M_ 200 ([.ifc 169 (.ptr 100000 0 0),.ptr 100001 0 17]) ([(950,.slc 5 1 (B.map (row1 .u8))),(100000,.var [.own 950]),(100001,.var (nodC n))]) (.tup []) ([(951,.slc 5 1 ((B++[IntKind.u8.wrap n.lo]).map (row1 .u8))),(100000,.var [.own 951]),(100001,.var (nodC n))]):=by
 have oz0:=@lsml_1 (B) (n.lo) (1) hB
 exact VM.run (fn:=Tryz.f200) (W:=[r_,.r [] [.callm [(950,950),(8,951),(100000,100000),(4,100001)] [(951,20000)] (rM oz0) (oM oz0)],r_,b_,.r [] [.row [i8 n.lo]]]) (G:=[.drop [4],.ren 20000 951,.sort]) Tryz.func200 (by kernel_rfl) (.c oz0<|.c (show MethodIs M_ (169:Nat) "stepwell/pack.small" (methF M_ (169:Nat) "stepwell/pack.small") from (methodIs (by kernel_rfl)))<|.c (show ((↑1:Int)==1)=true by (refine decide_eq_true ?_;omega))<|.c (show (0:Int)≤(0:Int) by omega)<|.c (show [[i8 n.lo]][Int.toNat 0]? = some [i8 n.lo] from rfl)<|.n)
theorem lone_hi (B:List Int) (n:Nod) (hB:B.length≤1000000):VM M_ 200 ([.ifc 169 (.ptr 100000 0 0),.ptr 100001 0 18]) ([(950,.slc 5 1 (B.map (row1 .u8))),(100000,.var [.own 950]),(100001,.var (nodC n))]) (.tup []) ([(951,.slc 5 1 ((B++[IntKind.u8.wrap n.hi]).map (row1 .u8))),(100000,.var [.own 951]),(100001,.var (nodC n))]):=by
 have oz0:=@lsml_1 (B) (n.hi) (1) hB
 exact VM.run (fn:=Tryz.f200) (W:=[r_,.r [] [.callm [(950,950),(8,951),(100000,100000),(4,100001)] [(951,20000)] (rM oz0) (oM oz0)],r_,b_,.r [] [.row [i8 n.hi]]]) (G:=[.drop [4],.ren 20000 951,.sort]) Tryz.func200 (by kernel_rfl) (.c oz0<|.c (show MethodIs M_ (169:Nat) "stepwell/pack.small" (methF M_ (169:Nat) "stepwell/pack.small") from (methodIs (by kernel_rfl)))<|.c (show ((↑1:Int)==1)=true by (refine decide_eq_true ?_;omega))<|.c (show (0:Int)≤(0:Int) by omega)<|.c (show [[i8 n.hi]][Int.toNat 0]? = some [i8 n.hi] from rfl)<|.n)
theorem lscale_q (B:List Int) (L:Int→List Int) (n:Nod) (hB:B.length≤900000) (hL:Puts L) (hq:In32 n.qm):VM M_ 201 ([.ifc 169 (.ptr 100000 0 0),.ptr 100001 0 11]) ([(950,.slc 5 1 (B.map (row1 .u8))),(100000,.var [.own 950]),(100001,.var (nodC n))]) (.tup []) ([(951,.slc 5 1 ((B++L n.qm++L n.qs).map (row1 .u8))),(100000,.var [.own 951]),(100001,.var (nodC n))]):=by
 have q1:=hL.l n.qm
 have q2:(B++L n.qm).length=B.length+(L n.qm).length:=N_
 have oz1:=@lnum_1 (B) (L) (n.qm) (2147483647) (by omega) hL
 have oz2:=(show MethodIs M_ (169:Nat) "stepwell/pack.number" (methF M_ (169:Nat) "stepwell/pack.number") from (methodIs (by kernel_rfl)))
 have oz5:=@lnum_qs (B++L n.qm) (L) (n) (62) (by omega) hL
 exact VM.run (fn:=Tryz.f201) (W:=[.r [] [.n n.qm],.r [] [.callm [(950,950),(100000,100000),(4,100001)] [(951,20000)] (rM oz1) (oM oz1)],.r [] [.n n.qm],.r [] [.callm [(20000,950),(100000,100000),(100001,100001)] [(951,20001)] (rM oz5) (oM oz5)]]) (G:=[.drop [4],.ren 20001 951,.sort]) Tryz.func201 (by kernel_rfl) (.c (i6n n.qm (by omega))<|.c oz1<|.c oz2<|.c (CJ_ n.qm (by omega))<|.c (show NilNo M_ (169:Nat) "stepwell/pack.number" from (nilNo (f:=92) (by kernel_rfl)))<|.c oz5<|.c oz2<|.n)
theorem lscale_r (B:List Int) (L:Int→List Int) (n:Nod) (hB:B.length≤900000) (hL:Puts L) (hq:In32 n.rm):VM M_ 201 ([.ifc 169 (.ptr 100000 0 0),.ptr 100001 0 14]) ([(950,.slc 5 1 (B.map (row1 .u8))),(100000,.var [.own 950]),(100001,.var (nodC n))]) (.tup []) ([(951,.slc 5 1 ((B++L n.rm++L n.rs).map (row1 .u8))),(100000,.var [.own 951]),(100001,.var (nodC n))]):=by
 have q1:=hL.l n.rm
 have q2:(B++L n.rm).length=B.length+(L n.rm).length:=N_
 have oz1:=@lnum_1 (B) (L) (n.rm) (2147483647) (by omega) hL
 have oz2:=(show MethodIs M_ (169:Nat) "stepwell/pack.number" (methF M_ (169:Nat) "stepwell/pack.number") from (methodIs (by kernel_rfl)))
 have oz5:=@lnum_rs (B++L n.rm) (L) (n) (62) (by omega) hL
 exact VM.run (fn:=Tryz.f201) (W:=[.r [] [.n n.rm],.r [] [.callm [(950,950),(100000,100000),(4,100001)] [(951,20000)] (rM oz1) (oM oz1)],.r [] [.n n.rm],.r [] [.callm [(20000,950),(100000,100000),(100001,100001)] [(951,20001)] (rM oz5) (oM oz5)]]) (G:=[.drop [4],.ren 20001 951,.sort]) Tryz.func201 (by kernel_rfl) (.c (i6n n.rm (by omega))<|.c oz1<|.c oz2<|.c (CJ_ n.rm (by omega))<|.c (show NilNo M_ (169:Nat) "stepwell/pack.number" from (nilNo (f:=92) (by kernel_rfl)))<|.c oz5<|.c oz2<|.n)
theorem llists_v (B:List Int) (L:Int→List Int) (n:Nod) (hB:B.length≤500000) (hL:Puts L) (hw:n.w.length≤100000) (hb:n.b.length≤16384) (hx:∀ x∈n.b,-2147483648≤x∧x≤2147483647):VM M_ 168 ([.ifc 169 (.ptr 100000 0 0),.ptr 100001 0 9,.ptr 100001 0 10]) ([(950,.slc 5 1 (B.map (row1 .u8))),(100000,.var [.own 950]),(100001,.var (nodC n))]) (.tup []) ([(951,.slc 5 1 ((B++L (n.w.length:Int)++smallL n.w++L (n.b.length:Int)++wideL n.b).map (row1 .u8))),(100000,.var [.own 951]),(100001,.var (nodC n))]):=by
 have q1:=hL.l (n.w.length:Int)
 have q3:=hL.l (n.b.length:Int)
 have q2:(smallL n.w).length=n.w.length:=O_ _
 have q4:(B++L (n.w.length:Int)).length=B.length+(L (n.w.length:Int)).length:=N_
 have q5:(B++L (n.w.length:Int)++smallL n.w).length=B.length+(L (n.w.length:Int)).length+n.w.length:=by rw[N_,q4,q2]
 have q6:(B++L (n.w.length:Int)++smallL n.w++L (n.b.length:Int)).length=B.length+(L (n.w.length:Int)).length+n.w.length+(L (n.b.length:Int)).length:=by rw[N_,q5]
 have oz0:=@lnum_1 (B) (L) (((K_ (row1 .i8) n.w).length:Int)) (16384) (by omega) hL
 have oz1:=(show MethodIs M_ (169:Nat) "stepwell/pack.number" (methF M_ (169:Nat) "stepwell/pack.number") from (methodIs (by kernel_rfl)))
 have oz2:=@lsml_w (B++L ((K_ (row1 .i8) n.w).length:Int)) (n) (((K_ (row1 .i8) n.w).length:Int)) (by (simp only[O_];omega)) hw
 have oz4:=@lnum_1 (B++L ((K_ (row1 .i8) n.w).length:Int)++smallL n.w) (L) (((K_ (row1 .i32) n.b).length:Int)) (16384) (by (simp only[O_];omega)) hL
 have oz6:=@lwid_b (B++L ((K_ (row1 .i8) n.w).length:Int)++smallL n.w++L ((K_ (row1 .i32) n.b).length:Int)) (n) (((K_ (row1 .i32) n.b).length:Int)) (by (simp only[O_];omega)) (by omega) hx
 exact VM.run (fn:=Tryz.f168) (W:=[r_,.r [] [.callm [(950,950),(100000,100000),(6,100001)] [(951,20000)] (rM oz0) (oM oz0)],.r [] [.callm [(20000,950),(100000,100000),(100001,100001)] [(951,20001)] (rM oz2) (oM oz2)],r_,.r [] [.callm [(20001,950),(100000,100000),(7,100001)] [(951,20002)] (rM oz4) (oM oz4)],.r [] [.callm [(20002,950),(100000,100000),(100001,100001)] [(951,20003)] (rM oz6) (oM oz6)]]) (G:=[.drop [6,7],.ren 20003 951,.blk 951 (Blk.slc 5 1 (K_ (row1 .u8) (B++L (n.w.length:Int)++smallL n.w++L (n.b.length:Int)++wideL n.b))),.sort]) Tryz.func168 (by kernel_rfl) (.c oz0<|.c oz1<|.c oz2<|.c (show MethodIs M_ (169:Nat) "stepwell/pack.small" (methF M_ (169:Nat) "stepwell/pack.small") from (methodIs (by kernel_rfl)))<|.c oz4<|.c oz1<|.c oz6<|.c (show MethodIs M_ (169:Nat) "stepwell/pack.wides" (methF M_ (169:Nat) "stepwell/pack.wides") from (methodIs (by kernel_rfl)))<|.c (show BlkW (Blk.slc 5 1 (K_ (row1 .u8) (B++L ((K_ (row1 .i8) n.w).length:Int)++smallL n.w++L ((K_ (row1 .i32) n.b).length:Int)++wideL n.b))) (Blk.slc 5 1 (K_ (row1 .u8) (B++L (n.w.length:Int)++smallL n.w++L (n.b.length:Int)++wideL n.b))) from (AE_ (e:=5) (z:=1) (rows_to (row1 .u8) (r:=K_ (row1 .u8) (B++L ((K_ (row1 .i8) n.w).length:Int)++smallL n.w++L ((K_ (row1 .i32) n.b).length:Int)++wideL n.b)) (l:=B++L ((K_ (row1 .i8) n.w).length:Int)++smallL n.w++L ((K_ (row1 .i32) n.b).length:Int)++wideL n.b) (m:=B++L (n.w.length:Int)++smallL n.w++L (n.b.length:Int)++wideL n.b) rfl (show (B++L ((K_ (row1 .i8) n.w).length:Int)++smallL n.w++L ((K_ (row1 .i32) n.b).length:Int)++wideL n.b)=(B++L (n.w.length:Int)++smallL n.w++L (n.b.length:Int)++wideL n.b) from (by (simp;done))))))<|.n)
end Go.Proofs.YtgimdjfbnbkpgaaGreat
