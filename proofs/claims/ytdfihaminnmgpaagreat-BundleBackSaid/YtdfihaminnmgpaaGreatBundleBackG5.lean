/- A part of this claim. No condition. -/
import Derived.Test.YtdfihaminnmgpaaGreatBundleBackG4
set_option maxRecDepth 100000
set_option maxHeartbeats 2000000
set_option linter.unusedVariables false
set_option linter.unusedSimpArgs false
set_option linter.unnecessarySimpa false
namespace Go.Proofs.YtdfihaminnmgpaaGreat
open Go.RowKit
open BlkW renaming rows→BU_
open Bool renaming and_eq_true→N_,and_eq_false_iff→T_,or_eq_false_iff→U_,not_eq_false'→X_,not_eq_true'→A_,or_eq_true→D_,and_true→AN_,false_eq_true→BN_,false_and→BP_,true_and→BY_,not_true→BZ_,false_or→BA_,not_false→BB_,and_false→BC_,or_false→CM_,not_eq_eq_eq_not→CV_,true_eq_false→CZ_
open Exit renaming exit→BO_
open Int renaming toNat_natCast→AJ_,not_lt→DR_
open IntKind renaming i64→O_,wrap_u64→CX_
open IntWalk renaming i32_in→CR_
open List renaming map→K_,length_append→P_,length_map→R_,map_replicate→W_,map_append→B_,map_cons→C_,map_take→AK_,map_drop→AL_,map_nil→AO_,map_set→AP_,drop→AY_,take→AB_,length_cons→AE_,length_drop→BK_,length_take→BS_,length_replicate→BJ_,length_nil→CQ_,map_eq_nil_iff→CC_,all_eq_true→CF_,length_range→CG_,mem_of_mem_take→CJ_,take_of_length_le→DN_,length_set→DP_
open Nat renaming le_refl→AX_,zero_add→BX_
open Tryz renaming prog→L_
open Value renaming slice→AQ_,int→AS_,bool→BD_,agg→CT_
open Weak renaming int→Q_,bool→AF_,nil→AG_,tup→AI_,agg→BL_,rows→BQ_
open WeakL renaming refl→AM_
def stepR (n:Nod) (L:List Rng):Rng×Int:=if thereB n L.length=true then nodeR n (L.getD n.na.toNat default) (L.getD (secN n).toNat default) else (⟨0,0⟩,8)
theorem gstep_v (n:Nod) (L:List Rng) (ok:n.Ok) (okL:∀ r∈L,r.In8) (hL:L.length≤100) (wl:n.w.length≤100000) (bl:n.b.length≤100000):VC L_ 153 ([nod n,.sl 2 (L.map rchC)]) (.tup [rch (stepR n L).1,i64 (stepR n L).2]):=by
 have q1:=@there_iff n L.length
 have q2:(K_ rchC L).length=L.length:=R_ _
 have q3:=fun (h:n.na.toNat<L.length)=>getD_in okL h
 have q4:=fun (h:(secN n).toNat<L.length)=>getD_in okL h
 have q5:n.kd=6→secN n=n.nb:=fun h=>i_ h
 have q6:¬ n.kd=6→secN n=n.na:=fun h=>j_ h
 rcases bft (n.kd==6) with hc0|hc0
 ·have gc0:n.kd=6:=bet hc0
  have oz1:=@ends64_1 (n.na) (n.nb)
  rcases bft (decide (min n.na n.nb<0) || decide (max n.na n.nb≥((K_ rchC L).length:Int))) with hc1|hc1
  ·have gc1:min n.na n.nb<0∨max n.na n.nb≥((K_ rchC L).length:Int):=gc0_ hc1
   exact (cR_ [r_,r_,r_,b_,r_,.r [] [cr oz1],.r [] [o_,o_,o_,o_,.sel 1],b_,r_] (AV.tup [AV.agg [i8 0,i8 0],i64 8]) Tryz.func153 (.d3 hc0 oz1 hc1)).weak (AM_ _) (AI_ (.cons (BL_ (.cons (Q_ (by (unfold stepR;rw[j_ (by rw[q1];omega)]))) (.cons (Q_ (by (unfold stepR;rw[j_ (by rw[q1];omega)]))) .nil))) (.cons (Q_ (by (unfold stepR;rw[j_ (by rw[q1];omega)]))) .nil)))
  ·have gc1:¬min n.na n.nb<0∧¬max n.na n.nb≥((K_ rchC L).length:Int):=gc0_ hc1
   have oz4:=(map_at (rchC) (default) (l:=L) (i:=n.na.toNat) (by omega))
   have oz6:=(map_at (rchC) (default) (l:=L) (i:=n.nb.toNat) (by omega))
   have oz7:=@gnode_v (n) (L.getD n.na.toNat default) (L.getD n.nb.toNat default) ok (by (exact q3 (by omega))) (by (rw[←q5 (by omega)];exact q4 (by rw[q5 (by omega)];omega))) wl bl
   exact (cR_ [r_,r_,r_,b_,r_,.r [] [cr oz1],.r [] [o_,o_,o_,o_,.sel 1],d_,.r [] [.row (sO oz4),.row (sO oz6),cr oz7]] (AV.tup [AV.agg [i8 (nodeR n (L.getD n.na.toNat default) (L.getD n.nb.toNat default)).fst.lo,i8 (nodeR n (L.getD n.na.toNat default) (L.getD n.nb.toNat default)).fst.hi],i64 (nodeR n (L.getD n.na.toNat default) (L.getD n.nb.toNat default)).snd]) Tryz.func153 (.d8 hc0 oz1 hc1 (s_ (0≤n.na)) oz4 (s_ (0≤n.nb)) oz6 oz7)).weak (AM_ _) (AI_ (.cons (BL_ (.cons (Q_ (by (unfold stepR;rw[q5 (by omega),i_ (by rw[q1];omega)]))) (.cons (Q_ (by (unfold stepR;rw[q5 (by omega),i_ (by rw[q1];omega)]))) .nil))) (.cons (Q_ (by (unfold stepR;rw[q5 (by omega),i_ (by rw[q1];omega)]))) .nil)))
 ·have gc0:¬n.kd=6:=bef hc0
  have oz1:=@ends64_1 (n.na) (n.na)
  rcases bft (decide (min n.na n.na<0) || decide (max n.na n.na≥((K_ rchC L).length:Int))) with hc1|hc1
  ·have gc1:min n.na n.na<0∨max n.na n.na≥((K_ rchC L).length:Int):=gc0_ hc1
   exact (cR_ [r_,r_,r_,d_,.r [] [cr oz1],.r [] [o_,o_,o_,o_,.sel 1],b_,r_] (AV.tup [AV.agg [i8 0,i8 0],i64 8]) Tryz.func153 (.d3 hc0 oz1 hc1)).weak (AM_ _) (AI_ (.cons (BL_ (.cons (Q_ (by (unfold stepR;rw[j_ (by rw[q1];omega)]))) (.cons (Q_ (by (unfold stepR;rw[j_ (by rw[q1];omega)]))) .nil))) (.cons (Q_ (by (unfold stepR;rw[j_ (by rw[q1];omega)]))) .nil)))
  ·have gc1:¬min n.na n.na<0∧¬max n.na n.na≥((K_ rchC L).length:Int):=gc0_ hc1
   have oz3:=(s_ (0≤n.na))
   have oz4:=(map_at (rchC) (default) (l:=L) (i:=n.na.toNat) (by omega))
   have oz7:=@gnode_v (n) (L.getD n.na.toNat default) (L.getD n.na.toNat default) ok (by (exact q3 (by omega))) (by (exact q3 (by omega))) wl bl
   exact (cR_ [r_,r_,r_,d_,.r [] [cr oz1],.r [] [o_,o_,o_,o_,.sel 1],d_,.r [] [.row (sO oz4),.row (sO oz4),cr oz7]] (AV.tup [AV.agg [i8 (nodeR n (L.getD n.na.toNat default) (L.getD n.na.toNat default)).fst.lo,i8 (nodeR n (L.getD n.na.toNat default) (L.getD n.na.toNat default)).fst.hi],i64 (nodeR n (L.getD n.na.toNat default) (L.getD n.na.toNat default)).snd]) Tryz.func153 (.d8 hc0 oz1 hc1 oz3 oz4 oz3 oz4 oz7)).weak (AM_ _) (AI_ (.cons (BL_ (.cons (Q_ (by (unfold stepR;rw[q6 (by omega),i_ (by rw[q1];omega)]))) (.cons (Q_ (by (unfold stepR;rw[q6 (by omega),i_ (by rw[q1];omega)]))) .nil))) (.cons (Q_ (by (unfold stepR;rw[q6 (by omega),i_ (by rw[q1];omega)]))) .nil)))
def FOK (l:List Nod) (a:Rng):Prop:=0<l.length∧l.length≤8∧a.lo≤a.hi∧∀ k,k<l.length→errL stepR l a k=0
theorem nodeR_in {n:Nod} {a b:Rng} (ok:n.Ok) (ha:a.In8) (hb:b.In8):(nodeR n a b).1.In8:=by
 have hz:Rng.In8 ⟨0,0⟩:=⟨⟨by dsimp only;decide,by dsimp only;decide⟩,⟨by dsimp only;decide,by dsimp only;decide⟩⟩
 have held:∀ x m s z,In8 (heldQ x m s z n.lo n.hi):=fun x m s z=>by
  unfold heldQ;split
  ·exact clamp_in _ ok.lo ok.hi
  ·exact ⟨by decide,by decide⟩
 unfold nodeR
 split
 ·exact hz
 ·split
  ·exact hz
  ·split
   ·unfold sumG;split
    ·unfold afterE
     have h1:=held (held32 (bothR (spansN n a) (spansN n a).length).lo) n.qm n.qs n.qz
     have h2:=held (held32 (bothR (spansN n a) (spansN n a).length).hi) n.qm n.qs n.qz
     constructor<;>dsimp only<;>omega
    ·exact hz
   ·split
    ·have hj:∀ x y,In8 (joinE x y n):=fun x y=>by
      unfold joinE;split
      ·exact clamp_in _ ok.lo ok.hi
      ·exact ⟨by decide,by decide⟩
     exact ⟨hj _ _,hj _ _⟩
    ·split
     ·exact ⟨held _ _ _ _,held _ _ _ _⟩
     ·obtain ⟨p1,p2⟩:=ha
      have p3:=ok.za
      split
      ·constructor<;>dsimp only<;>omega
      ·exact ⟨p1,p2⟩
theorem stepR_in {n:Nod} {L:List Rng} (ok:n.Ok) (hL:∀ r∈L,r.In8):(stepR n L).1.In8:=by
 unfold stepR
 split
 ·rename_i h
  have h:=there_iff.1 h
  exact nodeR_in ok (getD_in hL (by omega)) (getD_in hL (by omega))
 ·exact ⟨⟨by dsimp only;decide,by dsimp only;decide⟩,⟨by dsimp only;decide,by dsimp only;decide⟩⟩
theorem flow_in {l:List Nod} {a:Rng} (okl:∀ n∈l,n.Ok) (ha:a.In8) {k:Nat} (hk:k≤l.length):∀ r∈growL stepR l a k,r.In8 :=
 growL_all (n:=k) ha (fun j hj h=>stepR_in (getD_in okl (by omega)) h) k (AX_ _)
noncomputable def flow_ly_I (l:List Nod) (a:Rng) (k:Nat):VS:=stt 50 [(0,.sl 19 (l.map nodC)),(7,.own 900),(25,.sl 19 (l.map nodC)),(26,i64 l.length),(27,i64 k)] [(900,.slc 216 2 ((growL stepR l a k).map rchC))]
noncomputable def flow_ly_Z (l:List Nod) (a:Rng):VS:=flow_ly_I l a (l.length)
theorem flow_ly_s (l:List Nod) (a:Rng) (okl:∀ n∈l,n.Ok) (wl:∀ n∈l,n.w.length≤100000∧n.b.length≤100000) (ha:a.In8) (f8:l.length≤8) (h:∀ k,k<l.length→errL stepR l a k=0) (k:Nat) (hk:k<l.length):VT L_ (fnC Tryz.f127 [1,1,1,0,1,0,0]) (flow_ly_I l a k) .normal (flow_ly_I l a (k+1)):=by
 have q:=h k hk
 have q1:=growL_len stepR l a k
 have q2:=flow_in okl ha (Nat.le_of_lt hk)
 have q3:=getD_in okl hk
 have q4:=getD_in wl hk
 obtain ⟨q5,q6⟩:=q4
 unfold errL at q
 have oz2:=(map_at (nodC) (default) (l:=l) (i:=k) hk)
 have oz3:=@gstep_v (l.getD k default) (growL stepR l a k) q3 q2 (by omega) q5 q6
 exact tR_ [r_,b_,.r [] [.row (sO oz2)],.r [] [cr oz3],r_,d_,r_,.r [] [.n ((↑k:Int)+1)]] [.any (rg [(8,4),(28,12),(42,5)]),.drop [9,10,44],.ren 45 900,.weak 27 (i64 (↑(k+1):Int)),.blk 900 (Blk.slc 216 2 (K_ rchC (growL stepR l a (k+1)))),.sort] (.c8 (decide_eq_true (p:=((↑k:Int)<(l.length:Int))) (by omega)) (s_ (0≤(↑k:Int))) oz2 oz3 (show ((stepR (l.getD k default) (growL stepR l a k)).snd != 0)=false by (simp at *;omega)) (show ((K_ rchC (growL stepR l a k)).length+1)*2≤140737488355328 by (simp;omega)) (show (K_ rchC (growL stepR l a k)).length+1≤9223372036854775807 by (simp;omega)) (i6n ((↑k:Int)+1) (by omega))<|.d2 (wS_ k) (show BlkW (Blk.slc 216 2 (K_ rchC (growL stepR l a k)++[[i8 (stepR (l.getD k default) (growL stepR l a k)).fst.lo,i8 (stepR (l.getD k default) (growL stepR l a k)).fst.hi]])) (Blk.slc 216 2 (K_ rchC (growL stepR l a (k+1)))) from (BU_ (e:=216) (z:=2) (rows_to (rchC) (r:=K_ rchC (growL stepR l a k)++[[i8 (stepR (l.getD k default) (growL stepR l a k)).fst.lo,i8 (stepR (l.getD k default) (growL stepR l a k)).fst.hi]]) (l:=growL stepR l a k++[Rng.mk (stepR (l.getD k default) (growL stepR l a k)).fst.lo (stepR (l.getD k default) (growL stepR l a k)).fst.hi]) (m:=growL stepR l a (k+1)) (by first|(simp only[B_,C_,AO_,AP_,W_,AK_,AL_];done)|rfl|(simp only[B_,C_,AO_,AP_,W_,AK_,AL_];rfl)|(simp only[B_,C_,AO_,AP_,W_,AK_,AL_,rchC,ints];done)) (show (growL stepR l a k++[Rng.mk (stepR (l.getD k default) (growL stepR l a k)).fst.lo (stepR (l.getD k default) (growL stepR l a k)).fst.hi])=(growL stepR l a (k+1)) from (by rfl))))))
theorem flow_ly_e (l:List Nod) (a:Rng) (okl:∀ n∈l,n.Ok) (wl:∀ n∈l,n.w.length≤100000∧n.b.length≤100000) (ha:a.In8) (f8:l.length≤8) (h:∀ k,k<l.length→errL stepR l a k=0):VT L_ (fnC Tryz.f127 [1,1,1,0,1,0,0]) (flow_ly_I l a (l.length)) (.exit 1) (flow_ly_Z l a):=by
 exact tR_ [r_,d_] [.any [28],.sort] (.d (decide_eq_false (p:=((l.length:Int)<(l.length:Int))) (by omega)))
theorem flow_ly (l:List Nod) (a:Rng) (okl:∀ n∈l,n.Ok) (wl:∀ n∈l,n.w.length≤100000∧n.b.length≤100000) (ha:a.In8) (f8:l.length≤8) (h:∀ k,k<l.length→errL stepR l a k=0):VT L_ (fnC Tryz.f127 [1,1,1,0,1,0]) (flow_ly_I l a 0) (.exit 1) (flow_ly_Z l a) :=
 VT.loop (fun k=>flow_ly_I l a k) (l.length) (fun k hk=>flow_ly_s l a okl wl ha f8 h k hk) (flow_ly_e l a okl wl ha f8 h) (by intro h;cases h)
noncomputable def flow_ln_I (l:List Nod) (a:Rng) (m:Nat) (k:Nat):VS:=stt 50 [(0,.sl 19 (l.map nodC)),(7,.own 900),(25,.sl 19 (l.map nodC)),(26,i64 l.length),(27,i64 k)] [(900,.slc 216 2 ((growL stepR l a k).map rchC))]
noncomputable def flow_ln_Z (l:List Nod) (a:Rng) (m:Nat):VS:=stt 50 [(4,nilv),(5,i64 m),(6,i64 (errL stepR l a m))] []
theorem flow_ln_s (l:List Nod) (a:Rng) (m:Nat) (okl:∀ n∈l,n.Ok) (wl:∀ n∈l,n.w.length≤100000∧n.b.length≤100000) (ha:a.In8) (f8:l.length≤8) (hm:m<l.length) (hf:errL stepR l a m≠0) (h:∀ k,k<m→errL stepR l a k=0) (k:Nat) (hk:k<m):VT L_ (fnC Tryz.f127 [1,1,1,0,1,0,0]) (flow_ln_I l a m k) .normal (flow_ln_I l a m (k+1)):=by
 have q:=h k hk
 have q1:=growL_len stepR l a k
 have q2:=flow_in okl ha (s_ (k≤l.length))
 have q3:=getD_in okl (s_ (k<l.length))
 have q4:=getD_in wl (s_ (k<l.length))
 obtain ⟨q5,q6⟩:=q4
 unfold errL at q
 have oz2:=(map_at (nodC) (default) (l:=l) (i:=k) (by omega))
 have oz3:=@gstep_v (l.getD k default) (growL stepR l a k) q3 q2 (by omega) q5 q6
 exact tR_ [r_,b_,.r [] [.row (sO oz2)],.r [] [cr oz3],r_,d_,r_,.r [] [.n ((↑k:Int)+1)]] [.any (rg [(8,4),(28,12),(42,5)]),.drop [9,10,44],.ren 45 900,.weak 27 (i64 (↑(k+1):Int)),.blk 900 (Blk.slc 216 2 (K_ rchC (growL stepR l a (k+1)))),.sort] (.c8 (decide_eq_true (p:=((↑k:Int)<(l.length:Int))) (by omega)) (s_ (0≤(↑k:Int))) oz2 oz3 (show ((stepR (l.getD k default) (growL stepR l a k)).snd != 0)=false by (simp at *;omega)) (show ((K_ rchC (growL stepR l a k)).length+1)*2≤140737488355328 by (simp;omega)) (show (K_ rchC (growL stepR l a k)).length+1≤9223372036854775807 by (simp;omega)) (i6n ((↑k:Int)+1) (by omega))<|.d2 (wS_ k) (show BlkW (Blk.slc 216 2 (K_ rchC (growL stepR l a k)++[[i8 (stepR (l.getD k default) (growL stepR l a k)).fst.lo,i8 (stepR (l.getD k default) (growL stepR l a k)).fst.hi]])) (Blk.slc 216 2 (K_ rchC (growL stepR l a (k+1)))) from (BU_ (e:=216) (z:=2) (rows_to (rchC) (r:=K_ rchC (growL stepR l a k)++[[i8 (stepR (l.getD k default) (growL stepR l a k)).fst.lo,i8 (stepR (l.getD k default) (growL stepR l a k)).fst.hi]]) (l:=growL stepR l a k++[Rng.mk (stepR (l.getD k default) (growL stepR l a k)).fst.lo (stepR (l.getD k default) (growL stepR l a k)).fst.hi]) (m:=growL stepR l a (k+1)) (by first|(simp only[B_,C_,AO_,AP_,W_,AK_,AL_];done)|rfl|(simp only[B_,C_,AO_,AP_,W_,AK_,AL_];rfl)|(simp only[B_,C_,AO_,AP_,W_,AK_,AL_,rchC,ints];done)) (show (growL stepR l a k++[Rng.mk (stepR (l.getD k default) (growL stepR l a k)).fst.lo (stepR (l.getD k default) (growL stepR l a k)).fst.hi])=(growL stepR l a (k+1)) from (by rfl))))))
theorem flow_ln_e (l:List Nod) (a:Rng) (m:Nat) (okl:∀ n∈l,n.Ok) (wl:∀ n∈l,n.w.length≤100000∧n.b.length≤100000) (ha:a.In8) (f8:l.length≤8) (hm:m<l.length) (hf:errL stepR l a m≠0) (h:∀ k,k<m→errL stepR l a k=0):VT L_ (fnC Tryz.f127 [1,1,1,0,1,0,0]) (flow_ln_I l a m (m)) (.ret) (flow_ln_Z l a m):=by
 have q1:=growL_len stepR l a m
 have q2:=flow_in okl ha (Nat.le_of_lt hm)
 have q3:=getD_in okl hm
 have q4:=getD_in wl hm
 obtain ⟨q5,q6⟩:=q4
 unfold errL at hf
 have oz2:=(map_at (nodC) (default) (l:=l) (i:=m) hm)
 have oz3:=@gstep_v (l.getD m default) (growL stepR l a m) q3 q2 (by omega) q5 q6
 have oz5:=(Q_ (k:=.i64) (show (((stepR (l.getD m default) (growL stepR l a m)).snd):Int)=(errL stepR l a m) from (by rfl)))
 exact tR_ [r_,b_,.r [] [.row (sO oz2)],.r [] [cr oz3],r_,b_,r_] [.any (rg [(0,1),(7,5),(25,17)]),.drop [900,9,10],.weak 6 (wO oz5),.sort] (.d6 (decide_eq_true (p:=((↑m:Int)<(l.length:Int))) (by omega)) (s_ (0≤(↑m:Int))) oz2 oz3 (show ((stepR (l.getD m default) (growL stepR l a m)).snd != 0)=true by (simp at *;omega)) oz5)
theorem flow_ln (l:List Nod) (a:Rng) (m:Nat) (okl:∀ n∈l,n.Ok) (wl:∀ n∈l,n.w.length≤100000∧n.b.length≤100000) (ha:a.In8) (f8:l.length≤8) (hm:m<l.length) (hf:errL stepR l a m≠0) (h:∀ k,k<m→errL stepR l a k=0):VT L_ (fnC Tryz.f127 [1,1,1,0,1,0]) (flow_ln_I l a m 0) (.ret) (flow_ln_Z l a m) :=
 VT.loop (fun k=>flow_ln_I l a m k) (m) (fun k hk=>flow_ln_s l a m okl wl ha f8 hm hf h k hk) (flow_ln_e l a m okl wl ha f8 hm hf h) (by intro h;cases h)
theorem flow_y (l:List Nod) (a:Rng) (okl:∀ n∈l,n.Ok) (wl:∀ n∈l,n.w.length≤100000∧n.b.length≤100000) (ha:a.In8) (h:FOK l a):VC L_ 127 ([.sl 19 (l.map nodC),rch a]) (.tup [.sl 2 ((growL stepR l a l.length).map rchC),i64 l.length,i64 0]):=by
 obtain ⟨q2,q3,q1,q4⟩:=id h
 have oz2:=@upside_v (a.lo) (a.hi)
 have oz6:=@flow_ly (l) (a) okl wl ha q3 q4
 exact (cR_ [r_,r_,d_,r_,d_,.r [] [cr oz2],d_,r_,r_,.code [.any (rg [(1,1),(3,4),(12,13)]),.drop [3],.ren 24 900,.weak 26 (i64 (l.length:Int)),.weak 27 (i64 (↑0:Int)),.sort] (BO_ 1) (zO oz6),r_] (AV.tup [AV.sl 2 (K_ rchC (growL stepR l a l.length)),i64 ((K_ nodC l).length:Int),i64 0]) Tryz.func127 (.d7 (show (((K_ nodC l).length:Int)==0)=false by (simp only[E_,F_,I_,J_,ne_eq,H_,G_,A_,X_,CV_,BZ_,BB_,Classical.not_not,DR_,Int.not_le,N_,T_,D_,U_,AN_,BY_,BC_,BP_,CM_,BA_,eqNums,R_,P_,AE_,CQ_,DP_,BJ_,BS_,BK_,CG_,AJ_,BX_,CC_];(first|done|with_reducible assumption|omega|contradiction))) (show decide (((K_ nodC l).length:Int)>8)=false by (simp;omega)) oz2 (decide_eq_false (p:=(a.lo>a.hi)) (by omega)) (Q_ (k:=.i64) (show ((((K_ nodC l).length:Int)):Int)=((l.length:Int)) from (by (simp;done)))) w0_ oz6)).weak (AM_ _) (AI_ (.cons (.refl _) (.cons (Q_ (by (simp;done))) (.cons (.refl _) .nil))))
theorem flow_m (l:List Nod) (a:Rng) (m:Nat) (okl:∀ n∈l,n.Ok) (wl:∀ n∈l,n.w.length≤100000∧n.b.length≤100000) (ha:a.In8) (i:a.lo≤a.hi) (f8:l.length≤8) (hm:m<l.length) (hf:errL stepR l a m≠0) (h:∀ k,k<m→errL stepR l a k=0):VC L_ 127 ([.sl 19 (l.map nodC),rch a]) (.tup [nilv,i64 m,i64 (errL stepR l a m)]):=by
 have oz2:=@upside_v (a.lo) (a.hi)
 have oz6:=@flow_ln (l) (a) (m) okl wl ha f8 hm hf h
 exact cR_ [r_,r_,d_,r_,d_,.r [] [cr oz2],d_,r_,r_,.code [.any (rg [(1,1),(3,4),(12,13)]),.drop [3],.ren 24 900,.weak 26 (i64 (l.length:Int)),.weak 27 (i64 (↑0:Int)),.sort] (Exit.ret) (zO oz6)] _ Tryz.func127 (.d7 (show (((K_ nodC l).length:Int)==0)=false by (simp only[E_,F_,I_,J_,ne_eq,H_,G_,A_,X_,CV_,BZ_,BB_,Classical.not_not,DR_,Int.not_le,N_,T_,D_,U_,AN_,BY_,BC_,BP_,CM_,BA_,eqNums,R_,P_,AE_,CQ_,DP_,BJ_,BS_,BK_,CG_,AJ_,BX_,CC_];(first|done|with_reducible assumption|omega|contradiction))) (show decide (((K_ nodC l).length:Int)>8)=false by (simp;omega)) oz2 (decide_eq_false (p:=(a.lo>a.hi)) (by omega)) (Q_ (k:=.i64) (show ((((K_ nodC l).length:Int)):Int)=((l.length:Int)) from (by (simp;done)))) w0_ oz6)
def flowB (l:List Nod) (a:Rng):Nat→Bool:=fun k=>errL stepR l a k==0
def flowE (l:List Nod) (a:Rng):Int×Int :=
 if l.length=0 then (-1,12) else if 8<l.length then (-1,4) else if a.lo>a.hi then (-1,2)
 else if firstBad (flowB l a) l.length<l.length then (firstBad (flowB l a) l.length,errL stepR l a (firstBad (flowB l a) l.length)) else (l.length,0)
theorem flow_a (l:List Nod) (a:Rng) (hl:l.length≤1000) (h:l.length=0∨8<l.length∨a.lo>a.hi):VC L_ 127 ([.sl 19 (l.map nodC),rch a]) (.tup [nilv,i64 (flowE l a).1,i64 (flowE l a).2]):=by
 rcases bft (((K_ nodC l).length:Int)==0) with hc0|hc0
 ·have gc0:((K_ nodC l).length:Int)=0:=bet hc0
  exact (cR_ [r_,r_,b_,r_] (AV.tup [AV.lit (AQ_ none 0 0),i64 (-1),i64 12]) Tryz.func127 (.d hc0)).weak (AM_ _) (AI_ (.cons (.refl _) (.cons (Q_ (by (unfold flowE;(try simp only[R_] at *);(repeat first|rw[i_ (by omega)]|rw[j_ (by omega)])))) (.cons (Q_ (by (unfold flowE;(try simp only[R_] at *);(repeat first|rw[i_ (by omega)]|rw[j_ (by omega)])))) .nil))))
 ·have gc0:¬((K_ nodC l).length:Int)=0:=bef hc0
  rcases bft (decide (((K_ nodC l).length:Int)>8)) with hc1|hc1
  ·have gc1:=of_decide_eq_true hc1
   exact (cR_ [r_,r_,d_,r_,b_,r_] (AV.tup [AV.lit (AQ_ none 0 0),i64 (-1),i64 4]) Tryz.func127 (.d2 hc0 hc1)).weak (AM_ _) (AI_ (.cons (.refl _) (.cons (Q_ (by (unfold flowE;(try simp only[R_] at *);(repeat first|rw[i_ (by omega)]|rw[j_ (by omega)])))) (.cons (Q_ (by (unfold flowE;(try simp only[R_] at *);(repeat first|rw[i_ (by omega)]|rw[j_ (by omega)])))) .nil))))
  ·have gc1:=of_decide_eq_false hc1
   have oz2:=@upside_v (a.lo) (a.hi)
   exact (cR_ [r_,r_,d_,r_,d_,.r [] [cr oz2],b_,r_] (AV.tup [AV.lit (AQ_ none 0 0),i64 (-1),i64 2]) Tryz.func127 (.d4 hc0 hc1 oz2 (show decide (a.lo>a.hi)=true by (simp only[E_,F_,I_,J_,ne_eq,H_,G_,A_,X_,CV_,BZ_,BB_,Classical.not_not,DR_,Int.not_le,N_,T_,D_,U_,AN_,BY_,BC_,BP_,CM_,BA_,eqNums,R_,P_,AE_,CQ_,DP_,BJ_,BS_,BK_,CG_,AJ_,BX_,CC_] at *;(first|done|with_reducible assumption|omega|contradiction))))).weak (AM_ _) (AI_ (.cons (.refl _) (.cons (Q_ (by (unfold flowE;(try simp only[R_] at *);(repeat first|rw[i_ (by omega)]|rw[j_ (by omega)])))) (.cons (Q_ (by (unfold flowE;(try simp only[R_] at *);(repeat first|rw[i_ (by omega)]|rw[j_ (by omega)])))) .nil))))
theorem flowE_y {l:List Nod} {a:Rng} (h:FOK l a):flowE l a=((l.length:Int),0):=by
 obtain ⟨q2,q3,q1,q4⟩:=h
 unfold flowE
 rw[j_ (by omega),j_ (by omega),j_ (by omega),firstBad_all fun k hk=>by simpa [flowB] using q4 k hk,j_ (by omega)]
theorem flowE_at {l:List Nod} {a:Rng} {m:Nat} (i:a.lo≤a.hi) (e:0<l.length) (f:l.length≤8) (hm:m<l.length) (hf:errL stepR l a m≠0) (h:∀ k,k<m→errL stepR l a k=0):flowE l a=((m:Int),errL stepR l a m):=by
 have:=firstBad_at (p:=flowB l a) (m:=m) (by simpa [flowB] using hf) (fun k hk=>by simpa [flowB] using h k hk) hm
 unfold flowE
 rw[j_ (by omega),j_ (by omega),j_ (by omega),this,i_ hm]
theorem FOK.cases (l:List Nod) (a:Rng):FOK l a∨(l.length=0∨8<l.length∨a.lo>a.hi)∨(a.lo≤a.hi∧0<l.length∧l.length≤8∧∃ m,m<l.length∧errL stepR l a m≠0∧∀ k,k<m→errL stepR l a k=0):=by
 by_cases c:l.length=0∨8<l.length∨a.lo>a.hi
 ·exact .inr (.inl c)
 ·rcases all_or (flowB l a) l.length with h|⟨m,h1,h2,h3⟩
  ·exact .inl ⟨by omega,by omega,by omega,fun k hk=>by simpa [flowB] using h k hk⟩
  ·exact .inr (.inr ⟨by omega,by omega,by omega,m,h1,by simpa [flowB] using h2,fun k hk=>by simpa [flowB] using h3 k hk⟩)
theorem flowE_n {l:List Nod} {a:Rng} (h:¬ FOK l a):(flowE l a).2≠0:=by
 rcases FOK.cases l a with q|q|⟨i,e,f,m,h1,h2,h3⟩
 ·exact absurd q h
 ·unfold flowE
  by_cases c1:l.length=0
  ·rw[i_ c1];dsimp only;decide
  ·rw[j_ c1]
   by_cases c2:8<l.length
   ·rw[i_ c2];dsimp only;decide
   ·rw[j_ c2,i_ (by omega)];dsimp only;decide
 ·rw[flowE_at i e f h1 h2 h3];exact h2
theorem flow_n (l:List Nod) (a:Rng) (okl:∀ n∈l,n.Ok) (wl:∀ n∈l,n.w.length≤100000∧n.b.length≤100000) (ha:a.In8) (hl:l.length≤1000) (h:¬ FOK l a):VC L_ 127 [.sl 19 (l.map nodC),rch a] (.tup [nilv,i64 (flowE l a).1,i64 (flowE l a).2]):=by
 rcases FOK.cases l a with q|q|⟨i,e,f,m,h1,h2,h3⟩
 ·exact absurd q h
 ·exact flow_a l a hl q
 ·rw[flowE_at i e f h1 h2 h3];exact flow_m l a m okl wl ha i f h1 h2 h3
def smallB (n:Nod):Bool:=decide (n.w.length≤1000)&&decide (n.b.length≤100)
def fewB (l:List Nod) (d:Nat):Bool:=decide (l.length≤12)&&decide (d≤300)&&l.all smallB
noncomputable def few_ly_I (l:List Nod) (k:Nat):VS:=stt 37 [(0,.sl 19 (l.map nodC)),(5,i64 k)] []
noncomputable def few_ly_Z (l:List Nod):VS:=few_ly_I l (l.length)
theorem few_ly_s (l:List Nod) (hl:l.length≤12) (h:∀ k,k<l.length→smallB (l.getD k default)=true) (k:Nat) (hk:k<l.length):VT L_ (fnC Tryz.f21 [1,1,0,1,0,0]) (few_ly_I l k) .normal (few_ly_I l (k+1)):=by
 have q:=h k hk
 simp only[smallB,N_,E_] at q
 obtain ⟨q1,q2⟩:=q
 have oz1:=(s_ (0≤(↑k:Int)))
 have oz2:=(map_at (nodC) (default) (l:=l) (i:=k) hk)
 exact tR_ [r_,b_,.r [] [.row (sO oz2),o_,o_,o_,.row (sO oz2),o_,o_,o_,o_,.sel 1],d_,.r [] [.n ((↑k:Int)+1)]] [.any (rg [(15,14),(36,1)]),.weak 5 (i64 (↑(k+1):Int)),.sort] (.d8 (show decide ((↑k:Int)<((K_ nodC l).length:Int))=true by (simp;omega)) oz1 oz2 oz1 oz2 (show (decide (((K_ (row1 .i8) (l.getD k default).w).length:Int)>1000) || decide (((K_ (row1 .i32) (l.getD k default).b).length:Int)>100))=false by (simp at *;omega)) (i6n ((↑k:Int)+1) (by omega)) (wS_ k))
theorem few_ly_e (l:List Nod) (hl:l.length≤12) (h:∀ k,k<l.length→smallB (l.getD k default)=true):VT L_ (fnC Tryz.f21 [1,1,0,1,0,0]) (few_ly_I l (l.length)) (.exit 0) (few_ly_Z l):=by
 exact tR_ [r_,d_] [.any (rg [(15,4)]),.sort] (.d (show decide ((l.length:Int)<((K_ nodC l).length:Int))=false by (simp;done)))
theorem few_ly (l:List Nod) (hl:l.length≤12) (h:∀ k,k<l.length→smallB (l.getD k default)=true):VT L_ (fnC Tryz.f21 [1,1,0,1,0]) (few_ly_I l 0) (.exit 0) (few_ly_Z l) :=
 VT.loop (fun k=>few_ly_I l k) (l.length) (fun k hk=>few_ly_s l hl h k hk) (few_ly_e l hl h) (by intro h;cases h)
noncomputable def few_ln_I (l:List Nod) (m:Nat) (k:Nat):VS:=stt 37 [(0,.sl 19 (l.map nodC)),(5,i64 k)] []
noncomputable def few_ln_Z (l:List Nod) (m:Nat):VS:=stt 37 [(4,bv false)] []
theorem few_ln_s (l:List Nod) (m:Nat) (hl:l.length≤12) (hm:m<l.length) (hf:smallB (l.getD m default)=false) (h:∀ k,k<m→smallB (l.getD k default)=true) (k:Nat) (hk:k<m):VT L_ (fnC Tryz.f21 [1,1,0,1,0,0]) (few_ln_I l m k) .normal (few_ln_I l m (k+1)):=by
 have q:=h k hk
 simp only[smallB,N_,E_] at q
 obtain ⟨q1,q2⟩:=q
 have oz1:=(s_ (0≤(↑k:Int)))
 have oz2:=(map_at (nodC) (default) (l:=l) (i:=k) (by omega))
 exact tR_ [r_,b_,.r [] [.row (sO oz2),o_,o_,o_,.row (sO oz2),o_,o_,o_,o_,.sel 1],d_,.r [] [.n ((↑k:Int)+1)]] [.any (rg [(15,14),(36,1)]),.weak 5 (i64 (↑(k+1):Int)),.sort] (.d8 (show decide ((↑k:Int)<((K_ nodC l).length:Int))=true by (simp;omega)) oz1 oz2 oz1 oz2 (show (decide (((K_ (row1 .i8) (l.getD k default).w).length:Int)>1000) || decide (((K_ (row1 .i32) (l.getD k default).b).length:Int)>100))=false by (simp at *;omega)) (i6n ((↑k:Int)+1) (by omega)) (wS_ k))
theorem few_ln_e (l:List Nod) (m:Nat) (hl:l.length≤12) (hm:m<l.length) (hf:smallB (l.getD m default)=false) (h:∀ k,k<m→smallB (l.getD k default)=true):VT L_ (fnC Tryz.f21 [1,1,0,1,0,0]) (few_ln_I l m (m)) (.ret) (few_ln_Z l m):=by
 simp only[smallB,T_,F_] at hf
 have oz1:=(s_ (0≤(↑m:Int)))
 have oz2:=(map_at (nodC) (default) (l:=l) (i:=m) hm)
 exact tR_ [r_,b_,.r [] [.row (sO oz2),o_,o_,o_,.row (sO oz2),o_,o_,o_,o_,.sel 1],b_,r_] [.any (rg [(0,1),(5,1),(15,4),(21,8),(36,1)]),.sort] (.d6 (show decide ((↑m:Int)<((K_ nodC l).length:Int))=true by (simp;omega)) oz1 oz2 oz1 oz2 (show (decide (((K_ (row1 .i8) (l.getD m default).w).length:Int)>1000) || decide (((K_ (row1 .i32) (l.getD m default).b).length:Int)>100))=true by (simp at *;omega)))
theorem few_ln (l:List Nod) (m:Nat) (hl:l.length≤12) (hm:m<l.length) (hf:smallB (l.getD m default)=false) (h:∀ k,k<m→smallB (l.getD k default)=true):VT L_ (fnC Tryz.f21 [1,1,0,1,0]) (few_ln_I l m 0) (.ret) (few_ln_Z l m) :=
 VT.loop (fun k=>few_ln_I l m k) (m) (fun k hk=>few_ln_s l m hl hm hf h k hk) (few_ln_e l m hl hm hf h) (by intro h;cases h)
theorem few_a (l:List Nod) (T:Ten) (h:12<l.length∨300<T.d.length):VC L_ 21 ([.sl 19 (l.map nodC),ten .i8 T]) (bv false):=by
 exact cR_ [r_,.r [] [o_,o_,o_,o_,.sel 1],b_,r_] _ Tryz.func21 (.d (show (decide (((K_ nodC l).length:Int)>12) || decide (((K_ (row1 .i8) T.d).length:Int)>300))=true by (simp;omega)))
theorem few_y (l:List Nod) (T:Ten) (hl:l.length≤12) (hd:T.d.length≤300) (h:∀ k,k<l.length→smallB (l.getD k default)=true):VC L_ 21 ([.sl 19 (l.map nodC),ten .i8 T]) (bv true):=by
 have oz2:=@few_ly (l) hl h
 exact cR_ [r_,.r [] [o_,o_,o_,o_,.sel 1],d_,r_,.code [.any [1,3,4,6,7,8,9,14],.drop [3],.weak 5 (i64 (↑0:Int)),.sort] (BO_ 0) (zO oz2),r_] _ Tryz.func21 (.d3 (show (decide (((K_ nodC l).length:Int)>12) || decide (((K_ (row1 .i8) T.d).length:Int)>300))=false by (simp;omega)) w0_ oz2)
theorem few_n (l:List Nod) (T:Ten) (m:Nat) (hl:l.length≤12) (hd:T.d.length≤300) (hm:m<l.length) (hf:smallB (l.getD m default)=false) (h:∀ k,k<m→smallB (l.getD k default)=true):VC L_ 21 ([.sl 19 (l.map nodC),ten .i8 T]) (bv false):=by
 have oz2:=@few_ln (l) (m) hl hm hf h
 exact cR_ [r_,.r [] [o_,o_,o_,o_,.sel 1],d_,r_,.code [.any [1,3,4,6,7,8,9,14],.drop [3],.weak 5 (i64 (↑0:Int)),.sort] (Exit.ret) (zO oz2)] _ Tryz.func21 (.d3 (show (decide (((K_ nodC l).length:Int)>12) || decide (((K_ (row1 .i8) T.d).length:Int)>300))=false by (simp;omega)) w0_ oz2)
theorem few_v (l:List Nod) (T:Ten):VC L_ 21 [.sl 19 (l.map nodC),ten .i8 T] (bv (fewB l T.d.length)):=by
 unfold fewB
 by_cases h1:l.length≤12
 ·by_cases h2:T.d.length≤300
  ·rw[decide_eq_true h1,decide_eq_true h2]
   rcases all_or (fun k=>smallB (l.getD k default)) l.length with h|⟨m,g1,g2,g3⟩
   ·rw[all_getD.2 h];exact few_y l T h1 h2 h
   ·have:l.all smallB=false:=by
     cases e:l.all smallB with
     | false=>rfl
     | true=>have:=all_getD.1 e m g1;exact absurd (this.symm.trans g2) (by simp)
    rw[this];exact few_n l T m h1 h2 g1 g2 g3
  ·rw[decide_eq_false h2,BC_,BP_];exact few_a l T (.inr (by omega))
 ·rw[decide_eq_false h1,BP_,BP_];exact few_a l T (.inl (by omega))
theorem few_0 (l:List Nod):VC L_ 21 [.sl 19 (l.map nodC),.agg [i64 0,i64 0,i64 0,.sl 1 []]] (bv (fewB l 0)):=few_v l ⟨0,0,0,[]⟩
theorem few_facts {l:List Nod} {d:Nat} (h:fewB l d=true):l.length≤12∧d≤300∧∀ n∈l,n.w.length≤1000∧n.b.length≤100:=by
 simp only[fewB,N_,E_,CF_,smallB] at h
 exact ⟨h.1.1,h.1.2,fun n hn=>h.2 n hn⟩
theorem few_wide {l:List Nod} {d:Nat} (h:fewB l d=true):∀ n∈l,n.w.length≤100000∧n.b.length≤100000:=fun n hn=>by
 have:=(few_facts h).2.2 n hn;omega
def Shp.Rt (s:Shp):Prop:=0<elems s.h s.x s.c
abbrev zsh:Shp:=⟨0,0,0⟩
theorem zsh_ok:zsh.Ok:=by constructor<;>exact ⟨by decide,by decide⟩
theorem Shp.Rt.ok {s:Shp} (h:s.Rt):s.Ok:=by
 have:=elems_ok h
 exact ⟨⟨by omega,by omega⟩,⟨by omega,by omega⟩,⟨by omega,by omega⟩⟩
def Told (r:Shp×Int):Prop:=(r.2=0∧r.1.Rt)∨(r.2≠0∧r.1=zsh)
theorem slideE_told (t:Shp) (k s p o:Int):Told (slideE t k s p o):=by
 unfold slideE
 split
 ·exact .inr ⟨by dsimp only;decide,rfl⟩
 ·split
  ·exact .inr ⟨by assumption,rfl⟩
  ·split
   ·exact .inr ⟨by assumption,rfl⟩
   ·split
    ·exact .inr ⟨by dsimp only;decide,rfl⟩
    ·rename_i h;exact .inl ⟨rfl,Classical.not_not.1 h⟩
theorem convE_told (t:Shp) (n:Nod):Told (convE t n):=by
 have q:=slideE_told t n.nk n.ns n.np n.no
 unfold convE
 split
 ·exact .inr ⟨by assumption,rfl⟩
 ·split
  ·exact .inr ⟨by dsimp only;decide,rfl⟩
  ·rcases q with q|q
   ·exact .inl ⟨rfl,q.2⟩
   ·exact absurd q.1 (by assumption)
theorem depthE_told (t:Shp) (n:Nod):Told (depthE t n):=by
 have q:=slideE_told t n.nk n.ns n.np t.c
 unfold depthE
 split
 ·exact .inr ⟨by assumption,rfl⟩
 ·split
  ·exact .inr ⟨by dsimp only;decide,rfl⟩
  ·rcases q with q|q
   ·exact .inl ⟨rfl,q.2⟩
   ·exact absurd q.1 (by assumption)
theorem denseE_told (t:Shp) (n:Nod):Told (denseE t n):=by
 unfold denseE
 split
 ·exact .inr ⟨by dsimp only;decide,rfl⟩
 ·split
  ·exact .inr ⟨by dsimp only;decide,rfl⟩
  ·rename_i h _
   have:=elems_in 1 1 n.no
   exact .inl ⟨rfl,by unfold Shp.Rt;dsimp only;omega⟩
theorem aroundE_told (a:Shp) (p:Int):Told (aroundE a p):=by
 unfold aroundE
 split
 ·exact .inr ⟨by dsimp only;decide,rfl⟩
 ·split
  ·exact .inr ⟨by dsimp only;decide,rfl⟩
  ·have:=elems_in (a.h+2*p) (a.x+2*p) a.c
   exact .inl ⟨rfl,by unfold Shp.Rt;dsimp only;omega⟩
theorem flat_rt {n:Int} (h0:0<n) (h:n≤1024):0<elems 1 1 n:=by
 unfold elems;rw[i_ (by omega)];omega
theorem shapeE_told (n:Nod) (a b:Shp):Told (shapeE n a b):=by
 unfold shapeE
 split
 ·exact convE_told a n
 ·split
  ·exact depthE_told a n
  ·split
   ·exact denseE_told a n
   ·split
    ·exact slideE_told a n.nk n.ns n.np a.c
    ·split
     ·exact .inr ⟨by dsimp only;decide,rfl⟩
     ·split
      ·exact .inr ⟨by dsimp only;decide,rfl⟩
      ·rename_i h
       have q:=elems_in a.h a.x a.c
       split
       ·exact (.inl ⟨rfl,show 0<elems 1 1 (elems a.h a.x a.c) from flat_rt (by omega) q.2⟩)
       ·split
        ·exact aroundE_told a n.np
        ·exact .inl ⟨rfl,by unfold Shp.Rt;dsimp only;omega⟩
theorem nextE_told (n:Nod) (L:List Shp):Told (nextE n L):=by
 unfold nextE
 split
 ·exact .inr ⟨by assumption,rfl⟩
 ·split
  ·exact shapeE_told _ _ _
  ·exact .inr ⟨by dsimp only;decide,rfl⟩
theorem Told.ok {r:Shp×Int} (h:Told r):r.1.Ok:=by
 rcases h with h|h
 ·exact h.2.ok
 ·rw[h.2];exact zsh_ok
structure SOK (l:List Nod) (a:Shp):Prop where
 i:a.Rt
 e:0<l.length
 f:l.length≤8
 k:∀ k,k<l.length→errL nextE l a k=0
def shapesB (l:List Nod) (a:Shp):Nat→Bool:=fun k=>errL nextE l a k==0
def shapesE (l:List Nod) (a:Shp):Int×Int :=
 if ¬ 0<elems a.h a.x a.c then (-1,5) else if l.length=0 then (-1,12) else if 8<l.length then (-1,4)
 else if firstBad (shapesB l a) l.length<l.length then (firstBad (shapesB l a) l.length,errL nextE l a (firstBad (shapesB l a) l.length)) else (l.length,0)
theorem shapesE_y {l:List Nod} {a:Shp} (h:SOK l a):shapesE l a=((l.length:Int),0):=by
 have h0:=h.i
 unfold Shp.Rt at h0
 have h1:=h.e
 have h2:=h.f
 unfold shapesE
 rw[j_ (by omega),j_ (by omega),j_ (by omega),firstBad_all fun k hk=>by simpa [shapesB] using h.k k hk,j_ (by omega)]
theorem shapesE_at {l:List Nod} {a:Shp} {m:Nat} (i:a.Rt) (e:0<l.length) (f:l.length≤8) (hm:m<l.length) (hf:errL nextE l a m≠0) (h:∀ k,k<m→errL nextE l a k=0):shapesE l a=((m:Int),errL nextE l a m):=by
 unfold Shp.Rt at i
 have:=firstBad_at (p:=shapesB l a) (m:=m) (by simpa [shapesB] using hf) (fun k hk=>by simpa [shapesB] using h k hk) hm
 unfold shapesE
 rw[j_ (by omega),j_ (by omega),j_ (by omega),this,i_ hm]
theorem SOK.cases (l:List Nod) (a:Shp):SOK l a∨¬ a.Rt∨l.length=0∨8<l.length∨(a.Rt∧0<l.length∧l.length≤8∧∃ m,m<l.length∧errL nextE l a m≠0∧∀ k,k<m→errL nextE l a k=0):=by
 by_cases i:a.Rt
 ·by_cases e:0<l.length
  ·by_cases f:l.length≤8
   ·rcases all_or (shapesB l a) l.length with h|⟨m,h1,h2,h3⟩
    ·exact .inl ⟨i,e,f,fun k hk=>by simpa [shapesB] using h k hk⟩
    ·exact .inr (.inr (.inr (.inr ⟨i,e,f,m,h1,by simpa [shapesB] using h2,fun k hk=>by simpa [shapesB] using h3 k hk⟩)))
   ·exact .inr (.inr (.inr (.inl (by omega))))
  ·exact .inr (.inr (.inl (by omega)))
 ·exact .inr (.inl i)
theorem shapesE_n {l:List Nod} {a:Shp} (h:¬ SOK l a):(shapesE l a).2≠0:=by
 rcases SOK.cases l a with q|q|q|q|⟨i,e,f,m,h1,h2,h3⟩
 ·exact absurd q h
 ·have e:shapesE l a=(-1,5):=by unfold shapesE;exact i_ q
  rw[e];decide
 ·unfold shapesE
  by_cases c1:¬ 0<elems a.h a.x a.c
  ·rw[i_ c1];dsimp only;decide
  ·rw[j_ c1,i_ q];dsimp only;decide
 ·unfold shapesE
  by_cases c1:¬ 0<elems a.h a.x a.c
  ·rw[i_ c1];dsimp only;decide
  ·rw[j_ c1,j_ (by omega),i_ q];dsimp only;decide
 ·rw[shapesE_at i e f h1 h2 h3];exact h2
theorem grow_ok {l:List Nod} {a:Shp} (i:a.Ok) (k:Nat):∀ s∈growL nextE l a k,s.Ok :=
 growL_all (n:=k) i (fun j _ _=>(nextE_told _ _).ok) k (AX_ _)
noncomputable def shapes_ly_I (l:List Nod) (a:Shp) (k:Nat):VS:=stt 51 [(0,.sl 19 (l.map nodC)),(7,.own 900),(26,.sl 19 (l.map nodC)),(27,i64 l.length),(28,i64 k)] [(900,.slc 23 3 ((growL nextE l a k).map shpC))]
noncomputable def shapes_ly_Z (l:List Nod) (a:Shp):VS:=shapes_ly_I l a (l.length)
theorem shapes_ly_s (l:List Nod) (a:Shp) (okl:∀ n∈l,n.Ok) (wl:∀ n∈l,n.w.length≤100000∧n.b.length≤100000) (i:a.Ok) (f8:l.length≤8) (h:∀ k,k<l.length→errL nextE l a k=0) (k:Nat) (hk:k<l.length):VT L_ (fnC Tryz.f89 [1,1,1,0,1,0,0]) (shapes_ly_I l a k) .normal (shapes_ly_I l a (k+1)):=by
 have q:=h k hk
 have q1:=growL_len nextE l a k
 have q2:=grow_ok (l:=l) i k
 have q3:=getD_in okl hk
 have q4:=getD_in wl hk
 obtain ⟨q5,q6⟩:=q4
 unfold errL at q
 have oz2:=(map_at (nodC) (default) (l:=l) (i:=k) hk)
 have oz3:=@next_v (l.getD k default) (growL nextE l a k) q3 q2 (by omega) q5 q6
 exact tR_ [r_,b_,.r [] [.row (sO oz2)],.r [] [cr oz3],r_,d_,r_,.r [] [.n ((↑k:Int)+1)]] [.any (rg [(8,4),(29,12),(43,5)]),.drop [9,10,45],.ren 46 900,.weak 28 (i64 (↑(k+1):Int)),.blk 900 (Blk.slc 23 3 (K_ shpC (growL nextE l a (k+1)))),.sort] (.c8 (decide_eq_true (p:=((↑k:Int)<(l.length:Int))) (by omega)) (s_ (0≤(↑k:Int))) oz2 oz3 (show ((nextE (l.getD k default) (growL nextE l a k)).snd != 0)=false by (simp at *;omega)) (show ((K_ shpC (growL nextE l a k)).length+1)*24≤140737488355328 by (simp;omega)) (show (K_ shpC (growL nextE l a k)).length+1≤9223372036854775807 by (simp;omega)) (i6n ((↑k:Int)+1) (by omega))<|.d2 (wS_ k) (show BlkW (Blk.slc 23 3 (K_ shpC (growL nextE l a k)++[[i64 (nextE (l.getD k default) (growL nextE l a k)).fst.h,i64 (nextE (l.getD k default) (growL nextE l a k)).fst.x,i64 (nextE (l.getD k default) (growL nextE l a k)).fst.c]])) (Blk.slc 23 3 (K_ shpC (growL nextE l a (k+1)))) from (BU_ (e:=23) (z:=3) (rows_to (shpC) (r:=K_ shpC (growL nextE l a k)++[[i64 (nextE (l.getD k default) (growL nextE l a k)).fst.h,i64 (nextE (l.getD k default) (growL nextE l a k)).fst.x,i64 (nextE (l.getD k default) (growL nextE l a k)).fst.c]]) (l:=growL nextE l a k++[Shp.mk (nextE (l.getD k default) (growL nextE l a k)).fst.h (nextE (l.getD k default) (growL nextE l a k)).fst.x (nextE (l.getD k default) (growL nextE l a k)).fst.c]) (m:=growL nextE l a (k+1)) (by first|(simp only[B_,C_,AO_,AP_,W_,AK_,AL_];done)|rfl|(simp only[B_,C_,AO_,AP_,W_,AK_,AL_];rfl)|(simp only[B_,C_,AO_,AP_,W_,AK_,AL_,shpC,ints];done)) (show (growL nextE l a k++[Shp.mk (nextE (l.getD k default) (growL nextE l a k)).fst.h (nextE (l.getD k default) (growL nextE l a k)).fst.x (nextE (l.getD k default) (growL nextE l a k)).fst.c])=(growL nextE l a (k+1)) from (by rfl))))))
theorem shapes_ly_e (l:List Nod) (a:Shp) (okl:∀ n∈l,n.Ok) (wl:∀ n∈l,n.w.length≤100000∧n.b.length≤100000) (i:a.Ok) (f8:l.length≤8) (h:∀ k,k<l.length→errL nextE l a k=0):VT L_ (fnC Tryz.f89 [1,1,1,0,1,0,0]) (shapes_ly_I l a (l.length)) (.exit 1) (shapes_ly_Z l a):=by
 exact tR_ [r_,d_] [.any [29],.sort] (.d (decide_eq_false (p:=((l.length:Int)<(l.length:Int))) (by omega)))
theorem shapes_ly (l:List Nod) (a:Shp) (okl:∀ n∈l,n.Ok) (wl:∀ n∈l,n.w.length≤100000∧n.b.length≤100000) (i:a.Ok) (f8:l.length≤8) (h:∀ k,k<l.length→errL nextE l a k=0):VT L_ (fnC Tryz.f89 [1,1,1,0,1,0]) (shapes_ly_I l a 0) (.exit 1) (shapes_ly_Z l a) :=
 VT.loop (fun k=>shapes_ly_I l a k) (l.length) (fun k hk=>shapes_ly_s l a okl wl i f8 h k hk) (shapes_ly_e l a okl wl i f8 h) (by intro h;cases h)
noncomputable def shapes_ln_I (l:List Nod) (a:Shp) (m:Nat) (k:Nat):VS:=stt 51 [(0,.sl 19 (l.map nodC)),(7,.own 900),(26,.sl 19 (l.map nodC)),(27,i64 l.length),(28,i64 k)] [(900,.slc 23 3 ((growL nextE l a k).map shpC))]
noncomputable def shapes_ln_Z (l:List Nod) (a:Shp) (m:Nat):VS:=stt 51 [(4,nilv),(5,i64 m),(6,i64 (errL nextE l a m))] []
theorem shapes_ln_s (l:List Nod) (a:Shp) (m:Nat) (okl:∀ n∈l,n.Ok) (wl:∀ n∈l,n.w.length≤100000∧n.b.length≤100000) (i:a.Ok) (f8:l.length≤8) (hm:m<l.length) (hf:errL nextE l a m≠0) (h:∀ k,k<m→errL nextE l a k=0) (k:Nat) (hk:k<m):VT L_ (fnC Tryz.f89 [1,1,1,0,1,0,0]) (shapes_ln_I l a m k) .normal (shapes_ln_I l a m (k+1)):=by
 have q:=h k hk
 have q1:=growL_len nextE l a k
 have q2:=grow_ok (l:=l) i k
 have q3:=getD_in okl (s_ (k<l.length))
 have q4:=getD_in wl (s_ (k<l.length))
 obtain ⟨q5,q6⟩:=q4
 unfold errL at q
 have oz2:=(map_at (nodC) (default) (l:=l) (i:=k) (by omega))
 have oz3:=@next_v (l.getD k default) (growL nextE l a k) q3 q2 (by omega) q5 q6
 exact tR_ [r_,b_,.r [] [.row (sO oz2)],.r [] [cr oz3],r_,d_,r_,.r [] [.n ((↑k:Int)+1)]] [.any (rg [(8,4),(29,12),(43,5)]),.drop [9,10,45],.ren 46 900,.weak 28 (i64 (↑(k+1):Int)),.blk 900 (Blk.slc 23 3 (K_ shpC (growL nextE l a (k+1)))),.sort] (.c8 (decide_eq_true (p:=((↑k:Int)<(l.length:Int))) (by omega)) (s_ (0≤(↑k:Int))) oz2 oz3 (show ((nextE (l.getD k default) (growL nextE l a k)).snd != 0)=false by (simp at *;omega)) (show ((K_ shpC (growL nextE l a k)).length+1)*24≤140737488355328 by (simp;omega)) (show (K_ shpC (growL nextE l a k)).length+1≤9223372036854775807 by (simp;omega)) (i6n ((↑k:Int)+1) (by omega))<|.d2 (wS_ k) (show BlkW (Blk.slc 23 3 (K_ shpC (growL nextE l a k)++[[i64 (nextE (l.getD k default) (growL nextE l a k)).fst.h,i64 (nextE (l.getD k default) (growL nextE l a k)).fst.x,i64 (nextE (l.getD k default) (growL nextE l a k)).fst.c]])) (Blk.slc 23 3 (K_ shpC (growL nextE l a (k+1)))) from (BU_ (e:=23) (z:=3) (rows_to (shpC) (r:=K_ shpC (growL nextE l a k)++[[i64 (nextE (l.getD k default) (growL nextE l a k)).fst.h,i64 (nextE (l.getD k default) (growL nextE l a k)).fst.x,i64 (nextE (l.getD k default) (growL nextE l a k)).fst.c]]) (l:=growL nextE l a k++[Shp.mk (nextE (l.getD k default) (growL nextE l a k)).fst.h (nextE (l.getD k default) (growL nextE l a k)).fst.x (nextE (l.getD k default) (growL nextE l a k)).fst.c]) (m:=growL nextE l a (k+1)) (by first|(simp only[B_,C_,AO_,AP_,W_,AK_,AL_];done)|rfl|(simp only[B_,C_,AO_,AP_,W_,AK_,AL_];rfl)|(simp only[B_,C_,AO_,AP_,W_,AK_,AL_,shpC,ints];done)) (show (growL nextE l a k++[Shp.mk (nextE (l.getD k default) (growL nextE l a k)).fst.h (nextE (l.getD k default) (growL nextE l a k)).fst.x (nextE (l.getD k default) (growL nextE l a k)).fst.c])=(growL nextE l a (k+1)) from (by rfl))))))
theorem shapes_ln_e (l:List Nod) (a:Shp) (m:Nat) (okl:∀ n∈l,n.Ok) (wl:∀ n∈l,n.w.length≤100000∧n.b.length≤100000) (i:a.Ok) (f8:l.length≤8) (hm:m<l.length) (hf:errL nextE l a m≠0) (h:∀ k,k<m→errL nextE l a k=0):VT L_ (fnC Tryz.f89 [1,1,1,0,1,0,0]) (shapes_ln_I l a m (m)) (.ret) (shapes_ln_Z l a m):=by
 have q1:=growL_len nextE l a m
 have q2:=grow_ok (l:=l) i m
 have q3:=getD_in okl hm
 have q4:=getD_in wl hm
 obtain ⟨q5,q6⟩:=q4
 unfold errL at hf
 have oz2:=(map_at (nodC) (default) (l:=l) (i:=m) hm)
 have oz3:=@next_v (l.getD m default) (growL nextE l a m) q3 q2 (by omega) q5 q6
 have oz5:=(Q_ (k:=.i64) (show (((nextE (l.getD m default) (growL nextE l a m)).snd):Int)=(errL nextE l a m) from (by rfl)))
 exact tR_ [r_,b_,.r [] [.row (sO oz2)],.r [] [cr oz3],r_,b_,r_] [.any (rg [(0,1),(7,5),(26,17)]),.drop [900,9,10],.weak 6 (wO oz5),.sort] (.d6 (decide_eq_true (p:=((↑m:Int)<(l.length:Int))) (by omega)) (s_ (0≤(↑m:Int))) oz2 oz3 (show ((nextE (l.getD m default) (growL nextE l a m)).snd != 0)=true by (simp at *;omega)) oz5)
theorem shapes_ln (l:List Nod) (a:Shp) (m:Nat) (okl:∀ n∈l,n.Ok) (wl:∀ n∈l,n.w.length≤100000∧n.b.length≤100000) (i:a.Ok) (f8:l.length≤8) (hm:m<l.length) (hf:errL nextE l a m≠0) (h:∀ k,k<m→errL nextE l a k=0):VT L_ (fnC Tryz.f89 [1,1,1,0,1,0]) (shapes_ln_I l a m 0) (.ret) (shapes_ln_Z l a m) :=
 VT.loop (fun k=>shapes_ln_I l a m k) (m) (fun k hk=>shapes_ln_s l a m okl wl i f8 hm hf h k hk) (shapes_ln_e l a m okl wl i f8 hm hf h) (by intro h;cases h)
theorem shapes_y (l:List Nod) (a:Shp) (okl:∀ n∈l,n.Ok) (wl:∀ n∈l,n.w.length≤100000∧n.b.length≤100000) (h:SOK l a):VC L_ 89 ([.sl 19 (l.map nodC),shp a]) (.tup [.sl 3 ((growL nextE l a l.length).map shpC),i64 l.length,i64 0]):=by
 have q1:=h.i
 have q2:=h.e
 have q3:=h.f
 have q4:=h.k
 have q5:=q1.ok
 unfold Shp.Rt at q1
 have oz0:=@sRight_v (a) q5
 have oz6:=@shapes_ly (l) (a) okl wl q5 q3 q4
 exact (cR_ [r_,.r [] [cr oz0],d_,r_,d_,r_,d_,r_,r_,.code [.any (rg [(1,1),(3,4),(12,14)]),.drop [3],.ren 25 900,.weak 27 (i64 (l.length:Int)),.weak 28 (i64 (↑0:Int)),.sort] (BO_ 1) (zO oz6),r_] (AV.tup [AV.sl 3 (K_ shpC (growL nextE l a l.length)),i64 ((K_ nodC l).length:Int),i64 0]) Tryz.func89 (.d7 oz0 (show (!decide (0<elems a.h a.x a.c))=false by (simp;omega)) (show (((K_ nodC l).length:Int)==0)=false by (simp only[E_,F_,I_,J_,ne_eq,H_,G_,A_,X_,CV_,BZ_,BB_,Classical.not_not,DR_,Int.not_le,N_,T_,D_,U_,AN_,BY_,BC_,BP_,CM_,BA_,eqNums,R_,P_,AE_,CQ_,DP_,BJ_,BS_,BK_,CG_,AJ_,BX_,CC_];(first|done|with_reducible assumption|omega|contradiction))) (show decide (((K_ nodC l).length:Int)>8)=false by (simp;omega)) (Q_ (k:=.i64) (show ((((K_ nodC l).length:Int)):Int)=((l.length:Int)) from (by (simp;done)))) w0_ oz6)).weak (AM_ _) (AI_ (.cons (.refl _) (.cons (Q_ (by (simp;done))) (.cons (.refl _) .nil))))
theorem shapes_a (l:List Nod) (a:Shp) (i:a.Ok) (hl:l.length≤1000) (h:¬ 0<elems a.h a.x a.c∨l.length=0∨8<l.length):VC L_ 89 ([.sl 19 (l.map nodC),shp a]) (.tup [nilv,i64 (shapesE l a).1,i64 (shapesE l a).2]):=by
 have q:=elems_in a.h a.x a.c
 have oz0:=@sRight_v (a) i
 rcases bft (!decide (0<elems a.h a.x a.c)) with hc0|hc0
 ·have gc0:=bnt hc0
  exact (cR_ [r_,.r [] [cr oz0],b_,r_] (AV.tup [AV.lit (AQ_ none 0 0),i64 (-1),i64 5]) Tryz.func89 (.d2 oz0 hc0)).weak (AM_ _) (AI_ (.cons (.refl _) (.cons (Q_ (by (unfold shapesE;(try simp only[R_] at *);(repeat first|rw[i_ (by omega)]|rw[j_ (by omega)])))) (.cons (Q_ (by (unfold shapesE;(try simp only[R_] at *);(repeat first|rw[i_ (by omega)]|rw[j_ (by omega)])))) .nil))))
 ·have gc0:=bnf hc0
  rcases bft (((K_ nodC l).length:Int)==0) with hc1|hc1
  ·have gc1:((K_ nodC l).length:Int)=0:=bet hc1
   exact (cR_ [r_,.r [] [cr oz0],d_,r_,b_,r_] (AV.tup [AV.lit (AQ_ none 0 0),i64 (-1),i64 12]) Tryz.func89 (.d3 oz0 hc0 hc1)).weak (AM_ _) (AI_ (.cons (.refl _) (.cons (Q_ (by (unfold shapesE;(try simp only[R_] at *);(repeat first|rw[i_ (by omega)]|rw[j_ (by omega)])))) (.cons (Q_ (by (unfold shapesE;(try simp only[R_] at *);(repeat first|rw[i_ (by omega)]|rw[j_ (by omega)])))) .nil))))
  ·have gc1:¬((K_ nodC l).length:Int)=0:=bef hc1
   exact (cR_ [r_,.r [] [cr oz0],d_,r_,d_,r_,b_,r_] (AV.tup [AV.lit (AQ_ none 0 0),i64 (-1),i64 4]) Tryz.func89 (.d4 oz0 hc0 hc1 (show decide (((K_ nodC l).length:Int)>8)=true by (simp only[E_,F_,I_,J_,ne_eq,H_,G_,A_,X_,CV_,BZ_,BB_,Classical.not_not,DR_,Int.not_le,N_,T_,D_,U_,AN_,BY_,BC_,BP_,CM_,BA_,eqNums,R_,P_,AE_,CQ_,DP_,BJ_,BS_,BK_,CG_,AJ_,BX_,CC_] at *;(first|done|with_reducible assumption|omega|contradiction))))).weak (AM_ _) (AI_ (.cons (.refl _) (.cons (Q_ (by (unfold shapesE;(try simp only[R_] at *);(repeat first|rw[i_ (by omega)]|rw[j_ (by omega)])))) (.cons (Q_ (by (unfold shapesE;(try simp only[R_] at *);(repeat first|rw[i_ (by omega)]|rw[j_ (by omega)])))) .nil))))
theorem shapes_m (l:List Nod) (a:Shp) (m:Nat) (okl:∀ n∈l,n.Ok) (wl:∀ n∈l,n.w.length≤100000∧n.b.length≤100000) (i:0<elems a.h a.x a.c) (f8:l.length≤8) (hm:m<l.length) (hf:errL nextE l a m≠0) (h:∀ k,k<m→errL nextE l a k=0):VC L_ 89 ([.sl 19 (l.map nodC),shp a]) (.tup [nilv,i64 m,i64 (errL nextE l a m)]):=by
 have q:=Shp.Rt.ok i
 have oz0:=@sRight_v (a) q
 have oz6:=@shapes_ln (l) (a) (m) okl wl q f8 hm hf h
 exact cR_ [r_,.r [] [cr oz0],d_,r_,d_,r_,d_,r_,r_,.code [.any (rg [(1,1),(3,4),(12,14)]),.drop [3],.ren 25 900,.weak 27 (i64 (l.length:Int)),.weak 28 (i64 (↑0:Int)),.sort] (Exit.ret) (zO oz6)] _ Tryz.func89 (.d7 oz0 (show (!decide (0<elems a.h a.x a.c))=false by (simp;omega)) (show (((K_ nodC l).length:Int)==0)=false by (simp only[E_,F_,I_,J_,ne_eq,H_,G_,A_,X_,CV_,BZ_,BB_,Classical.not_not,DR_,Int.not_le,N_,T_,D_,U_,AN_,BY_,BC_,BP_,CM_,BA_,eqNums,R_,P_,AE_,CQ_,DP_,BJ_,BS_,BK_,CG_,AJ_,BX_,CC_];(first|done|with_reducible assumption|omega|contradiction))) (show decide (((K_ nodC l).length:Int)>8)=false by (simp;omega)) (Q_ (k:=.i64) (show ((((K_ nodC l).length:Int)):Int)=((l.length:Int)) from (by (simp;done)))) w0_ oz6)
theorem shapes_n (l:List Nod) (a:Shp) (okl:∀ n∈l,n.Ok) (wl:∀ n∈l,n.w.length≤100000∧n.b.length≤100000) (i:a.Ok) (hl:l.length≤1000) (h:¬ SOK l a):VC L_ 89 [.sl 19 (l.map nodC),shp a] (.tup [nilv,i64 (shapesE l a).1,i64 (shapesE l a).2]):=by
 rcases SOK.cases l a with q|q|q|q|⟨i',e,f,m,h1,h2,h3⟩
 ·exact absurd q h
 ·exact shapes_a l a i hl (.inl q)
 ·exact shapes_a l a i hl (.inr (.inl q))
 ·exact shapes_a l a i hl (.inr (.inr q))
 ·rw[shapesE_at i' e f h1 h2 h3];exact shapes_m l a m okl wl i' f h1 h2 h3
abbrev shpsL (l:List Nod) (a:Shp):List Shp:=growL nextE l a l.length
def lastS (l:List Nod) (a:Shp):Shp:=(shpsL l a).getD l.length default
theorem shpsL_len (l:List Nod) (a:Shp):(shpsL l a).length=l.length+1:=growL_len nextE l a l.length
theorem lastS_ok {l:List Nod} {a:Shp} (h:a.Ok):(lastS l a).Ok:=getD_in (grow_ok (l:=l) h l.length) (show l.length<(shpsL l a).length by rw[shpsL_len];omega)
theorem lastS_i {l:List Nod} {a:Shp} {i:Nat} (hi:i=l.length):(growL nextE l a l.length).getD i default=lastS l a:=by subst hi;rfl
structure Blc where
 n:List Nod
 ex:Bool
 w:List Int
 b:List Int
 nd:Int
abbrev blcC (x:Blc):List AV:=[.sl 19 (x.n.map nodC),bv x.ex,ints .i8 x.w,ints .i32 x.b,i32 x.nd]
structure Blc.Ok (x:Blc):Prop where
 n:∀ d∈x.n,Nod.Ok d
 w:∀ v∈x.w,In8 v
 b:∀ v∈x.b,In32 v
 nd:In32 x.nd
instance:Inhabited Blc:=⟨⟨[],false,[],[],0⟩⟩
structure Mdl where
 l:List Blc
abbrev mdlC (m:Mdl):List AV:=[.sl 5 (m.l.map blcC)]
structure Mdl.Ok (m:Mdl):Prop where
 l:∀ d∈m.l,Blc.Ok d
instance:Inhabited Mdl:=⟨⟨[]⟩⟩
structure Bun where
 h:Int
 x:Int
 c:Int
 cl:Int
 m:List Mdl
abbrev bunC (u:Bun):List AV:=[i64 u.h,i64 u.x,i64 u.c,i64 u.cl,.sl 1 (u.m.map mdlC)]
structure Bun.Ok (u:Bun):Prop where
 h:In64 u.h
 x:In64 u.x
 c:In64 u.c
 cl:In64 u.cl
 m:∀ d∈u.m,Mdl.Ok d
abbrev Bun.inp (u:Bun):Shp:=⟨u.h,u.x,u.c⟩
abbrev blc (x:Blc):AV:=.agg (blcC x)
abbrev bun (u:Bun):AV:=.agg (bunC u)
def blcS (x:Blc):Bool:=fewB x.n 0&&decide (x.w.length≤4000)&&decide (x.b.length≤100)
def mdlS (m:Mdl):Bool:=decide (m.l.length≤8)&&m.l.all blcS
def bunS (u:Bun):Bool:=decide (u.m.length≤4)&&u.m.all mdlS
theorem blcS_iff {x:Blc}:blcS x=true↔fewB x.n 0=true∧x.w.length≤4000∧x.b.length≤100:=by
 simp only[blcS,N_,E_,and_assoc]
theorem mdlS_iff {m:Mdl}:mdlS m=true↔m.l.length≤8∧∀ k,k<m.l.length→blcS (m.l.getD k default)=true:=by
 simp only[mdlS,N_,E_,all_getD]
noncomputable def few31_iy_I (u:Bun) (K:Int) (l:List Blc) (k:Nat):VS:=stt 60 [(1,.ptr 1 0 0),(3,i64 K),(4,.sl 5 (l.map blcC)),(5,i64 k)] [(1,.var (bunC u))]
noncomputable def few31_iy_Z (u:Bun) (K:Int) (l:List Blc):VS:=few31_iy_I u K l (l.length)
theorem few31_iy_s (u:Bun) (K:Int) (l:List Blc) (hl:l.length≤8) (h:∀ k,k<l.length→blcS (l.getD k default)=true) (k:Nat) (hk:k<l.length):VT L_ (fnC Tryz.f7 [1,1,0,1,0,0,1,0,0,1,1,1,0,0]) (few31_iy_I u K l k) .normal (few31_iy_I u K l (k+1)):=by
 have q:=blcS_iff.1 (h k hk)
 obtain ⟨q1,q2,q3⟩:=q
 have oz1:=(s_ (0≤(↑k:Int)))
 have oz2:=(map_at (blcC) (default) (l:=l) (i:=k) hk)
 have oz4:=@few_0 ((l.getD k default).n)
 exact tR_ [r_,b_,.r [] [.row (sO oz2),ca oz4,o_,o_,o_,.row (sO oz2),o_,o_,o_,o_,o_,.sel 1,o_,o_,o_,.row (sO oz2),o_,o_,o_,o_,o_,.sel 1],d_,.r [] [.n ((↑k:Int)+1)]] [.any (rg [(26,15),(49,2),(59,1)]),.weak 5 (i64 (↑(k+1):Int)),.sort] (.c8 (show decide ((↑k:Int)<((K_ blcC l).length:Int))=true by (simp;omega)) oz1 oz2 (show WeakL [AV.sl 19 (K_ nodC (l.getD k default).n),AV.agg [i64 0,i64 0,i64 0,AV.lit (AQ_ none 0 0)]] [AV.sl 19 (K_ nodC (l.getD k default).n),AV.agg [i64 0,i64 0,i64 0,AV.sl 1 []]] from (.cons (.refl _) (.cons (BL_ (.cons (.refl _) (.cons (.refl _) (.cons (.refl _) (.cons (AG_ _) .nil))))) .nil))) oz4 oz1 oz2 oz1<|.d4 oz2 (show (!fewB (l.getD k default).n 0 || decide (((K_ (row1 .i8) (l.getD k default).w).length:Int)>4000) || decide (((K_ (row1 .i32) (l.getD k default).b).length:Int)>100))=false by (rw[q1];simp only[BZ_,BA_,U_,F_,R_];omega)) (i6n ((↑k:Int)+1) (by omega)) (wS_ k))
theorem few31_iy_e (u:Bun) (K:Int) (l:List Blc) (hl:l.length≤8) (h:∀ k,k<l.length→blcS (l.getD k default)=true):VT L_ (fnC Tryz.f7 [1,1,0,1,0,0,1,0,0,1,1,1,0,0]) (few31_iy_I u K l (l.length)) (.exit 2) (few31_iy_Z u K l):=by
 exact tR_ [r_,d_] [.any (rg [(26,4)]),.sort] (.d (show decide ((l.length:Int)<((K_ blcC l).length:Int))=false by (simp;done)))
theorem few31_iy (u:Bun) (K:Int) (l:List Blc) (hl:l.length≤8) (h:∀ k,k<l.length→blcS (l.getD k default)=true):VT L_ (fnC Tryz.f7 [1,1,0,1,0,0,1,0,0,1,1,1,0]) (few31_iy_I u K l 0) (.exit 2) (few31_iy_Z u K l) :=
 VT.loop (fun k=>few31_iy_I u K l k) (l.length) (fun k hk=>few31_iy_s u K l hl h k hk) (few31_iy_e u K l hl h) (by intro h;cases h)
noncomputable def few31_in_I (u:Bun) (K:Int) (l:List Blc) (m:Nat) (k:Nat):VS:=stt 60 [(1,.ptr 1 0 0),(3,i64 K),(4,.sl 5 (l.map blcC)),(5,i64 k)] [(1,.var (bunC u))]
noncomputable def few31_in_Z (u:Bun) (K:Int) (l:List Blc) (m:Nat):VS:=stt 60 [(2,bv false)] []
theorem few31_in_s (u:Bun) (K:Int) (l:List Blc) (m:Nat) (hl:l.length≤8) (hm:m<l.length) (hf:blcS (l.getD m default)=false) (h:∀ k,k<m→blcS (l.getD k default)=true) (k:Nat) (hk:k<m):VT L_ (fnC Tryz.f7 [1,1,0,1,0,0,1,0,0,1,1,1,0,0]) (few31_in_I u K l m k) .normal (few31_in_I u K l m (k+1)):=by
 have q:=blcS_iff.1 (h k hk)
 obtain ⟨q1,q2,q3⟩:=q
 have oz1:=(s_ (0≤(↑k:Int)))
 have oz2:=(map_at (blcC) (default) (l:=l) (i:=k) (by omega))
 have oz4:=@few_0 ((l.getD k default).n)
 exact tR_ [r_,b_,.r [] [.row (sO oz2),ca oz4,o_,o_,o_,.row (sO oz2),o_,o_,o_,o_,o_,.sel 1,o_,o_,o_,.row (sO oz2),o_,o_,o_,o_,o_,.sel 1],d_,.r [] [.n ((↑k:Int)+1)]] [.any (rg [(26,15),(49,2),(59,1)]),.weak 5 (i64 (↑(k+1):Int)),.sort] (.c8 (show decide ((↑k:Int)<((K_ blcC l).length:Int))=true by (simp;omega)) oz1 oz2 (show WeakL [AV.sl 19 (K_ nodC (l.getD k default).n),AV.agg [i64 0,i64 0,i64 0,AV.lit (AQ_ none 0 0)]] [AV.sl 19 (K_ nodC (l.getD k default).n),AV.agg [i64 0,i64 0,i64 0,AV.sl 1 []]] from (.cons (.refl _) (.cons (BL_ (.cons (.refl _) (.cons (.refl _) (.cons (.refl _) (.cons (AG_ _) .nil))))) .nil))) oz4 oz1 oz2 oz1<|.d4 oz2 (show (!fewB (l.getD k default).n 0 || decide (((K_ (row1 .i8) (l.getD k default).w).length:Int)>4000) || decide (((K_ (row1 .i32) (l.getD k default).b).length:Int)>100))=false by (rw[q1];simp only[BZ_,BA_,U_,F_,R_];omega)) (i6n ((↑k:Int)+1) (by omega)) (wS_ k))
theorem few31_in_e (u:Bun) (K:Int) (l:List Blc) (m:Nat) (hl:l.length≤8) (hm:m<l.length) (hf:blcS (l.getD m default)=false) (h:∀ k,k<m→blcS (l.getD k default)=true):VT L_ (fnC Tryz.f7 [1,1,0,1,0,0,1,0,0,1,1,1,0,0]) (few31_in_I u K l m (m)) (.ret) (few31_in_Z u K l m):=by
 have q0:fewB (l.getD m default).n 0=true→¬ ((l.getD m default).w.length≤4000∧(l.getD m default).b.length≤100):=fun c d=>by rw[blcS_iff.2 ⟨c,d⟩] at hf;cases hf
 have oz1:=(s_ (0≤(↑m:Int)))
 have oz2:=(map_at (blcC) (default) (l:=l) (i:=m) hm)
 have oz4:=@few_0 ((l.getD m default).n)
 exact tR_ [r_,b_,.r [] [.row (sO oz2),ca oz4,o_,o_,o_,.row (sO oz2),o_,o_,o_,o_,o_,.sel 1,o_,o_,o_,.row (sO oz2),o_,o_,o_,o_,o_,.sel 1],b_,r_] [.any (rg [(1,1),(3,3),(26,4),(32,9),(49,2),(59,1)]),.drop [1],.sort] (.c8 (show decide ((↑m:Int)<((K_ blcC l).length:Int))=true by (simp;omega)) oz1 oz2 (show WeakL [AV.sl 19 (K_ nodC (l.getD m default).n),AV.agg [i64 0,i64 0,i64 0,AV.lit (AQ_ none 0 0)]] [AV.sl 19 (K_ nodC (l.getD m default).n),AV.agg [i64 0,i64 0,i64 0,AV.sl 1 []]] from (.cons (.refl _) (.cons (BL_ (.cons (.refl _) (.cons (.refl _) (.cons (.refl _) (.cons (AG_ _) .nil))))) .nil))) oz4 oz1 oz2 oz1<|.d2 oz2 (show (!fewB (l.getD m default).n 0 || decide (((K_ (row1 .i8) (l.getD m default).w).length:Int)>4000) || decide (((K_ (row1 .i32) (l.getD m default).b).length:Int)>100))=true by (cases ef:fewB (l.getD m default).n 0 with|false=>rfl|true=>(have q9:=q0 ef;simp only[BZ_,BA_,D_,E_,R_];omega))))
theorem few31_in (u:Bun) (K:Int) (l:List Blc) (m:Nat) (hl:l.length≤8) (hm:m<l.length) (hf:blcS (l.getD m default)=false) (h:∀ k,k<m→blcS (l.getD k default)=true):VT L_ (fnC Tryz.f7 [1,1,0,1,0,0,1,0,0,1,1,1,0]) (few31_in_I u K l m 0) (.ret) (few31_in_Z u K l m) :=
 VT.loop (fun k=>few31_in_I u K l m k) (m) (fun k hk=>few31_in_s u K l m hl hm hf h k hk) (few31_in_e u K l m hl hm hf h) (by intro h;cases h)
noncomputable def few31_oy_I (u:Bun) (k:Nat):VS:=stt 60 [(1,.ptr 1 0 0),(3,i64 k)] [(1,.var (bunC u))]
noncomputable def few31_oy_Z (u:Bun):VS:=few31_oy_I u (u.m.length)
theorem few31_oy_s (u:Bun) (hl:u.m.length≤4) (h:∀ k,k<u.m.length→mdlS (u.m.getD k default)=true) (k:Nat) (hk:k<u.m.length):VT L_ (fnC Tryz.f7 [1,1,0,1,0,0]) (few31_oy_I u k) .normal (few31_oy_I u (k+1)):=by
 have q:=mdlS_iff.1 (h k hk)
 obtain ⟨q1,q2⟩:=q
 have oz2:=(map_at (mdlC) (default) (l:=u.m) (i:=k) hk)
 have oz5:=@few31_iy (u) ((↑k:Int)) ((u.m.getD k default).l) q1 q2
 exact tR_ [r_,b_,.r [] [.row (sO oz2)],r_,d_,r_,.code [.any (rg [(10,5),(17,9)]),.weak 5 (i64 (↑0:Int)),.sort] (BO_ 2) (zO oz5),.r [] [.n ((↑k:Int)+1)]] [.any [4,5,15,16],.weak 3 (i64 (↑(k+1):Int)),.sort] (.d8 (show decide ((↑k:Int)<((K_ mdlC u.m).length:Int))=true by (simp;omega)) (s_ (0≤(↑k:Int))) oz2 (show decide (((K_ blcC (u.m.getD k default).l).length:Int)>8)=false by (simp at *;omega)) w0_ oz5 (i6n ((↑k:Int)+1) (by omega)) (wS_ k))
theorem few31_oy_e (u:Bun) (hl:u.m.length≤4) (h:∀ k,k<u.m.length→mdlS (u.m.getD k default)=true):VT L_ (fnC Tryz.f7 [1,1,0,1,0,0]) (few31_oy_I u (u.m.length)) (.exit 0) (few31_oy_Z u):=by
 exact tR_ [r_,d_] [.any (rg [(10,5)]),.sort] (.d (show decide ((u.m.length:Int)<((K_ mdlC u.m).length:Int))=false by (simp;done)))
theorem few31_oy (u:Bun) (hl:u.m.length≤4) (h:∀ k,k<u.m.length→mdlS (u.m.getD k default)=true):VT L_ (fnC Tryz.f7 [1,1,0,1,0]) (few31_oy_I u 0) (.exit 0) (few31_oy_Z u) :=
 VT.loop (fun k=>few31_oy_I u k) (u.m.length) (fun k hk=>few31_oy_s u hl h k hk) (few31_oy_e u hl h) (by intro h;cases h)
noncomputable def few31_oa_I (u:Bun) (m:Nat) (k:Nat):VS:=stt 60 [(1,.ptr 1 0 0),(3,i64 k)] [(1,.var (bunC u))]
noncomputable def few31_oa_Z (u:Bun) (m:Nat):VS:=stt 60 [(2,bv false)] []
theorem few31_oa_s (u:Bun) (m:Nat) (hl:u.m.length≤4) (hm:m<u.m.length) (hf:8<(u.m.getD m default).l.length) (h:∀ k,k<m→mdlS (u.m.getD k default)=true) (k:Nat) (hk:k<m):VT L_ (fnC Tryz.f7 [1,1,0,1,0,0]) (few31_oa_I u m k) .normal (few31_oa_I u m (k+1)):=by
 have q:=mdlS_iff.1 (h k hk)
 obtain ⟨q1,q2⟩:=q
 have oz2:=(map_at (mdlC) (default) (l:=u.m) (i:=k) (by omega))
 have oz5:=@few31_iy (u) ((↑k:Int)) ((u.m.getD k default).l) q1 q2
 exact tR_ [r_,b_,.r [] [.row (sO oz2)],r_,d_,r_,.code [.any (rg [(10,5),(17,9)]),.weak 5 (i64 (↑0:Int)),.sort] (BO_ 2) (zO oz5),.r [] [.n ((↑k:Int)+1)]] [.any [4,5,15,16],.weak 3 (i64 (↑(k+1):Int)),.sort] (.d8 (show decide ((↑k:Int)<((K_ mdlC u.m).length:Int))=true by (simp;omega)) (s_ (0≤(↑k:Int))) oz2 (show decide (((K_ blcC (u.m.getD k default).l).length:Int)>8)=false by (simp at *;omega)) w0_ oz5 (i6n ((↑k:Int)+1) (by omega)) (wS_ k))
theorem few31_oa_e (u:Bun) (m:Nat) (hl:u.m.length≤4) (hm:m<u.m.length) (hf:8<(u.m.getD m default).l.length) (h:∀ k,k<m→mdlS (u.m.getD k default)=true):VT L_ (fnC Tryz.f7 [1,1,0,1,0,0]) (few31_oa_I u m (m)) (.ret) (few31_oa_Z u m):=by
 have oz2:=(map_at (mdlC) (default) (l:=u.m) (i:=m) hm)
 exact tR_ [r_,b_,.r [] [.row (sO oz2)],r_,b_,r_] [.any (rg [(1,1),(3,2),(10,5),(17,9)]),.drop [1],.sort] (.d4 (show decide ((↑m:Int)<((K_ mdlC u.m).length:Int))=true by (simp;omega)) (s_ (0≤(↑m:Int))) oz2 (show decide (((K_ blcC (u.m.getD m default).l).length:Int)>8)=true by (simp at *;omega)))
theorem few31_oa (u:Bun) (m:Nat) (hl:u.m.length≤4) (hm:m<u.m.length) (hf:8<(u.m.getD m default).l.length) (h:∀ k,k<m→mdlS (u.m.getD k default)=true):VT L_ (fnC Tryz.f7 [1,1,0,1,0]) (few31_oa_I u m 0) (.ret) (few31_oa_Z u m) :=
 VT.loop (fun k=>few31_oa_I u m k) (m) (fun k hk=>few31_oa_s u m hl hm hf h k hk) (few31_oa_e u m hl hm hf h) (by intro h;cases h)
noncomputable def few31_ob_I (u:Bun) (m j:Nat) (k:Nat):VS:=stt 60 [(1,.ptr 1 0 0),(3,i64 k)] [(1,.var (bunC u))]
noncomputable def few31_ob_Z (u:Bun) (m j:Nat):VS:=stt 60 [(2,bv false)] []
theorem few31_ob_s (u:Bun) (m j:Nat) (hl:u.m.length≤4) (hm:m<u.m.length) (hs:(u.m.getD m default).l.length≤8) (hj:j<(u.m.getD m default).l.length) (hf:blcS ((u.m.getD m default).l.getD j default)=false) (hb:∀ k,k<j→blcS ((u.m.getD m default).l.getD k default)=true) (h:∀ k,k<m→mdlS (u.m.getD k default)=true) (k:Nat) (hk:k<m):VT L_ (fnC Tryz.f7 [1,1,0,1,0,0]) (few31_ob_I u m j k) .normal (few31_ob_I u m j (k+1)):=by
 have q:=mdlS_iff.1 (h k hk)
 obtain ⟨q1,q2⟩:=q
 have oz2:=(map_at (mdlC) (default) (l:=u.m) (i:=k) (by omega))
 have oz5:=@few31_iy (u) ((↑k:Int)) ((u.m.getD k default).l) q1 q2
 exact tR_ [r_,b_,.r [] [.row (sO oz2)],r_,d_,r_,.code [.any (rg [(10,5),(17,9)]),.weak 5 (i64 (↑0:Int)),.sort] (BO_ 2) (zO oz5),.r [] [.n ((↑k:Int)+1)]] [.any [4,5,15,16],.weak 3 (i64 (↑(k+1):Int)),.sort] (.d8 (show decide ((↑k:Int)<((K_ mdlC u.m).length:Int))=true by (simp;omega)) (s_ (0≤(↑k:Int))) oz2 (show decide (((K_ blcC (u.m.getD k default).l).length:Int)>8)=false by (simp at *;omega)) w0_ oz5 (i6n ((↑k:Int)+1) (by omega)) (wS_ k))
theorem few31_ob_e (u:Bun) (m j:Nat) (hl:u.m.length≤4) (hm:m<u.m.length) (hs:(u.m.getD m default).l.length≤8) (hj:j<(u.m.getD m default).l.length) (hf:blcS ((u.m.getD m default).l.getD j default)=false) (hb:∀ k,k<j→blcS ((u.m.getD m default).l.getD k default)=true) (h:∀ k,k<m→mdlS (u.m.getD k default)=true):VT L_ (fnC Tryz.f7 [1,1,0,1,0,0]) (few31_ob_I u m j (m)) (.ret) (few31_ob_Z u m j):=by
 have oz2:=(map_at (mdlC) (default) (l:=u.m) (i:=m) hm)
 have oz5:=@few31_in (u) ((↑m:Int)) ((u.m.getD m default).l) (j) hs hj hf hb
 exact tR_ [r_,b_,.r [] [.row (sO oz2)],r_,d_,r_,.code [.any (rg [(10,5),(17,9)]),.weak 5 (i64 (↑0:Int)),.sort] (Exit.ret) (zO oz5)] [.sort] (.d6 (show decide ((↑m:Int)<((K_ mdlC u.m).length:Int))=true by (simp;omega)) (s_ (0≤(↑m:Int))) oz2 (show decide (((K_ blcC (u.m.getD m default).l).length:Int)>8)=false by (simp at *;omega)) w0_ oz5)
theorem few31_ob (u:Bun) (m j:Nat) (hl:u.m.length≤4) (hm:m<u.m.length) (hs:(u.m.getD m default).l.length≤8) (hj:j<(u.m.getD m default).l.length) (hf:blcS ((u.m.getD m default).l.getD j default)=false) (hb:∀ k,k<j→blcS ((u.m.getD m default).l.getD k default)=true) (h:∀ k,k<m→mdlS (u.m.getD k default)=true):VT L_ (fnC Tryz.f7 [1,1,0,1,0]) (few31_ob_I u m j 0) (.ret) (few31_ob_Z u m j) :=
 VT.loop (fun k=>few31_ob_I u m j k) (m) (fun k hk=>few31_ob_s u m j hl hm hs hj hf hb h k hk) (few31_ob_e u m j hl hm hs hj hf hb h) (by intro h;cases h)
theorem few31_a (u:Bun) (h:4<u.m.length):VC L_ 7 ([bun u]) (bv false):=by
 exact cR_ [r_,r_,b_,r_] _ Tryz.func7 (.d (show decide (((K_ mdlC u.m).length:Int)>4)=true by (simp;omega)))
theorem few31_y (u:Bun) (hl:u.m.length≤4) (h:∀ k,k<u.m.length→mdlS (u.m.getD k default)=true):VC L_ 7 ([bun u]) (bv true):=by
 have oz2:=@few31_oy (u) hl h
 exact cR_ [r_,r_,d_,r_,.code [.any [0,2,6,7,8,9],.weak 3 (i64 (↑0:Int)),.sort] (BO_ 0) (zO oz2),r_] _ Tryz.func7 (.d3 (show decide (((K_ mdlC u.m).length:Int)>4)=false by (simp;omega)) w0_ oz2)
theorem few31_na (u:Bun) (m:Nat) (hl:u.m.length≤4) (hm:m<u.m.length) (hf:8<(u.m.getD m default).l.length) (h:∀ k,k<m→mdlS (u.m.getD k default)=true):VC L_ 7 ([bun u]) (bv false):=by
 have oz2:=@few31_oa (u) (m) hl hm hf h
 exact cR_ [r_,r_,d_,r_,.code [.any [0,2,6,7,8,9],.weak 3 (i64 (↑0:Int)),.sort] (Exit.ret) (zO oz2)] _ Tryz.func7 (.d3 (show decide (((K_ mdlC u.m).length:Int)>4)=false by (simp;omega)) w0_ oz2)
theorem few31_nb (u:Bun) (m j:Nat) (hl:u.m.length≤4) (hm:m<u.m.length) (hs:(u.m.getD m default).l.length≤8) (hj:j<(u.m.getD m default).l.length) (hf:blcS ((u.m.getD m default).l.getD j default)=false) (hb:∀ k,k<j→blcS ((u.m.getD m default).l.getD k default)=true) (h:∀ k,k<m→mdlS (u.m.getD k default)=true):VC L_ 7 ([bun u]) (bv false):=by
 have oz2:=@few31_ob (u) (m) (j) hl hm hs hj hf hb h
 exact cR_ [r_,r_,d_,r_,.code [.any [0,2,6,7,8,9],.weak 3 (i64 (↑0:Int)),.sort] (Exit.ret) (zO oz2)] _ Tryz.func7 (.d3 (show decide (((K_ mdlC u.m).length:Int)>4)=false by (simp;omega)) w0_ oz2)
theorem few31_v (u:Bun):VC L_ 7 [bun u] (bv (bunS u)):=by
 unfold bunS
 by_cases h1:u.m.length≤4
 ·rw[decide_eq_true h1,BY_]
  rcases all_or (fun k=>mdlS (u.m.getD k default)) u.m.length with h|⟨m,g1,g2,g3⟩
  ·rw[all_getD.2 h];exact few31_y u h1 h
  ·have:u.m.all mdlS=false:=by
    cases e:u.m.all mdlS with
    | false=>rfl
    | true=>have:=all_getD.1 e m g1;exact absurd (this.symm.trans g2) (by simp)
   rw[this]
   by_cases h2:8<(u.m.getD m default).l.length
   ·exact few31_na u m h1 g1 h2 g3
   ·rcases all_or (fun k=>blcS ((u.m.getD m default).l.getD k default)) (u.m.getD m default).l.length with h|⟨j,j1,j2,j3⟩
    ·exfalso
     have:mdlS (u.m.getD m default)=true:=mdlS_iff.2 ⟨by omega,h⟩
     exact absurd (this.symm.trans g2) (by simp)
    ·exact few31_nb u m j h1 g1 (by omega) j1 j2 j3 g3
 ·rw[decide_eq_false h1,BP_];exact few31_a u (by omega)
theorem blc_facts {x:Blc} (h:blcS x=true):x.n.length≤12∧(∀ n∈x.n,n.w.length≤1000∧n.b.length≤100)∧(∀ n∈x.n,n.w.length≤100000∧n.b.length≤100000)∧x.w.length≤4000∧x.b.length≤100:=by
 have h:=blcS_iff.1 h
 exact ⟨(few_facts h.1).1,(few_facts h.1).2.2,few_wide h.1,h.2.1,h.2.2⟩
abbrev fullR:Rng:=⟨-128,127⟩
theorem fullR_in:fullR.In8:=⟨⟨by decide,by decide⟩,⟨by decide,by decide⟩⟩
abbrev rchsL (l:List Nod):List Rng:=growL stepR l fullR l.length
def lastR (l:List Nod):Rng:=(rchsL l).getD l.length default
theorem rchsL_len (l:List Nod):(rchsL l).length=l.length+1:=growL_len stepR l fullR l.length
theorem lastR_in {l:List Nod} (okl:∀ n∈l,n.Ok):(lastR l).In8:=getD_in (flow_in okl fullR_in (AX_ _)) (show l.length<(rchsL l).length by rw[rchsL_len];omega)
theorem lastR_i {l:List Nod} {i:Nat} (hi:i=l.length):(growL stepR l fullR l.length).getD i default=lastR l:=by subst hi;rfl
def verdE (s:Shp) (w b:List Int) (nd cl:Int):Int :=
 if elems s.h s.x s.c=0 then 5 else if cl<2∨16<cl then 2
 else if (w.length:Int)≠cl*elems s.h s.x s.c∨16384<(w.length:Int)∨(b.length:Int)≠cl then 9 else if nd<0 then 11 else 0
theorem clel_bd {cl:Int} (s:Shp) (h:2≤cl∧cl≤16):0≤cl*elems s.h s.x s.c∧cl*elems s.h s.x s.c≤16384:=by
 have h1:=elems_in s.h s.x s.c
 have:=mul_bd (A:=16) (B:=1024) (a:=cl) (by omega) (by omega) h1.1 h1.2
 omega
theorem vcheck_v (s:Shp) (w b:List Int) (nd cl:Int) (ok:s.Ok) (wl:w.length≤100000) (bl:b.length≤100000):VC L_ 155 ([shp s,.agg (hedC w b nd),i64 cl]) (i64 (verdE s w b nd cl)):=by
 obtain ⟨p1,p2,p3⟩:=id ok
 have q1:=elems_in s.h s.x s.c
 have q2:=@clel_bd cl s
 have oz0:=@elems_v (s.h) (s.x) (s.c) p1 p2 p3
 rcases bft (elems s.h s.x s.c==0) with hc0|hc0
 ·have gc0:elems s.h s.x s.c=0:=bet hc0
  exact (cR_ [r_,.r [] [cr oz0],r_,b_,r_] (i64 5) Tryz.func155 (.d2 oz0 hc0)).weak (AM_ _) (Q_ (by (unfold verdE;(try simp only[R_] at *);(repeat first|rw[i_ (by omega)]|rw[j_ (by omega)]))))
 ·have gc0:¬elems s.h s.x s.c=0:=bef hc0
  rcases bft (decide (cl<2) || decide (cl>16)) with hc1|hc1
  ·have gc1:cl<2∨cl>16:=gc0_ hc1
   exact (cR_ [r_,.r [] [cr oz0],r_,d_,.r [] [o_,o_,.sel 1],b_,r_] (i64 2) Tryz.func155 (.d3 oz0 hc0 hc1)).weak (AM_ _) (Q_ (by (unfold verdE;(try simp only[R_] at *);(repeat first|rw[i_ (by omega)]|rw[j_ (by omega)]))))
  ·have gc1:¬cl<2∧¬cl>16:=gc0_ hc1
   have oz3:=(i6n (cl*elems s.h s.x s.c) (by omega))
   rcases bft (((K_ (row1 .i8) w).length:Int) != cl*elems s.h s.x s.c || decide (((K_ (row1 .i8) w).length:Int)>16384) || ((K_ (row1 .i32) b).length:Int) != cl) with hc2|hc2
   ·have gc2:(¬((K_ (row1 .i8) w).length:Int)=cl*elems s.h s.x s.c∨((K_ (row1 .i8) w).length:Int)>16384)∨¬((K_ (row1 .i32) b).length:Int)=cl:=gc0_ hc2
    exact (cR_ [r_,.r [] [cr oz0],r_,d_,.r [] [o_,o_,.sel 1],d_,.r [] [.n (nO oz3),o_,o_,o_,o_,.sel 1,o_,o_,o_,o_,o_,.sel 1],b_,r_] (i64 9) Tryz.func155 (.d5 oz0 hc0 hc1 oz3 hc2)).weak (AM_ _) (Q_ (by (unfold verdE;(try simp only[R_] at *);(repeat first|rw[i_ (by omega)]|rw[j_ (by omega)]))))
   ·have gc2:(((K_ (row1 .i8) w).length:Int)=cl*elems s.h s.x s.c∧¬((K_ (row1 .i8) w).length:Int)>16384)∧((K_ (row1 .i32) b).length:Int)=cl:=gc0_ hc2
    rcases bft (decide (nd<0)) with hc3|hc3
    ·have gc3:=of_decide_eq_true hc3
     exact (cR_ [r_,.r [] [cr oz0],r_,d_,.r [] [o_,o_,.sel 1],d_,.r [] [.n (nO oz3),o_,o_,o_,o_,.sel 1,o_,o_,o_,o_,o_,.sel 1],d_,r_,b_,r_] (i64 11) Tryz.func155 (.d6 oz0 hc0 hc1 oz3 hc2 hc3)).weak (AM_ _) (Q_ (by (unfold verdE;(try simp only[R_] at *);(repeat first|rw[i_ (by omega)]|rw[j_ (by omega)]))))
    ·have gc3:=of_decide_eq_false hc3
     exact (cR_ [r_,.r [] [cr oz0],r_,d_,.r [] [o_,o_,.sel 1],d_,.r [] [.n (nO oz3),o_,o_,o_,o_,.sel 1,o_,o_,o_,o_,o_,.sel 1],d_,r_,d_,r_] (i64 0) Tryz.func155 (.d6 oz0 hc0 hc1 oz3 hc2 hc3)).weak (AM_ _) (Q_ (by (unfold verdE;(try simp only[R_] at *);(repeat first|rw[i_ (by omega)]|rw[j_ (by omega)]))))
theorem bare_v (w b:List Int) (nd:Int) (wl:w.length≤100000) (bl:b.length≤100000):VC L_ 154 ([.agg (hedC w b nd)]) (bv (decide (w.length=0∧b.length=0∧nd=0))):=by
 exact (cR_ [r_,.r [] [o_,o_,o_,o_,.sel 2,o_,o_,o_,.sel 2]] (bv (((K_ (row1 .i8) w).length:Int)==0&&((K_ (row1 .i32) b).length:Int)==0&&nd==0)) Tryz.func154 (.n)).weak (AM_ _) (AF_ (by (rw[Bool.eq_iff_iff];simp only[E_,F_,I_,J_,ne_eq,H_,G_,A_,X_,CV_,BZ_,BB_,Classical.not_not,DR_,Int.not_le,N_,T_,D_,U_,AN_,BY_,BC_,BP_,CM_,BA_,eqNums,R_,P_,AE_,CQ_,DP_,BJ_,BS_,BK_,CG_,AJ_,BX_,CC_,BN_,CZ_,false_iff,true_iff,iff_false,iff_true] at *;first|done|omega)))
def exitE (x:Blc) (out:Shp) (r:Rng) (cl:Int) (last:Bool):Int :=
 if x.ex=false∧(last=true∨¬ (x.w.length=0∧x.b.length=0∧x.nd=0)) then 11 else if x.ex=false then 0
 else if verdE out x.w x.b x.nd cl≠0 then verdE out x.w x.b x.nd cl else headE x.w x.b r.lo r.hi
theorem vexit_v (x:Blc) (out:Shp) (r:Rng) (cl:Int) (last:Bool) (ok:x.Ok) (oks:out.Ok) (hr:r.In8) (wl:x.w.length≤100000) (bl:x.b.length≤100000):VC L_ 128 ([blc x,shp out,rch r,i64 cl,bv last]) (i64 (exitE x out r cl last)):=by
 have q1:=ok.w
 have q2:=ok.b
 obtain ⟨q3,q4⟩:=id hr
 rcases bft (last && !x.ex) with hc0|hc0
 ·have gc0:last=true∧x.ex=false:=gc0_ hc0
  exact (cR_ [r_,.r [] [o_,o_,o_,.sel 2],b_,b_,r_] (i64 11) Tryz.func128 (.d2 hc0 hc0)).weak (AM_ _) (Q_ (by (unfold exitE;simp_all;done)))
 ·have gc0:last=false∨x.ex=true:=gc0_ hc0
  have oz1:=@bare_v (x.w) (x.b) (x.nd) wl bl
  rcases bft (!x.ex && !decide (x.w.length=0∧x.b.length=0∧x.nd=0)) with hc1|hc1
  ·have gc1:x.ex=false∧¬(x.w.length=0∧x.b.length=0∧x.nd=0):=gc0_ hc1
   exact (cR_ [r_,.r [] [o_,o_,o_,.sel 2],d_,.r [] [o_,o_,o_,cr oz1,o_,.sel 2],b_,r_] (i64 11) Tryz.func128 (.d3 hc0 oz1 hc1)).weak (AM_ _) (Q_ (by (unfold exitE;simp_all;done)))
  ·have gc1:x.ex=true∨x.w.length=0∧x.b.length=0∧x.nd=0:=gc0_ hc1
   rcases bft (!x.ex) with hc2|hc2
   ·have gc2:x.ex=false:=by first|exact hc2|exact of_decide_eq_true hc2|exact of_decide_eq_false hc2|simpa [eqNums] using hc2|(simp[eqNums] at hc2 ⊢;first|done|assumption|omega)
    exact (cR_ [r_,.r [] [o_,o_,o_,.sel 2],d_,.r [] [o_,o_,o_,cr oz1,o_,.sel 2],d_,r_,b_,r_] (i64 0) Tryz.func128 (.d4 hc0 oz1 hc1 hc2)).weak (AM_ _) (Q_ (by (unfold exitE;simp_all;done)))
   ·have gc2:x.ex=true:=by first|exact hc2|exact of_decide_eq_true hc2|exact of_decide_eq_false hc2|simpa [eqNums] using hc2|(simp[eqNums] at hc2 ⊢;first|done|assumption|omega)
    have oz4:=@vcheck_v (out) (x.w) (x.b) (x.nd) (cl) oks wl bl
    rcases bft (verdE out x.w x.b x.nd cl != 0) with hc3|hc3
    ·have gc3:¬verdE out x.w x.b x.nd cl=0:=bdt hc3
     exact (cR_ [r_,.r [] [o_,o_,o_,.sel 2],d_,.r [] [o_,o_,o_,cr oz1,o_,.sel 2],d_,r_,d_,.r [] [cr oz4],r_,b_,r_] (i64 (verdE out x.w x.b x.nd cl)) Tryz.func128 (.d6 hc0 oz1 hc1 hc2 oz4 hc3)).weak (AM_ _) (Q_ (by (unfold exitE;simp_all;done)))
    ·have gc3:verdE out x.w x.b x.nd cl=0:=bdf hc3
     have oz6:=@ghead_v (x.w) (x.b) (x.nd) (r.lo) (r.hi) q1 q2 wl bl q3 q4
     exact (cR_ [r_,.r [] [o_,o_,o_,.sel 2],d_,.r [] [o_,o_,o_,cr oz1,o_,.sel 2],d_,r_,d_,.r [] [cr oz4],r_,d_,.r [] [cr oz6]] (i64 (headE x.w x.b r.lo r.hi)) Tryz.func128 (.d7 hc0 oz1 hc1 hc2 oz4 hc3 oz6)).weak (AM_ _) (Q_ (by (unfold exitE;simp_all;done)))
def validE (x:Blc) (a:Shp) (cl:Int) (last:Bool):Int×Int :=
 if (shapesE x.n a).2≠0 then shapesE x.n a else if (flowE x.n fullR).2≠0 then flowE x.n fullR
 else if exitE x (lastS x.n a) (lastR x.n) cl last≠0 then (-1,exitE x (lastS x.n a) (lastR x.n) cl last) else ((x.n.length:Int),0)
theorem validE_s {x:Blc} {a:Shp} {cl:Int} {last:Bool} (h:¬ SOK x.n a):validE x a cl last=shapesE x.n a:=i_ (shapesE_n h)
theorem validE_f {x:Blc} {a:Shp} {cl:Int} {last:Bool} (h:SOK x.n a) (g:¬ FOK x.n fullR):validE x a cl last=flowE x.n fullR:=by
 unfold validE;rw[j_ (by rw[shapesE_y h];simp),i_ (flowE_n g)]
theorem validE_y {x:Blc} {a:Shp} {cl:Int} {last:Bool} (h:SOK x.n a) (g:FOK x.n fullR):validE x a cl last=if exitE x (lastS x.n a) (lastR x.n) cl last≠0 then (-1,exitE x (lastS x.n a) (lastR x.n) cl last) else ((x.n.length:Int),0):=by
 unfold validE;rw[j_ (by rw[shapesE_y h];simp),j_ (by rw[flowE_y g];simp)]
structure Blc.Sm (x:Blc):Prop where
 l:x.n.length≤12
 s:∀ n∈x.n,n.w.length≤100000∧n.b.length≤100000
 w:x.w.length≤100000
 b:x.b.length≤100000
theorem Blc.sm {x:Blc} (h:blcS x=true):x.Sm:=by
 have q:=blc_facts h
 exact ⟨q.1,q.2.2.1,by omega,by omega⟩
theorem vblock_s (x:Blc) (a:Shp) (cl:Int) (last:Bool) (ok:x.Ok) (oka:a.Ok) (sm:x.Sm) (h:¬ SOK x.n a):VC L_ 88 ([blc x,shp a,i64 cl,bv last]) (.tup [i64 (validE x a cl last).1,i64 (validE x a cl last).2]):=by
 have q1:=ok.n
 obtain ⟨q2,q3,q4,q5⟩:=id sm
 have q6:=shapesE_n h
 have q7:=@validE_s x a cl last h
 have oz0:=@shapes_n (x.n) (a) q1 q3 oka (by omega) h
 exact (cR_ [r_,.r [] [cr oz0],r_,b_,r_] (AV.tup [i64 (shapesE x.n a).fst,i64 (shapesE x.n a).snd]) Tryz.func88 (.d2 oz0 (show ((shapesE x.n a).snd != 0)=true by (simp;omega)))).weak (AM_ _) (AI_ (.cons (Q_ (by (rw[q7]))) (.cons (Q_ (by (rw[q7]))) .nil)))
theorem vblock_f (x:Blc) (a:Shp) (cl:Int) (last:Bool) (ok:x.Ok) (oka:a.Ok) (sm:x.Sm) (h:SOK x.n a) (g:¬ FOK x.n fullR):VC L_ 88 ([blc x,shp a,i64 cl,bv last]) (.tup [i64 (validE x a cl last).1,i64 (validE x a cl last).2]):=by
 have q1:=ok.n
 obtain ⟨q2,q3,q4,q5⟩:=id sm
 have q6:=flowE_n g
 have q7:=@validE_f x a cl last h g
 have q8:=fullR_in
 have oz0:=@shapes_y (x.n) (a) q1 q3 h
 have oz2:=@flow_n (x.n) (Rng.mk (-128) 127) q1 q3 q8 (by omega) g
 exact (cR_ [r_,.r [] [cr oz0],r_,d_,.r [] [cr oz2],r_,b_,r_] (AV.tup [i64 (flowE x.n (Rng.mk (-128) 127)).fst,i64 (flowE x.n (Rng.mk (-128) 127)).snd]) Tryz.func88 (.d4 oz0 z1_ oz2 (show ((flowE x.n (Rng.mk (-128) 127)).snd != 0)=true by (simp;omega)))).weak (AM_ _) (AI_ (.cons (Q_ (by (rw[q7]))) (.cons (Q_ (by (rw[q7]))) .nil)))
theorem vblock_y (x:Blc) (a:Shp) (cl:Int) (last:Bool) (ok:x.Ok) (oka:a.Ok) (sm:x.Sm) (h:SOK x.n a) (g:FOK x.n fullR):VC L_ 88 ([blc x,shp a,i64 cl,bv last]) (.tup [i64 (validE x a cl last).1,i64 (validE x a cl last).2]):=by
 have q1:=ok.n
 obtain ⟨q2,q3,q4,q5⟩:=id sm
 have q7:=@validE_y x a cl last h g
 have q8:=fullR_in
 have l1:=shpsL_len x.n a
 have l2:=rchsL_len x.n
 have l3:(K_ shpC (shpsL x.n a)).length=(shpsL x.n a).length:=R_ _
 have l4:(K_ rchC (rchsL x.n)).length=(rchsL x.n).length:=R_ _
 have l5:(K_ nodC x.n).length=x.n.length:=R_ _
 have s1:=@lastS_i x.n a
 have s2:=@lastR_i x.n
 have s3:=lastS_ok (l:=x.n) oka
 have s4:=lastR_in q1
 have oz0:=@shapes_y (x.n) (a) q1 q3 h
 have oz1:=z1_
 have oz2:=@flow_y (x.n) (Rng.mk (-128) 127) q1 q3 q8 g
 have oz4:=(s_ (0≤((K_ nodC x.n).length:Int)))
 have oz5:=(map_at (shpC) (default) (l:=growL nextE x.n a x.n.length) (i:=(K_ nodC x.n).length) (by (simp_all;done)))
 have oz7:=(map_at (rchC) (default) (l:=growL stepR x.n (Rng.mk (-128) 127) x.n.length) (i:=(K_ nodC x.n).length) (by (simp_all;done)))
 have oz8:=@vexit_v (x) ((growL nextE x.n a x.n.length).getD (K_ nodC x.n).length default) ((growL stepR x.n (Rng.mk (-128) 127) x.n.length).getD (K_ nodC x.n).length default) (cl) (last) ok (by (rw[s1 (by omega)];exact s3)) (by (rw[s2 (by omega)];exact s4)) q4 q5
 rcases bft (exitE x ((growL nextE x.n a x.n.length).getD (K_ nodC x.n).length default) ((growL stepR x.n (Rng.mk (-128) 127) x.n.length).getD (K_ nodC x.n).length default) cl last != 0) with hc0|hc0
 ·have gc0:¬exitE x ((growL nextE x.n a x.n.length).getD (K_ nodC x.n).length default) ((growL stepR x.n (Rng.mk (-128) 127) x.n.length).getD (K_ nodC x.n).length default) cl last=0:=bdt hc0
  exact (cR_ [r_,.r [] [cr oz0],r_,d_,.r [] [cr oz2],r_,d_,.r [] [.row (sO oz5),.row (sO oz7),cr oz8],r_,b_,r_] (AV.tup [i64 (-1),i64 (exitE x ((growL nextE x.n a x.n.length).getD (K_ nodC x.n).length default) ((growL stepR x.n (Rng.mk (-128) 127) x.n.length).getD (K_ nodC x.n).length default) cl last)]) Tryz.func88 (.c8 oz0 oz1 oz2 oz1 oz4 oz5 oz4 oz7<|.d2 oz8 hc0)).weak (AM_ _) (AI_ (.cons (Q_ (by (rw[q7,i_ (by simp_all)]))) (.cons (Q_ (by (simp_all;done))) .nil)))
 ·have gc0:exitE x ((growL nextE x.n a x.n.length).getD (K_ nodC x.n).length default) ((growL stepR x.n (Rng.mk (-128) 127) x.n.length).getD (K_ nodC x.n).length default) cl last=0:=bdf hc0
  exact (cR_ [r_,.r [] [cr oz0],r_,d_,.r [] [cr oz2],r_,d_,.r [] [.row (sO oz5),.row (sO oz7),cr oz8],r_,d_,r_] (AV.tup [i64 ((K_ nodC x.n).length:Int),i64 0]) Tryz.func88 (.c8 oz0 oz1 oz2 oz1 oz4 oz5 oz4 oz7<|.d2 oz8 hc0)).weak (AM_ _) (AI_ (.cons (Q_ (by (simp_all;done))) (.cons (Q_ (by (rw[q7,j_ (by simp_all)]))) .nil)))
theorem vblock_v (x:Blc) (a:Shp) (cl:Int) (last:Bool) (ok:x.Ok) (oka:a.Ok) (sm:x.Sm):VC L_ 88 [blc x,shp a,i64 cl,bv last] (.tup [i64 (validE x a cl last).1,i64 (validE x a cl last).2]):=by
 by_cases h:SOK x.n a
 ·by_cases g:FOK x.n fullR
  ·exact vblock_y x a cl last ok oka sm h g
  ·exact vblock_f x a cl last ok oka sm h g
 ·exact vblock_s x a cl last ok oka sm h
structure Flt where
 w:Int
 m:Int
 b:Int
 n:Int
abbrev fltC (f:Flt):List AV:=[i64 f.w,i64 f.m,i64 f.b,i64 f.n]
abbrev flt (f:Flt):AV:=.agg (fltC f)
def wholeE (u:Bun):Int:=if ¬ 0<elems u.h u.x u.c then 5 else if u.cl<2∨u.cl>16 then 2 else if u.m.length=0 then 12 else if 3<u.m.length then 4 else 0
theorem vwhole_v (u:Bun) (ok:u.Ok) (hl:u.m.length≤1000):VC L_ 53 ([bun u]) (i64 (wholeE u)):=by
 have q1:=elems_in u.h u.x u.c
 have q2:u.inp.Ok:=⟨ok.h,ok.x,ok.c⟩
 have oz0:=@sRight_v (Shp.mk u.h u.x u.c) q2
 rcases bft (!decide (0<elems u.h u.x u.c)) with hc0|hc0
 ·have gc0:=bnt hc0
  exact (cR_ [r_,.r [] [cr oz0],b_,r_] (i64 5) Tryz.func53 (.d2 oz0 hc0)).weak (AM_ _) (Q_ (by (unfold wholeE;(try simp only[R_] at *);(repeat first|rw[i_ (by omega)]|rw[j_ (by omega)]))))
 ·have gc0:=bnf hc0
  rcases bft (decide (u.cl<2) || decide (u.cl>16)) with hc1|hc1
  ·have gc1:u.cl<2∨u.cl>16:=gc0_ hc1
   exact (cR_ [r_,.r [] [cr oz0],d_,.r [] [o_,o_,o_,.sel 1],b_,r_] (i64 2) Tryz.func53 (.d3 oz0 hc0 hc1)).weak (AM_ _) (Q_ (by (unfold wholeE;(try simp only[R_] at *);(repeat first|rw[i_ (by omega)]|rw[j_ (by omega)]))))
  ·have gc1:¬u.cl<2∧¬u.cl>16:=gc0_ hc1
   rcases bft (((K_ mdlC u.m).length:Int)==0) with hc2|hc2
   ·have gc2:((K_ mdlC u.m).length:Int)=0:=bet hc2
    exact (cR_ [r_,.r [] [cr oz0],d_,.r [] [o_,o_,o_,.sel 1],d_,r_,b_,r_] (i64 12) Tryz.func53 (.d4 oz0 hc0 hc1 hc2)).weak (AM_ _) (Q_ (by (unfold wholeE;(try simp only[R_] at *);(repeat first|rw[i_ (by omega)]|rw[j_ (by omega)]))))
   ·have gc2:¬((K_ mdlC u.m).length:Int)=0:=bef hc2
    rcases bft (decide (((K_ mdlC u.m).length:Int)>3)) with hc3|hc3
    ·have gc3:=of_decide_eq_true hc3
     exact (cR_ [r_,.r [] [cr oz0],d_,.r [] [o_,o_,o_,.sel 1],d_,r_,d_,r_,b_,r_] (i64 4) Tryz.func53 (.d5 oz0 hc0 hc1 hc2 hc3)).weak (AM_ _) (Q_ (by (unfold wholeE;(try simp only[R_] at *);(repeat first|rw[i_ (by omega)]|rw[j_ (by omega)]))))
    ·have gc3:=of_decide_eq_false hc3
     exact (cR_ [r_,.r [] [cr oz0],d_,.r [] [o_,o_,o_,.sel 1],d_,r_,d_,r_,d_,r_] (i64 0) Tryz.func53 (.d5 oz0 hc0 hc1 hc2 hc3)).weak (AM_ _) (Q_ (by (unfold wholeE;(try simp only[R_] at *);(repeat first|rw[i_ (by omega)]|rw[j_ (by omega)]))))
def inS (l:List Blc) (a:Shp):Nat→Shp
 | 0=>a
 | k+1=>lastS (l.getD k default).n (inS l a k)
theorem inS_ok {l:List Blc} {a:Shp} (h:a.Ok):∀ k,(inS l a k).Ok
 | 0=>h
 | k+1=>lastS_ok (inS_ok h k)
abbrev vB (l:List Blc) (a:Shp) (cl:Int) (k:Nat):Int×Int:=validE (l.getD k default) (inS l a k) cl ((k:Int)==((K_ blcC l).length:Int)-1)
theorem validE_ok {x:Blc} {a:Shp} {cl:Int} {last:Bool} (h:(validE x a cl last).2=0):SOK x.n a:=by
 by_cases g:SOK x.n a
 ·exact g
 ·rw[validE_s g] at h;exact absurd h (shapesE_n g)
noncomputable def vmodel_ly_I (u:Bun) (l:List Blc) (a:Shp) (j:Int) (k:Nat):VS:=stt 77 [(1,i64 j),(2,.ptr 2 0 0),(4,.ptr 4 0 0),(5,.sl 5 (l.map blcC)),(6,.ptr 6 0 0),(34,.sl 5 (l.map blcC)),(35,i64 l.length),(36,i64 k)] [(2,.var (bunC u)),(4,.var [i64 0,i64 0,i64 0,i64 0]),(6,.var (shpC (inS l a k)))]
noncomputable def vmodel_ly_Z (u:Bun) (l:List Blc) (a:Shp) (j:Int):VS:=vmodel_ly_I u l a j (l.length)
theorem vmodel_ly_s (u:Bun) (l:List Blc) (a:Shp) (j:Int) (ok:∀ d∈l,d.Ok) (sm:∀ d∈l,d.Sm) (oka:a.Ok) (hl:l.length≤6) (h:∀ k,k<l.length→(vB l a u.cl k).2=0) (k:Nat) (hk:k<l.length):VT L_ (fnC Tryz.f54 [1,1,1,1,0,1,0,0]) (vmodel_ly_I u l a j k) .normal (vmodel_ly_I u l a j (k+1)):=by
 have q:=h k hk
 have q1:=validE_ok q
 have q2:=getD_in ok hk
 have q3:=getD_in sm hk
 have q4:=inS_ok (l:=l) oka k
 have lb:(K_ blcC l).length=l.length:=R_ _
 have q5:=q2.n
 have q6:=q3.s
 have q7:=q3.l
 have l1:=growL_len nextE (l.getD k default).n (inS l a k) (l.getD k default).n.length
 have l3:(K_ shpC (growL nextE (l.getD k default).n (inS l a k) (l.getD k default).n.length)).length=(growL nextE (l.getD k default).n (inS l a k) (l.getD k default).n.length).length:=R_ _
 have i1:(((K_ shpC (growL nextE (l.getD k default).n (inS l a k) (l.getD k default).n.length)).length:Int)-1).toNat=(l.getD k default).n.length:=by omega
 have oz2:=(map_at (blcC) (default) (l:=l) (i:=k) hk)
 have oz3:=(i6n (((K_ blcC l).length:Int)-1) (by omega))
 have oz4:=@vblock_v (l.getD k default) (inS l a k) (u.cl) ((↑k:Int)==((K_ blcC l).length:Int)-1) q2 q4 q3
 have oz6:=@shapes_y ((l.getD k default).n) (inS l a k) q5 q6 q1
 have oz7:=(i6n (((K_ shpC (growL nextE (l.getD k default).n (inS l a k) (l.getD k default).n.length)).length:Int)-1) (by omega))
 have oz9:=(map_at (shpC) (default) (l:=growL nextE (l.getD k default).n (inS l a k) (l.getD k default).n.length) (i:=(((K_ shpC (growL nextE (l.getD k default).n (inS l a k) (l.getD k default).n.length)).length:Int)-1).toNat) (by omega))
 exact tR_ [r_,b_,.r [] [.row (sO oz2)],.r [] [.n (nO oz3),cr oz4],r_,d_,.r [] [cr oz6],.r [] [.n (nO oz7),.row (sO oz9)],.r [] [.n ((↑k:Int)+1)]] [.any (rg [(7,7),(37,19),(61,15)]),.drop [8],.weak 36 (i64 (↑(k+1):Int)),.blk 6 (Blk.var [i64 (inS l a (k+1)).h,i64 (inS l a (k+1)).x,i64 (inS l a (k+1)).c]),.sort] (.c8 (decide_eq_true (p:=((↑k:Int)<(l.length:Int))) (by omega)) (s_ (0≤(↑k:Int))) oz2 oz3 oz4 (show ((validE (l.getD k default) (inS l a k) u.cl ((↑k:Int)==((K_ blcC l).length:Int)-1)).snd != 0)=false by (rw[q];rfl)) oz6 oz7<|.d5 (s_ (0≤((K_ shpC (growL nextE (l.getD k default).n (inS l a k) (l.getD k default).n.length)).length:Int)-1)) oz9 (i6n ((↑k:Int)+1) (by omega)) (wS_ k) (show BlkW (Blk.var [i64 ((growL nextE (l.getD k default).n (inS l a k) (l.getD k default).n.length).getD (((K_ shpC (growL nextE (l.getD k default).n (inS l a k) (l.getD k default).n.length)).length:Int)-1).toNat default).h,i64 ((growL nextE (l.getD k default).n (inS l a k) (l.getD k default).n.length).getD (((K_ shpC (growL nextE (l.getD k default).n (inS l a k) (l.getD k default).n.length)).length:Int)-1).toNat default).x,i64 ((growL nextE (l.getD k default).n (inS l a k) (l.getD k default).n.length).getD (((K_ shpC (growL nextE (l.getD k default).n (inS l a k) (l.getD k default).n.length)).length:Int)-1).toNat default).c]) (Blk.var [i64 (inS l a (k+1)).h,i64 (inS l a (k+1)).x,i64 (inS l a (k+1)).c]) from (BlkW.var (m:=[i64 (inS l a (k+1)).h,i64 (inS l a (k+1)).x,i64 (inS l a (k+1)).c]) (.cons (Q_ (by (rw[i1]<;>rfl))) (.cons (Q_ (by (rw[i1]<;>rfl))) (.cons (Q_ (by (rw[i1]<;>rfl))) .nil))))))
theorem vmodel_ly_e (u:Bun) (l:List Blc) (a:Shp) (j:Int) (ok:∀ d∈l,d.Ok) (sm:∀ d∈l,d.Sm) (oka:a.Ok) (hl:l.length≤6) (h:∀ k,k<l.length→(vB l a u.cl k).2=0):VT L_ (fnC Tryz.f54 [1,1,1,1,0,1,0,0]) (vmodel_ly_I u l a j (l.length)) (.exit 1) (vmodel_ly_Z u l a j):=by
 exact tR_ [r_,d_] [.any [37],.sort] (.d (decide_eq_false (p:=((l.length:Int)<(l.length:Int))) (by omega)))
theorem vmodel_ly (u:Bun) (l:List Blc) (a:Shp) (j:Int) (ok:∀ d∈l,d.Ok) (sm:∀ d∈l,d.Sm) (oka:a.Ok) (hl:l.length≤6) (h:∀ k,k<l.length→(vB l a u.cl k).2=0):VT L_ (fnC Tryz.f54 [1,1,1,1,0,1,0]) (vmodel_ly_I u l a j 0) (.exit 1) (vmodel_ly_Z u l a j) :=
 VT.loop (fun k=>vmodel_ly_I u l a j k) (l.length) (fun k hk=>vmodel_ly_s u l a j ok sm oka hl h k hk) (vmodel_ly_e u l a j ok sm oka hl h) (by intro h;cases h)
noncomputable def vmodel_ln_I (u:Bun) (l:List Blc) (a:Shp) (j:Int) (m:Nat) (k:Nat):VS:=stt 77 [(1,i64 j),(2,.ptr 2 0 0),(4,.ptr 4 0 0),(5,.sl 5 (l.map blcC)),(6,.ptr 6 0 0),(34,.sl 5 (l.map blcC)),(35,i64 l.length),(36,i64 k)] [(2,.var (bunC u)),(4,.var [i64 0,i64 0,i64 0,i64 0]),(6,.var (shpC (inS l a k)))]
noncomputable def vmodel_ln_Z (u:Bun) (l:List Blc) (a:Shp) (j:Int) (m:Nat):VS:=stt 77 [(4,.ptr 4 0 0)] [(4,.var [i64 (vB l a u.cl m).2,i64 j,i64 m,i64 (vB l a u.cl m).1])]
theorem vmodel_ln_s (u:Bun) (l:List Blc) (a:Shp) (j:Int) (m:Nat) (ok:∀ d∈l,d.Ok) (sm:∀ d∈l,d.Sm) (oka:a.Ok) (hl:l.length≤6) (hm:m<l.length) (hf:(vB l a u.cl m).2≠0) (h:∀ k,k<m→(vB l a u.cl k).2=0) (k:Nat) (hk:k<m):VT L_ (fnC Tryz.f54 [1,1,1,1,0,1,0,0]) (vmodel_ln_I u l a j m k) .normal (vmodel_ln_I u l a j m (k+1)):=by
 have q:=h k hk
 have q1:=validE_ok q
 have q2:=getD_in ok (s_ (k<l.length))
 have q3:=getD_in sm (s_ (k<l.length))
 have q4:=inS_ok (l:=l) oka k
 have lb:(K_ blcC l).length=l.length:=R_ _
 have q5:=q2.n
 have q6:=q3.s
 have q7:=q3.l
 have l1:=growL_len nextE (l.getD k default).n (inS l a k) (l.getD k default).n.length
 have l3:(K_ shpC (growL nextE (l.getD k default).n (inS l a k) (l.getD k default).n.length)).length=(growL nextE (l.getD k default).n (inS l a k) (l.getD k default).n.length).length:=R_ _
 have i1:(((K_ shpC (growL nextE (l.getD k default).n (inS l a k) (l.getD k default).n.length)).length:Int)-1).toNat=(l.getD k default).n.length:=by omega
 have oz2:=(map_at (blcC) (default) (l:=l) (i:=k) (by omega))
 have oz3:=(i6n (((K_ blcC l).length:Int)-1) (by omega))
 have oz4:=@vblock_v (l.getD k default) (inS l a k) (u.cl) ((↑k:Int)==((K_ blcC l).length:Int)-1) q2 q4 q3
 have oz6:=@shapes_y ((l.getD k default).n) (inS l a k) q5 q6 q1
 have oz7:=(i6n (((K_ shpC (growL nextE (l.getD k default).n (inS l a k) (l.getD k default).n.length)).length:Int)-1) (by omega))
 have oz9:=(map_at (shpC) (default) (l:=growL nextE (l.getD k default).n (inS l a k) (l.getD k default).n.length) (i:=(((K_ shpC (growL nextE (l.getD k default).n (inS l a k) (l.getD k default).n.length)).length:Int)-1).toNat) (by omega))
 exact tR_ [r_,b_,.r [] [.row (sO oz2)],.r [] [.n (nO oz3),cr oz4],r_,d_,.r [] [cr oz6],.r [] [.n (nO oz7),.row (sO oz9)],.r [] [.n ((↑k:Int)+1)]] [.any (rg [(7,7),(37,19),(61,15)]),.drop [8],.weak 36 (i64 (↑(k+1):Int)),.blk 6 (Blk.var [i64 (inS l a (k+1)).h,i64 (inS l a (k+1)).x,i64 (inS l a (k+1)).c]),.sort] (.c8 (decide_eq_true (p:=((↑k:Int)<(l.length:Int))) (by omega)) (s_ (0≤(↑k:Int))) oz2 oz3 oz4 (show ((validE (l.getD k default) (inS l a k) u.cl ((↑k:Int)==((K_ blcC l).length:Int)-1)).snd != 0)=false by (rw[q];rfl)) oz6 oz7<|.d5 (s_ (0≤((K_ shpC (growL nextE (l.getD k default).n (inS l a k) (l.getD k default).n.length)).length:Int)-1)) oz9 (i6n ((↑k:Int)+1) (by omega)) (wS_ k) (show BlkW (Blk.var [i64 ((growL nextE (l.getD k default).n (inS l a k) (l.getD k default).n.length).getD (((K_ shpC (growL nextE (l.getD k default).n (inS l a k) (l.getD k default).n.length)).length:Int)-1).toNat default).h,i64 ((growL nextE (l.getD k default).n (inS l a k) (l.getD k default).n.length).getD (((K_ shpC (growL nextE (l.getD k default).n (inS l a k) (l.getD k default).n.length)).length:Int)-1).toNat default).x,i64 ((growL nextE (l.getD k default).n (inS l a k) (l.getD k default).n.length).getD (((K_ shpC (growL nextE (l.getD k default).n (inS l a k) (l.getD k default).n.length)).length:Int)-1).toNat default).c]) (Blk.var [i64 (inS l a (k+1)).h,i64 (inS l a (k+1)).x,i64 (inS l a (k+1)).c]) from (BlkW.var (m:=[i64 (inS l a (k+1)).h,i64 (inS l a (k+1)).x,i64 (inS l a (k+1)).c]) (.cons (Q_ (by (rw[i1]<;>rfl))) (.cons (Q_ (by (rw[i1]<;>rfl))) (.cons (Q_ (by (rw[i1]<;>rfl))) .nil))))))
theorem vmodel_ln_e (u:Bun) (l:List Blc) (a:Shp) (j:Int) (m:Nat) (ok:∀ d∈l,d.Ok) (sm:∀ d∈l,d.Sm) (oka:a.Ok) (hl:l.length≤6) (hm:m<l.length) (hf:(vB l a u.cl m).2≠0) (h:∀ k,k<m→(vB l a u.cl k).2=0):VT L_ (fnC Tryz.f54 [1,1,1,1,0,1,0,0]) (vmodel_ln_I u l a j m (m)) (.ret) (vmodel_ln_Z u l a j m):=by
 have q2:=getD_in ok hm
 have q3:=getD_in sm hm
 have q4:=inS_ok (l:=l) oka m
 have lb:(K_ blcC l).length=l.length:=R_ _
 have oz2:=(map_at (blcC) (default) (l:=l) (i:=m) hm)
 have oz3:=(i6n (((K_ blcC l).length:Int)-1) (by omega))
 have oz4:=@vblock_v (l.getD m default) (inS l a m) (u.cl) ((↑m:Int)==((K_ blcC l).length:Int)-1) q2 q4 q3
 exact tR_ [r_,b_,.r [] [.row (sO oz2)],.r [] [.n (nO oz3),cr oz4],r_,b_,r_] [.any (rg [(1,2),(5,6),(34,27)]),.drop [2,6,8],.sort] (.d6 (decide_eq_true (p:=((↑m:Int)<(l.length:Int))) (by omega)) (s_ (0≤(↑m:Int))) oz2 oz3 oz4 (show ((validE (l.getD m default) (inS l a m) u.cl ((↑m:Int)==((K_ blcC l).length:Int)-1)).snd != 0)=true by (rw[J_];exact hf)))
theorem vmodel_ln (u:Bun) (l:List Blc) (a:Shp) (j:Int) (m:Nat) (ok:∀ d∈l,d.Ok) (sm:∀ d∈l,d.Sm) (oka:a.Ok) (hl:l.length≤6) (hm:m<l.length) (hf:(vB l a u.cl m).2≠0) (h:∀ k,k<m→(vB l a u.cl k).2=0):VT L_ (fnC Tryz.f54 [1,1,1,1,0,1,0]) (vmodel_ln_I u l a j m 0) (.ret) (vmodel_ln_Z u l a j m) :=
 VT.loop (fun k=>vmodel_ln_I u l a j m k) (m) (fun k hk=>vmodel_ln_s u l a j m ok sm oka hl hm hf h k hk) (vmodel_ln_e u l a j m ok sm oka hl hm hf h) (by intro h;cases h)
def modelE (l:List Blc) (a:Shp) (cl j:Int):Flt :=
 if l.length=0 then ⟨12,j,-1,-1⟩ else if 6<l.length then ⟨4,j,-1,-1⟩
 else if firstBad (fun k=>(vB l a cl k).2==0) l.length<l.length then ⟨(vB l a cl (firstBad (fun k=>(vB l a cl k).2==0) l.length)).2,j,firstBad (fun k=>(vB l a cl k).2==0) l.length,(vB l a cl (firstBad (fun k=>(vB l a cl k).2==0) l.length)).1⟩
 else ⟨0,0,0,0⟩
theorem modelE_y {l:List Blc} {a:Shp} {cl j:Int} (h0:¬ l.length=0) (h6:l.length≤6) (h:∀ k,k<l.length→(vB l a cl k).2=0):modelE l a cl j=⟨0,0,0,0⟩:=by
 unfold modelE
 rw[j_ h0,j_ (by omega),firstBad_all fun k hk=>by simpa using h k hk,j_ (by omega)]
theorem modelE_m {l:List Blc} {a:Shp} {cl j:Int} {m:Nat} (h6:l.length≤6) (hm:m<l.length) (hf:(vB l a cl m).2≠0) (h:∀ k,k<m→(vB l a cl k).2=0):modelE l a cl j=⟨(vB l a cl m).2,j,m,(vB l a cl m).1⟩:=by
 have e:=firstBad_at (p:=fun k=>(vB l a cl k).2==0) (m:=m) (by simpa using hf) (fun k hk=>by simpa using h k hk) hm
 unfold modelE
 rw[j_ (by omega),j_ (by omega),e,i_ hm]
theorem modelE_cases (l:List Blc) (a:Shp) (cl:Int):(¬ l.length=0∧l.length≤6∧∀ k,k<l.length→(vB l a cl k).2=0)∨(l.length=0∨6<l.length)∨(l.length≤6∧∃ m,m<l.length∧(vB l a cl m).2≠0∧∀ k,k<m→(vB l a cl k).2=0):=by
 by_cases c:l.length=0∨6<l.length
 ·exact .inr (.inl c)
 ·rcases all_or (fun k=>(vB l a cl k).2==0) l.length with h|⟨m,h1,h2,h3⟩
  ·exact .inl ⟨by omega,by omega,fun k hk=>by simpa using h k hk⟩
  ·exact .inr (.inr ⟨by omega,m,h1,by simpa using h2,fun k hk=>by simpa using h3 k hk⟩)
structure Bun.Sm (u:Bun):Prop where
 l:u.m.length≤4
 m:∀ d∈u.m,d.l.length≤8∧∀ x∈d.l,x.Sm
theorem Bun.sm {u:Bun} (h:bunS u=true):u.Sm:=by
 simp only[bunS,mdlS,N_,E_,CF_] at h
 exact ⟨h.1,fun d hd=>⟨(h.2 d hd).1,fun x hx=>Blc.sm ((h.2 d hd).2 x hx)⟩⟩
theorem vmodel_y (u:Bun) (j:Nat) (ok:u.Ok) (sm:u.Sm) (hj:j<u.m.length) (h0:¬ (u.m.getD j default).l.length=0) (h6:(u.m.getD j default).l.length≤6) (h:∀ k,k<(u.m.getD j default).l.length→(vB (u.m.getD j default).l u.inp u.cl k).2=0):VC L_ 54 ([bun u,i64 j]) (flt ⟨0,0,0,0⟩):=by
 have q2:u.inp.Ok:=⟨ok.h,ok.x,ok.c⟩
 have q3:=(getD_in ok.m hj).l
 have q4:=(getD_in sm.m hj).2
 have q5:=sm.l
 have oz1:=(map_at (mdlC) (default) (l:=u.m) (i:=j) hj)
 have oz4:=(Q_ (k:=.i64) (show ((((K_ blcC (u.m.getD j default).l).length:Int)):Int)=((↑(u.m.getD j default).l.length:Int)) from (by (simp;done))))
 have oz6:=@vmodel_ly (u) ((u.m.getD j default).l) (Shp.mk u.1 u.2 u.3) ((↑j:Int)) q3 q4 q2 h6 h
 exact cR_ [r_,.r [] [.row (sO oz1)],r_,d_,r_,d_,r_,r_,.code [.any (rg [(0,1),(14,10),(26,4),(32,2)]),.weak 35 (wO oz4),.weak 36 (i64 (↑0:Int)),.sort] (BO_ 1) (zO oz6),r_] _ Tryz.func54 (.d7 (s_ (0≤(↑j:Int))) oz1 (show (((K_ blcC (u.m.getD j default).l).length:Int)==0)=false by (simp at *;omega)) (show decide (((K_ blcC (u.m.getD j default).l).length:Int)>6)=false by (simp at *;omega)) oz4 w0_ oz6)
theorem vmodel_m (u:Bun) (j m:Nat) (ok:u.Ok) (sm:u.Sm) (hj:j<u.m.length) (h6:(u.m.getD j default).l.length≤6) (hm:m<(u.m.getD j default).l.length) (hf:(vB (u.m.getD j default).l u.inp u.cl m).2≠0) (h:∀ k,k<m→(vB (u.m.getD j default).l u.inp u.cl k).2=0):VC L_ 54 ([bun u,i64 j]) (flt ⟨(vB (u.m.getD j default).l u.inp u.cl m).2,j,m,(vB (u.m.getD j default).l u.inp u.cl m).1⟩):=by
 have q2:u.inp.Ok:=⟨ok.h,ok.x,ok.c⟩
 have q3:=(getD_in ok.m hj).l
 have q4:=(getD_in sm.m hj).2
 have q5:=sm.l
 have oz1:=(map_at (mdlC) (default) (l:=u.m) (i:=j) hj)
 have oz4:=(Q_ (k:=.i64) (show ((((K_ blcC (u.m.getD j default).l).length:Int)):Int)=((↑(u.m.getD j default).l.length:Int)) from (by (simp;done))))
 have oz6:=@vmodel_ln (u) ((u.m.getD j default).l) (Shp.mk u.1 u.2 u.3) ((↑j:Int)) (m) q3 q4 q2 h6 hm hf h
 exact cR_ [r_,.r [] [.row (sO oz1)],r_,d_,r_,d_,r_,r_,.code [.any (rg [(0,1),(14,10),(26,4),(32,2)]),.weak 35 (wO oz4),.weak 36 (i64 (↑0:Int)),.sort] (Exit.ret) (zO oz6)] _ Tryz.func54 (.d7 (s_ (0≤(↑j:Int))) oz1 (show (((K_ blcC (u.m.getD j default).l).length:Int)==0)=false by (simp only[E_,F_,I_,J_,ne_eq,H_,G_,A_,X_,CV_,BZ_,BB_,Classical.not_not,DR_,Int.not_le,N_,T_,D_,U_,AN_,BY_,BC_,BP_,CM_,BA_,eqNums,R_,P_,AE_,CQ_,DP_,BJ_,BS_,BK_,CG_,AJ_,BX_,CC_];(first|done|with_reducible assumption|omega|contradiction))) (show decide (((K_ blcC (u.m.getD j default).l).length:Int)>6)=false by (simp at *;omega)) oz4 w0_ oz6)
theorem vmodel_a (u:Bun) (j:Nat) (sm:u.Sm) (hj:j<u.m.length) (h:(u.m.getD j default).l.length=0∨6<(u.m.getD j default).l.length):VC L_ 54 ([bun u,i64 j]) (flt (modelE (u.m.getD j default).l u.inp u.cl j)):=by
 have q5:=sm.l
 have oz0:=(s_ (0≤(↑j:Int)))
 have oz1:=(map_at (mdlC) (default) (l:=u.m) (i:=j) hj)
 rcases bft (((K_ blcC (u.m.getD j default).l).length:Int)==0) with hc0|hc0
 ·have gc0:((K_ blcC (u.m.getD j default).l).length:Int)=0:=bet hc0
  exact (cR_ [r_,.r [] [.row (sO oz1)],r_,b_,r_] (AV.agg [i64 12,i64 (↑j:Int),i64 (-1),i64 (-1)]) Tryz.func54 (.d3 oz0 oz1 hc0)).weak (AM_ _) (BL_ (.cons (Q_ (by (unfold modelE;(try simp only[R_] at *);(repeat first|rw[i_ (by omega)]|rw[j_ (by omega)])))) (.cons (Q_ (by (unfold modelE;(try simp only[R_] at *);(repeat first|rw[i_ (by omega)]|rw[j_ (by omega)])))) (.cons (Q_ (by (unfold modelE;(try simp only[R_] at *);(repeat first|rw[i_ (by omega)]|rw[j_ (by omega)])))) (.cons (Q_ (by (unfold modelE;(try simp only[R_] at *);(repeat first|rw[i_ (by omega)]|rw[j_ (by omega)])))) .nil)))))
 ·have gc0:¬((K_ blcC (u.m.getD j default).l).length:Int)=0:=bef hc0
  exact (cR_ [r_,.r [] [.row (sO oz1)],r_,d_,r_,b_,r_] (AV.agg [i64 4,i64 (↑j:Int),i64 (-1),i64 (-1)]) Tryz.func54 (.d4 oz0 oz1 hc0 (show decide (((K_ blcC (u.m.getD j default).l).length:Int)>6)=true by (simp only[E_,F_,I_,J_,ne_eq,H_,G_,A_,X_,CV_,BZ_,BB_,Classical.not_not,DR_,Int.not_le,N_,T_,D_,U_,AN_,BY_,BC_,BP_,CM_,BA_,eqNums,R_,P_,AE_,CQ_,DP_,BJ_,BS_,BK_,CG_,AJ_,BX_,CC_] at *;(first|done|with_reducible assumption|omega|contradiction))))).weak (AM_ _) (BL_ (.cons (Q_ (by (unfold modelE;(try simp only[R_] at *);(repeat first|rw[i_ (by omega)]|rw[j_ (by omega)])))) (.cons (Q_ (by (unfold modelE;(try simp only[R_] at *);(repeat first|rw[i_ (by omega)]|rw[j_ (by omega)])))) (.cons (Q_ (by (unfold modelE;(try simp only[R_] at *);(repeat first|rw[i_ (by omega)]|rw[j_ (by omega)])))) (.cons (Q_ (by (unfold modelE;(try simp only[R_] at *);(repeat first|rw[i_ (by omega)]|rw[j_ (by omega)])))) .nil)))))
theorem vmodel_v (u:Bun) (j:Nat) (ok:u.Ok) (sm:u.Sm) (hj:j<u.m.length):VC L_ 54 [bun u,i64 j] (flt (modelE (u.m.getD j default).l u.inp u.cl j)):=by
 rcases modelE_cases (u.m.getD j default).l u.inp u.cl with ⟨h0,h6,h⟩|h|⟨h6,m,h1,h2,h3⟩
 ·rw[modelE_y h0 h6 h];exact vmodel_y u j ok sm hj h0 h6 h
 ·exact vmodel_a u j sm hj h
 ·rw[modelE_m h6 h1 h2 h3];exact vmodel_m u j m ok sm hj h6 h1 h2 h3
theorem modelE_z {l:List Blc} {a:Shp} {cl j:Int} (h:(modelE l a cl j).w=0):modelE l a cl j=⟨0,0,0,0⟩:=by
 rcases modelE_cases l a cl with ⟨h0,h6,g⟩|g|⟨h6,m,h1,h2,h3⟩
 ·exact modelE_y h0 h6 g
 ·exfalso
  revert h
  unfold modelE
  by_cases c:l.length=0
  ·rw[i_ c];dsimp only;decide
  ·rw[j_ c,i_ (by omega)];dsimp only;decide
 ·rw[modelE_m h6 h1 h2 h3] at h;exact absurd h h2
abbrev mE (u:Bun) (j:Nat):Flt:=modelE (u.m.getD j default).l u.inp u.cl j
noncomputable def vbundle_ly_I (u:Bun) (k:Nat):VS:=stt 27 [(1,.ptr 1 0 0),(2,.ptr 2 0 0),(14,i64 u.m.length),(15,i64 k)] [(1,.var (bunC u)),(2,.var [i64 0,i64 0,i64 0,i64 0])]
noncomputable def vbundle_ly_Z (u:Bun):VS:=vbundle_ly_I u (u.m.length)
theorem vbundle_ly_s (u:Bun) (ok:u.Ok) (sm:u.Sm) (h:∀ j,j<u.m.length→mE u j=⟨0,0,0,0⟩) (k:Nat) (hk:k<u.m.length):VT L_ (fnC Tryz.f23 [1,1,0,1,0,0]) (vbundle_ly_I u k) .normal (vbundle_ly_I u (k+1)):=by
 have q:modelE (u.m.getD k default).l u.inp u.cl k=⟨0,0,0,0⟩:=h k hk
 have q5:=sm.l
 have oz1:=@vmodel_v (u) (k) ok sm hk
 exact tR_ [r_,b_,r_,.r [] [cr oz1],.r [] [.v (BD_ !eqNums [(O_,(modelE (u.m.getD k default).l u.inp u.cl (↑k:Int)).w,0),(O_,(modelE (u.m.getD k default).l u.inp u.cl (↑k:Int)).m,0),(O_,(modelE (u.m.getD k default).l u.inp u.cl (↑k:Int)).b,0),(O_,(modelE (u.m.getD k default).l u.inp u.cl (↑k:Int)).n,0)])],d_,.r [] [.n ((↑k:Int)+1)]] [.any (rg [(4,2),(16,8),(25,1)]),.drop [5],.weak 15 (i64 (↑(k+1):Int)),.sort] (.d6 (decide_eq_true (p:=((↑k:Int)<(u.m.length:Int))) (by omega)) oz1 (show BinTo L_ BinOp.neq 77 (Operand.tmp 21) (Operand.tmp 22) (CT_ #[AS_ O_ (modelE (u.m.getD k default).l u.inp u.cl (↑k:Int)).w,AS_ O_ (modelE (u.m.getD k default).l u.inp u.cl (↑k:Int)).m,AS_ O_ (modelE (u.m.getD k default).l u.inp u.cl (↑k:Int)).b,AS_ O_ (modelE (u.m.getD k default).l u.inp u.cl (↑k:Int)).n]) (CT_ #[AS_ O_ 0,AS_ O_ 0,AS_ O_ 0,AS_ O_ 0]) (BD_ !eqNums [(O_,(modelE (u.m.getD k default).l u.inp u.cl (↑k:Int)).w,0),(O_,(modelE (u.m.getD k default).l u.inp u.cl (↑k:Int)).m,0),(O_,(modelE (u.m.getD k default).l u.inp u.cl (↑k:Int)).b,0),(O_,(modelE (u.m.getD k default).l u.inp u.cl (↑k:Int)).n,0)]) from ((bin_nums (l:=[(O_,(modelE (u.m.getD k default).l u.inp u.cl (↑k:Int)).w,0),(O_,(modelE (u.m.getD k default).l u.inp u.cl (↑k:Int)).m,0),(O_,(modelE (u.m.getD k default).l u.inp u.cl (↑k:Int)).b,0),(O_,(modelE (u.m.getD k default).l u.inp u.cl (↑k:Int)).n,0)]) (by kernel_rfl) (by kernel_rfl) (by kernel_rfl) (by kernel_rfl) _ _).2)) (show (!eqNums [(O_,(modelE (u.m.getD k default).l u.inp u.cl (↑k:Int)).w,0),(O_,(modelE (u.m.getD k default).l u.inp u.cl (↑k:Int)).m,0),(O_,(modelE (u.m.getD k default).l u.inp u.cl (↑k:Int)).b,0),(O_,(modelE (u.m.getD k default).l u.inp u.cl (↑k:Int)).n,0)])=false by (rw[q];rfl)) (i6n ((↑k:Int)+1) (by omega)) (wS_ k))
theorem vbundle_ly_e (u:Bun) (ok:u.Ok) (sm:u.Sm) (h:∀ j,j<u.m.length→mE u j=⟨0,0,0,0⟩):VT L_ (fnC Tryz.f23 [1,1,0,1,0,0]) (vbundle_ly_I u (u.m.length)) (.exit 0) (vbundle_ly_Z u):=by
 exact tR_ [r_,d_] [.any [16],.sort] (.d (decide_eq_false (p:=((u.m.length:Int)<(u.m.length:Int))) (by omega)))
theorem vbundle_ly (u:Bun) (ok:u.Ok) (sm:u.Sm) (h:∀ j,j<u.m.length→mE u j=⟨0,0,0,0⟩):VT L_ (fnC Tryz.f23 [1,1,0,1,0]) (vbundle_ly_I u 0) (.exit 0) (vbundle_ly_Z u) :=
 VT.loop (fun k=>vbundle_ly_I u k) (u.m.length) (fun k hk=>vbundle_ly_s u ok sm h k hk) (vbundle_ly_e u ok sm h) (by intro h;cases h)
noncomputable def vbundle_ln_I (u:Bun) (m:Nat) (k:Nat):VS:=stt 27 [(1,.ptr 1 0 0),(2,.ptr 2 0 0),(14,i64 u.m.length),(15,i64 k)] [(1,.var (bunC u)),(2,.var [i64 0,i64 0,i64 0,i64 0])]
noncomputable def vbundle_ln_Z (u:Bun) (m:Nat):VS:=stt 27 [(2,.ptr 2 0 0)] [(2,.var (fltC (mE u m)))]
theorem vbundle_ln_s (u:Bun) (m:Nat) (ok:u.Ok) (sm:u.Sm) (hm:m<u.m.length) (hf:(mE u m).w≠0) (h:∀ j,j<m→mE u j=⟨0,0,0,0⟩) (k:Nat) (hk:k<m):VT L_ (fnC Tryz.f23 [1,1,0,1,0,0]) (vbundle_ln_I u m k) .normal (vbundle_ln_I u m (k+1)):=by
 have q:modelE (u.m.getD k default).l u.inp u.cl k=⟨0,0,0,0⟩:=h k hk
 have q5:=sm.l
 have oz1:=@vmodel_v (u) (k) ok sm (by omega)
 exact tR_ [r_,b_,r_,.r [] [cr oz1],.r [] [.v (BD_ !eqNums [(O_,(modelE (u.m.getD k default).l u.inp u.cl (↑k:Int)).w,0),(O_,(modelE (u.m.getD k default).l u.inp u.cl (↑k:Int)).m,0),(O_,(modelE (u.m.getD k default).l u.inp u.cl (↑k:Int)).b,0),(O_,(modelE (u.m.getD k default).l u.inp u.cl (↑k:Int)).n,0)])],d_,.r [] [.n ((↑k:Int)+1)]] [.any (rg [(4,2),(16,8),(25,1)]),.drop [5],.weak 15 (i64 (↑(k+1):Int)),.sort] (.d6 (decide_eq_true (p:=((↑k:Int)<(u.m.length:Int))) (by omega)) oz1 (show BinTo L_ BinOp.neq 77 (Operand.tmp 21) (Operand.tmp 22) (CT_ #[AS_ O_ (modelE (u.m.getD k default).l u.inp u.cl (↑k:Int)).w,AS_ O_ (modelE (u.m.getD k default).l u.inp u.cl (↑k:Int)).m,AS_ O_ (modelE (u.m.getD k default).l u.inp u.cl (↑k:Int)).b,AS_ O_ (modelE (u.m.getD k default).l u.inp u.cl (↑k:Int)).n]) (CT_ #[AS_ O_ 0,AS_ O_ 0,AS_ O_ 0,AS_ O_ 0]) (BD_ !eqNums [(O_,(modelE (u.m.getD k default).l u.inp u.cl (↑k:Int)).w,0),(O_,(modelE (u.m.getD k default).l u.inp u.cl (↑k:Int)).m,0),(O_,(modelE (u.m.getD k default).l u.inp u.cl (↑k:Int)).b,0),(O_,(modelE (u.m.getD k default).l u.inp u.cl (↑k:Int)).n,0)]) from ((bin_nums (l:=[(O_,(modelE (u.m.getD k default).l u.inp u.cl (↑k:Int)).w,0),(O_,(modelE (u.m.getD k default).l u.inp u.cl (↑k:Int)).m,0),(O_,(modelE (u.m.getD k default).l u.inp u.cl (↑k:Int)).b,0),(O_,(modelE (u.m.getD k default).l u.inp u.cl (↑k:Int)).n,0)]) (by kernel_rfl) (by kernel_rfl) (by kernel_rfl) (by kernel_rfl) _ _).2)) (show (!eqNums [(O_,(modelE (u.m.getD k default).l u.inp u.cl (↑k:Int)).w,0),(O_,(modelE (u.m.getD k default).l u.inp u.cl (↑k:Int)).m,0),(O_,(modelE (u.m.getD k default).l u.inp u.cl (↑k:Int)).b,0),(O_,(modelE (u.m.getD k default).l u.inp u.cl (↑k:Int)).n,0)])=false by (rw[q];rfl)) (i6n ((↑k:Int)+1) (by omega)) (wS_ k))
theorem vbundle_ln_e (u:Bun) (m:Nat) (ok:u.Ok) (sm:u.Sm) (hm:m<u.m.length) (hf:(mE u m).w≠0) (h:∀ j,j<m→mE u j=⟨0,0,0,0⟩):VT L_ (fnC Tryz.f23 [1,1,0,1,0,0]) (vbundle_ln_I u m (m)) (.ret) (vbundle_ln_Z u m):=by
 have q5:=sm.l
 have hg:¬ (modelE (u.m.getD m default).l u.inp u.cl m).w=0:=hf
 have oz1:=@vmodel_v (u) (m) ok sm hm
 exact tR_ [r_,b_,r_,.r [] [cr oz1],.r [] [.v (BD_ !eqNums [(O_,(modelE (u.m.getD m default).l u.inp u.cl (↑m:Int)).w,0),(O_,(modelE (u.m.getD m default).l u.inp u.cl (↑m:Int)).m,0),(O_,(modelE (u.m.getD m default).l u.inp u.cl (↑m:Int)).b,0),(O_,(modelE (u.m.getD m default).l u.inp u.cl (↑m:Int)).n,0)])],b_,r_] [.any (rg [(1,1),(4,2),(14,11)]),.drop [1,5],.sort] (.d4 (decide_eq_true (p:=((↑m:Int)<(u.m.length:Int))) (by omega)) oz1 (show BinTo L_ BinOp.neq 77 (Operand.tmp 21) (Operand.tmp 22) (CT_ #[AS_ O_ (modelE (u.m.getD m default).l u.inp u.cl (↑m:Int)).w,AS_ O_ (modelE (u.m.getD m default).l u.inp u.cl (↑m:Int)).m,AS_ O_ (modelE (u.m.getD m default).l u.inp u.cl (↑m:Int)).b,AS_ O_ (modelE (u.m.getD m default).l u.inp u.cl (↑m:Int)).n]) (CT_ #[AS_ O_ 0,AS_ O_ 0,AS_ O_ 0,AS_ O_ 0]) (BD_ !eqNums [(O_,(modelE (u.m.getD m default).l u.inp u.cl (↑m:Int)).w,0),(O_,(modelE (u.m.getD m default).l u.inp u.cl (↑m:Int)).m,0),(O_,(modelE (u.m.getD m default).l u.inp u.cl (↑m:Int)).b,0),(O_,(modelE (u.m.getD m default).l u.inp u.cl (↑m:Int)).n,0)]) from ((bin_nums (l:=[(O_,(modelE (u.m.getD m default).l u.inp u.cl (↑m:Int)).w,0),(O_,(modelE (u.m.getD m default).l u.inp u.cl (↑m:Int)).m,0),(O_,(modelE (u.m.getD m default).l u.inp u.cl (↑m:Int)).b,0),(O_,(modelE (u.m.getD m default).l u.inp u.cl (↑m:Int)).n,0)]) (by kernel_rfl) (by kernel_rfl) (by kernel_rfl) (by kernel_rfl) _ _).2)) (show (!eqNums [(O_,(modelE (u.m.getD m default).l u.inp u.cl (↑m:Int)).w,0),(O_,(modelE (u.m.getD m default).l u.inp u.cl (↑m:Int)).m,0),(O_,(modelE (u.m.getD m default).l u.inp u.cl (↑m:Int)).b,0),(O_,(modelE (u.m.getD m default).l u.inp u.cl (↑m:Int)).n,0)])=true by (simp only[eqNums];rw[beq_eq_false_iff_ne.2 hg];rfl)))
theorem vbundle_ln (u:Bun) (m:Nat) (ok:u.Ok) (sm:u.Sm) (hm:m<u.m.length) (hf:(mE u m).w≠0) (h:∀ j,j<m→mE u j=⟨0,0,0,0⟩):VT L_ (fnC Tryz.f23 [1,1,0,1,0]) (vbundle_ln_I u m 0) (.ret) (vbundle_ln_Z u m) :=
 VT.loop (fun k=>vbundle_ln_I u m k) (m) (fun k hk=>vbundle_ln_s u m ok sm hm hf h k hk) (vbundle_ln_e u m ok sm hm hf h) (by intro h;cases h)
def bunE (u:Bun):Flt:=if wholeE u≠0 then ⟨wholeE u,-1,-1,-1⟩ else if firstBad (fun j=>(mE u j).w==0) u.m.length<u.m.length then mE u (firstBad (fun j=>(mE u j).w==0) u.m.length) else ⟨0,0,0,0⟩
theorem bunE_y {u:Bun} (w:wholeE u=0) (h:∀ j,j<u.m.length→mE u j=⟨0,0,0,0⟩):bunE u=⟨0,0,0,0⟩:=by
 unfold bunE
 rw[j_ (by simp[w]),firstBad_all fun j hj=>by rw[h j hj];rfl,j_ (by omega)]
theorem bunE_m {u:Bun} {m:Nat} (w:wholeE u=0) (hm:m<u.m.length) (hf:(mE u m).w≠0) (h:∀ j,j<m→mE u j=⟨0,0,0,0⟩):bunE u=mE u m:=by
 have e:=firstBad_at (p:=fun j=>(mE u j).w==0) (m:=m) (by simpa using hf) (fun j hj=>by rw[h j hj];rfl) hm
 unfold bunE
 rw[j_ (by simp[w]),e,i_ hm]
theorem bunE_cases (u:Bun):wholeE u≠0∨(wholeE u=0∧∀ j,j<u.m.length→mE u j=⟨0,0,0,0⟩)∨(wholeE u=0∧∃ m,m<u.m.length∧(mE u m).w≠0∧∀ j,j<m→mE u j=⟨0,0,0,0⟩):=by
 by_cases w:wholeE u=0
 ·rcases all_or (fun j=>(mE u j).w==0) u.m.length with h|⟨m,h1,h2,h3⟩
  ·exact .inr (.inl ⟨w,fun j hj=>modelE_z (beq_iff_eq.1 (h j hj))⟩)
  ·exact .inr (.inr ⟨w,m,h1,by simpa using h2,fun j hj=>modelE_z (beq_iff_eq.1 (h3 j hj))⟩)
 ·exact .inl w
theorem vbundle_a (u:Bun) (ok:u.Ok) (sm:u.Sm) (h:wholeE u≠0):VC L_ 23 ([bun u]) (flt (bunE u)):=by
 have q5:=sm.l
 have oz0:=@vwhole_v (u) ok (by omega)
 exact (cR_ [r_,.r [] [cr oz0],r_,b_,r_] (AV.agg [i64 (wholeE u),i64 (-1),i64 (-1),i64 (-1)]) Tryz.func23 (.d2 oz0 (show (wholeE u != 0)=true by (simp;omega)))).weak (AM_ _) (BL_ (.cons (Q_ (by (unfold bunE;rw[i_ h]))) (.cons (Q_ (by (unfold bunE;rw[i_ h]))) (.cons (Q_ (by (unfold bunE;rw[i_ h]))) (.cons (Q_ (by (unfold bunE;rw[i_ h]))) .nil)))))
theorem vbundle_y (u:Bun) (ok:u.Ok) (sm:u.Sm) (w:wholeE u=0) (h:∀ j,j<u.m.length→mE u j=⟨0,0,0,0⟩):VC L_ 23 ([bun u]) (flt ⟨0,0,0,0⟩):=by
 have q5:=sm.l
 have oz0:=@vwhole_v (u) ok (by omega)
 have oz4:=@vbundle_ly (u) ok sm h
 exact cR_ [r_,.r [] [cr oz0],r_,d_,r_,.code [.any [0,3,6,7,8,9,12,13],.weak 14 (i64 (u.m.length:Int)),.weak 15 (i64 (↑0:Int)),.sort] (BO_ 0) (zO oz4),r_] _ Tryz.func23 (.d5 oz0 (show (wholeE u != 0)=false by (rw[w];rfl)) (Q_ (k:=.i64) (show ((((K_ mdlC u.m).length:Int)):Int)=((u.m.length:Int)) from (by (simp;done)))) w0_ oz4)
theorem vbundle_m (u:Bun) (m:Nat) (ok:u.Ok) (sm:u.Sm) (w:wholeE u=0) (hm:m<u.m.length) (hf:(mE u m).w≠0) (h:∀ j,j<m→mE u j=⟨0,0,0,0⟩):VC L_ 23 ([bun u]) (flt (mE u m)):=by
 have q5:=sm.l
 have oz0:=@vwhole_v (u) ok (by omega)
 have oz4:=@vbundle_ln (u) (m) ok sm hm hf h
 exact cR_ [r_,.r [] [cr oz0],r_,d_,r_,.code [.any [0,3,6,7,8,9,12,13],.weak 14 (i64 (u.m.length:Int)),.weak 15 (i64 (↑0:Int)),.sort] (Exit.ret) (zO oz4)] _ Tryz.func23 (.d5 oz0 (show (wholeE u != 0)=false by (rw[w];rfl)) (Q_ (k:=.i64) (show ((((K_ mdlC u.m).length:Int)):Int)=((u.m.length:Int)) from (by (simp;done)))) w0_ oz4)
theorem vbundle_v (u:Bun) (ok:u.Ok) (sm:u.Sm):VC L_ 23 [bun u] (flt (bunE u)):=by
 rcases bunE_cases u with h|⟨w,h⟩|⟨w,m,h1,h2,h3⟩
 ·exact vbundle_a u ok sm h
 ·rw[bunE_y w h];exact vbundle_y u ok sm w h
 ·rw[bunE_m w h1 h2 h3];exact vbundle_m u m ok sm w h1 h2 h3
theorem modelE_ok {l:List Blc} {a:Shp} {cl j:Int} (h:modelE l a cl j=⟨0,0,0,0⟩):¬ l.length=0∧l.length≤6∧∀ k,k<l.length→(vB l a cl k).2=0:=by
 rcases modelE_cases l a cl with g|g|⟨h6,m,h1,h2,h3⟩
 ·exact g
 ·exfalso
  revert h
  unfold modelE
  by_cases c:l.length=0
  ·rw[i_ c];intro h;injection h with h;revert h;decide
  ·rw[j_ c,i_ (by omega)];intro h;injection h with h;revert h;decide
 ·rw[modelE_m h6 h1 h2 h3] at h;injection h with h;exact absurd h h2
theorem open_s (l:List Int) (h:l.length<8):VC L_ 27 ([ints .u8 l]) (.tup [.sl 1 (([]:List Int).map (row1 .u8)),i64 20]):=by
 exact (cR_ [r_,r_,d_,r_,b_,r_] (AV.tup [AV.lit (AQ_ none 0 0),i64 20]) Tryz.func27 (.d2 (show decide (((K_ (row1 .u8) l).length:Int)>1048576)=false by (simp;omega)) (show decide (((K_ (row1 .u8) l).length:Int)<8)=true by (simp;omega)))).weak (AM_ _) (AI_ (.cons (AG_ _) (.cons (.refl _) .nil)))
theorem dec_o (l:List Int) (e:Int) (he:e≠0) (h:VC L_ 27 [ints .u8 l] (.tup [.sl 1 (([]:List Int).map (row1 .u8)),i64 e])):VC L_ 10 ([ints .u8 l]) (.tup [.agg [i64 0,i64 0,i64 0,i64 0,nilv],i64 e]):=by
 have oz0:=@h
 exact cR_ [r_,.r [] [cr oz0],r_,b_,r_] _ Tryz.func10 (.d2 oz0 (show (e != 0)=true by (simp;omega)))
theorem known35_v (S:List Int) (hS:S.length=5) (h2:VC L_ 22 [ints .u8 [1]] (ints .u8 S)) (h:VC L_ 10 [ints .u8 []] (.tup [.agg [i64 0,i64 0,i64 0,i64 0,nilv],i64 20])):VC L_ 8 ([]) (bv true):=by
 have q:(((S.map (row1 .u8)).length:Int)==5)=true:=by rw[R_,hS];rfl
 have oz1:=@h
 have oz2:=z0_
 have oz5:=@h2
 exact (cR_ [r_,.r [] [ca oz1],.r [] [e_,e_,.frz 0,e_,cr oz5,e_,e_,e_]] (bv (((K_ (row1 .u8) S).length:Int)==5)) Tryz.func8 (.c8 (show WeakL [AV.lit (AQ_ none 0 0)] [AV.sl 1 []] from (.cons (AG_ _) .nil)) oz1 oz2 oz2 oz2 oz5 oz2 oz2<|.d oz2)).weak (AM_ _) (AF_ (q))
theorem end_eq {l:List Int} (h:4≤l.length) (hb:l.length≤20000000):(((l.map (row1 .u8)).length:Int)-4).toNat=l.length-4:=by
 rw[R_];omega
theorem str_eq (l:List Int):((strOfNums l).toList==(ByteArray.mk #[83,84,87,49]).toList)=(l.map (fun n=>UInt8.ofNat n.toNat)==[83,84,87,49]):=by
 rw[ByteArray.toList_eq,ByteArray.toList_eq,strOfNums_data]
theorem str_y {l:List Int} (h:l.take 4=[83,84,87,49]):((strOfNums (AB_ (4-0) (AY_ 0 l))).toList==(ByteArray.mk #[83,84,87,49]).toList)=true:=by
 rw[List.drop_zero,Nat.sub_zero,h,str_eq];decide
theorem u8_nat {n:Int} {k:Nat} (h:0≤n∧n≤255) (hk:k<256) (e:UInt8.ofNat n.toNat=UInt8.ofNat k):n=k:=by
 have:=congrArg UInt8.toNat e
 simp only[UInt8.toNat_ofNat'] at this
 omega
theorem str_n {l:List Int} (hx:∀ x∈l,0≤x∧x≤255) (h:l.take 4≠[83,84,87,49]):((strOfNums (AB_ (4-0) (AY_ 0 l))).toList==(ByteArray.mk #[83,84,87,49]).toList)=false:=by
 rw[List.drop_zero,Nat.sub_zero,str_eq]
 have hy:∀ x∈l.take 4,0≤x∧x≤255:=fun x q=>hx x (CJ_ q)
 revert h hy
 generalize l.take 4=m
 intro h hy
 refine beq_eq_false_iff_ne.2 fun e=>h ?_
 have e:m.map (fun n=>UInt8.ofNat n.toNat)=[83,84,87,49]:=e
 obtain ⟨a,m,rfl,e1,e⟩:=List.map_eq_cons_iff.1 e
 obtain ⟨b,m,rfl,e2,e⟩:=List.map_eq_cons_iff.1 e
 obtain ⟨c,m,rfl,e3,e⟩:=List.map_eq_cons_iff.1 e
 obtain ⟨d,m,rfl,e4,e⟩:=List.map_eq_cons_iff.1 e
 have e:=List.map_eq_nil_iff.1 e
 subst e
 rw[u8_nat (k:=83) (hy a (by simp)) (by decide) e1,u8_nat (k:=84) (hy b (by simp)) (by decide) e2,u8_nat (k:=87) (hy c (by simp)) (by decide) e3,u8_nat (k:=49) (hy d (by simp)) (by decide) e4];rfl
theorem z4_:(0:Nat)=(0:Nat):=rfl
theorem z5_:(0:Nat)≤(4:Nat):=by omega
theorem open_m (l:List Int) (hx:∀ x∈l,0≤x∧x≤255) (h8:8≤l.length) (hb:l.length≤1048576) (hm:l.take 4≠[83,84,87,49]):VC L_ 27 ([ints .u8 l]) (.tup [.sl 1 (([]:List Int).map (row1 .u8)),i64 22]):=by
 have z1:=str_n hx hm
 exact (cR_ [r_,r_,d_,r_,d_,.r [] [.nats 0 4,.il (AB_ (4-0) (AY_ 0 l))],b_,r_] (AV.tup [AV.lit (AQ_ none 0 0),i64 22]) Tryz.func27 (.d8 (show decide (((K_ (row1 .u8) l).length:Int)>1048576)=false by (simp;omega)) (show decide (((K_ (row1 .u8) l).length:Int)<8)=false by (simp;omega)) z4_ z2_ z5_ (show 4≤(K_ (row1 .u8) l).length by (simp;omega)) (show AB_ (4-0) (AY_ 0 (K_ (row1 .u8) l))=K_ (fun (n:Int)=>[u8 n]) (AB_ (4-0) (AY_ 0 l)) by (simp;done)) (show (!(strOfNums (AB_ (4-0) (AY_ 0 l))).toList==(ByteArray.mk #[83,84,87,49]).toList)=true by (simp at *;omega)))).weak (AM_ _) (AI_ (.cons (AG_ _) (.cons (.refl _) .nil)))
theorem open_u (G:List Int→List Int) (l:List Int) (hG:Seals G) (hx:∀ x∈l,0≤x∧x≤255) (h8:8≤l.length) (hb:l.length≤1048576) (hm:l.take 4=[83,84,87,49]) (hs:G (l.take (l.length-4))≠l):VC L_ 27 ([ints .u8 l]) (.tup [.sl 1 (([]:List Int).map (row1 .u8)),i64 23]):=by
 have z1:=str_y hm
 have qe:=end_eq (l:=l) (by omega) (by omega)
 have q0:AB_ ((((l.map (row1 .u8)).length:Int)-4).toNat-0) (AY_ 0 l)=l.take (l.length-4):=by rw[qe,List.drop_zero,Nat.sub_zero]
 have q1:∀ x∈AB_ ((((l.map (row1 .u8)).length:Int)-4).toNat-0) (AY_ 0 l),0≤x∧x≤255:=by rw[q0];exact fun x h=>hx x (CJ_ h)
 have q2:(AB_ ((((l.map (row1 .u8)).length:Int)-4).toNat-0) (AY_ 0 l)).length=l.length-4:=by rw[q0,BS_];omega
 have q3:=hG.l (AB_ ((((l.map (row1 .u8)).length:Int)-4).toNat-0) (AY_ 0 l))
 have z2:decide (G (AB_ ((((l.map (row1 .u8)).length:Int)-4).toNat-0) (AY_ 0 l))=l)=false:=by rw[q0];exact decide_eq_false hs
 have oz2:=z4_
 have oz8:=(i6n (((K_ (row1 .u8) l).length:Int)-4) (by omega))
 have oz14:=@seal_v (G) hG (AB_ ((((K_ (row1 .u8) l).length:Int)-4).toNat-0) (AY_ 0 l)) q1 (by omega)
 have oz15:=@eqb_v (G (AB_ ((((K_ (row1 .u8) l).length:Int)-4).toNat-0) (AY_ 0 l))) (l) (by omega)
 exact (cR_ [r_,r_,d_,r_,d_,.r [] [.nats 0 4,.il (AB_ (4-0) (AY_ 0 l))],d_,.r [] [.n (nO oz8)],.r [] [.nats 0 (((K_ (row1 .u8) l).length:Int)-4).toNat,ca oz14,cr oz15],b_,r_] (AV.tup [AV.lit (AQ_ none 0 0),i64 23]) Tryz.func27 (.c8 (decide_eq_false (p:=(((K_ (row1 .u8) l).length:Int)>1048576)) (by omega)) (decide_eq_false (p:=(((K_ (row1 .u8) l).length:Int)<8)) (by omega)) oz2 z2_ z5_ (s_ (4≤(K_ (row1 .u8) l).length)) (show AB_ (4-0) (AY_ 0 (K_ (row1 .u8) l))=K_ (fun (n:Int)=>[u8 n]) (AB_ (4-0) (AY_ 0 l)) by (simp;done)) (show (!(strOfNums (AB_ (4-0) (AY_ 0 l))).toList==(ByteArray.mk #[83,84,87,49]).toList)=false by (simp at *;omega))<|.c8 oz8 oz2 (s_ (((K_ (row1 .u8) l).length:Int)-4=(↑(((K_ (row1 .u8) l).length:Int)-4).toNat:Int))) (s_ (0≤(((K_ (row1 .u8) l).length:Int)-4).toNat)) (s_ ((((K_ (row1 .u8) l).length:Int)-4).toNat≤(K_ (row1 .u8) l).length)) (show WeakL [AV.sl 1 (AB_ ((((K_ (row1 .u8) l).length:Int)-4).toNat-0) (AY_ 0 (K_ (row1 .u8) l)))] [AV.sl 1 (K_ (row1 .u8) (AB_ ((((K_ (row1 .u8) l).length:Int)-4).toNat-0) (AY_ 0 l)))] from (.cons (BQ_ (rows_to (row1 .u8) (r:=AB_ ((((K_ (row1 .u8) l).length:Int)-4).toNat-0) (AY_ 0 (K_ (row1 .u8) l))) (l:=AB_ ((((K_ (row1 .u8) l).length:Int)-4).toNat-0) (AY_ 0 l)) (m:=AB_ ((((K_ (row1 .u8) l).length:Int)-4).toNat-0) (AY_ 0 l)) (by first|(simp only[B_,C_,AO_,AP_,W_,AK_,AL_];done)|rfl|(simp only[B_,C_,AO_,AP_,W_,AK_,AL_];rfl)) rfl)) .nil)) oz14 oz15<|.d (show (!decide (G (AB_ ((((K_ (row1 .u8) l).length:Int)-4).toNat-0) (AY_ 0 l))=l))=true by (simp at *;omega)))).weak (AM_ _) (AI_ (.cons (AG_ _) (.cons (.refl _) .nil)))
theorem open_y (G:List Int→List Int) (l:List Int) (hG:Seals G) (hx:∀ x∈l,0≤x∧x≤255) (h8:8≤l.length) (hb:l.length≤1048576) (hm:l.take 4=[83,84,87,49]) (hs:G (l.take (l.length-4))=l):VC L_ 27 ([ints .u8 l]) (.tup [ints .u8 ((l.drop 4).take (l.length-8)),i64 0]):=by
 have z1:=str_y hm
 have qe:=end_eq (l:=l) (by omega) (by omega)
 have q0:AB_ ((((l.map (row1 .u8)).length:Int)-4).toNat-0) (AY_ 0 l)=l.take (l.length-4):=by rw[qe,List.drop_zero,Nat.sub_zero]
 have q1:∀ x∈AB_ ((((l.map (row1 .u8)).length:Int)-4).toNat-0) (AY_ 0 l),0≤x∧x≤255:=by rw[q0];exact fun x h=>hx x (CJ_ h)
 have q2:(AB_ ((((l.map (row1 .u8)).length:Int)-4).toNat-0) (AY_ 0 l)).length=l.length-4:=by rw[q0,BS_];omega
 have q3:=hG.l (AB_ ((((l.map (row1 .u8)).length:Int)-4).toNat-0) (AY_ 0 l))
 have z2:decide (G (AB_ ((((l.map (row1 .u8)).length:Int)-4).toNat-0) (AY_ 0 l))=l)=true:=by rw[q0];exact decide_eq_true hs
 have oz2:=z4_
 have oz3:=z2_
 have oz8:=(i6n (((K_ (row1 .u8) l).length:Int)-4) (by omega))
 have oz10:=(s_ (((K_ (row1 .u8) l).length:Int)-4=(↑(((K_ (row1 .u8) l).length:Int)-4).toNat:Int)))
 have oz12:=(s_ ((((K_ (row1 .u8) l).length:Int)-4).toNat≤(K_ (row1 .u8) l).length))
 have oz14:=@seal_v (G) hG (AB_ ((((K_ (row1 .u8) l).length:Int)-4).toNat-0) (AY_ 0 l)) q1 (by omega)
 have oz15:=@eqb_v (G (AB_ ((((K_ (row1 .u8) l).length:Int)-4).toNat-0) (AY_ 0 l))) (l) (by omega)
 exact (cR_ [r_,r_,d_,r_,d_,.r [] [.nats 0 4,.il (AB_ (4-0) (AY_ 0 l))],d_,.r [] [.n (nO oz8)],.r [] [.nats 0 (((K_ (row1 .u8) l).length:Int)-4).toNat,ca oz14,cr oz15],d_,.r [] [.nats 4 (((K_ (row1 .u8) l).length:Int)-4).toNat]] (AV.tup [AV.sl 1 (AB_ ((((K_ (row1 .u8) l).length:Int)-4).toNat-4) (AY_ 4 (K_ (row1 .u8) l))),i64 0]) Tryz.func27 (.c8 (decide_eq_false (p:=(((K_ (row1 .u8) l).length:Int)>1048576)) (by omega)) (decide_eq_false (p:=(((K_ (row1 .u8) l).length:Int)<8)) (by omega)) oz2 oz3 z5_ (s_ (4≤(K_ (row1 .u8) l).length)) (show AB_ (4-0) (AY_ 0 (K_ (row1 .u8) l))=K_ (fun (n:Int)=>[u8 n]) (AB_ (4-0) (AY_ 0 l)) by (simp;done)) (show (!(strOfNums (AB_ (4-0) (AY_ 0 l))).toList==(ByteArray.mk #[83,84,87,49]).toList)=false by (simp at *;omega))<|.c8 oz8 oz2 oz10 (s_ (0≤(((K_ (row1 .u8) l).length:Int)-4).toNat)) oz12 (show WeakL [AV.sl 1 (AB_ ((((K_ (row1 .u8) l).length:Int)-4).toNat-0) (AY_ 0 (K_ (row1 .u8) l)))] [AV.sl 1 (K_ (row1 .u8) (AB_ ((((K_ (row1 .u8) l).length:Int)-4).toNat-0) (AY_ 0 l)))] from (.cons (BQ_ (rows_to (row1 .u8) (r:=AB_ ((((K_ (row1 .u8) l).length:Int)-4).toNat-0) (AY_ 0 (K_ (row1 .u8) l))) (l:=AB_ ((((K_ (row1 .u8) l).length:Int)-4).toNat-0) (AY_ 0 l)) (m:=AB_ ((((K_ (row1 .u8) l).length:Int)-4).toNat-0) (AY_ 0 l)) (by first|(simp only[B_,C_,AO_,AP_,W_,AK_,AL_];done)|rfl|(simp only[B_,C_,AO_,AP_,W_,AK_,AL_];rfl)) rfl)) .nil)) oz14 oz15<|.d5 (show (!decide (G (AB_ ((((K_ (row1 .u8) l).length:Int)-4).toNat-0) (AY_ 0 l))=l))=false by (simp at *;omega)) oz3 oz10 (s_ (4≤(((K_ (row1 .u8) l).length:Int)-4).toNat)) oz12)).weak (AM_ _) (AI_ (.cons (BQ_ (rows_to (row1 .u8) (r:=AB_ ((((K_ (row1 .u8) l).length:Int)-4).toNat-4) (AY_ 4 (K_ (row1 .u8) l))) (l:=AB_ ((((K_ (row1 .u8) l).length:Int)-4).toNat-4) (AY_ 4 l)) (m:=AB_ (l.length-8) (AY_ 4 l)) (by first|(simp only[B_,C_,AO_,AP_,W_,AK_,AL_];done)|rfl|(simp only[B_,C_,AO_,AP_,W_,AK_,AL_];rfl)) (show (AB_ ((((K_ (row1 .u8) l).length:Int)-4).toNat-4) (AY_ 4 l))=(AB_ (l.length-8) (AY_ 4 l)) from (by (simp;omega))))) (.cons (.refl _) .nil)))
abbrev Rst:=List Int×Int
abbrev rdC (s:Rst):List AV:=[.sl 1 (s.1.map (row1 .u8)),i64 s.2]
theorem get_rng {l:List Int} (hb:∀ x∈l,0≤x∧x≤255):0≤getV l∧getV l≤18446744073709551615∧(getE l=0→0<getN l∧getN l≤l.length):=by
 obtain ⟨a,b,c⟩:=getAt_range l hb
 refine ⟨a,b,fun h=>?_⟩
 have:=get_back l hb (getAt l 0 0).1 (getAt l 0 0).2.1 (Prod.ext rfl (Prod.ext rfl h))
 exact ⟨this.1,this.2.1⟩
def cntS (s:Rst) (most:Int):Rst :=
 if s.2≠0 then s else if getE s.1≠0 then ([],getE s.1) else if max most 0<getV s.1 then ([],3) else (s.1.drop (getN s.1).toNat,0)
def cntV (s:Rst) (most:Int):Int :=
 if s.2≠0 then 0 else if getE s.1≠0 then 0 else if max most 0<getV s.1 then 0 else getV s.1
theorem rfail_v (l:List Int) (f:Int)  : VM L_ 96 ([.ptr 100000 0 0,i64 f]) ([(100000,.var (rdC (l,0)))]) (.tup []) ([(100000,.var (rdC ([],f)))]):=by
 exact mR_ [r_,b_,r_] [.blk 100000 (Blk.var [AV.sl 1 [],i64 f]),.sort] _ Tryz.func96 (.d2 (show ((l,0).snd==0)=true by (refine decide_eq_true ?_;omega)) (show BlkW (Blk.var [AV.lit (AQ_ none 0 0),i64 f]) (Blk.var [AV.sl 1 [],i64 f]) from (BlkW.var (m:=[AV.sl 1 [],i64 f]) (.cons (AG_ _) (.cons (.refl _) .nil)))))
theorem next_e (s:Rst) (h:s.2≠0):VM L_ 94 ([.ptr 100000 0 0,.clo 95 []]) ([(100000,.var (rdC s))]) (.tup [.lit (.int .u64 0),bv false]) ([(100000,.var (rdC s))]):=by
 have oz0:=z1_
 exact mR_ [r_,.r [] [e_,e_,e_,e_,e_,f_],b_,r_] [.sort] _ Tryz.func94 (.d7 oz0 oz0 oz0 oz0 oz0 oz0 (show (s.snd != 0)=true by (simp;omega)))
theorem next_g (l:List Int) (hb:∀ x∈l,0≤x∧x≤255) (hl:l.length≤1000000) (h:getE l≠0):VM L_ 94 ([.ptr 100000 0 0,.clo 95 []]) ([(100000,.var (rdC (l,0)))]) (.tup [.lit (.int .u64 0),bv false]) ([(100000,.var (rdC ([],getE l)))]):=by
 have oz0:=z1_
 have oz7:=@get_v (l) hb hl
 have oz9:=@rfail_v (l) (getE l)
 exact mR_ [r_,.r [] [e_,e_,e_,e_,e_,f_],d_,.r [] [cr oz7],r_,b_,.r [] [cm oz9],r_] [.sort] _ Tryz.func94 (.c8 oz0 oz0 oz0 oz0 oz0 oz0 (show ((l,0).snd != 0)=false by (simp;done)) oz7<|.d2 (show (getE l != 0)=true by (simp;omega)) oz9)
theorem next_y (l:List Int) (hb:∀ x∈l,0≤x∧x≤255) (hl:l.length≤1000000) (h:getE l=0):VM L_ 94 ([.ptr 100000 0 0,.clo 95 []]) ([(100000,.var (rdC (l,0)))]) (.tup [.lit (.int .u64 (getV l)),bv true]) ([(100000,.var (rdC (l.drop (getN l).toNat,0)))]):=by
 obtain ⟨q1,q2,q3⟩:=get_rng hb
 have q4:=q3 h
 have oz0:=z1_
 have oz7:=@get_v (l) hb hl
 exact mR_ [r_,.r [] [e_,e_,e_,e_,e_,f_],d_,.r [] [cr oz7],r_,d_,.r [] [.nats (getN l).toNat (K_ (row1 .u8) (l,0).fst).length],r_] [.blk 100000 (Blk.var [AV.sl 1 (K_ (row1 .u8) (AY_ (getN l).toNat l)),i64 0]),.sort] _ Tryz.func94 (.c8 oz0 oz0 oz0 oz0 oz0 oz0 (show ((l,0).snd != 0)=false by (simp;done)) oz7<|.d6 (show (getE l != 0)=false by (simp;omega)) (s_ (getN l=(↑(getN l).toNat:Int))) (show (K_ (row1 .u8) (l,0).fst).length=(K_ (row1 .u8) (l,0).fst).length by with_reducible rfl) (show (getN l).toNat≤(K_ (row1 .u8) (l,0).fst).length by (simp;omega)) (s_ ((K_ (row1 .u8) (l,0).fst).length≤(K_ (row1 .u8) (l,0).fst).length)) (show BlkW (Blk.var [AV.sl 1 (AB_ ((K_ (row1 .u8) (l,0).fst).length-(getN l).toNat) (AY_ (getN l).toNat (K_ (row1 .u8) (l,0).fst))),i64 (l,0).snd]) (Blk.var [AV.sl 1 (K_ (row1 .u8) (AY_ (getN l).toNat l)),i64 0]) from (BlkW.var (m:=[AV.sl 1 (K_ (row1 .u8) (AY_ (getN l).toNat l)),i64 0]) (.cons (BQ_ (rows_to (row1 .u8) (r:=AB_ ((K_ (row1 .u8) (l,0).fst).length-(getN l).toNat) (AY_ (getN l).toNat (K_ (row1 .u8) (l,0).fst))) (l:=AB_ ((K_ (row1 .u8) (l,0).fst).length-(getN l).toNat) (AY_ (getN l).toNat (l,0).fst)) (m:=AY_ (getN l).toNat l) (by first|(simp only[B_,C_,AO_,AP_,W_,AK_,AL_];done)|rfl|(simp only[B_,C_,AO_,AP_,W_,AK_,AL_];rfl)) (show (AB_ ((K_ (row1 .u8) (l,0).fst).length-(getN l).toNat) (AY_ (getN l).toNat (l,0).fst))=(AY_ (getN l).toNat l) from (by (rw[DN_ (by simp[BK_])]))))) (.cons (.refl _) .nil)))))
theorem nexti_e (s:Rst) (h:s.2≠0):VM L_ 252 ([.ptr 100000 0 0,.clo 253 []]) ([(100000,.var (rdC s))]) (.tup [.lit (.int .i64 0),bv false]) ([(100000,.var (rdC s))]):=by
 have oz0:=z1_
 exact mR_ [r_,.r [] [e_,e_,e_,e_,e_,f_],b_,r_] [.sort] _ Tryz.func252 (.d7 oz0 oz0 oz0 oz0 oz0 oz0 (show (s.snd != 0)=true by (simp;omega)))
theorem nexti_g (l:List Int) (hb:∀ x∈l,0≤x∧x≤255) (hl:l.length≤1000000) (h:getE l≠0):VM L_ 252 ([.ptr 100000 0 0,.clo 253 []]) ([(100000,.var (rdC (l,0)))]) (.tup [.lit (.int .i64 0),bv false]) ([(100000,.var (rdC ([],getE l)))]):=by
 have oz0:=z1_
 have oz7:=@getInt_v (l) hb hl
 have oz9:=@rfail_v (l) (getE l)
 exact mR_ [r_,.r [] [e_,e_,e_,e_,e_,f_],d_,.r [] [cr oz7],r_,b_,.r [] [cm oz9],r_] [.sort] _ Tryz.func252 (.c8 oz0 oz0 oz0 oz0 oz0 oz0 (show ((l,0).snd != 0)=false by (simp;done)) oz7<|.d2 (show (getE l != 0)=true by (simp;omega)) oz9)
theorem nexti_y (l:List Int) (hb:∀ x∈l,0≤x∧x≤255) (hl:l.length≤1000000) (h:getE l=0):VM L_ 252 ([.ptr 100000 0 0,.clo 253 []]) ([(100000,.var (rdC (l,0)))]) (.tup [.lit (.int .i64 (unfoldN (getV l))),bv true]) ([(100000,.var (rdC (l.drop (getN l).toNat,0)))]):=by
 obtain ⟨q1,q2,q3⟩:=get_rng hb
 have q4:=q3 h
 have oz0:=z1_
 have oz7:=@getInt_v (l) hb hl
 exact mR_ [r_,.r [] [e_,e_,e_,e_,e_,f_],d_,.r [] [cr oz7],r_,d_,.r [] [.nats (getN l).toNat (K_ (row1 .u8) (l,0).fst).length],r_] [.blk 100000 (Blk.var [AV.sl 1 (K_ (row1 .u8) (AY_ (getN l).toNat l)),i64 0]),.sort] _ Tryz.func252 (.c8 oz0 oz0 oz0 oz0 oz0 oz0 (show ((l,0).snd != 0)=false by (simp;done)) oz7<|.d6 (show (getE l != 0)=false by (simp;omega)) (s_ (getN l=(↑(getN l).toNat:Int))) (show (K_ (row1 .u8) (l,0).fst).length=(K_ (row1 .u8) (l,0).fst).length by with_reducible rfl) (show (getN l).toNat≤(K_ (row1 .u8) (l,0).fst).length by (simp;omega)) (s_ ((K_ (row1 .u8) (l,0).fst).length≤(K_ (row1 .u8) (l,0).fst).length)) (show BlkW (Blk.var [AV.sl 1 (AB_ ((K_ (row1 .u8) (l,0).fst).length-(getN l).toNat) (AY_ (getN l).toNat (K_ (row1 .u8) (l,0).fst))),i64 (l,0).snd]) (Blk.var [AV.sl 1 (K_ (row1 .u8) (AY_ (getN l).toNat l)),i64 0]) from (BlkW.var (m:=[AV.sl 1 (K_ (row1 .u8) (AY_ (getN l).toNat l)),i64 0]) (.cons (BQ_ (rows_to (row1 .u8) (r:=AB_ ((K_ (row1 .u8) (l,0).fst).length-(getN l).toNat) (AY_ (getN l).toNat (K_ (row1 .u8) (l,0).fst))) (l:=AB_ ((K_ (row1 .u8) (l,0).fst).length-(getN l).toNat) (AY_ (getN l).toNat (l,0).fst)) (m:=AY_ (getN l).toNat l) (by first|(simp only[B_,C_,AO_,AP_,W_,AK_,AL_];done)|rfl|(simp only[B_,C_,AO_,AP_,W_,AK_,AL_];rfl)) (show (AB_ ((K_ (row1 .u8) (l,0).fst).length-(getN l).toNat) (AY_ (getN l).toNat (l,0).fst))=(AY_ (getN l).toNat l) from (by (rw[DN_ (by simp[BK_])]))))) (.cons (.refl _) .nil)))))
abbrev hDm_ (f:Nat) (r:Rst) (m:Int) (v:Int) (q:Rst):Prop:=VM L_ f [.ptr 100000 0 0,i64 m] [(100000,.var (rdC r))] (i64 v) [(100000,.var (rdC q))]
abbrev hDo8_ (f:Nat) (r:Rst) (v:Int) (q:Rst):Prop:=VM L_ f [.ptr 100000 0 0] [(100000,.var (rdC r))] (i8 v) [(100000,.var (rdC q))]
abbrev hDo_ (f:Nat) (r:Rst) (v:Int) (q:Rst):Prop:=VM L_ f [.ptr 100000 0 0] [(100000,.var (rdC r))] (i64 v) [(100000,.var (rdC q))]
theorem count_e (s:Rst) (m:Int) (h:s.2≠0) (h0:0≤m) (h1:m≤2147483647):hDm_ 59 s m 0 s:=by
 have oz0:=@next_e (s) h
 exact mR_ [r_,.r [] [cm oz0],r_,b_,r_] [.sort] _ Tryz.func59 (.d2 oz0 z0_)
theorem count_g (l:List Int) (m:Int) (hb:∀ x∈l,0≤x∧x≤255) (hl:l.length≤1000000) (h:getE l≠0) (h0:0≤m) (h1:m≤2147483647):hDm_ 59 (l,0) m 0 ([],getE l):=by
 have oz0:=@next_g (l) hb hl h
 exact mR_ [r_,.r [] [cm oz0],r_,b_,r_] [.sort] _ Tryz.func59 (.d2 oz0 z0_)
theorem count_m (l:List Int) (m:Int) (hb:∀ x∈l,0≤x∧x≤255) (hl:l.length≤1000000) (h:getE l=0) (h0:0≤m) (h1:m≤2147483647) (h2:m<getV l):hDm_ 59 (l,0) m 0 ([],3):=by
 obtain ⟨q1,q2,q3⟩:=get_rng hb
 have oz0:=@next_y (l) hb hl h
 have oz4:=@rfail_v (AY_ (getN l).toNat l) (3)
 exact mR_ [r_,.r [] [cm oz0],r_,d_,.r [] [.n (if 0>m then 0 else m)],b_,.r [] [cm oz4],r_] [.sort] _ Tryz.func59 (.d5 oz0 z1_ (IntWalk.u64_in (if 0>m then 0 else m) (by omega)) (decide_eq_true (p:=(getV l>if 0>m then 0 else m)) (by omega)) oz4)
theorem count_y (l:List Int) (m:Int) (hb:∀ x∈l,0≤x∧x≤255) (hl:l.length≤1000000) (h:getE l=0) (h0:0≤m) (h1:m≤2147483647) (h2:getV l≤m):hDm_ 59 (l,0) m (getV l) (l.drop (getN l).toNat,0):=by
 obtain ⟨q1,q2,q3⟩:=get_rng hb
 have oz0:=@next_y (l) hb hl h
 exact mR_ [r_,.r [] [cm oz0],r_,d_,.r [] [.n (if 0>m then 0 else m)],d_,.r [] [.n (getV l)]] [.sort] _ Tryz.func59 (.d5 oz0 z1_ (IntWalk.u64_in (if 0>m then 0 else m) (by omega)) (decide_eq_false (p:=(getV l>if 0>m then 0 else m)) (by omega)) (i6n (getV l) (by omega)))
structure Rst.In (s:Rst):Prop where
 b:∀ x∈s.1,0≤x∧x≤255
 l:s.1.length≤1000000
theorem mem_drop' {l:List Int} {n:Nat} {p:Int→Prop} (h:∀ x∈l,p x):∀ x∈l.drop n,p x:=fun x hx=>h x (List.mem_of_mem_drop hx)
theorem cnt_in {s:Rst} (h:s.In) (m:Int):(cntS s m).In:=by
 unfold cntS
 split
 ·exact h
 ·split
  ·exact ⟨by simp,by simp⟩
  ·split
   ·exact ⟨by simp,by simp⟩
   ·exact ⟨mem_drop' h.b,by have:=h.l;simp only[BK_];omega⟩
theorem cnt_v (s:Rst) (m:Int) (h:s.In) (h0:0≤m) (h1:m≤2147483647):hDm_ 59 s m (cntV s m) (cntS s m):=by
 obtain ⟨l,e⟩:=s
 by_cases he:e=0
 ·subst he
  by_cases hg:getE l=0
  ·by_cases hm:m<getV l
   ·rw[show cntS (l,0) m=([],3) from by simp[cntS,hg,show max m 0<getV l by omega],show cntV (l,0) m=0 from by simp[cntV,hg,show max m 0<getV l by omega]]
    exact count_m l m h.b h.l hg h0 h1 hm
   ·rw[show cntS (l,0) m=(l.drop (getN l).toNat,0) from by simp[cntS,hg,show ¬ max m 0<getV l by omega],show cntV (l,0) m=getV l from by simp[cntV,hg,show ¬ max m 0<getV l by omega]]
    exact count_y l m h.b h.l hg h0 h1 (by omega)
  ·rw[show cntS (l,0) m=([],getE l) from by simp[cntS,hg],show cntV (l,0) m=0 from by simp[cntV,hg]]
   exact count_g l m h.b h.l hg h0 h1
 ·rw[show cntS (l,e) m=(l,e) from by simp[cntS,he],show cntV (l,e) m=0 from by simp[cntV,he]]
  exact count_e (l,e) m he h0 h1
theorem cntV_rng {s:Rst} {m:Int} (h:s.In) (h0:0≤m):0≤cntV s m∧cntV s m≤m:=by
 have:=(get_rng h.b).1
 unfold cntV
 split
 ·omega
 ·split
  ·omega
  ·split
   ·omega
   ·omega
def intS (s:Rst) (lo hi:Int):Rst :=
 if s.2≠0 then s else if getE s.1≠0 then ([],getE s.1) else if unfoldN (getV s.1)<lo∨hi<unfoldN (getV s.1) then ([],3) else (s.1.drop (getN s.1).toNat,0)
def intV (s:Rst) (lo hi:Int):Int :=
 if s.2≠0 then 0 else if getE s.1≠0 then 0 else if unfoldN (getV s.1)<lo∨hi<unfoldN (getV s.1) then 0 else unfoldN (getV s.1)
theorem int_in {s:Rst} (h:s.In) (lo hi:Int):(intS s lo hi).In:=by
 unfold intS
 split
 ·exact h
 ·split
  ·exact ⟨by simp,by simp⟩
  ·split
   ·exact ⟨by simp,by simp⟩
   ·exact ⟨mem_drop' h.b,by have:=h.l;simp only[BK_];omega⟩
theorem int_e (s:Rst) (lo hi:Int) (h:s.2≠0):VM L_ 251 ([.ptr 100000 0 0,i64 lo,i64 hi]) ([(100000,.var (rdC s))]) (i64 0) ([(100000,.var (rdC s))]):=by
 have oz0:=@nexti_e (s) h
 exact mR_ [r_,.r [] [cm oz0],r_,b_,r_] [.sort] _ Tryz.func251 (.d2 oz0 z0_)
theorem int_g (l:List Int) (lo hi:Int) (hb:∀ x∈l,0≤x∧x≤255) (hl:l.length≤1000000) (h:getE l≠0):VM L_ 251 ([.ptr 100000 0 0,i64 lo,i64 hi]) ([(100000,.var (rdC (l,0)))]) (i64 0) ([(100000,.var (rdC ([],getE l)))]):=by
 have oz0:=@nexti_g (l) hb hl h
 exact mR_ [r_,.r [] [cm oz0],r_,b_,r_] [.sort] _ Tryz.func251 (.d2 oz0 z0_)
theorem int_m (l:List Int) (lo hi:Int) (hb:∀ x∈l,0≤x∧x≤255) (hl:l.length≤1000000) (h:getE l=0) (h2:unfoldN (getV l)<lo∨hi<unfoldN (getV l)):VM L_ 251 ([.ptr 100000 0 0,i64 lo,i64 hi]) ([(100000,.var (rdC (l,0)))]) (i64 0) ([(100000,.var (rdC ([],3)))]):=by
 have oz0:=@nexti_y (l) hb hl h
 have oz3:=@rfail_v (AY_ (getN l).toNat l) (3)
 exact mR_ [r_,.r [] [cm oz0],r_,d_,.r [] [o_,o_,o_,.sel 1],b_,.r [] [cm oz3],r_] [.sort] _ Tryz.func251 (.d4 oz0 z1_ (show (decide (unfoldN (getV l)<lo) || decide (unfoldN (getV l)>hi))=true by (simp;omega)) oz3)
theorem int_y (l:List Int) (lo hi:Int) (hb:∀ x∈l,0≤x∧x≤255) (hl:l.length≤1000000) (h:getE l=0) (h2:¬ unfoldN (getV l)<lo) (h3:¬ hi<unfoldN (getV l)):VM L_ 251 ([.ptr 100000 0 0,i64 lo,i64 hi]) ([(100000,.var (rdC (l,0)))]) (i64 (unfoldN (getV l))) ([(100000,.var (rdC (l.drop (getN l).toNat,0)))]):=by
 have oz0:=@nexti_y (l) hb hl h
 have oz2:=(decide_eq_false (p:=(unfoldN (getV l)<lo)) (by omega))
 exact mR_ [r_,.r [] [cm oz0],r_,d_,.r [] [e_,e_,e_,f_],d_,r_] [.sort] _ Tryz.func251 (.d7 oz0 z1_ oz2 oz2 oz2 oz2 (decide_eq_false (p:=(unfoldN (getV l)>hi)) (by omega)))
theorem int_v (s:Rst) (lo hi:Int) (h:s.In):VM L_ 251 [.ptr 100000 0 0,i64 lo,i64 hi] [(100000,.var (rdC s))] (i64 (intV s lo hi)) [(100000,.var (rdC (intS s lo hi)))]:=by
 obtain ⟨l,e⟩:=s
 by_cases he:e=0
 ·subst he
  by_cases hg:getE l=0
  ·by_cases hm:unfoldN (getV l)<lo∨hi<unfoldN (getV l)
   ·rw[show intS (l,0) lo hi=([],3) from by simp only[intS];rw[j_ (by simp),j_ (by simp[hg]),i_ hm],show intV (l,0) lo hi=0 from by simp only[intV];rw[j_ (by simp),j_ (by simp[hg]),i_ hm]]
    exact int_m l lo hi h.b h.l hg hm
   ·rw[show intS (l,0) lo hi=(l.drop (getN l).toNat,0) from by simp only[intS];rw[j_ (by simp),j_ (by simp[hg]),j_ hm],show intV (l,0) lo hi=unfoldN (getV l) from by simp only[intV];rw[j_ (by simp),j_ (by simp[hg]),j_ hm]]
    exact int_y l lo hi h.b h.l hg (fun q=>hm (.inl q)) (fun q=>hm (.inr q))
  ·rw[show intS (l,0) lo hi=([],getE l) from by simp[intS,hg],show intV (l,0) lo hi=0 from by simp[intV,hg]]
   exact int_g l lo hi h.b h.l hg
 ·rw[show intS (l,e) lo hi=(l,e) from by simp[intS,he],show intV (l,e) lo hi=0 from by simp[intV,he]]
  exact int_e (l,e) lo hi he
theorem intV_rng {s:Rst} {lo hi:Int} (h0:lo≤0) (h1:0≤hi):lo≤intV s lo hi∧intV s lo hi≤hi:=by
 unfold intV
 split
 ·omega
 ·split
  ·omega
  ·split
   ·omega
   ·omega
theorem int32_v (s:Rst) (h:s.In):VM L_ 250 ([.ptr 100000 0 0]) ([(100000,.var (rdC s))]) (i32 (intV s (-2147483648) 2147483647)) ([(100000,.var (rdC (intS s (-2147483648) 2147483647)))]):=by
 have q:=@intV_rng s (-2147483648) 2147483647 (by decide) (by decide)
 have oz0:=@int_v (s) (-2147483648) (2147483647) h
 have oz1:=(CR_ (intV s (-2147483648) 2147483647) (by omega))
 exact mR_ [r_,.r [] [cm oz0,.n (nO oz1)]] [.sort] _ Tryz.func250 (.d2 oz0 oz1)
theorem byte8_v (l:List Int) (hb:∀ x∈l,0≤x∧x≤255) (hl:l.length≤1000000) (h:0<l.length):hDo8_ 248 (l,0) (IntKind.i8.wrap (l.getD 0 default)) (l.drop 1,0):=by
 have oz6:=(Q_ (k:=.i8) (show ((IntKind.i8.wrap ((l,0).fst.getD 0 0)):Int)=(IntKind.i8.wrap (l.getD 0 default)) from (by (simp;done))))
 exact mR_ [r_,.r [] [.row [u8 ((l,0).fst.getD 0 0)],.w],.r [] [.nats 1 (K_ (row1 .u8) (l,0).fst).length],r_] [.weak 0 (wO oz6),.blk 100000 (Blk.var [AV.sl 1 (K_ (row1 .u8) (AY_ 1 l)),i64 0]),.sort] _ Tryz.func248 (.d8 z3_ (map_at (row1 .u8) (0) (l:=(l,0).fst) (i:=0) h) (s_ ((1:Int)=(↑(1:Nat):Int))) (show (K_ (row1 .u8) (l,0).fst).length=(K_ (row1 .u8) (l,0).fst).length by with_reducible rfl) (show 1≤(K_ (row1 .u8) (l,0).fst).length by (simp;omega)) (s_ ((K_ (row1 .u8) (l,0).fst).length≤(K_ (row1 .u8) (l,0).fst).length)) oz6 (show BlkW (Blk.var [AV.sl 1 (AB_ ((K_ (row1 .u8) (l,0).fst).length-1) (AY_ 1 (K_ (row1 .u8) (l,0).fst))),i64 (l,0).snd]) (Blk.var [AV.sl 1 (K_ (row1 .u8) (AY_ 1 l)),i64 0]) from (BlkW.var (m:=[AV.sl 1 (K_ (row1 .u8) (AY_ 1 l)),i64 0]) (.cons (BQ_ (rows_to (row1 .u8) (r:=AB_ ((K_ (row1 .u8) (l,0).fst).length-1) (AY_ 1 (K_ (row1 .u8) (l,0).fst))) (l:=AB_ ((K_ (row1 .u8) (l,0).fst).length-1) (AY_ 1 (l,0).fst)) (m:=AY_ 1 l) (by first|(simp only[B_,C_,AO_,AP_,W_,AK_,AL_];done)|rfl|(simp only[B_,C_,AO_,AP_,W_,AK_,AL_];rfl)) (show (AB_ ((K_ (row1 .u8) (l,0).fst).length-1) (AY_ 1 (l,0).fst))=(AY_ 1 l) from (by (rw[DN_ (by simp[BK_])]))))) (.cons (.refl _) .nil)))))
theorem end_e (s:Rst) (h:s.2≠0):hDo_ 61 s s.2 s:=by
 exact mR_ [r_,r_,d_,r_,b_,r_] [.sort] _ Tryz.func61 (.d2 z1_ (show (s.snd != 0)=true by (simp;omega)))
theorem end_m (l:List Int) (h:0<l.length):hDo_ 61 (l,0) 24 (l,0):=by
 exact mR_ [r_,r_,d_,r_,d_,r_,b_,r_] [.sort] _ Tryz.func61 (.d3 z1_ (show ((l,0).snd != 0)=false by (simp;done)) (show decide (((K_ (row1 .u8) (l,0).fst).length:Int)>0)=true by (simp;omega)))
theorem end_z   : hDo_ 61 ([],0) 0 ([],0):=by
 have oz0:=z1_
 exact mR_ [r_,r_,d_,r_,d_,r_,d_,r_] [.sort] _ Tryz.func61 (.d3 oz0 oz0 oz0)
def dpW (l:List Int):Nat→List Int
 | 0=>l
 | k+1=>(dpW l k).drop 1
def tkW (l:List Int):Nat→List Int
 | 0=>[]
 | k+1=>tkW l k++[IntKind.i8.wrap ((dpW l k).getD 0 default)]
theorem dpW_eq (l:List Int) (k:Nat):dpW l k=l.drop k:=by
 induction k with
 | zero=>rfl
 | succ k ih=>rw[dpW,ih,List.drop_drop]
theorem tkW_len (l:List Int) (k:Nat):(tkW l k).length=k:=by
 induction k with
 | zero=>rfl
 | succ k ih=>rw[tkW,P_,ih];rfl
def itS (s:Rst):Nat→Rst
 | 0=>s
 | k+1=>intS (itS s k) (-2147483648) 2147483647
def itV (s:Rst):Nat→List Int
 | 0=>[]
 | k+1=>itV s k++[intV (itS s k) (-2147483648) 2147483647]
theorem itS_in {s:Rst} (h:s.In) (k:Nat):(itS s k).In:=by
 induction k with
 | zero=>exact h
 | succ k ih=>exact int_in ih _ _
theorem itV_len (s:Rst) (k:Nat):(itV s k).length=k:=by
 induction k with
 | zero=>rfl
 | succ k ih=>rw[itV,P_,ih];rfl
noncomputable def all8_l_I (l:List Int) (n:Nat) (k:Nat):VS:=stt 45 [(0,AV.ptr 100000 0 0),(2,.bnd 248 (.ptr 100000 0 0)),(7,.own 900),(30,i64 n),(31,i64 k)] [(900,.slc 52 1 ((tkW l k).map (row1 .i8))),(100000,.var (rdC (dpW l k,0)))]
noncomputable def all8_l_Z (l:List Int) (n:Nat):VS:=all8_l_I l n (n)
theorem all8_l_s (l:List Int) (n:Nat) (hb:∀ x∈l,0≤x∧x≤255) (hl:l.length≤1000000) (h1:n≤l.length) (k:Nat) (hk:k<n):VT L_ (fnC Tryz.f247 [1,1,1,1,0,1,0,0]) (all8_l_I l n k) .normal (all8_l_I l n (k+1)):=by
 have q1:∀ x∈dpW l k,0≤x∧x≤255:=by rw[dpW_eq];exact mem_drop' hb
 have q2:(dpW l k).length=l.length-k:=by rw[dpW_eq,BK_]
 have q3:=tkW_len l k
 have oz1:=@byte8_v (dpW l k) q1 (by omega) (by omega)
 exact tR_ [r_,b_,.r [] [cm oz1],.r [] [.n ((↑k:Int)+1)]] [.any (rg [(32,7)]),.drop [36],.ren 37 900,.weak 31 (i64 (↑(k+1):Int)),.blk 900 (Blk.slc 52 1 (K_ (row1 .i8) (tkW l (k+1)))),.blk 100000 (Blk.var [AV.sl 1 (K_ (row1 .u8) (dpW l (k+1))),i64 0]),.sort] (.d8 (decide_eq_true (p:=((↑k:Int)<(↑n:Int))) (by omega)) oz1 (show ((K_ (row1 .i8) (tkW l k)).length+1)*1≤140737488355328 by (simp;omega)) (show (K_ (row1 .i8) (tkW l k)).length+1≤9223372036854775807 by (simp;omega)) (i6n ((↑k:Int)+1) (by omega)) (wS_ k) (show BlkW (Blk.slc 52 1 (K_ (row1 .i8) (tkW l k)++[[i8 (IntKind.i8.wrap ((dpW l k).getD 0 default))]])) (Blk.slc 52 1 (K_ (row1 .i8) (tkW l (k+1)))) from (BU_ (e:=52) (z:=1) (rows_to (row1 .i8) (r:=K_ (row1 .i8) (tkW l k)++[[i8 (IntKind.i8.wrap ((dpW l k).getD 0 default))]]) (l:=tkW l k++[IntKind.i8.wrap ((dpW l k).getD 0 default)]) (m:=tkW l (k+1)) (by first|(simp only[B_,C_,AO_,AP_,W_,AK_,AL_];done)|rfl|(simp only[B_,C_,AO_,AP_,W_,AK_,AL_];rfl)) (show (tkW l k++[IntKind.i8.wrap ((dpW l k).getD 0 default)])=(tkW l (k+1)) from (by rfl))))) (show BlkW (Blk.var [AV.sl 1 (K_ (row1 .u8) (AY_ 1 (dpW l k))),i64 0]) (Blk.var [AV.sl 1 (K_ (row1 .u8) (dpW l (k+1))),i64 0]) from (BlkW.var (m:=[AV.sl 1 (K_ (row1 .u8) (dpW l (k+1))),i64 0]) (.cons (BQ_ (rows_to (row1 .u8) (r:=K_ (row1 .u8) (AY_ 1 (dpW l k))) (l:=AY_ 1 (dpW l k)) (m:=dpW l (k+1)) rfl (show (AY_ 1 (dpW l k))=(dpW l (k+1)) from (by rfl)))) (.cons (.refl _) .nil)))))
theorem all8_l_e (l:List Int) (n:Nat) (hb:∀ x∈l,0≤x∧x≤255) (hl:l.length≤1000000) (h1:n≤l.length):VT L_ (fnC Tryz.f247 [1,1,1,1,0,1,0,0]) (all8_l_I l n (n)) (.exit 0) (all8_l_Z l n):=by
 exact tR_ [r_,d_] [.any [32],.sort] (.d (decide_eq_false (p:=((↑n:Int)<(↑n:Int))) (by omega)))
theorem all8_l (l:List Int) (n:Nat) (hb:∀ x∈l,0≤x∧x≤255) (hl:l.length≤1000000) (h1:n≤l.length):VT L_ (fnC Tryz.f247 [1,1,1,1,0,1,0]) (all8_l_I l n 0) (.exit 0) (all8_l_Z l n) :=
 VT.loop (fun k=>all8_l_I l n k) (n) (fun k hk=>all8_l_s l n hb hl h1 k hk) (all8_l_e l n hb hl h1) (by intro h;cases h)
noncomputable def all32_l_I (l:List Int) (n:Nat) (k:Nat):VS:=stt 45 [(0,AV.ptr 100000 0 0),(2,.bnd 250 (.ptr 100000 0 0)),(7,.own 900),(30,i64 n),(31,i64 k)] [(900,.slc 21 1 ((itV (l,0) k).map (row1 .i32))),(100000,.var (rdC (itS (l,0) k)))]
noncomputable def all32_l_Z (l:List Int) (n:Nat):VS:=all32_l_I l n (n)
theorem all32_l_s (l:List Int) (n:Nat) (hb:∀ x∈l,0≤x∧x≤255) (hl:l.length≤1000000) (h1:n≤l.length) (k:Nat) (hk:k<n):VT L_ (fnC Tryz.f249 [1,1,1,1,0,1,0,0]) (all32_l_I l n k) .normal (all32_l_I l n (k+1)):=by
 have q1:(itS (l,0) k).In:=itS_in ⟨hb,hl⟩ k
 have q3:=itV_len (l,0) k
 have oz1:=@int32_v (itS (l,0) k) q1
 exact tR_ [r_,b_,.r [] [cm oz1],.r [] [.n ((↑k:Int)+1)]] [.any (rg [(32,7)]),.drop [36],.ren 37 900,.weak 31 (i64 (↑(k+1):Int)),.blk 900 (Blk.slc 21 1 (K_ (row1 .i32) (itV (l,0) (k+1)))),.blk 100000 (Blk.var [AV.sl 1 (K_ (row1 .u8) (itS (l,0) (k+1)).fst),i64 (itS (l,0) (k+1)).snd]),.sort] (.d8 (decide_eq_true (p:=((↑k:Int)<(↑n:Int))) (by omega)) oz1 (show ((K_ (row1 .i32) (itV (l,0) k)).length+1)*4≤140737488355328 by (simp;omega)) (show (K_ (row1 .i32) (itV (l,0) k)).length+1≤9223372036854775807 by (simp;omega)) (i6n ((↑k:Int)+1) (by omega)) (wS_ k) (show BlkW (Blk.slc 21 1 (K_ (row1 .i32) (itV (l,0) k)++[[i32 (intV (itS (l,0) k) (-2147483648) 2147483647)]])) (Blk.slc 21 1 (K_ (row1 .i32) (itV (l,0) (k+1)))) from (BU_ (e:=21) (z:=1) (rows_to (row1 .i32) (r:=K_ (row1 .i32) (itV (l,0) k)++[[i32 (intV (itS (l,0) k) (-2147483648) 2147483647)]]) (l:=itV (l,0) k++[intV (itS (l,0) k) (-2147483648) 2147483647]) (m:=itV (l,0) (k+1)) (by first|(simp only[B_,C_,AO_,AP_,W_,AK_,AL_];done)|rfl|(simp only[B_,C_,AO_,AP_,W_,AK_,AL_];rfl)) (show (itV (l,0) k++[intV (itS (l,0) k) (-2147483648) 2147483647])=(itV (l,0) (k+1)) from (by rfl))))) (show BlkW (Blk.var [AV.sl 1 (K_ (row1 .u8) (intS (itS (l,0) k) (-2147483648) 2147483647).fst),i64 (intS (itS (l,0) k) (-2147483648) 2147483647).snd]) (Blk.var [AV.sl 1 (K_ (row1 .u8) (itS (l,0) (k+1)).fst),i64 (itS (l,0) (k+1)).snd]) from (BlkW.var (m:=[AV.sl 1 (K_ (row1 .u8) (itS (l,0) (k+1)).fst),i64 (itS (l,0) (k+1)).snd]) (.cons (BQ_ (rows_to (row1 .u8) (r:=K_ (row1 .u8) (intS (itS (l,0) k) (-2147483648) 2147483647).fst) (l:=(intS (itS (l,0) k) (-2147483648) 2147483647).fst) (m:=(itS (l,0) (k+1)).fst) rfl (show ((intS (itS (l,0) k) (-2147483648) 2147483647).fst)=((itS (l,0) (k+1)).fst) from (by rfl)))) (.cons (Q_ (by rfl)) .nil)))))
theorem all32_l_e (l:List Int) (n:Nat) (hb:∀ x∈l,0≤x∧x≤255) (hl:l.length≤1000000) (h1:n≤l.length):VT L_ (fnC Tryz.f249 [1,1,1,1,0,1,0,0]) (all32_l_I l n (n)) (.exit 0) (all32_l_Z l n):=by
 exact tR_ [r_,d_] [.any [32],.sort] (.d (decide_eq_false (p:=((↑n:Int)<(↑n:Int))) (by omega)))
theorem all32_l (l:List Int) (n:Nat) (hb:∀ x∈l,0≤x∧x≤255) (hl:l.length≤1000000) (h1:n≤l.length):VT L_ (fnC Tryz.f249 [1,1,1,1,0,1,0]) (all32_l_I l n 0) (.exit 0) (all32_l_Z l n) :=
 VT.loop (fun k=>all32_l_I l n k) (n) (fun k hk=>all32_l_s l n hb hl h1 k hk) (all32_l_e l n hb hl h1) (by intro h;cases h)
theorem all8_y (l:List Int) (n:Nat) (hb:∀ x∈l,0≤x∧x≤255) (hl:l.length≤1000000) (h0:1≤n) (h1:n≤l.length):VM L_ 247 ([.ptr 100000 0 0,i64 n,.bnd 248 (.ptr 100000 0 0)]) ([(100000,.var (rdC (l,0)))]) (.sl 1 ((tkW l n).map (row1 .i8))) ([(100000,.var (rdC (dpW l n,0)))]):=by
 have q3:=tkW_len l n
 have oz0:=z1_
 have oz10:=@all8_l (l) (n) hb hl h1
 exact mR_ [r_,.r [] [e_,e_,e_,e_,e_,f_,o_,o_,.sel 1],d_,r_,d_,r_,r_,.code [.any (rg [(1,1),(6,1),(8,10),(20,8)]),.weak 31 (i64 (↑0:Int)),.nils 7 900 52 1,.blk 100000 (Blk.var [AV.sl 1 (K_ (row1 .u8) (dpW l 0)),i64 0]),.sort] (BO_ 0) (zO oz10),r_,d_,r_] [.frz 900,.sort] _ Tryz.func247 (.c8 oz0 oz0 oz0 oz0 oz0 oz0 (show ((l,0).snd != 0 || decide ((↑n:Int)<1))=false by (refine decide_eq_false ?_;omega)) (show decide ((↑n:Int)>((K_ (row1 .u8) (l,0).fst).length:Int))=false by (simp;omega))<|.d4 w0_ (show BlkW (Blk.var [AV.sl 1 (K_ (row1 .u8) (l,0).fst),i64 (l,0).snd]) (Blk.var [AV.sl 1 (K_ (row1 .u8) (dpW l 0)),i64 0]) from (BlkW.var (m:=[AV.sl 1 (K_ (row1 .u8) (dpW l 0)),i64 0]) (.cons (BQ_ (rows_to (row1 .u8) (r:=K_ (row1 .u8) (l,0).fst) (l:=(l,0).fst) (m:=dpW l 0) rfl (show ((l,0).fst)=(dpW l 0) from (by rfl)))) (.cons (.refl _) .nil)))) oz10 oz0)
theorem all8_e (s:Rst) (n:Int) (h:s.2≠0):VM L_ 247 ([.ptr 100000 0 0,i64 n,.bnd 248 (.ptr 100000 0 0)]) ([(100000,.var (rdC s))]) (.sl 1 (([]:List Int).map (row1 .i8))) ([(100000,.var (rdC s))]):=by
 have oz0:=z1_
 exact mR_ [r_,.r [] [e_,e_,e_,e_,e_,f_,o_,o_,.sel 1],b_,r_] [.weak 0 (AV.sl 1 []),.sort] _ Tryz.func247 (.d8 oz0 oz0 oz0 oz0 oz0 oz0 (show (s.snd != 0 || decide (n<1))=true by (simp;omega)) (show Weak (AV.lit (AQ_ none 0 0)) (AV.sl 1 []) from (AG_ _)))
theorem all8_n (l:List Int) (n:Int) (h:n<1):VM L_ 247 ([.ptr 100000 0 0,i64 n,.bnd 248 (.ptr 100000 0 0)]) ([(100000,.var (rdC (l,0)))]) (.sl 1 (([]:List Int).map (row1 .i8))) ([(100000,.var (rdC (l,0)))]):=by
 have oz0:=z1_
 exact mR_ [r_,.r [] [e_,e_,e_,e_,e_,f_,o_,o_,.sel 1],b_,r_] [.weak 0 (AV.sl 1 []),.sort] _ Tryz.func247 (.d8 oz0 oz0 oz0 oz0 oz0 oz0 (show ((l,0).snd != 0 || decide (n<1))=true by (refine decide_eq_true ?_;omega)) (show Weak (AV.lit (AQ_ none 0 0)) (AV.sl 1 []) from (AG_ _)))
theorem all8_m (l:List Int) (n:Int) (h:1≤n) (h1:(l.length:Int)<n):VM L_ 247 ([.ptr 100000 0 0,i64 n,.bnd 248 (.ptr 100000 0 0)]) ([(100000,.var (rdC (l,0)))]) (.sl 1 (([]:List Int).map (row1 .i8))) ([(100000,.var (rdC ([],20)))]):=by
 have oz0:=z1_
 have oz8:=@rfail_v (l) (20)
 exact mR_ [r_,.r [] [e_,e_,e_,e_,e_,f_,o_,o_,.sel 1],d_,r_,b_,.r [] [cm oz8],r_] [.weak 0 (AV.sl 1 []),.sort] _ Tryz.func247 (.c8 oz0 oz0 oz0 oz0 oz0 oz0 (show ((l,0).snd != 0 || decide (n<1))=false by (refine decide_eq_false ?_;omega)) (show decide (n>((K_ (row1 .u8) (l,0).fst).length:Int))=true by (simp;omega))<|.d2 oz8 (show Weak (AV.lit (AQ_ none 0 0)) (AV.sl 1 []) from (AG_ _)))
theorem all32_y (l:List Int) (n:Nat) (hb:∀ x∈l,0≤x∧x≤255) (hl:l.length≤1000000) (h0:1≤n) (h1:n≤l.length) (h:(itS (l,0) n).2=0):VM L_ 249 ([.ptr 100000 0 0,i64 n,.bnd 250 (.ptr 100000 0 0)]) ([(100000,.var (rdC (l,0)))]) (.sl 1 ((itV (l,0) n).map (row1 .i32))) ([(100000,.var (rdC (itS (l,0) n)))]):=by
 have q3:=itV_len (l,0) n
 have oz0:=z1_
 have oz10:=@all32_l (l) (n) hb hl h1
 exact mR_ [r_,.r [] [e_,e_,e_,e_,e_,f_,o_,o_,.sel 1],d_,r_,d_,r_,r_,.code [.any (rg [(1,1),(6,1),(8,10),(20,8)]),.weak 31 (i64 (↑0:Int)),.nils 7 900 21 1,.blk 100000 (Blk.var [AV.sl 1 (K_ (row1 .u8) (itS (l,0) 0).fst),i64 (itS (l,0) 0).snd]),.sort] (BO_ 0) (zO oz10),r_,d_,r_] [.frz 900,.sort] _ Tryz.func249 (.c8 oz0 oz0 oz0 oz0 oz0 oz0 (show ((l,0).snd != 0 || decide ((↑n:Int)<1))=false by (refine decide_eq_false ?_;omega)) (show decide ((↑n:Int)>((K_ (row1 .u8) (l,0).fst).length:Int))=false by (simp;omega))<|.d4 w0_ (show BlkW (Blk.var [AV.sl 1 (K_ (row1 .u8) (l,0).fst),i64 (l,0).snd]) (Blk.var [AV.sl 1 (K_ (row1 .u8) (itS (l,0) 0).fst),i64 (itS (l,0) 0).snd]) from (BlkW.var (m:=[AV.sl 1 (K_ (row1 .u8) (itS (l,0) 0).fst),i64 (itS (l,0) 0).snd]) (.cons (BQ_ (rows_to (row1 .u8) (r:=K_ (row1 .u8) (l,0).fst) (l:=(l,0).fst) (m:=(itS (l,0) 0).fst) rfl (show ((l,0).fst)=((itS (l,0) 0).fst) from (by rfl)))) (.cons (Q_ (by rfl)) .nil)))) oz10 (show ((itS (l,0) n).snd != 0)=false by (simp;omega)))
theorem all32_f (l:List Int) (n:Nat) (hb:∀ x∈l,0≤x∧x≤255) (hl:l.length≤1000000) (h0:1≤n) (h1:n≤l.length) (h:(itS (l,0) n).2≠0):VM L_ 249 ([.ptr 100000 0 0,i64 n,.bnd 250 (.ptr 100000 0 0)]) ([(100000,.var (rdC (l,0)))]) (.sl 1 (([]:List Int).map (row1 .i8))) ([(100000,.var (rdC (itS (l,0) n)))]):=by
 have q3:=itV_len (l,0) n
 have oz0:=z1_
 have oz10:=@all32_l (l) (n) hb hl h1
 exact mR_ [r_,.r [] [e_,e_,e_,e_,e_,f_,o_,o_,.sel 1],d_,r_,d_,r_,r_,.code [.any (rg [(1,1),(6,1),(8,10),(20,8)]),.weak 31 (i64 (↑0:Int)),.nils 7 900 21 1,.blk 100000 (Blk.var [AV.sl 1 (K_ (row1 .u8) (itS (l,0) 0).fst),i64 (itS (l,0) 0).snd]),.sort] (BO_ 0) (zO oz10),r_,b_,r_] [.drop [900],.weak 0 (AV.sl 1 []),.sort] _ Tryz.func249 (.c8 oz0 oz0 oz0 oz0 oz0 oz0 (show ((l,0).snd != 0 || decide ((↑n:Int)<1))=false by (refine decide_eq_false ?_;omega)) (show decide ((↑n:Int)>((K_ (row1 .u8) (l,0).fst).length:Int))=false by (simp;omega))<|.d5 w0_ (show BlkW (Blk.var [AV.sl 1 (K_ (row1 .u8) (l,0).fst),i64 (l,0).snd]) (Blk.var [AV.sl 1 (K_ (row1 .u8) (itS (l,0) 0).fst),i64 (itS (l,0) 0).snd]) from (BlkW.var (m:=[AV.sl 1 (K_ (row1 .u8) (itS (l,0) 0).fst),i64 (itS (l,0) 0).snd]) (.cons (BQ_ (rows_to (row1 .u8) (r:=K_ (row1 .u8) (l,0).fst) (l:=(l,0).fst) (m:=(itS (l,0) 0).fst) rfl (show ((l,0).fst)=((itS (l,0) 0).fst) from (by rfl)))) (.cons (Q_ (by rfl)) .nil)))) oz10 (show ((itS (l,0) n).snd != 0)=true by (simp;omega)) (show Weak (AV.lit (AQ_ none 0 0)) (AV.sl 1 []) from (AG_ _)))
theorem all32_e (s:Rst) (n:Int) (h:s.2≠0):VM L_ 249 ([.ptr 100000 0 0,i64 n,.bnd 250 (.ptr 100000 0 0)]) ([(100000,.var (rdC s))]) (.sl 1 (([]:List Int).map (row1 .i8))) ([(100000,.var (rdC s))]):=by
 have oz0:=z1_
 exact mR_ [r_,.r [] [e_,e_,e_,e_,e_,f_,o_,o_,.sel 1],b_,r_] [.weak 0 (AV.sl 1 []),.sort] _ Tryz.func249 (.d8 oz0 oz0 oz0 oz0 oz0 oz0 (show (s.snd != 0 || decide (n<1))=true by (simp;omega)) (show Weak (AV.lit (AQ_ none 0 0)) (AV.sl 1 []) from (AG_ _)))
theorem all32_n (l:List Int) (n:Int) (h:n<1):VM L_ 249 ([.ptr 100000 0 0,i64 n,.bnd 250 (.ptr 100000 0 0)]) ([(100000,.var (rdC (l,0)))]) (.sl 1 (([]:List Int).map (row1 .i8))) ([(100000,.var (rdC (l,0)))]):=by
 have oz0:=z1_
 exact mR_ [r_,.r [] [e_,e_,e_,e_,e_,f_,o_,o_,.sel 1],b_,r_] [.weak 0 (AV.sl 1 []),.sort] _ Tryz.func249 (.d8 oz0 oz0 oz0 oz0 oz0 oz0 (show ((l,0).snd != 0 || decide (n<1))=true by (refine decide_eq_true ?_;omega)) (show Weak (AV.lit (AQ_ none 0 0)) (AV.sl 1 []) from (AG_ _)))
theorem all32_m (l:List Int) (n:Int) (h:1≤n) (h1:(l.length:Int)<n):VM L_ 249 ([.ptr 100000 0 0,i64 n,.bnd 250 (.ptr 100000 0 0)]) ([(100000,.var (rdC (l,0)))]) (.sl 1 (([]:List Int).map (row1 .i8))) ([(100000,.var (rdC ([],20)))]):=by
 have oz0:=z1_
 have oz8:=@rfail_v (l) (20)
 exact mR_ [r_,.r [] [e_,e_,e_,e_,e_,f_,o_,o_,.sel 1],d_,r_,b_,.r [] [cm oz8],r_] [.weak 0 (AV.sl 1 []),.sort] _ Tryz.func249 (.c8 oz0 oz0 oz0 oz0 oz0 oz0 (show ((l,0).snd != 0 || decide (n<1))=false by (refine decide_eq_false ?_;omega)) (show decide (n>((K_ (row1 .u8) (l,0).fst).length:Int))=true by (simp;omega))<|.d2 oz8 (show Weak (AV.lit (AQ_ none 0 0)) (AV.sl 1 []) from (AG_ _)))
def smlS (s:Rst) (n:Int):Rst :=
 if s.2≠0 then s else if n<1 then s else if (s.1.length:Int)<n then ([],20) else (dpW s.1 n.toNat,0)
def smlV (s:Rst) (n:Int):List Int :=
 if s.2≠0 then [] else if n<1 then [] else if (s.1.length:Int)<n then [] else tkW s.1 n.toNat
theorem sml_in {s:Rst} (h:s.In) (n:Int):(smlS s n).In:=by
 unfold smlS
 split
 ·exact h
 ·split
  ·exact h
  ·split
   ·exact ⟨by simp,by simp⟩
   ·exact ⟨by dsimp only;rw[dpW_eq];exact mem_drop' h.b,by dsimp only;rw[dpW_eq];have:=h.l;simp only[BK_];omega⟩
theorem smlV_len (s:Rst) (n:Int):(smlV s n).length≤s.1.length:=by
 unfold smlV
 split
 ·simp
 ·split
  ·simp
  ·split
   ·simp
   ·rw[tkW_len];omega
theorem all8_v (s:Rst) (n:Int) (h:s.In):VM L_ 247 [.ptr 100000 0 0,i64 n,.bnd 248 (.ptr 100000 0 0)] [(100000,.var (rdC s))] (.sl 1 ((smlV s n).map (row1 .i8))) [(100000,.var (rdC (smlS s n)))]:=by
 obtain ⟨l,e⟩:=s
 by_cases he:e=0
 ·subst he
  by_cases h1:n<1
  ·rw[show smlS (l,0) n=(l,0) from by simp[smlS,h1],show smlV (l,0) n=[] from by simp[smlV,h1]]
   exact all8_n l n h1
  ·by_cases h2:(l.length:Int)<n
   ·rw[show smlS (l,0) n=([],20) from by simp[smlS,h1,h2],show smlV (l,0) n=[] from by simp[smlV,h1,h2]]
    exact all8_m l n (by omega) h2
   ·obtain ⟨m,rfl⟩:=Int.eq_ofNat_of_zero_le (s_ (0≤n))
    rw[show smlS (l,0) (m:Int)=(dpW l m,0) from by simp[smlS,h1,h2],show smlV (l,0) (m:Int)=tkW l m from by simp[smlV,h1,h2]]
    exact all8_y l m h.b h.l (by omega) (by omega)
 ·rw[show smlS (l,e) n=(l,e) from by simp[smlS,he],show smlV (l,e) n=[] from by simp[smlV,he]]
  exact all8_e (l,e) n he
def widS (s:Rst) (n:Int):Rst :=
 if s.2≠0 then s else if n<1 then s else if (s.1.length:Int)<n then ([],20) else itS s n.toNat
def widV (s:Rst) (n:Int):List Int :=
 if s.2≠0 then [] else if n<1 then [] else if (s.1.length:Int)<n then [] else if (itS s n.toNat).2≠0 then [] else itV s n.toNat
theorem wid_in {s:Rst} (h:s.In) (n:Int):(widS s n).In:=by
 unfold widS
 split
 ·exact h
 ·split
  ·exact h
  ·split
   ·exact ⟨by simp,by simp⟩
   ·exact itS_in h _
theorem widV_len (s:Rst) (n:Int):(widV s n).length≤s.1.length:=by
 unfold widV
 split
 ·simp
 ·split
  ·simp
  ·split
   ·simp
   ·split
    ·simp
    ·rw[itV_len];omega
theorem all32_v (s:Rst) (n:Int) (h:s.In):VM L_ 249 [.ptr 100000 0 0,i64 n,.bnd 250 (.ptr 100000 0 0)] [(100000,.var (rdC s))] (.sl 1 ((widV s n).map (row1 .i32))) [(100000,.var (rdC (widS s n)))]:=by
 obtain ⟨l,e⟩:=s
 by_cases he:e=0
 ·subst he
  by_cases h1:n<1
  ·rw[show widS (l,0) n=(l,0) from by simp[widS,h1],show widV (l,0) n=[] from by simp[widV,h1]]
   exact all32_n l n h1
  ·by_cases h2:(l.length:Int)<n
   ·rw[show widS (l,0) n=([],20) from by simp[widS,h1,h2],show widV (l,0) n=[] from by simp[widV,h1,h2]]
    exact all32_m l n (by omega) h2
   ·obtain ⟨m,rfl⟩:=Int.eq_ofNat_of_zero_le (s_ (0≤n))
    by_cases h3:(itS (l,0) m).2=0
    ·rw[show widS (l,0) (m:Int)=itS (l,0) m from by simp[widS,h1,h2],show widV (l,0) (m:Int)=itV (l,0) m from by simp[widV,h1,h2,h3]]
     exact all32_y l m h.b h.l (by omega) (by omega) h3
    ·rw[show widS (l,0) (m:Int)=itS (l,0) m from by simp[widS,h1,h2],show widV (l,0) (m:Int)=[] from by simp[widV,h1,h2,h3]]
     exact all32_f l m h.b h.l (by omega) (by omega) h3
 ·rw[show widS (l,e) n=(l,e) from by simp[widS,he],show widV (l,e) n=[] from by simp[widV,he]]
  exact all32_e (l,e) n he
theorem smallR_v (s:Rst) (n:Int) (h:s.In):VM L_ 245 ([.ptr 100000 0 0,i64 n]) ([(100000,.var (rdC s))]) (.sl 1 ((smlV s n).map (row1 .i8))) ([(100000,.var (rdC (smlS s n)))]):=by
 have oz0:=@all8_v (s) (n) h
 exact mR_ [r_,.r [] [cm oz0]] [.sort] _ Tryz.func245 (.d oz0)
theorem wideR_v (s:Rst) (n:Int) (h:s.In):VM L_ 246 ([.ptr 100000 0 0,i64 n]) ([(100000,.var (rdC s))]) (.sl 1 ((widV s n).map (row1 .i32))) ([(100000,.var (rdC (widS s n)))]):=by
 have oz0:=@all32_v (s) (n) h
 exact mR_ [r_,.r [] [cm oz0]] [.sort] _ Tryz.func246 (.d oz0)
def putN (x:Int):List Int:=putL (IntKind.u64.wrap x).toNat
theorem wrap_rng (x:Int):0≤IntKind.u64.wrap x∧IntKind.u64.wrap x≤18446744073709551615:=by
 rw[CX_];omega
theorem putN_len (x:Int):(putN x).length≤10:=by
 have:=wrap_rng x
 exact putL_len10 _ (by omega)
def PutsV (L:Int→List Int):Prop:=∀ x:Int,VC L_ 25 [.lit (.int .u64 (IntKind.u64.wrap x))] (.sl 1 ((L x).map (row1 .u8)))
structure Puts (L:Int→List Int):Prop where
 v:PutsV L
 l:∀ x,(L x).length≤10
theorem puts_v (L:Int→List Int) (hL:Puts L) (x:Int):VC L_ 25 [.lit (.int .u64 (IntKind.u64.wrap x))] (.sl 1 ((L x).map (row1 .u8))):=hL.v x
theorem puts:Puts putN:=⟨fun x=>put_v _ (wrap_rng x).1 (wrap_rng x).2,putN_len⟩
theorem lnum_1 (B:List Int) (L:Int→List Int) (x most:Int) (hB:B.length≤1000000) (hL:Puts L):VM L_ 56 ([.ptr 100000 0 0,.ptr 100001 0 0,i64 most]) ([(950,.slc 5 1 (B.map (row1 .u8))),(100000,.var [.own 950]),(100001,.var [i64 x])]) (.tup []) ([(951,.slc 5 1 ((B++L x).map (row1 .u8))),(100000,.var [.own 951]),(100001,.var [i64 x])]):=by
 have q:=hL.l x
 have oz0:=@puts_v (L) hL (x)
 exact mR_ [.r [] [.w,cr oz0]] [.ren 16 951,.blk 951 (Blk.slc 5 1 (K_ (row1 .u8) (B++L x))),.sort] _ Tryz.func56 (.d4 oz0 (show ((K_ (row1 .u8) B).length+(K_ (row1 .u8) (L x)).length)*1≤140737488355328 by (simp only[R_];omega)) (show (K_ (row1 .u8) B).length+(K_ (row1 .u8) (L x)).length≤9223372036854775807 by (simp only[R_];omega)) (show BlkW (Blk.slc 5 1 (K_ (row1 .u8) B++K_ (row1 .u8) (L x))) (Blk.slc 5 1 (K_ (row1 .u8) (B++L x))) from (BU_ (e:=5) (z:=1) (rows_to (row1 .u8) (r:=K_ (row1 .u8) B++K_ (row1 .u8) (L x)) (l:=B++L x) (m:=B++L x) (by first|(simp only[B_,C_,AO_,AP_,W_,AK_,AL_];done)|rfl|(simp only[B_,C_,AO_,AP_,W_,AK_,AL_];rfl)) rfl))))
theorem tnum_1 (s:Rst) (x most:Int) (h:s.In) (h0:0≤most) (h1:most≤2147483647):VM L_ 97 ([.agg [.ptr 100000 0 0],.ptr 100001 0 0,i64 most]) ([(100000,.var (rdC s)),(100001,.var [i64 x])]) (.tup []) ([(100000,.var (rdC (cntS s most))),(100001,.var [i64 (cntV s most)])]):=by
 have oz0:=@cnt_v (s) (most) h h0 h1
 exact mR_ [r_,.r [] [cm oz0]] [.drop [3],.sort] _ Tryz.func97 (.d oz0)
end Go.Proofs.YtdfihaminnmgpaaGreat
