/- A part of this claim. No condition. -/
import Derived.Test.YtdfihaminnmgpaaCraftBundlesG5
set_option maxRecDepth 100000
set_option maxHeartbeats 2000000
set_option linter.unusedVariables false
set_option linter.unusedSimpArgs false
set_option linter.unnecessarySimpa false
namespace Go.Proofs.Ytdfihaminnmgpaa
open Go.RowKit
open BlkW renaming rows→CC_
open Bool renaming and_eq_true→N_,and_eq_false_iff→P_,or_eq_false_iff→Q_,not_eq_false'→S_,not_eq_true'→T_,or_eq_true→W_,and_true→Y_,false_eq_true→AB_,false_and→BM_,true_and→BR_,not_false→BS_,and_false→BU_,not_true→BX_,false_or→BY_,or_false→BC_,not_eq_eq_eq_not→CM_,true_eq_false→CT_
open Exit renaming exit→BN_
open Int renaming toNat_natCast→BV_,mul_le_mul_of_nonneg_right→CZ_,toNat_of_nonneg→CA_,not_lt→CB_
open IntKind renaming i64→L_
open List renaming map→K_,length_map→X_,map_replicate→Z_,getD_eq_getElem?_getD→B_,map_append→AL_,map_cons→AM_,map_take→AQ_,map_drop→AR_,map_nil→AT_,map_set→AU_,length_append→AD_,getElem?_append_right→AI_,getElem?_append_left→BL_,length_cons→BP_,length_replicate→BT_,mem_append→BA_,length_take→BG_,take→BI_,drop→BJ_,length_drop→CN_,mem_singleton→CR_,map_eq_nil_iff→CU_,length_nil→CV_,length_range→CX_
open Nat renaming le_refl→AV_,zero_add→BQ_
open Try renaming prog→O_
open Value renaming slice→AK_,int→AN_,bool→AJ_,agg→BD_
open Weak renaming int→M_,agg→AX_,tup→AA_,nil→AG_
open WeakL renaming refl→A_
def stepR (n:Nod) (L:List Rng):Rng×Int:=if thereB n L.length=true then nodeR n (L.getD n.na.toNat default) (L.getD (secN n).toNat default) else (⟨0,0⟩,8)
theorem gstep_v (n:Nod) (L:List Rng) (ok:n.Ok) (okL:∀ r∈L,r.In8) (hL:L.length≤100) (wl:n.w.length≤100000) (bl:n.b.length≤100000):VC O_ 61 ([nod n,.sl 2 (L.map rchC)]) (.tup [rch (stepR n L).1,i64 (stepR n L).2]):=by
 have q1:=@there_iff n L.length
 have q2:(K_ rchC L).length=L.length:=X_ _
 have q3:=fun (h:n.na.toNat<L.length)=>getD_in okL h
 have q4:=fun (h:(secN n).toNat<L.length)=>getD_in okL h
 have q5:n.kd=6→secN n=n.nb:=fun h=>i_ h
 have q6:¬ n.kd=6→secN n=n.na:=fun h=>j_ h
 rcases bft (n.kd==6) with hc0|hc0
 ·have gc0:n.kd=6:=bet hc0
  have oz1:=@ends64_1 (n.na) (n.nb)
  rcases bft (decide (min n.na n.nb<0) || decide (max n.na n.nb≥((K_ rchC L).length:Int))) with hc1|hc1
  ·have gc1:min n.na n.nb<0∨max n.na n.nb≥((K_ rchC L).length:Int):=gc0_ hc1
   exact (cR_ [r_,r_,r_,b_,r_,.r [] [cr oz1],.r [] [o_,o_,o_,o_,.sel 1],b_,r_] (AV.tup [AV.agg [i8 0,i8 0],i64 8]) Try.func61 (.d3 hc0 oz1 hc1)).weak (A_ _) (AA_ (.cons (AX_ (.cons (M_ (by (unfold stepR;rw[j_ (by rw[q1];omega)]))) (.cons (M_ (by (unfold stepR;rw[j_ (by rw[q1];omega)]))) .nil))) (.cons (M_ (by (unfold stepR;rw[j_ (by rw[q1];omega)]))) .nil)))
  ·have gc1:¬min n.na n.nb<0∧¬max n.na n.nb≥((K_ rchC L).length:Int):=gc0_ hc1
   have oz4:=(map_at (rchC) (default) (l:=L) (i:=n.na.toNat) (by omega))
   have oz6:=(map_at (rchC) (default) (l:=L) (i:=n.nb.toNat) (by omega))
   have oz7:=@gnode_v (n) (L.getD n.na.toNat default) (L.getD n.nb.toNat default) ok (by (exact q3 (by omega))) (by (rw[←q5 (by omega)];exact q4 (by rw[q5 (by omega)];omega))) wl bl
   exact (cR_ [r_,r_,r_,b_,r_,.r [] [cr oz1],.r [] [o_,o_,o_,o_,.sel 1],d_,.r [] [.row (sO oz4),.row (sO oz6),cr oz7]] (AV.tup [AV.agg [i8 (nodeR n (L.getD n.na.toNat default) (L.getD n.nb.toNat default)).fst.lo,i8 (nodeR n (L.getD n.na.toNat default) (L.getD n.nb.toNat default)).fst.hi],i64 (nodeR n (L.getD n.na.toNat default) (L.getD n.nb.toNat default)).snd]) Try.func61 (.d8 hc0 oz1 hc1 (s_ (0≤n.na)) oz4 (s_ (0≤n.nb)) oz6 oz7)).weak (A_ _) (AA_ (.cons (AX_ (.cons (M_ (by (unfold stepR;rw[q5 (by omega),i_ (by rw[q1];omega)]))) (.cons (M_ (by (unfold stepR;rw[q5 (by omega),i_ (by rw[q1];omega)]))) .nil))) (.cons (M_ (by (unfold stepR;rw[q5 (by omega),i_ (by rw[q1];omega)]))) .nil)))
 ·have gc0:¬n.kd=6:=bef hc0
  have oz1:=@ends64_1 (n.na) (n.na)
  rcases bft (decide (min n.na n.na<0) || decide (max n.na n.na≥((K_ rchC L).length:Int))) with hc1|hc1
  ·have gc1:min n.na n.na<0∨max n.na n.na≥((K_ rchC L).length:Int):=gc0_ hc1
   exact (cR_ [r_,r_,r_,d_,.r [] [cr oz1],.r [] [o_,o_,o_,o_,.sel 1],b_,r_] (AV.tup [AV.agg [i8 0,i8 0],i64 8]) Try.func61 (.d3 hc0 oz1 hc1)).weak (A_ _) (AA_ (.cons (AX_ (.cons (M_ (by (unfold stepR;rw[j_ (by rw[q1];omega)]))) (.cons (M_ (by (unfold stepR;rw[j_ (by rw[q1];omega)]))) .nil))) (.cons (M_ (by (unfold stepR;rw[j_ (by rw[q1];omega)]))) .nil)))
  ·have gc1:¬min n.na n.na<0∧¬max n.na n.na≥((K_ rchC L).length:Int):=gc0_ hc1
   have oz3:=(s_ (0≤n.na))
   have oz4:=(map_at (rchC) (default) (l:=L) (i:=n.na.toNat) (by omega))
   have oz7:=@gnode_v (n) (L.getD n.na.toNat default) (L.getD n.na.toNat default) ok (by (exact q3 (by omega))) (by (exact q3 (by omega))) wl bl
   exact (cR_ [r_,r_,r_,d_,.r [] [cr oz1],.r [] [o_,o_,o_,o_,.sel 1],d_,.r [] [.row (sO oz4),.row (sO oz4),cr oz7]] (AV.tup [AV.agg [i8 (nodeR n (L.getD n.na.toNat default) (L.getD n.na.toNat default)).fst.lo,i8 (nodeR n (L.getD n.na.toNat default) (L.getD n.na.toNat default)).fst.hi],i64 (nodeR n (L.getD n.na.toNat default) (L.getD n.na.toNat default)).snd]) Try.func61 (.d8 hc0 oz1 hc1 oz3 oz4 oz3 oz4 oz7)).weak (A_ _) (AA_ (.cons (AX_ (.cons (M_ (by (unfold stepR;rw[q6 (by omega),i_ (by rw[q1];omega)]))) (.cons (M_ (by (unfold stepR;rw[q6 (by omega),i_ (by rw[q1];omega)]))) .nil))) (.cons (M_ (by (unfold stepR;rw[q6 (by omega),i_ (by rw[q1];omega)]))) .nil)))
def FOK (l:List Nod) (a:Rng):Prop:=0<l.length∧l.length≤8∧a.lo≤a.hi∧∀ k,k<l.length→errL stepR l a k=0
theorem nodeR_in {n:Nod} {a b:Rng} (ok:n.Ok) (ha:a.In8) (hb:b.In8):(nodeR n a b).1.In8:=by
 have hz:Rng.In8 ⟨0,0⟩:=⟨⟨by dsimp only;decide,by dsimp only;decide⟩,⟨by dsimp only;decide,by dsimp only;decide⟩⟩
 have held:∀ x m s z,In8 (heldQ x m s z n.lo n.hi):=fun x m s z=>by
  unfold heldQ;split
  ·exact clamp_in _ ok.lo ok.hi
  ·exact ⟨by decide,by decide⟩
 unfold nodeR
 split
 ·exact hz
 ·split
  ·exact hz
  ·split
   ·unfold sumG;split
    ·unfold afterE
     have h1:=held (held32 (bothR (spansN n a) (spansN n a).length).lo) n.qm n.qs n.qz
     have h2:=held (held32 (bothR (spansN n a) (spansN n a).length).hi) n.qm n.qs n.qz
     constructor<;>dsimp only<;>omega
    ·exact hz
   ·split
    ·have hj:∀ x y,In8 (joinE x y n):=fun x y=>by
      unfold joinE;split
      ·exact clamp_in _ ok.lo ok.hi
      ·exact ⟨by decide,by decide⟩
     exact ⟨hj _ _,hj _ _⟩
    ·split
     ·exact ⟨held _ _ _ _,held _ _ _ _⟩
     ·obtain ⟨p1,p2⟩:=ha
      have p3:=ok.za
      split
      ·constructor<;>dsimp only<;>omega
      ·exact ⟨p1,p2⟩
theorem stepR_in {n:Nod} {L:List Rng} (ok:n.Ok) (hL:∀ r∈L,r.In8):(stepR n L).1.In8:=by
 unfold stepR
 split
 ·rename_i h
  have h:=there_iff.1 h
  exact nodeR_in ok (getD_in hL (by omega)) (getD_in hL (by omega))
 ·exact ⟨⟨by dsimp only;decide,by dsimp only;decide⟩,⟨by dsimp only;decide,by dsimp only;decide⟩⟩
theorem flow_in {l:List Nod} {a:Rng} (okl:∀ n∈l,n.Ok) (ha:a.In8) {k:Nat} (hk:k≤l.length):∀ r∈growL stepR l a k,r.In8 :=
 growL_all (n:=k) ha (fun j hj h=>stepR_in (getD_in okl (by omega)) h) k (AV_ _)
noncomputable def flow_ly_I (l:List Nod) (a:Rng) (k:Nat):VS:=stt 50 [(0,.sl 19 (l.map nodC)),(7,.own 900),(25,.sl 19 (l.map nodC)),(26,i64 l.length),(27,i64 k)] [(900,.slc 103 2 ((growL stepR l a k).map rchC))]
noncomputable def flow_ly_Z (l:List Nod) (a:Rng):VS:=flow_ly_I l a (l.length)
theorem flow_ly_s (l:List Nod) (a:Rng) (okl:∀ n∈l,n.Ok) (wl:∀ n∈l,n.w.length≤100000∧n.b.length≤100000) (ha:a.In8) (f8:l.length≤8) (h:∀ k,k<l.length→errL stepR l a k=0) (k:Nat) (hk:k<l.length):VT O_ (fnC Try.f52 [1,1,1,0,1,0,0]) (flow_ly_I l a k) .normal (flow_ly_I l a (k+1)):=by
 have q:=h k hk
 have q1:=growL_len stepR l a k
 have q2:=flow_in okl ha (Nat.le_of_lt hk)
 have q3:=getD_in okl hk
 have q4:=getD_in wl hk
 obtain ⟨q5,q6⟩:=q4
 unfold errL at q
 have oz2:=(map_at (nodC) (default) (l:=l) (i:=k) hk)
 have oz3:=@gstep_v (l.getD k default) (growL stepR l a k) q3 q2 (by omega) q5 q6
 exact tR_ [r_,b_,.r [] [.row (sO oz2)],.r [] [cr oz3],r_,d_,r_,.r [] [.n ((↑k:Int)+1)]] [.any (rg [(8,4),(28,12),(42,5)]),.drop [9,10,44],.ren 45 900,.weak 27 (i64 (↑(k+1):Int)),.blk 900 (Blk.slc 103 2 (K_ rchC (growL stepR l a (k+1)))),.sort] (.c8 (decide_eq_true (p:=((↑k:Int)<(l.length:Int))) (by omega)) (s_ (0≤(↑k:Int))) oz2 oz3 (show ((stepR (l.getD k default) (growL stepR l a k)).snd != 0)=false by (simp at *;omega)) (show ((K_ rchC (growL stepR l a k)).length+1)*2≤140737488355328 by (simp;omega)) (show (K_ rchC (growL stepR l a k)).length+1≤9223372036854775807 by (simp;omega)) (i6n ((↑k:Int)+1) (by omega))<|.d2 (wS_ k) (show BlkW (Blk.slc 103 2 (K_ rchC (growL stepR l a k)++[[i8 (stepR (l.getD k default) (growL stepR l a k)).fst.lo,i8 (stepR (l.getD k default) (growL stepR l a k)).fst.hi]])) (Blk.slc 103 2 (K_ rchC (growL stepR l a (k+1)))) from (CC_ (e:=103) (z:=2) (rows_to (rchC) (r:=K_ rchC (growL stepR l a k)++[[i8 (stepR (l.getD k default) (growL stepR l a k)).fst.lo,i8 (stepR (l.getD k default) (growL stepR l a k)).fst.hi]]) (l:=growL stepR l a k++[Rng.mk (stepR (l.getD k default) (growL stepR l a k)).fst.lo (stepR (l.getD k default) (growL stepR l a k)).fst.hi]) (m:=growL stepR l a (k+1)) (by first|(simp only[AL_,AM_,AT_,AU_,Z_,AQ_,AR_];done)|rfl|(simp only[AL_,AM_,AT_,AU_,Z_,AQ_,AR_];rfl)|(simp only[AL_,AM_,AT_,AU_,Z_,AQ_,AR_,rchC,ints];done)) (show (growL stepR l a k++[Rng.mk (stepR (l.getD k default) (growL stepR l a k)).fst.lo (stepR (l.getD k default) (growL stepR l a k)).fst.hi])=(growL stepR l a (k+1)) from (by rfl))))))
theorem flow_ly_e (l:List Nod) (a:Rng) (okl:∀ n∈l,n.Ok) (wl:∀ n∈l,n.w.length≤100000∧n.b.length≤100000) (ha:a.In8) (f8:l.length≤8) (h:∀ k,k<l.length→errL stepR l a k=0):VT O_ (fnC Try.f52 [1,1,1,0,1,0,0]) (flow_ly_I l a (l.length)) (.exit 1) (flow_ly_Z l a):=by
 exact tR_ [r_,d_] [.any [28],.sort] (.d (decide_eq_false (p:=((l.length:Int)<(l.length:Int))) (by omega)))
theorem flow_ly (l:List Nod) (a:Rng) (okl:∀ n∈l,n.Ok) (wl:∀ n∈l,n.w.length≤100000∧n.b.length≤100000) (ha:a.In8) (f8:l.length≤8) (h:∀ k,k<l.length→errL stepR l a k=0):VT O_ (fnC Try.f52 [1,1,1,0,1,0]) (flow_ly_I l a 0) (.exit 1) (flow_ly_Z l a) :=
 VT.loop (fun k=>flow_ly_I l a k) (l.length) (fun k hk=>flow_ly_s l a okl wl ha f8 h k hk) (flow_ly_e l a okl wl ha f8 h) (by intro h;cases h)
noncomputable def flow_ln_I (l:List Nod) (a:Rng) (m:Nat) (k:Nat):VS:=stt 50 [(0,.sl 19 (l.map nodC)),(7,.own 900),(25,.sl 19 (l.map nodC)),(26,i64 l.length),(27,i64 k)] [(900,.slc 103 2 ((growL stepR l a k).map rchC))]
noncomputable def flow_ln_Z (l:List Nod) (a:Rng) (m:Nat):VS:=stt 50 [(4,nilv),(5,i64 m),(6,i64 (errL stepR l a m))] []
theorem flow_ln_s (l:List Nod) (a:Rng) (m:Nat) (okl:∀ n∈l,n.Ok) (wl:∀ n∈l,n.w.length≤100000∧n.b.length≤100000) (ha:a.In8) (f8:l.length≤8) (hm:m<l.length) (hf:errL stepR l a m≠0) (h:∀ k,k<m→errL stepR l a k=0) (k:Nat) (hk:k<m):VT O_ (fnC Try.f52 [1,1,1,0,1,0,0]) (flow_ln_I l a m k) .normal (flow_ln_I l a m (k+1)):=by
 have q:=h k hk
 have q1:=growL_len stepR l a k
 have q2:=flow_in okl ha (s_ (k≤l.length))
 have q3:=getD_in okl (s_ (k<l.length))
 have q4:=getD_in wl (s_ (k<l.length))
 obtain ⟨q5,q6⟩:=q4
 unfold errL at q
 have oz2:=(map_at (nodC) (default) (l:=l) (i:=k) (by omega))
 have oz3:=@gstep_v (l.getD k default) (growL stepR l a k) q3 q2 (by omega) q5 q6
 exact tR_ [r_,b_,.r [] [.row (sO oz2)],.r [] [cr oz3],r_,d_,r_,.r [] [.n ((↑k:Int)+1)]] [.any (rg [(8,4),(28,12),(42,5)]),.drop [9,10,44],.ren 45 900,.weak 27 (i64 (↑(k+1):Int)),.blk 900 (Blk.slc 103 2 (K_ rchC (growL stepR l a (k+1)))),.sort] (.c8 (decide_eq_true (p:=((↑k:Int)<(l.length:Int))) (by omega)) (s_ (0≤(↑k:Int))) oz2 oz3 (show ((stepR (l.getD k default) (growL stepR l a k)).snd != 0)=false by (simp at *;omega)) (show ((K_ rchC (growL stepR l a k)).length+1)*2≤140737488355328 by (simp;omega)) (show (K_ rchC (growL stepR l a k)).length+1≤9223372036854775807 by (simp;omega)) (i6n ((↑k:Int)+1) (by omega))<|.d2 (wS_ k) (show BlkW (Blk.slc 103 2 (K_ rchC (growL stepR l a k)++[[i8 (stepR (l.getD k default) (growL stepR l a k)).fst.lo,i8 (stepR (l.getD k default) (growL stepR l a k)).fst.hi]])) (Blk.slc 103 2 (K_ rchC (growL stepR l a (k+1)))) from (CC_ (e:=103) (z:=2) (rows_to (rchC) (r:=K_ rchC (growL stepR l a k)++[[i8 (stepR (l.getD k default) (growL stepR l a k)).fst.lo,i8 (stepR (l.getD k default) (growL stepR l a k)).fst.hi]]) (l:=growL stepR l a k++[Rng.mk (stepR (l.getD k default) (growL stepR l a k)).fst.lo (stepR (l.getD k default) (growL stepR l a k)).fst.hi]) (m:=growL stepR l a (k+1)) (by first|(simp only[AL_,AM_,AT_,AU_,Z_,AQ_,AR_];done)|rfl|(simp only[AL_,AM_,AT_,AU_,Z_,AQ_,AR_];rfl)|(simp only[AL_,AM_,AT_,AU_,Z_,AQ_,AR_,rchC,ints];done)) (show (growL stepR l a k++[Rng.mk (stepR (l.getD k default) (growL stepR l a k)).fst.lo (stepR (l.getD k default) (growL stepR l a k)).fst.hi])=(growL stepR l a (k+1)) from (by rfl))))))
theorem flow_ln_e (l:List Nod) (a:Rng) (m:Nat) (okl:∀ n∈l,n.Ok) (wl:∀ n∈l,n.w.length≤100000∧n.b.length≤100000) (ha:a.In8) (f8:l.length≤8) (hm:m<l.length) (hf:errL stepR l a m≠0) (h:∀ k,k<m→errL stepR l a k=0):VT O_ (fnC Try.f52 [1,1,1,0,1,0,0]) (flow_ln_I l a m (m)) (.ret) (flow_ln_Z l a m):=by
 have q1:=growL_len stepR l a m
 have q2:=flow_in okl ha (Nat.le_of_lt hm)
 have q3:=getD_in okl hm
 have q4:=getD_in wl hm
 obtain ⟨q5,q6⟩:=q4
 unfold errL at hf
 have oz2:=(map_at (nodC) (default) (l:=l) (i:=m) hm)
 have oz3:=@gstep_v (l.getD m default) (growL stepR l a m) q3 q2 (by omega) q5 q6
 have oz5:=(M_ (k:=.i64) (show (((stepR (l.getD m default) (growL stepR l a m)).snd):Int)=(errL stepR l a m) from (by rfl)))
 exact tR_ [r_,b_,.r [] [.row (sO oz2)],.r [] [cr oz3],r_,b_,r_] [.any (rg [(0,1),(7,5),(25,17)]),.drop [900,9,10],.weak 6 (wO oz5),.sort] (.d6 (decide_eq_true (p:=((↑m:Int)<(l.length:Int))) (by omega)) (s_ (0≤(↑m:Int))) oz2 oz3 (show ((stepR (l.getD m default) (growL stepR l a m)).snd != 0)=true by (simp at *;omega)) oz5)
theorem flow_ln (l:List Nod) (a:Rng) (m:Nat) (okl:∀ n∈l,n.Ok) (wl:∀ n∈l,n.w.length≤100000∧n.b.length≤100000) (ha:a.In8) (f8:l.length≤8) (hm:m<l.length) (hf:errL stepR l a m≠0) (h:∀ k,k<m→errL stepR l a k=0):VT O_ (fnC Try.f52 [1,1,1,0,1,0]) (flow_ln_I l a m 0) (.ret) (flow_ln_Z l a m) :=
 VT.loop (fun k=>flow_ln_I l a m k) (m) (fun k hk=>flow_ln_s l a m okl wl ha f8 hm hf h k hk) (flow_ln_e l a m okl wl ha f8 hm hf h) (by intro h;cases h)
theorem flow_y (l:List Nod) (a:Rng) (okl:∀ n∈l,n.Ok) (wl:∀ n∈l,n.w.length≤100000∧n.b.length≤100000) (ha:a.In8) (h:FOK l a):VC O_ 52 ([.sl 19 (l.map nodC),rch a]) (.tup [.sl 2 ((growL stepR l a l.length).map rchC),i64 l.length,i64 0]):=by
 obtain ⟨q2,q3,q1,q4⟩:=id h
 have oz2:=@upside_v (a.lo) (a.hi)
 have oz6:=@flow_ly (l) (a) okl wl ha q3 q4
 exact (cR_ [r_,r_,d_,r_,d_,.r [] [cr oz2],d_,r_,r_,.code [.any (rg [(1,1),(3,4),(12,13)]),.drop [3],.ren 24 900,.weak 26 (i64 (l.length:Int)),.weak 27 (i64 (↑0:Int)),.sort] (BN_ 1) (zO oz6),r_] (AV.tup [AV.sl 2 (K_ rchC (growL stepR l a l.length)),i64 ((K_ nodC l).length:Int),i64 0]) Try.func52 (.d7 (show (((K_ nodC l).length:Int)==0)=false by (simp only[E_,F_,I_,J_,ne_eq,H_,G_,T_,S_,CM_,BX_,BS_,Classical.not_not,CB_,Int.not_le,N_,P_,W_,Q_,Y_,BR_,BU_,BM_,BC_,BY_,eqNums,X_,AD_,BP_,CV_,List.length_set,BT_,BG_,CN_,CX_,BV_,BQ_,CU_];(first|done|with_reducible assumption|omega|contradiction))) (show decide (((K_ nodC l).length:Int)>8)=false by (simp;omega)) oz2 (decide_eq_false (p:=(a.lo>a.hi)) (by omega)) (M_ (k:=.i64) (show ((((K_ nodC l).length:Int)):Int)=((l.length:Int)) from (by (simp;done)))) w0_ oz6)).weak (A_ _) (AA_ (.cons (.refl _) (.cons (M_ (by (simp;done))) (.cons (.refl _) .nil))))
theorem flow_m (l:List Nod) (a:Rng) (m:Nat) (okl:∀ n∈l,n.Ok) (wl:∀ n∈l,n.w.length≤100000∧n.b.length≤100000) (ha:a.In8) (i:a.lo≤a.hi) (f8:l.length≤8) (hm:m<l.length) (hf:errL stepR l a m≠0) (h:∀ k,k<m→errL stepR l a k=0):VC O_ 52 ([.sl 19 (l.map nodC),rch a]) (.tup [nilv,i64 m,i64 (errL stepR l a m)]):=by
 have oz2:=@upside_v (a.lo) (a.hi)
 have oz6:=@flow_ln (l) (a) (m) okl wl ha f8 hm hf h
 exact cR_ [r_,r_,d_,r_,d_,.r [] [cr oz2],d_,r_,r_,.code [.any (rg [(1,1),(3,4),(12,13)]),.drop [3],.ren 24 900,.weak 26 (i64 (l.length:Int)),.weak 27 (i64 (↑0:Int)),.sort] (Exit.ret) (zO oz6)] _ Try.func52 (.d7 (show (((K_ nodC l).length:Int)==0)=false by (simp only[E_,F_,I_,J_,ne_eq,H_,G_,T_,S_,CM_,BX_,BS_,Classical.not_not,CB_,Int.not_le,N_,P_,W_,Q_,Y_,BR_,BU_,BM_,BC_,BY_,eqNums,X_,AD_,BP_,CV_,List.length_set,BT_,BG_,CN_,CX_,BV_,BQ_,CU_];(first|done|with_reducible assumption|omega|contradiction))) (show decide (((K_ nodC l).length:Int)>8)=false by (simp;omega)) oz2 (decide_eq_false (p:=(a.lo>a.hi)) (by omega)) (M_ (k:=.i64) (show ((((K_ nodC l).length:Int)):Int)=((l.length:Int)) from (by (simp;done)))) w0_ oz6)
def flowB (l:List Nod) (a:Rng):Nat→Bool:=fun k=>errL stepR l a k==0
def flowE (l:List Nod) (a:Rng):Int×Int :=
 if l.length=0 then (-1,12) else if 8<l.length then (-1,4) else if a.lo>a.hi then (-1,2)
 else if firstBad (flowB l a) l.length<l.length then (firstBad (flowB l a) l.length,errL stepR l a (firstBad (flowB l a) l.length)) else (l.length,0)
theorem flow_a (l:List Nod) (a:Rng) (hl:l.length≤1000) (h:l.length=0∨8<l.length∨a.lo>a.hi):VC O_ 52 ([.sl 19 (l.map nodC),rch a]) (.tup [nilv,i64 (flowE l a).1,i64 (flowE l a).2]):=by
 rcases bft (((K_ nodC l).length:Int)==0) with hc0|hc0
 ·have gc0:((K_ nodC l).length:Int)=0:=bet hc0
  exact (cR_ [r_,r_,b_,r_] (AV.tup [AV.lit (AK_ none 0 0),i64 (-1),i64 12]) Try.func52 (.d hc0)).weak (A_ _) (AA_ (.cons (.refl _) (.cons (M_ (by (unfold flowE;(try simp only[X_] at *);(repeat first|rw[i_ (by omega)]|rw[j_ (by omega)])))) (.cons (M_ (by (unfold flowE;(try simp only[X_] at *);(repeat first|rw[i_ (by omega)]|rw[j_ (by omega)])))) .nil))))
 ·have gc0:¬((K_ nodC l).length:Int)=0:=bef hc0
  rcases bft (decide (((K_ nodC l).length:Int)>8)) with hc1|hc1
  ·have gc1:=of_decide_eq_true hc1
   exact (cR_ [r_,r_,d_,r_,b_,r_] (AV.tup [AV.lit (AK_ none 0 0),i64 (-1),i64 4]) Try.func52 (.d2 hc0 hc1)).weak (A_ _) (AA_ (.cons (.refl _) (.cons (M_ (by (unfold flowE;(try simp only[X_] at *);(repeat first|rw[i_ (by omega)]|rw[j_ (by omega)])))) (.cons (M_ (by (unfold flowE;(try simp only[X_] at *);(repeat first|rw[i_ (by omega)]|rw[j_ (by omega)])))) .nil))))
  ·have gc1:=of_decide_eq_false hc1
   have oz2:=@upside_v (a.lo) (a.hi)
   exact (cR_ [r_,r_,d_,r_,d_,.r [] [cr oz2],b_,r_] (AV.tup [AV.lit (AK_ none 0 0),i64 (-1),i64 2]) Try.func52 (.d4 hc0 hc1 oz2 (show decide (a.lo>a.hi)=true by (simp only[E_,F_,I_,J_,ne_eq,H_,G_,T_,S_,CM_,BX_,BS_,Classical.not_not,CB_,Int.not_le,N_,P_,W_,Q_,Y_,BR_,BU_,BM_,BC_,BY_,eqNums,X_,AD_,BP_,CV_,List.length_set,BT_,BG_,CN_,CX_,BV_,BQ_,CU_] at *;(first|done|with_reducible assumption|omega|contradiction))))).weak (A_ _) (AA_ (.cons (.refl _) (.cons (M_ (by (unfold flowE;(try simp only[X_] at *);(repeat first|rw[i_ (by omega)]|rw[j_ (by omega)])))) (.cons (M_ (by (unfold flowE;(try simp only[X_] at *);(repeat first|rw[i_ (by omega)]|rw[j_ (by omega)])))) .nil))))
theorem flowE_y {l:List Nod} {a:Rng} (h:FOK l a):flowE l a=((l.length:Int),0):=by
 obtain ⟨q2,q3,q1,q4⟩:=h
 unfold flowE
 rw[j_ (by omega),j_ (by omega),j_ (by omega),firstBad_all fun k hk=>by simpa [flowB] using q4 k hk,j_ (by omega)]
theorem flowE_at {l:List Nod} {a:Rng} {m:Nat} (i:a.lo≤a.hi) (e:0<l.length) (f:l.length≤8) (hm:m<l.length) (hf:errL stepR l a m≠0) (h:∀ k,k<m→errL stepR l a k=0):flowE l a=((m:Int),errL stepR l a m):=by
 have:=firstBad_at (p:=flowB l a) (m:=m) (by simpa [flowB] using hf) (fun k hk=>by simpa [flowB] using h k hk) hm
 unfold flowE
 rw[j_ (by omega),j_ (by omega),j_ (by omega),this,i_ hm]
theorem FOK.cases (l:List Nod) (a:Rng):FOK l a∨(l.length=0∨8<l.length∨a.lo>a.hi)∨(a.lo≤a.hi∧0<l.length∧l.length≤8∧∃ m,m<l.length∧errL stepR l a m≠0∧∀ k,k<m→errL stepR l a k=0):=by
 by_cases c:l.length=0∨8<l.length∨a.lo>a.hi
 ·exact .inr (.inl c)
 ·rcases all_or (flowB l a) l.length with h|⟨m,h1,h2,h3⟩
  ·exact .inl ⟨by omega,by omega,by omega,fun k hk=>by simpa [flowB] using h k hk⟩
  ·exact .inr (.inr ⟨by omega,by omega,by omega,m,h1,by simpa [flowB] using h2,fun k hk=>by simpa [flowB] using h3 k hk⟩)
theorem flowE_n {l:List Nod} {a:Rng} (h:¬ FOK l a):(flowE l a).2≠0:=by
 rcases FOK.cases l a with q|q|⟨i,e,f,m,h1,h2,h3⟩
 ·exact absurd q h
 ·unfold flowE
  by_cases c1:l.length=0
  ·rw[i_ c1];dsimp only;decide
  ·rw[j_ c1]
   by_cases c2:8<l.length
   ·rw[i_ c2];dsimp only;decide
   ·rw[j_ c2,i_ (by omega)];dsimp only;decide
 ·rw[flowE_at i e f h1 h2 h3];exact h2
theorem flow_n (l:List Nod) (a:Rng) (okl:∀ n∈l,n.Ok) (wl:∀ n∈l,n.w.length≤100000∧n.b.length≤100000) (ha:a.In8) (hl:l.length≤1000) (h:¬ FOK l a):VC O_ 52 [.sl 19 (l.map nodC),rch a] (.tup [nilv,i64 (flowE l a).1,i64 (flowE l a).2]):=by
 rcases FOK.cases l a with q|q|⟨i,e,f,m,h1,h2,h3⟩
 ·exact absurd q h
 ·exact flow_a l a hl q
 ·rw[flowE_at i e f h1 h2 h3];exact flow_m l a m okl wl ha i f h1 h2 h3
def Shp.Rt (s:Shp):Prop:=0<elems s.h s.x s.c
abbrev zsh:Shp:=⟨0,0,0⟩
theorem zsh_ok:zsh.Ok:=by constructor<;>exact ⟨by decide,by decide⟩
theorem Shp.Rt.ok {s:Shp} (h:s.Rt):s.Ok:=by
 have:=elems_ok h
 exact ⟨⟨by omega,by omega⟩,⟨by omega,by omega⟩,⟨by omega,by omega⟩⟩
def Told (r:Shp×Int):Prop:=(r.2=0∧r.1.Rt)∨(r.2≠0∧r.1=zsh)
theorem slideE_told (t:Shp) (k s p o:Int):Told (slideE t k s p o):=by
 unfold slideE
 split
 ·exact .inr ⟨by dsimp only;decide,rfl⟩
 ·split
  ·exact .inr ⟨by assumption,rfl⟩
  ·split
   ·exact .inr ⟨by assumption,rfl⟩
   ·split
    ·exact .inr ⟨by dsimp only;decide,rfl⟩
    ·rename_i h;exact .inl ⟨rfl,Classical.not_not.1 h⟩
theorem convE_told (t:Shp) (n:Nod):Told (convE t n):=by
 have q:=slideE_told t n.nk n.ns n.np n.no
 unfold convE
 split
 ·exact .inr ⟨by assumption,rfl⟩
 ·split
  ·exact .inr ⟨by dsimp only;decide,rfl⟩
  ·rcases q with q|q
   ·exact .inl ⟨rfl,q.2⟩
   ·exact absurd q.1 (by assumption)
theorem depthE_told (t:Shp) (n:Nod):Told (depthE t n):=by
 have q:=slideE_told t n.nk n.ns n.np t.c
 unfold depthE
 split
 ·exact .inr ⟨by assumption,rfl⟩
 ·split
  ·exact .inr ⟨by dsimp only;decide,rfl⟩
  ·rcases q with q|q
   ·exact .inl ⟨rfl,q.2⟩
   ·exact absurd q.1 (by assumption)
theorem denseE_told (t:Shp) (n:Nod):Told (denseE t n):=by
 unfold denseE
 split
 ·exact .inr ⟨by dsimp only;decide,rfl⟩
 ·split
  ·exact .inr ⟨by dsimp only;decide,rfl⟩
  ·rename_i h _
   have:=elems_in 1 1 n.no
   exact .inl ⟨rfl,by unfold Shp.Rt;dsimp only;omega⟩
theorem aroundE_told (a:Shp) (p:Int):Told (aroundE a p):=by
 unfold aroundE
 split
 ·exact .inr ⟨by dsimp only;decide,rfl⟩
 ·split
  ·exact .inr ⟨by dsimp only;decide,rfl⟩
  ·have:=elems_in (a.h+2*p) (a.x+2*p) a.c
   exact .inl ⟨rfl,by unfold Shp.Rt;dsimp only;omega⟩
theorem flat_rt {n:Int} (h0:0<n) (h:n≤1024):0<elems 1 1 n:=by
 unfold elems;rw[i_ (by omega)];omega
theorem shapeE_told (n:Nod) (a b:Shp):Told (shapeE n a b):=by
 unfold shapeE
 split
 ·exact convE_told a n
 ·split
  ·exact depthE_told a n
  ·split
   ·exact denseE_told a n
   ·split
    ·exact slideE_told a n.nk n.ns n.np a.c
    ·split
     ·exact .inr ⟨by dsimp only;decide,rfl⟩
     ·split
      ·exact .inr ⟨by dsimp only;decide,rfl⟩
      ·rename_i h
       have q:=elems_in a.h a.x a.c
       split
       ·exact (.inl ⟨rfl,show 0<elems 1 1 (elems a.h a.x a.c) from flat_rt (by omega) q.2⟩)
       ·split
        ·exact aroundE_told a n.np
        ·exact .inl ⟨rfl,by unfold Shp.Rt;dsimp only;omega⟩
theorem nextE_told (n:Nod) (L:List Shp):Told (nextE n L):=by
 unfold nextE
 split
 ·exact .inr ⟨by assumption,rfl⟩
 ·split
  ·exact shapeE_told _ _ _
  ·exact .inr ⟨by dsimp only;decide,rfl⟩
theorem Told.ok {r:Shp×Int} (h:Told r):r.1.Ok:=by
 rcases h with h|h
 ·exact h.2.ok
 ·rw[h.2];exact zsh_ok
structure SOK (l:List Nod) (a:Shp):Prop where
 i:a.Rt
 e:0<l.length
 f:l.length≤8
 k:∀ k,k<l.length→errL nextE l a k=0
def shapesB (l:List Nod) (a:Shp):Nat→Bool:=fun k=>errL nextE l a k==0
def shapesE (l:List Nod) (a:Shp):Int×Int :=
 if ¬ 0<elems a.h a.x a.c then (-1,5) else if l.length=0 then (-1,12) else if 8<l.length then (-1,4)
 else if firstBad (shapesB l a) l.length<l.length then (firstBad (shapesB l a) l.length,errL nextE l a (firstBad (shapesB l a) l.length)) else (l.length,0)
theorem shapesE_y {l:List Nod} {a:Shp} (h:SOK l a):shapesE l a=((l.length:Int),0):=by
 have h0:=h.i
 unfold Shp.Rt at h0
 have h1:=h.e
 have h2:=h.f
 unfold shapesE
 rw[j_ (by omega),j_ (by omega),j_ (by omega),firstBad_all fun k hk=>by simpa [shapesB] using h.k k hk,j_ (by omega)]
theorem shapesE_at {l:List Nod} {a:Shp} {m:Nat} (i:a.Rt) (e:0<l.length) (f:l.length≤8) (hm:m<l.length) (hf:errL nextE l a m≠0) (h:∀ k,k<m→errL nextE l a k=0):shapesE l a=((m:Int),errL nextE l a m):=by
 unfold Shp.Rt at i
 have:=firstBad_at (p:=shapesB l a) (m:=m) (by simpa [shapesB] using hf) (fun k hk=>by simpa [shapesB] using h k hk) hm
 unfold shapesE
 rw[j_ (by omega),j_ (by omega),j_ (by omega),this,i_ hm]
theorem SOK.cases (l:List Nod) (a:Shp):SOK l a∨¬ a.Rt∨l.length=0∨8<l.length∨(a.Rt∧0<l.length∧l.length≤8∧∃ m,m<l.length∧errL nextE l a m≠0∧∀ k,k<m→errL nextE l a k=0):=by
 by_cases i:a.Rt
 ·by_cases e:0<l.length
  ·by_cases f:l.length≤8
   ·rcases all_or (shapesB l a) l.length with h|⟨m,h1,h2,h3⟩
    ·exact .inl ⟨i,e,f,fun k hk=>by simpa [shapesB] using h k hk⟩
    ·exact .inr (.inr (.inr (.inr ⟨i,e,f,m,h1,by simpa [shapesB] using h2,fun k hk=>by simpa [shapesB] using h3 k hk⟩)))
   ·exact .inr (.inr (.inr (.inl (by omega))))
  ·exact .inr (.inr (.inl (by omega)))
 ·exact .inr (.inl i)
theorem shapesE_n {l:List Nod} {a:Shp} (h:¬ SOK l a):(shapesE l a).2≠0:=by
 rcases SOK.cases l a with q|q|q|q|⟨i,e,f,m,h1,h2,h3⟩
 ·exact absurd q h
 ·have e:shapesE l a=(-1,5):=by unfold shapesE;exact i_ q
  rw[e];decide
 ·unfold shapesE
  by_cases c1:¬ 0<elems a.h a.x a.c
  ·rw[i_ c1];dsimp only;decide
  ·rw[j_ c1,i_ q];dsimp only;decide
 ·unfold shapesE
  by_cases c1:¬ 0<elems a.h a.x a.c
  ·rw[i_ c1];dsimp only;decide
  ·rw[j_ c1,j_ (by omega),i_ q];dsimp only;decide
 ·rw[shapesE_at i e f h1 h2 h3];exact h2
theorem grow_ok {l:List Nod} {a:Shp} (i:a.Ok) (k:Nat):∀ s∈growL nextE l a k,s.Ok :=
 growL_all (n:=k) i (fun j _ _=>(nextE_told _ _).ok) k (AV_ _)
noncomputable def shapes_ly_I (l:List Nod) (a:Shp) (k:Nat):VS:=stt 51 [(0,.sl 19 (l.map nodC)),(7,.own 900),(26,.sl 19 (l.map nodC)),(27,i64 l.length),(28,i64 k)] [(900,.slc 29 3 ((growL nextE l a k).map shpC))]
noncomputable def shapes_ly_Z (l:List Nod) (a:Shp):VS:=shapes_ly_I l a (l.length)
theorem shapes_ly_s (l:List Nod) (a:Shp) (okl:∀ n∈l,n.Ok) (wl:∀ n∈l,n.w.length≤100000∧n.b.length≤100000) (i:a.Ok) (f8:l.length≤8) (h:∀ k,k<l.length→errL nextE l a k=0) (k:Nat) (hk:k<l.length):VT O_ (fnC Try.f40 [1,1,1,0,1,0,0]) (shapes_ly_I l a k) .normal (shapes_ly_I l a (k+1)):=by
 have q:=h k hk
 have q1:=growL_len nextE l a k
 have q2:=grow_ok (l:=l) i k
 have q3:=getD_in okl hk
 have q4:=getD_in wl hk
 obtain ⟨q5,q6⟩:=q4
 unfold errL at q
 have oz2:=(map_at (nodC) (default) (l:=l) (i:=k) hk)
 have oz3:=@next_v (l.getD k default) (growL nextE l a k) q3 q2 (by omega) q5 q6
 exact tR_ [r_,b_,.r [] [.row (sO oz2)],.r [] [cr oz3],r_,d_,r_,.r [] [.n ((↑k:Int)+1)]] [.any (rg [(8,4),(29,12),(43,5)]),.drop [9,10,45],.ren 46 900,.weak 28 (i64 (↑(k+1):Int)),.blk 900 (Blk.slc 29 3 (K_ shpC (growL nextE l a (k+1)))),.sort] (.c8 (decide_eq_true (p:=((↑k:Int)<(l.length:Int))) (by omega)) (s_ (0≤(↑k:Int))) oz2 oz3 (show ((nextE (l.getD k default) (growL nextE l a k)).snd != 0)=false by (simp at *;omega)) (show ((K_ shpC (growL nextE l a k)).length+1)*24≤140737488355328 by (simp;omega)) (show (K_ shpC (growL nextE l a k)).length+1≤9223372036854775807 by (simp;omega)) (i6n ((↑k:Int)+1) (by omega))<|.d2 (wS_ k) (show BlkW (Blk.slc 29 3 (K_ shpC (growL nextE l a k)++[[i64 (nextE (l.getD k default) (growL nextE l a k)).fst.h,i64 (nextE (l.getD k default) (growL nextE l a k)).fst.x,i64 (nextE (l.getD k default) (growL nextE l a k)).fst.c]])) (Blk.slc 29 3 (K_ shpC (growL nextE l a (k+1)))) from (CC_ (e:=29) (z:=3) (rows_to (shpC) (r:=K_ shpC (growL nextE l a k)++[[i64 (nextE (l.getD k default) (growL nextE l a k)).fst.h,i64 (nextE (l.getD k default) (growL nextE l a k)).fst.x,i64 (nextE (l.getD k default) (growL nextE l a k)).fst.c]]) (l:=growL nextE l a k++[Shp.mk (nextE (l.getD k default) (growL nextE l a k)).fst.h (nextE (l.getD k default) (growL nextE l a k)).fst.x (nextE (l.getD k default) (growL nextE l a k)).fst.c]) (m:=growL nextE l a (k+1)) (by first|(simp only[AL_,AM_,AT_,AU_,Z_,AQ_,AR_];done)|rfl|(simp only[AL_,AM_,AT_,AU_,Z_,AQ_,AR_];rfl)|(simp only[AL_,AM_,AT_,AU_,Z_,AQ_,AR_,shpC,ints];done)) (show (growL nextE l a k++[Shp.mk (nextE (l.getD k default) (growL nextE l a k)).fst.h (nextE (l.getD k default) (growL nextE l a k)).fst.x (nextE (l.getD k default) (growL nextE l a k)).fst.c])=(growL nextE l a (k+1)) from (by rfl))))))
theorem shapes_ly_e (l:List Nod) (a:Shp) (okl:∀ n∈l,n.Ok) (wl:∀ n∈l,n.w.length≤100000∧n.b.length≤100000) (i:a.Ok) (f8:l.length≤8) (h:∀ k,k<l.length→errL nextE l a k=0):VT O_ (fnC Try.f40 [1,1,1,0,1,0,0]) (shapes_ly_I l a (l.length)) (.exit 1) (shapes_ly_Z l a):=by
 exact tR_ [r_,d_] [.any [29],.sort] (.d (decide_eq_false (p:=((l.length:Int)<(l.length:Int))) (by omega)))
theorem shapes_ly (l:List Nod) (a:Shp) (okl:∀ n∈l,n.Ok) (wl:∀ n∈l,n.w.length≤100000∧n.b.length≤100000) (i:a.Ok) (f8:l.length≤8) (h:∀ k,k<l.length→errL nextE l a k=0):VT O_ (fnC Try.f40 [1,1,1,0,1,0]) (shapes_ly_I l a 0) (.exit 1) (shapes_ly_Z l a) :=
 VT.loop (fun k=>shapes_ly_I l a k) (l.length) (fun k hk=>shapes_ly_s l a okl wl i f8 h k hk) (shapes_ly_e l a okl wl i f8 h) (by intro h;cases h)
noncomputable def shapes_ln_I (l:List Nod) (a:Shp) (m:Nat) (k:Nat):VS:=stt 51 [(0,.sl 19 (l.map nodC)),(7,.own 900),(26,.sl 19 (l.map nodC)),(27,i64 l.length),(28,i64 k)] [(900,.slc 29 3 ((growL nextE l a k).map shpC))]
noncomputable def shapes_ln_Z (l:List Nod) (a:Shp) (m:Nat):VS:=stt 51 [(4,nilv),(5,i64 m),(6,i64 (errL nextE l a m))] []
theorem shapes_ln_s (l:List Nod) (a:Shp) (m:Nat) (okl:∀ n∈l,n.Ok) (wl:∀ n∈l,n.w.length≤100000∧n.b.length≤100000) (i:a.Ok) (f8:l.length≤8) (hm:m<l.length) (hf:errL nextE l a m≠0) (h:∀ k,k<m→errL nextE l a k=0) (k:Nat) (hk:k<m):VT O_ (fnC Try.f40 [1,1,1,0,1,0,0]) (shapes_ln_I l a m k) .normal (shapes_ln_I l a m (k+1)):=by
 have q:=h k hk
 have q1:=growL_len nextE l a k
 have q2:=grow_ok (l:=l) i k
 have q3:=getD_in okl (s_ (k<l.length))
 have q4:=getD_in wl (s_ (k<l.length))
 obtain ⟨q5,q6⟩:=q4
 unfold errL at q
 have oz2:=(map_at (nodC) (default) (l:=l) (i:=k) (by omega))
 have oz3:=@next_v (l.getD k default) (growL nextE l a k) q3 q2 (by omega) q5 q6
 exact tR_ [r_,b_,.r [] [.row (sO oz2)],.r [] [cr oz3],r_,d_,r_,.r [] [.n ((↑k:Int)+1)]] [.any (rg [(8,4),(29,12),(43,5)]),.drop [9,10,45],.ren 46 900,.weak 28 (i64 (↑(k+1):Int)),.blk 900 (Blk.slc 29 3 (K_ shpC (growL nextE l a (k+1)))),.sort] (.c8 (decide_eq_true (p:=((↑k:Int)<(l.length:Int))) (by omega)) (s_ (0≤(↑k:Int))) oz2 oz3 (show ((nextE (l.getD k default) (growL nextE l a k)).snd != 0)=false by (simp at *;omega)) (show ((K_ shpC (growL nextE l a k)).length+1)*24≤140737488355328 by (simp;omega)) (show (K_ shpC (growL nextE l a k)).length+1≤9223372036854775807 by (simp;omega)) (i6n ((↑k:Int)+1) (by omega))<|.d2 (wS_ k) (show BlkW (Blk.slc 29 3 (K_ shpC (growL nextE l a k)++[[i64 (nextE (l.getD k default) (growL nextE l a k)).fst.h,i64 (nextE (l.getD k default) (growL nextE l a k)).fst.x,i64 (nextE (l.getD k default) (growL nextE l a k)).fst.c]])) (Blk.slc 29 3 (K_ shpC (growL nextE l a (k+1)))) from (CC_ (e:=29) (z:=3) (rows_to (shpC) (r:=K_ shpC (growL nextE l a k)++[[i64 (nextE (l.getD k default) (growL nextE l a k)).fst.h,i64 (nextE (l.getD k default) (growL nextE l a k)).fst.x,i64 (nextE (l.getD k default) (growL nextE l a k)).fst.c]]) (l:=growL nextE l a k++[Shp.mk (nextE (l.getD k default) (growL nextE l a k)).fst.h (nextE (l.getD k default) (growL nextE l a k)).fst.x (nextE (l.getD k default) (growL nextE l a k)).fst.c]) (m:=growL nextE l a (k+1)) (by first|(simp only[AL_,AM_,AT_,AU_,Z_,AQ_,AR_];done)|rfl|(simp only[AL_,AM_,AT_,AU_,Z_,AQ_,AR_];rfl)|(simp only[AL_,AM_,AT_,AU_,Z_,AQ_,AR_,shpC,ints];done)) (show (growL nextE l a k++[Shp.mk (nextE (l.getD k default) (growL nextE l a k)).fst.h (nextE (l.getD k default) (growL nextE l a k)).fst.x (nextE (l.getD k default) (growL nextE l a k)).fst.c])=(growL nextE l a (k+1)) from (by rfl))))))
theorem shapes_ln_e (l:List Nod) (a:Shp) (m:Nat) (okl:∀ n∈l,n.Ok) (wl:∀ n∈l,n.w.length≤100000∧n.b.length≤100000) (i:a.Ok) (f8:l.length≤8) (hm:m<l.length) (hf:errL nextE l a m≠0) (h:∀ k,k<m→errL nextE l a k=0):VT O_ (fnC Try.f40 [1,1,1,0,1,0,0]) (shapes_ln_I l a m (m)) (.ret) (shapes_ln_Z l a m):=by
 have q1:=growL_len nextE l a m
 have q2:=grow_ok (l:=l) i m
 have q3:=getD_in okl hm
 have q4:=getD_in wl hm
 obtain ⟨q5,q6⟩:=q4
 unfold errL at hf
 have oz2:=(map_at (nodC) (default) (l:=l) (i:=m) hm)
 have oz3:=@next_v (l.getD m default) (growL nextE l a m) q3 q2 (by omega) q5 q6
 have oz5:=(M_ (k:=.i64) (show (((nextE (l.getD m default) (growL nextE l a m)).snd):Int)=(errL nextE l a m) from (by rfl)))
 exact tR_ [r_,b_,.r [] [.row (sO oz2)],.r [] [cr oz3],r_,b_,r_] [.any (rg [(0,1),(7,5),(26,17)]),.drop [900,9,10],.weak 6 (wO oz5),.sort] (.d6 (decide_eq_true (p:=((↑m:Int)<(l.length:Int))) (by omega)) (s_ (0≤(↑m:Int))) oz2 oz3 (show ((nextE (l.getD m default) (growL nextE l a m)).snd != 0)=true by (simp at *;omega)) oz5)
theorem shapes_ln (l:List Nod) (a:Shp) (m:Nat) (okl:∀ n∈l,n.Ok) (wl:∀ n∈l,n.w.length≤100000∧n.b.length≤100000) (i:a.Ok) (f8:l.length≤8) (hm:m<l.length) (hf:errL nextE l a m≠0) (h:∀ k,k<m→errL nextE l a k=0):VT O_ (fnC Try.f40 [1,1,1,0,1,0]) (shapes_ln_I l a m 0) (.ret) (shapes_ln_Z l a m) :=
 VT.loop (fun k=>shapes_ln_I l a m k) (m) (fun k hk=>shapes_ln_s l a m okl wl i f8 hm hf h k hk) (shapes_ln_e l a m okl wl i f8 hm hf h) (by intro h;cases h)
theorem shapes_y (l:List Nod) (a:Shp) (okl:∀ n∈l,n.Ok) (wl:∀ n∈l,n.w.length≤100000∧n.b.length≤100000) (h:SOK l a):VC O_ 40 ([.sl 19 (l.map nodC),shp a]) (.tup [.sl 3 ((growL nextE l a l.length).map shpC),i64 l.length,i64 0]):=by
 have q1:=h.i
 have q2:=h.e
 have q3:=h.f
 have q4:=h.k
 have q5:=q1.ok
 unfold Shp.Rt at q1
 have oz0:=@sRight_v (a) q5
 have oz6:=@shapes_ly (l) (a) okl wl q5 q3 q4
 exact (cR_ [r_,.r [] [cr oz0],d_,r_,d_,r_,d_,r_,r_,.code [.any (rg [(1,1),(3,4),(12,14)]),.drop [3],.ren 25 900,.weak 27 (i64 (l.length:Int)),.weak 28 (i64 (↑0:Int)),.sort] (BN_ 1) (zO oz6),r_] (AV.tup [AV.sl 3 (K_ shpC (growL nextE l a l.length)),i64 ((K_ nodC l).length:Int),i64 0]) Try.func40 (.d7 oz0 (show (!decide (0<elems a.h a.x a.c))=false by (simp;omega)) (show (((K_ nodC l).length:Int)==0)=false by (simp only[E_,F_,I_,J_,ne_eq,H_,G_,T_,S_,CM_,BX_,BS_,Classical.not_not,CB_,Int.not_le,N_,P_,W_,Q_,Y_,BR_,BU_,BM_,BC_,BY_,eqNums,X_,AD_,BP_,CV_,List.length_set,BT_,BG_,CN_,CX_,BV_,BQ_,CU_];(first|done|with_reducible assumption|omega|contradiction))) (show decide (((K_ nodC l).length:Int)>8)=false by (simp;omega)) (M_ (k:=.i64) (show ((((K_ nodC l).length:Int)):Int)=((l.length:Int)) from (by (simp;done)))) w0_ oz6)).weak (A_ _) (AA_ (.cons (.refl _) (.cons (M_ (by (simp;done))) (.cons (.refl _) .nil))))
theorem shapes_a (l:List Nod) (a:Shp) (i:a.Ok) (hl:l.length≤1000) (h:¬ 0<elems a.h a.x a.c∨l.length=0∨8<l.length):VC O_ 40 ([.sl 19 (l.map nodC),shp a]) (.tup [nilv,i64 (shapesE l a).1,i64 (shapesE l a).2]):=by
 have q:=elems_in a.h a.x a.c
 have oz0:=@sRight_v (a) i
 rcases bft (!decide (0<elems a.h a.x a.c)) with hc0|hc0
 ·have gc0:=bnt hc0
  exact (cR_ [r_,.r [] [cr oz0],b_,r_] (AV.tup [AV.lit (AK_ none 0 0),i64 (-1),i64 5]) Try.func40 (.d2 oz0 hc0)).weak (A_ _) (AA_ (.cons (.refl _) (.cons (M_ (by (unfold shapesE;(try simp only[X_] at *);(repeat first|rw[i_ (by omega)]|rw[j_ (by omega)])))) (.cons (M_ (by (unfold shapesE;(try simp only[X_] at *);(repeat first|rw[i_ (by omega)]|rw[j_ (by omega)])))) .nil))))
 ·have gc0:=bnf hc0
  rcases bft (((K_ nodC l).length:Int)==0) with hc1|hc1
  ·have gc1:((K_ nodC l).length:Int)=0:=bet hc1
   exact (cR_ [r_,.r [] [cr oz0],d_,r_,b_,r_] (AV.tup [AV.lit (AK_ none 0 0),i64 (-1),i64 12]) Try.func40 (.d3 oz0 hc0 hc1)).weak (A_ _) (AA_ (.cons (.refl _) (.cons (M_ (by (unfold shapesE;(try simp only[X_] at *);(repeat first|rw[i_ (by omega)]|rw[j_ (by omega)])))) (.cons (M_ (by (unfold shapesE;(try simp only[X_] at *);(repeat first|rw[i_ (by omega)]|rw[j_ (by omega)])))) .nil))))
  ·have gc1:¬((K_ nodC l).length:Int)=0:=bef hc1
   exact (cR_ [r_,.r [] [cr oz0],d_,r_,d_,r_,b_,r_] (AV.tup [AV.lit (AK_ none 0 0),i64 (-1),i64 4]) Try.func40 (.d4 oz0 hc0 hc1 (show decide (((K_ nodC l).length:Int)>8)=true by (simp only[E_,F_,I_,J_,ne_eq,H_,G_,T_,S_,CM_,BX_,BS_,Classical.not_not,CB_,Int.not_le,N_,P_,W_,Q_,Y_,BR_,BU_,BM_,BC_,BY_,eqNums,X_,AD_,BP_,CV_,List.length_set,BT_,BG_,CN_,CX_,BV_,BQ_,CU_] at *;(first|done|with_reducible assumption|omega|contradiction))))).weak (A_ _) (AA_ (.cons (.refl _) (.cons (M_ (by (unfold shapesE;(try simp only[X_] at *);(repeat first|rw[i_ (by omega)]|rw[j_ (by omega)])))) (.cons (M_ (by (unfold shapesE;(try simp only[X_] at *);(repeat first|rw[i_ (by omega)]|rw[j_ (by omega)])))) .nil))))
theorem shapes_m (l:List Nod) (a:Shp) (m:Nat) (okl:∀ n∈l,n.Ok) (wl:∀ n∈l,n.w.length≤100000∧n.b.length≤100000) (i:0<elems a.h a.x a.c) (f8:l.length≤8) (hm:m<l.length) (hf:errL nextE l a m≠0) (h:∀ k,k<m→errL nextE l a k=0):VC O_ 40 ([.sl 19 (l.map nodC),shp a]) (.tup [nilv,i64 m,i64 (errL nextE l a m)]):=by
 have q:=Shp.Rt.ok i
 have oz0:=@sRight_v (a) q
 have oz6:=@shapes_ln (l) (a) (m) okl wl q f8 hm hf h
 exact cR_ [r_,.r [] [cr oz0],d_,r_,d_,r_,d_,r_,r_,.code [.any (rg [(1,1),(3,4),(12,14)]),.drop [3],.ren 25 900,.weak 27 (i64 (l.length:Int)),.weak 28 (i64 (↑0:Int)),.sort] (Exit.ret) (zO oz6)] _ Try.func40 (.d7 oz0 (show (!decide (0<elems a.h a.x a.c))=false by (simp;omega)) (show (((K_ nodC l).length:Int)==0)=false by (simp only[E_,F_,I_,J_,ne_eq,H_,G_,T_,S_,CM_,BX_,BS_,Classical.not_not,CB_,Int.not_le,N_,P_,W_,Q_,Y_,BR_,BU_,BM_,BC_,BY_,eqNums,X_,AD_,BP_,CV_,List.length_set,BT_,BG_,CN_,CX_,BV_,BQ_,CU_];(first|done|with_reducible assumption|omega|contradiction))) (show decide (((K_ nodC l).length:Int)>8)=false by (simp;omega)) (M_ (k:=.i64) (show ((((K_ nodC l).length:Int)):Int)=((l.length:Int)) from (by (simp;done)))) w0_ oz6)
theorem shapes_n (l:List Nod) (a:Shp) (okl:∀ n∈l,n.Ok) (wl:∀ n∈l,n.w.length≤100000∧n.b.length≤100000) (i:a.Ok) (hl:l.length≤1000) (h:¬ SOK l a):VC O_ 40 [.sl 19 (l.map nodC),shp a] (.tup [nilv,i64 (shapesE l a).1,i64 (shapesE l a).2]):=by
 rcases SOK.cases l a with q|q|q|q|⟨i',e,f,m,h1,h2,h3⟩
 ·exact absurd q h
 ·exact shapes_a l a i hl (.inl q)
 ·exact shapes_a l a i hl (.inr (.inl q))
 ·exact shapes_a l a i hl (.inr (.inr q))
 ·rw[shapesE_at i' e f h1 h2 h3];exact shapes_m l a m okl wl i' f h1 h2 h3
abbrev shpsL (l:List Nod) (a:Shp):List Shp:=growL nextE l a l.length
def lastS (l:List Nod) (a:Shp):Shp:=(shpsL l a).getD l.length default
theorem shpsL_len (l:List Nod) (a:Shp):(shpsL l a).length=l.length+1:=growL_len nextE l a l.length
theorem lastS_ok {l:List Nod} {a:Shp} (h:a.Ok):(lastS l a).Ok:=getD_in (grow_ok (l:=l) h l.length) (show l.length<(shpsL l a).length by rw[shpsL_len];omega)
theorem lastS_i {l:List Nod} {a:Shp} {i:Nat} (hi:i=l.length):(growL nextE l a l.length).getD i default=lastS l a:=by subst hi;rfl
abbrev fullR:Rng:=⟨-128,127⟩
theorem fullR_in:fullR.In8:=⟨⟨by decide,by decide⟩,⟨by decide,by decide⟩⟩
abbrev rchsL (l:List Nod):List Rng:=growL stepR l fullR l.length
def lastR (l:List Nod):Rng:=(rchsL l).getD l.length default
theorem rchsL_len (l:List Nod):(rchsL l).length=l.length+1:=growL_len stepR l fullR l.length
theorem lastR_in {l:List Nod} (okl:∀ n∈l,n.Ok):(lastR l).In8:=getD_in (flow_in okl fullR_in (AV_ _)) (show l.length<(rchsL l).length by rw[rchsL_len];omega)
theorem lastR_i {l:List Nod} {i:Nat} (hi:i=l.length):(growL stepR l fullR l.length).getD i default=lastR l:=by subst hi;rfl
def verdE (s:Shp) (w b:List Int) (nd cl:Int):Int :=
 if elems s.h s.x s.c=0 then 5 else if cl<2∨16<cl then 2
 else if (w.length:Int)≠cl*elems s.h s.x s.c∨16384<(w.length:Int)∨(b.length:Int)≠cl then 9 else if nd<0 then 11 else 0
theorem clel_bd {cl:Int} (s:Shp) (h:2≤cl∧cl≤16):0≤cl*elems s.h s.x s.c∧cl*elems s.h s.x s.c≤16384:=by
 have h1:=elems_in s.h s.x s.c
 have:=mul_bd (A:=16) (B:=1024) (a:=cl) (by omega) (by omega) h1.1 h1.2
 omega
theorem vcheck_v (s:Shp) (w b:List Int) (nd cl:Int) (ok:s.Ok) (wl:w.length≤100000) (bl:b.length≤100000):VC O_ 63 ([shp s,.agg (hedC w b nd),i64 cl]) (i64 (verdE s w b nd cl)):=by
 obtain ⟨p1,p2,p3⟩:=id ok
 have q1:=elems_in s.h s.x s.c
 have q2:=@clel_bd cl s
 have oz0:=@elems_v (s.h) (s.x) (s.c) p1 p2 p3
 rcases bft (elems s.h s.x s.c==0) with hc0|hc0
 ·have gc0:elems s.h s.x s.c=0:=bet hc0
  exact (cR_ [r_,.r [] [cr oz0],r_,b_,r_] (i64 5) Try.func63 (.d2 oz0 hc0)).weak (A_ _) (M_ (by (unfold verdE;(try simp only[X_] at *);(repeat first|rw[i_ (by omega)]|rw[j_ (by omega)]))))
 ·have gc0:¬elems s.h s.x s.c=0:=bef hc0
  rcases bft (decide (cl<2) || decide (cl>16)) with hc1|hc1
  ·have gc1:cl<2∨cl>16:=gc0_ hc1
   exact (cR_ [r_,.r [] [cr oz0],r_,d_,.r [] [o_,o_,.sel 1],b_,r_] (i64 2) Try.func63 (.d3 oz0 hc0 hc1)).weak (A_ _) (M_ (by (unfold verdE;(try simp only[X_] at *);(repeat first|rw[i_ (by omega)]|rw[j_ (by omega)]))))
  ·have gc1:¬cl<2∧¬cl>16:=gc0_ hc1
   have oz3:=(i6n (cl*elems s.h s.x s.c) (by omega))
   rcases bft (((K_ (row1 .i8) w).length:Int) != cl*elems s.h s.x s.c || decide (((K_ (row1 .i8) w).length:Int)>16384) || ((K_ (row1 .i32) b).length:Int) != cl) with hc2|hc2
   ·have gc2:(¬((K_ (row1 .i8) w).length:Int)=cl*elems s.h s.x s.c∨((K_ (row1 .i8) w).length:Int)>16384)∨¬((K_ (row1 .i32) b).length:Int)=cl:=gc0_ hc2
    exact (cR_ [r_,.r [] [cr oz0],r_,d_,.r [] [o_,o_,.sel 1],d_,.r [] [.n (nO oz3),o_,o_,o_,o_,.sel 1,o_,o_,o_,o_,o_,.sel 1],b_,r_] (i64 9) Try.func63 (.d5 oz0 hc0 hc1 oz3 hc2)).weak (A_ _) (M_ (by (unfold verdE;(try simp only[X_] at *);(repeat first|rw[i_ (by omega)]|rw[j_ (by omega)]))))
   ·have gc2:(((K_ (row1 .i8) w).length:Int)=cl*elems s.h s.x s.c∧¬((K_ (row1 .i8) w).length:Int)>16384)∧((K_ (row1 .i32) b).length:Int)=cl:=gc0_ hc2
    rcases bft (decide (nd<0)) with hc3|hc3
    ·have gc3:=of_decide_eq_true hc3
     exact (cR_ [r_,.r [] [cr oz0],r_,d_,.r [] [o_,o_,.sel 1],d_,.r [] [.n (nO oz3),o_,o_,o_,o_,.sel 1,o_,o_,o_,o_,o_,.sel 1],d_,r_,b_,r_] (i64 11) Try.func63 (.d6 oz0 hc0 hc1 oz3 hc2 hc3)).weak (A_ _) (M_ (by (unfold verdE;(try simp only[X_] at *);(repeat first|rw[i_ (by omega)]|rw[j_ (by omega)]))))
    ·have gc3:=of_decide_eq_false hc3
     exact (cR_ [r_,.r [] [cr oz0],r_,d_,.r [] [o_,o_,.sel 1],d_,.r [] [.n (nO oz3),o_,o_,o_,o_,.sel 1,o_,o_,o_,o_,o_,.sel 1],d_,r_,d_,r_] (i64 0) Try.func63 (.d6 oz0 hc0 hc1 oz3 hc2 hc3)).weak (A_ _) (M_ (by (unfold verdE;(try simp only[X_] at *);(repeat first|rw[i_ (by omega)]|rw[j_ (by omega)]))))
theorem bare_v (w b:List Int) (nd:Int) (wl:w.length≤100000) (bl:b.length≤100000):VC O_ 62 ([.agg (hedC w b nd)]) (bv (decide (w.length=0∧b.length=0∧nd=0))):=by
 exact (cR_ [r_,.r [] [o_,o_,o_,o_,.sel 2,o_,o_,o_,.sel 2]] (bv (((K_ (row1 .i8) w).length:Int)==0&&((K_ (row1 .i32) b).length:Int)==0&&nd==0)) Try.func62 (.n)).weak (A_ _) (Weak.bool (by (rw[Bool.eq_iff_iff];simp only[E_,F_,I_,J_,ne_eq,H_,G_,T_,S_,CM_,BX_,BS_,Classical.not_not,CB_,Int.not_le,N_,P_,W_,Q_,Y_,BR_,BU_,BM_,BC_,BY_,eqNums,X_,AD_,BP_,CV_,List.length_set,BT_,BG_,CN_,CX_,BV_,BQ_,CU_,AB_,CT_,false_iff,true_iff,iff_false,iff_true] at *;first|done|omega)))
def exitE (x:Blc) (out:Shp) (r:Rng) (cl:Int) (last:Bool):Int :=
 if x.ex=false∧(last=true∨¬ (x.w.length=0∧x.b.length=0∧x.nd=0)) then 11 else if x.ex=false then 0
 else if verdE out x.w x.b x.nd cl≠0 then verdE out x.w x.b x.nd cl else headE x.w x.b r.lo r.hi
theorem vexit_v (x:Blc) (out:Shp) (r:Rng) (cl:Int) (last:Bool) (ok:x.Ok) (oks:out.Ok) (hr:r.In8) (wl:x.w.length≤100000) (bl:x.b.length≤100000):VC O_ 53 ([blc x,shp out,rch r,i64 cl,bv last]) (i64 (exitE x out r cl last)):=by
 have q1:=ok.w
 have q2:=ok.b
 obtain ⟨q3,q4⟩:=id hr
 rcases bft (last && !x.ex) with hc0|hc0
 ·have gc0:last=true∧x.ex=false:=gc0_ hc0
  exact (cR_ [r_,.r [] [o_,o_,o_,.sel 2],b_,b_,r_] (i64 11) Try.func53 (.d2 hc0 hc0)).weak (A_ _) (M_ (by (unfold exitE;simp_all;done)))
 ·have gc0:last=false∨x.ex=true:=gc0_ hc0
  have oz1:=@bare_v (x.w) (x.b) (x.nd) wl bl
  rcases bft (!x.ex && !decide (x.w.length=0∧x.b.length=0∧x.nd=0)) with hc1|hc1
  ·have gc1:x.ex=false∧¬(x.w.length=0∧x.b.length=0∧x.nd=0):=gc0_ hc1
   exact (cR_ [r_,.r [] [o_,o_,o_,.sel 2],d_,.r [] [o_,o_,o_,cr oz1,o_,.sel 2],b_,r_] (i64 11) Try.func53 (.d3 hc0 oz1 hc1)).weak (A_ _) (M_ (by (unfold exitE;simp_all;done)))
  ·have gc1:x.ex=true∨x.w.length=0∧x.b.length=0∧x.nd=0:=gc0_ hc1
   rcases bft (!x.ex) with hc2|hc2
   ·have gc2:x.ex=false:=by first|exact hc2|exact of_decide_eq_true hc2|exact of_decide_eq_false hc2|simpa [eqNums] using hc2|(simp[eqNums] at hc2 ⊢;first|done|assumption|omega)
    exact (cR_ [r_,.r [] [o_,o_,o_,.sel 2],d_,.r [] [o_,o_,o_,cr oz1,o_,.sel 2],d_,r_,b_,r_] (i64 0) Try.func53 (.d4 hc0 oz1 hc1 hc2)).weak (A_ _) (M_ (by (unfold exitE;simp_all;done)))
   ·have gc2:x.ex=true:=by first|exact hc2|exact of_decide_eq_true hc2|exact of_decide_eq_false hc2|simpa [eqNums] using hc2|(simp[eqNums] at hc2 ⊢;first|done|assumption|omega)
    have oz4:=@vcheck_v (out) (x.w) (x.b) (x.nd) (cl) oks wl bl
    rcases bft (verdE out x.w x.b x.nd cl != 0) with hc3|hc3
    ·have gc3:¬verdE out x.w x.b x.nd cl=0:=bdt hc3
     exact (cR_ [r_,.r [] [o_,o_,o_,.sel 2],d_,.r [] [o_,o_,o_,cr oz1,o_,.sel 2],d_,r_,d_,.r [] [cr oz4],r_,b_,r_] (i64 (verdE out x.w x.b x.nd cl)) Try.func53 (.d6 hc0 oz1 hc1 hc2 oz4 hc3)).weak (A_ _) (M_ (by (unfold exitE;simp_all;done)))
    ·have gc3:verdE out x.w x.b x.nd cl=0:=bdf hc3
     have oz6:=@ghead_v (x.w) (x.b) (x.nd) (r.lo) (r.hi) q1 q2 wl bl q3 q4
     exact (cR_ [r_,.r [] [o_,o_,o_,.sel 2],d_,.r [] [o_,o_,o_,cr oz1,o_,.sel 2],d_,r_,d_,.r [] [cr oz4],r_,d_,.r [] [cr oz6]] (i64 (headE x.w x.b r.lo r.hi)) Try.func53 (.d7 hc0 oz1 hc1 hc2 oz4 hc3 oz6)).weak (A_ _) (M_ (by (unfold exitE;simp_all;done)))
def validE (x:Blc) (a:Shp) (cl:Int) (last:Bool):Int×Int :=
 if (shapesE x.n a).2≠0 then shapesE x.n a else if (flowE x.n fullR).2≠0 then flowE x.n fullR
 else if exitE x (lastS x.n a) (lastR x.n) cl last≠0 then (-1,exitE x (lastS x.n a) (lastR x.n) cl last) else ((x.n.length:Int),0)
theorem validE_s {x:Blc} {a:Shp} {cl:Int} {last:Bool} (h:¬ SOK x.n a):validE x a cl last=shapesE x.n a:=i_ (shapesE_n h)
theorem validE_f {x:Blc} {a:Shp} {cl:Int} {last:Bool} (h:SOK x.n a) (g:¬ FOK x.n fullR):validE x a cl last=flowE x.n fullR:=by
 unfold validE;rw[j_ (by rw[shapesE_y h];simp),i_ (flowE_n g)]
theorem validE_y {x:Blc} {a:Shp} {cl:Int} {last:Bool} (h:SOK x.n a) (g:FOK x.n fullR):validE x a cl last=if exitE x (lastS x.n a) (lastR x.n) cl last≠0 then (-1,exitE x (lastS x.n a) (lastR x.n) cl last) else ((x.n.length:Int),0):=by
 unfold validE;rw[j_ (by rw[shapesE_y h];simp),j_ (by rw[flowE_y g];simp)]
structure Blc.Sm (x:Blc):Prop where
 l:x.n.length≤12
 s:∀ n∈x.n,n.w.length≤100000∧n.b.length≤100000
 w:x.w.length≤100000
 b:x.b.length≤100000
theorem vblock_s (x:Blc) (a:Shp) (cl:Int) (last:Bool) (ok:x.Ok) (oka:a.Ok) (sm:x.Sm) (h:¬ SOK x.n a):VC O_ 39 ([blc x,shp a,i64 cl,bv last]) (.tup [i64 (validE x a cl last).1,i64 (validE x a cl last).2]):=by
 have q1:=ok.n
 obtain ⟨q2,q3,q4,q5⟩:=id sm
 have q6:=shapesE_n h
 have q7:=@validE_s x a cl last h
 have oz0:=@shapes_n (x.n) (a) q1 q3 oka (by omega) h
 exact (cR_ [r_,.r [] [cr oz0],r_,b_,r_] (AV.tup [i64 (shapesE x.n a).fst,i64 (shapesE x.n a).snd]) Try.func39 (.d2 oz0 (show ((shapesE x.n a).snd != 0)=true by (simp;omega)))).weak (A_ _) (AA_ (.cons (M_ (by (rw[q7]))) (.cons (M_ (by (rw[q7]))) .nil)))
theorem vblock_f (x:Blc) (a:Shp) (cl:Int) (last:Bool) (ok:x.Ok) (oka:a.Ok) (sm:x.Sm) (h:SOK x.n a) (g:¬ FOK x.n fullR):VC O_ 39 ([blc x,shp a,i64 cl,bv last]) (.tup [i64 (validE x a cl last).1,i64 (validE x a cl last).2]):=by
 have q1:=ok.n
 obtain ⟨q2,q3,q4,q5⟩:=id sm
 have q6:=flowE_n g
 have q7:=@validE_f x a cl last h g
 have q8:=fullR_in
 have oz0:=@shapes_y (x.n) (a) q1 q3 h
 have oz2:=@flow_n (x.n) (Rng.mk (-128) 127) q1 q3 q8 (by omega) g
 exact (cR_ [r_,.r [] [cr oz0],r_,d_,.r [] [cr oz2],r_,b_,r_] (AV.tup [i64 (flowE x.n (Rng.mk (-128) 127)).fst,i64 (flowE x.n (Rng.mk (-128) 127)).snd]) Try.func39 (.d4 oz0 z0_ oz2 (show ((flowE x.n (Rng.mk (-128) 127)).snd != 0)=true by (simp;omega)))).weak (A_ _) (AA_ (.cons (M_ (by (rw[q7]))) (.cons (M_ (by (rw[q7]))) .nil)))
theorem vblock_y (x:Blc) (a:Shp) (cl:Int) (last:Bool) (ok:x.Ok) (oka:a.Ok) (sm:x.Sm) (h:SOK x.n a) (g:FOK x.n fullR):VC O_ 39 ([blc x,shp a,i64 cl,bv last]) (.tup [i64 (validE x a cl last).1,i64 (validE x a cl last).2]):=by
 have q1:=ok.n
 obtain ⟨q2,q3,q4,q5⟩:=id sm
 have q7:=@validE_y x a cl last h g
 have q8:=fullR_in
 have l1:=shpsL_len x.n a
 have l2:=rchsL_len x.n
 have l3:(K_ shpC (shpsL x.n a)).length=(shpsL x.n a).length:=X_ _
 have l4:(K_ rchC (rchsL x.n)).length=(rchsL x.n).length:=X_ _
 have l5:(K_ nodC x.n).length=x.n.length:=X_ _
 have s1:=@lastS_i x.n a
 have s2:=@lastR_i x.n
 have s3:=lastS_ok (l:=x.n) oka
 have s4:=lastR_in q1
 have oz0:=@shapes_y (x.n) (a) q1 q3 h
 have oz1:=z0_
 have oz2:=@flow_y (x.n) (Rng.mk (-128) 127) q1 q3 q8 g
 have oz4:=(s_ (0≤((K_ nodC x.n).length:Int)))
 have oz5:=(map_at (shpC) (default) (l:=growL nextE x.n a x.n.length) (i:=(K_ nodC x.n).length) (by (simp_all;done)))
 have oz7:=(map_at (rchC) (default) (l:=growL stepR x.n (Rng.mk (-128) 127) x.n.length) (i:=(K_ nodC x.n).length) (by (simp_all;done)))
 have oz8:=@vexit_v (x) ((growL nextE x.n a x.n.length).getD (K_ nodC x.n).length default) ((growL stepR x.n (Rng.mk (-128) 127) x.n.length).getD (K_ nodC x.n).length default) (cl) (last) ok (by (rw[s1 (by omega)];exact s3)) (by (rw[s2 (by omega)];exact s4)) q4 q5
 rcases bft (exitE x ((growL nextE x.n a x.n.length).getD (K_ nodC x.n).length default) ((growL stepR x.n (Rng.mk (-128) 127) x.n.length).getD (K_ nodC x.n).length default) cl last != 0) with hc0|hc0
 ·have gc0:¬exitE x ((growL nextE x.n a x.n.length).getD (K_ nodC x.n).length default) ((growL stepR x.n (Rng.mk (-128) 127) x.n.length).getD (K_ nodC x.n).length default) cl last=0:=bdt hc0
  exact (cR_ [r_,.r [] [cr oz0],r_,d_,.r [] [cr oz2],r_,d_,.r [] [.row (sO oz5),.row (sO oz7),cr oz8],r_,b_,r_] (AV.tup [i64 (-1),i64 (exitE x ((growL nextE x.n a x.n.length).getD (K_ nodC x.n).length default) ((growL stepR x.n (Rng.mk (-128) 127) x.n.length).getD (K_ nodC x.n).length default) cl last)]) Try.func39 (.c8 oz0 oz1 oz2 oz1 oz4 oz5 oz4 oz7<|.d2 oz8 hc0)).weak (A_ _) (AA_ (.cons (M_ (by (rw[q7,i_ (by simp_all)]))) (.cons (M_ (by (simp_all;done))) .nil)))
 ·have gc0:exitE x ((growL nextE x.n a x.n.length).getD (K_ nodC x.n).length default) ((growL stepR x.n (Rng.mk (-128) 127) x.n.length).getD (K_ nodC x.n).length default) cl last=0:=bdf hc0
  exact (cR_ [r_,.r [] [cr oz0],r_,d_,.r [] [cr oz2],r_,d_,.r [] [.row (sO oz5),.row (sO oz7),cr oz8],r_,d_,r_] (AV.tup [i64 ((K_ nodC x.n).length:Int),i64 0]) Try.func39 (.c8 oz0 oz1 oz2 oz1 oz4 oz5 oz4 oz7<|.d2 oz8 hc0)).weak (A_ _) (AA_ (.cons (M_ (by (simp_all;done))) (.cons (M_ (by (rw[q7,j_ (by simp_all)]))) .nil)))
theorem vblock_v (x:Blc) (a:Shp) (cl:Int) (last:Bool) (ok:x.Ok) (oka:a.Ok) (sm:x.Sm):VC O_ 39 [blc x,shp a,i64 cl,bv last] (.tup [i64 (validE x a cl last).1,i64 (validE x a cl last).2]):=by
 by_cases h:SOK x.n a
 ·by_cases g:FOK x.n fullR
  ·exact vblock_y x a cl last ok oka sm h g
  ·exact vblock_f x a cl last ok oka sm h g
 ·exact vblock_s x a cl last ok oka sm h
structure Flt where
 w:Int
 m:Int
 b:Int
 n:Int
abbrev fltC (f:Flt):List AV:=[i64 f.w,i64 f.m,i64 f.b,i64 f.n]
abbrev flt (f:Flt):AV:=.agg (fltC f)
def wholeE (u:Bun):Int:=if ¬ 0<elems u.h u.x u.c then 5 else if u.cl<2∨u.cl>16 then 2 else if u.m.length=0 then 12 else if 3<u.m.length then 4 else 0
theorem vwhole_v (u:Bun) (ok:u.Ok) (hl:u.m.length≤1000):VC O_ 29 ([bun u]) (i64 (wholeE u)):=by
 have q1:=elems_in u.h u.x u.c
 have q2:u.inp.Ok:=⟨ok.h,ok.x,ok.c⟩
 have oz0:=@sRight_v (Shp.mk u.h u.x u.c) q2
 rcases bft (!decide (0<elems u.h u.x u.c)) with hc0|hc0
 ·have gc0:=bnt hc0
  exact (cR_ [r_,.r [] [cr oz0],b_,r_] (i64 5) Try.func29 (.d2 oz0 hc0)).weak (A_ _) (M_ (by (unfold wholeE;(try simp only[X_] at *);(repeat first|rw[i_ (by omega)]|rw[j_ (by omega)]))))
 ·have gc0:=bnf hc0
  rcases bft (decide (u.cl<2) || decide (u.cl>16)) with hc1|hc1
  ·have gc1:u.cl<2∨u.cl>16:=gc0_ hc1
   exact (cR_ [r_,.r [] [cr oz0],d_,.r [] [o_,o_,o_,.sel 1],b_,r_] (i64 2) Try.func29 (.d3 oz0 hc0 hc1)).weak (A_ _) (M_ (by (unfold wholeE;(try simp only[X_] at *);(repeat first|rw[i_ (by omega)]|rw[j_ (by omega)]))))
  ·have gc1:¬u.cl<2∧¬u.cl>16:=gc0_ hc1
   rcases bft (((K_ mdlC u.m).length:Int)==0) with hc2|hc2
   ·have gc2:((K_ mdlC u.m).length:Int)=0:=bet hc2
    exact (cR_ [r_,.r [] [cr oz0],d_,.r [] [o_,o_,o_,.sel 1],d_,r_,b_,r_] (i64 12) Try.func29 (.d4 oz0 hc0 hc1 hc2)).weak (A_ _) (M_ (by (unfold wholeE;(try simp only[X_] at *);(repeat first|rw[i_ (by omega)]|rw[j_ (by omega)]))))
   ·have gc2:¬((K_ mdlC u.m).length:Int)=0:=bef hc2
    rcases bft (decide (((K_ mdlC u.m).length:Int)>3)) with hc3|hc3
    ·have gc3:=of_decide_eq_true hc3
     exact (cR_ [r_,.r [] [cr oz0],d_,.r [] [o_,o_,o_,.sel 1],d_,r_,d_,r_,b_,r_] (i64 4) Try.func29 (.d5 oz0 hc0 hc1 hc2 hc3)).weak (A_ _) (M_ (by (unfold wholeE;(try simp only[X_] at *);(repeat first|rw[i_ (by omega)]|rw[j_ (by omega)]))))
    ·have gc3:=of_decide_eq_false hc3
     exact (cR_ [r_,.r [] [cr oz0],d_,.r [] [o_,o_,o_,.sel 1],d_,r_,d_,r_,d_,r_] (i64 0) Try.func29 (.d5 oz0 hc0 hc1 hc2 hc3)).weak (A_ _) (M_ (by (unfold wholeE;(try simp only[X_] at *);(repeat first|rw[i_ (by omega)]|rw[j_ (by omega)]))))
def inS (l:List Blc) (a:Shp):Nat→Shp
 | 0=>a
 | k+1=>lastS (l.getD k default).n (inS l a k)
theorem inS_ok {l:List Blc} {a:Shp} (h:a.Ok):∀ k,(inS l a k).Ok
 | 0=>h
 | k+1=>lastS_ok (inS_ok h k)
abbrev vB (l:List Blc) (a:Shp) (cl:Int) (k:Nat):Int×Int:=validE (l.getD k default) (inS l a k) cl ((k:Int)==((K_ blcC l).length:Int)-1)
theorem validE_ok {x:Blc} {a:Shp} {cl:Int} {last:Bool} (h:(validE x a cl last).2=0):SOK x.n a:=by
 by_cases g:SOK x.n a
 ·exact g
 ·rw[validE_s g] at h;exact absurd h (shapesE_n g)
noncomputable def vmodel_ly_I (u:Bun) (l:List Blc) (a:Shp) (j:Int) (k:Nat):VS:=stt 77 [(1,i64 j),(2,.ptr 2 0 0),(4,.ptr 4 0 0),(5,.sl 5 (l.map blcC)),(6,.ptr 6 0 0),(34,.sl 5 (l.map blcC)),(35,i64 l.length),(36,i64 k)] [(2,.var (bunC u)),(4,.var [i64 0,i64 0,i64 0,i64 0]),(6,.var (shpC (inS l a k)))]
noncomputable def vmodel_ly_Z (u:Bun) (l:List Blc) (a:Shp) (j:Int):VS:=vmodel_ly_I u l a j (l.length)
theorem vmodel_ly_s (u:Bun) (l:List Blc) (a:Shp) (j:Int) (ok:∀ d∈l,d.Ok) (sm:∀ d∈l,d.Sm) (oka:a.Ok) (hl:l.length≤6) (h:∀ k,k<l.length→(vB l a u.cl k).2=0) (k:Nat) (hk:k<l.length):VT O_ (fnC Try.f30 [1,1,1,1,0,1,0,0]) (vmodel_ly_I u l a j k) .normal (vmodel_ly_I u l a j (k+1)):=by
 have q:=h k hk
 have q1:=validE_ok q
 have q2:=getD_in ok hk
 have q3:=getD_in sm hk
 have q4:=inS_ok (l:=l) oka k
 have lb:(K_ blcC l).length=l.length:=X_ _
 have q5:=q2.n
 have q6:=q3.s
 have q7:=q3.l
 have l1:=growL_len nextE (l.getD k default).n (inS l a k) (l.getD k default).n.length
 have l3:(K_ shpC (growL nextE (l.getD k default).n (inS l a k) (l.getD k default).n.length)).length=(growL nextE (l.getD k default).n (inS l a k) (l.getD k default).n.length).length:=X_ _
 have i1:(((K_ shpC (growL nextE (l.getD k default).n (inS l a k) (l.getD k default).n.length)).length:Int)-1).toNat=(l.getD k default).n.length:=by omega
 have oz2:=(map_at (blcC) (default) (l:=l) (i:=k) hk)
 have oz3:=(i6n (((K_ blcC l).length:Int)-1) (by omega))
 have oz4:=@vblock_v (l.getD k default) (inS l a k) (u.cl) ((↑k:Int)==((K_ blcC l).length:Int)-1) q2 q4 q3
 have oz6:=@shapes_y ((l.getD k default).n) (inS l a k) q5 q6 q1
 have oz7:=(i6n (((K_ shpC (growL nextE (l.getD k default).n (inS l a k) (l.getD k default).n.length)).length:Int)-1) (by omega))
 have oz9:=(map_at (shpC) (default) (l:=growL nextE (l.getD k default).n (inS l a k) (l.getD k default).n.length) (i:=(((K_ shpC (growL nextE (l.getD k default).n (inS l a k) (l.getD k default).n.length)).length:Int)-1).toNat) (by omega))
 exact tR_ [r_,b_,.r [] [.row (sO oz2)],.r [] [.n (nO oz3),cr oz4],r_,d_,.r [] [cr oz6],.r [] [.n (nO oz7),.row (sO oz9)],.r [] [.n ((↑k:Int)+1)]] [.any (rg [(7,7),(37,19),(61,15)]),.drop [8],.weak 36 (i64 (↑(k+1):Int)),.blk 6 (Blk.var [i64 (inS l a (k+1)).h,i64 (inS l a (k+1)).x,i64 (inS l a (k+1)).c]),.sort] (.c8 (decide_eq_true (p:=((↑k:Int)<(l.length:Int))) (by omega)) (s_ (0≤(↑k:Int))) oz2 oz3 oz4 (show ((validE (l.getD k default) (inS l a k) u.cl ((↑k:Int)==((K_ blcC l).length:Int)-1)).snd != 0)=false by (rw[q];rfl)) oz6 oz7<|.d5 (s_ (0≤((K_ shpC (growL nextE (l.getD k default).n (inS l a k) (l.getD k default).n.length)).length:Int)-1)) oz9 (i6n ((↑k:Int)+1) (by omega)) (wS_ k) (show BlkW (Blk.var [i64 ((growL nextE (l.getD k default).n (inS l a k) (l.getD k default).n.length).getD (((K_ shpC (growL nextE (l.getD k default).n (inS l a k) (l.getD k default).n.length)).length:Int)-1).toNat default).h,i64 ((growL nextE (l.getD k default).n (inS l a k) (l.getD k default).n.length).getD (((K_ shpC (growL nextE (l.getD k default).n (inS l a k) (l.getD k default).n.length)).length:Int)-1).toNat default).x,i64 ((growL nextE (l.getD k default).n (inS l a k) (l.getD k default).n.length).getD (((K_ shpC (growL nextE (l.getD k default).n (inS l a k) (l.getD k default).n.length)).length:Int)-1).toNat default).c]) (Blk.var [i64 (inS l a (k+1)).h,i64 (inS l a (k+1)).x,i64 (inS l a (k+1)).c]) from (BlkW.var (m:=[i64 (inS l a (k+1)).h,i64 (inS l a (k+1)).x,i64 (inS l a (k+1)).c]) (.cons (M_ (by (rw[i1]<;>rfl))) (.cons (M_ (by (rw[i1]<;>rfl))) (.cons (M_ (by (rw[i1]<;>rfl))) .nil))))))
theorem vmodel_ly_e (u:Bun) (l:List Blc) (a:Shp) (j:Int) (ok:∀ d∈l,d.Ok) (sm:∀ d∈l,d.Sm) (oka:a.Ok) (hl:l.length≤6) (h:∀ k,k<l.length→(vB l a u.cl k).2=0):VT O_ (fnC Try.f30 [1,1,1,1,0,1,0,0]) (vmodel_ly_I u l a j (l.length)) (.exit 1) (vmodel_ly_Z u l a j):=by
 exact tR_ [r_,d_] [.any [37],.sort] (.d (decide_eq_false (p:=((l.length:Int)<(l.length:Int))) (by omega)))
theorem vmodel_ly (u:Bun) (l:List Blc) (a:Shp) (j:Int) (ok:∀ d∈l,d.Ok) (sm:∀ d∈l,d.Sm) (oka:a.Ok) (hl:l.length≤6) (h:∀ k,k<l.length→(vB l a u.cl k).2=0):VT O_ (fnC Try.f30 [1,1,1,1,0,1,0]) (vmodel_ly_I u l a j 0) (.exit 1) (vmodel_ly_Z u l a j) :=
 VT.loop (fun k=>vmodel_ly_I u l a j k) (l.length) (fun k hk=>vmodel_ly_s u l a j ok sm oka hl h k hk) (vmodel_ly_e u l a j ok sm oka hl h) (by intro h;cases h)
noncomputable def vmodel_ln_I (u:Bun) (l:List Blc) (a:Shp) (j:Int) (m:Nat) (k:Nat):VS:=stt 77 [(1,i64 j),(2,.ptr 2 0 0),(4,.ptr 4 0 0),(5,.sl 5 (l.map blcC)),(6,.ptr 6 0 0),(34,.sl 5 (l.map blcC)),(35,i64 l.length),(36,i64 k)] [(2,.var (bunC u)),(4,.var [i64 0,i64 0,i64 0,i64 0]),(6,.var (shpC (inS l a k)))]
noncomputable def vmodel_ln_Z (u:Bun) (l:List Blc) (a:Shp) (j:Int) (m:Nat):VS:=stt 77 [(4,.ptr 4 0 0)] [(4,.var [i64 (vB l a u.cl m).2,i64 j,i64 m,i64 (vB l a u.cl m).1])]
theorem vmodel_ln_s (u:Bun) (l:List Blc) (a:Shp) (j:Int) (m:Nat) (ok:∀ d∈l,d.Ok) (sm:∀ d∈l,d.Sm) (oka:a.Ok) (hl:l.length≤6) (hm:m<l.length) (hf:(vB l a u.cl m).2≠0) (h:∀ k,k<m→(vB l a u.cl k).2=0) (k:Nat) (hk:k<m):VT O_ (fnC Try.f30 [1,1,1,1,0,1,0,0]) (vmodel_ln_I u l a j m k) .normal (vmodel_ln_I u l a j m (k+1)):=by
 have q:=h k hk
 have q1:=validE_ok q
 have q2:=getD_in ok (s_ (k<l.length))
 have q3:=getD_in sm (s_ (k<l.length))
 have q4:=inS_ok (l:=l) oka k
 have lb:(K_ blcC l).length=l.length:=X_ _
 have q5:=q2.n
 have q6:=q3.s
 have q7:=q3.l
 have l1:=growL_len nextE (l.getD k default).n (inS l a k) (l.getD k default).n.length
 have l3:(K_ shpC (growL nextE (l.getD k default).n (inS l a k) (l.getD k default).n.length)).length=(growL nextE (l.getD k default).n (inS l a k) (l.getD k default).n.length).length:=X_ _
 have i1:(((K_ shpC (growL nextE (l.getD k default).n (inS l a k) (l.getD k default).n.length)).length:Int)-1).toNat=(l.getD k default).n.length:=by omega
 have oz2:=(map_at (blcC) (default) (l:=l) (i:=k) (by omega))
 have oz3:=(i6n (((K_ blcC l).length:Int)-1) (by omega))
 have oz4:=@vblock_v (l.getD k default) (inS l a k) (u.cl) ((↑k:Int)==((K_ blcC l).length:Int)-1) q2 q4 q3
 have oz6:=@shapes_y ((l.getD k default).n) (inS l a k) q5 q6 q1
 have oz7:=(i6n (((K_ shpC (growL nextE (l.getD k default).n (inS l a k) (l.getD k default).n.length)).length:Int)-1) (by omega))
 have oz9:=(map_at (shpC) (default) (l:=growL nextE (l.getD k default).n (inS l a k) (l.getD k default).n.length) (i:=(((K_ shpC (growL nextE (l.getD k default).n (inS l a k) (l.getD k default).n.length)).length:Int)-1).toNat) (by omega))
 exact tR_ [r_,b_,.r [] [.row (sO oz2)],.r [] [.n (nO oz3),cr oz4],r_,d_,.r [] [cr oz6],.r [] [.n (nO oz7),.row (sO oz9)],.r [] [.n ((↑k:Int)+1)]] [.any (rg [(7,7),(37,19),(61,15)]),.drop [8],.weak 36 (i64 (↑(k+1):Int)),.blk 6 (Blk.var [i64 (inS l a (k+1)).h,i64 (inS l a (k+1)).x,i64 (inS l a (k+1)).c]),.sort] (.c8 (decide_eq_true (p:=((↑k:Int)<(l.length:Int))) (by omega)) (s_ (0≤(↑k:Int))) oz2 oz3 oz4 (show ((validE (l.getD k default) (inS l a k) u.cl ((↑k:Int)==((K_ blcC l).length:Int)-1)).snd != 0)=false by (rw[q];rfl)) oz6 oz7<|.d5 (s_ (0≤((K_ shpC (growL nextE (l.getD k default).n (inS l a k) (l.getD k default).n.length)).length:Int)-1)) oz9 (i6n ((↑k:Int)+1) (by omega)) (wS_ k) (show BlkW (Blk.var [i64 ((growL nextE (l.getD k default).n (inS l a k) (l.getD k default).n.length).getD (((K_ shpC (growL nextE (l.getD k default).n (inS l a k) (l.getD k default).n.length)).length:Int)-1).toNat default).h,i64 ((growL nextE (l.getD k default).n (inS l a k) (l.getD k default).n.length).getD (((K_ shpC (growL nextE (l.getD k default).n (inS l a k) (l.getD k default).n.length)).length:Int)-1).toNat default).x,i64 ((growL nextE (l.getD k default).n (inS l a k) (l.getD k default).n.length).getD (((K_ shpC (growL nextE (l.getD k default).n (inS l a k) (l.getD k default).n.length)).length:Int)-1).toNat default).c]) (Blk.var [i64 (inS l a (k+1)).h,i64 (inS l a (k+1)).x,i64 (inS l a (k+1)).c]) from (BlkW.var (m:=[i64 (inS l a (k+1)).h,i64 (inS l a (k+1)).x,i64 (inS l a (k+1)).c]) (.cons (M_ (by (rw[i1]<;>rfl))) (.cons (M_ (by (rw[i1]<;>rfl))) (.cons (M_ (by (rw[i1]<;>rfl))) .nil))))))
theorem vmodel_ln_e (u:Bun) (l:List Blc) (a:Shp) (j:Int) (m:Nat) (ok:∀ d∈l,d.Ok) (sm:∀ d∈l,d.Sm) (oka:a.Ok) (hl:l.length≤6) (hm:m<l.length) (hf:(vB l a u.cl m).2≠0) (h:∀ k,k<m→(vB l a u.cl k).2=0):VT O_ (fnC Try.f30 [1,1,1,1,0,1,0,0]) (vmodel_ln_I u l a j m (m)) (.ret) (vmodel_ln_Z u l a j m):=by
 have q2:=getD_in ok hm
 have q3:=getD_in sm hm
 have q4:=inS_ok (l:=l) oka m
 have lb:(K_ blcC l).length=l.length:=X_ _
 have oz2:=(map_at (blcC) (default) (l:=l) (i:=m) hm)
 have oz3:=(i6n (((K_ blcC l).length:Int)-1) (by omega))
 have oz4:=@vblock_v (l.getD m default) (inS l a m) (u.cl) ((↑m:Int)==((K_ blcC l).length:Int)-1) q2 q4 q3
 exact tR_ [r_,b_,.r [] [.row (sO oz2)],.r [] [.n (nO oz3),cr oz4],r_,b_,r_] [.any (rg [(1,2),(5,6),(34,27)]),.drop [2,6,8],.sort] (.d6 (decide_eq_true (p:=((↑m:Int)<(l.length:Int))) (by omega)) (s_ (0≤(↑m:Int))) oz2 oz3 oz4 (show ((validE (l.getD m default) (inS l a m) u.cl ((↑m:Int)==((K_ blcC l).length:Int)-1)).snd != 0)=true by (rw[J_];exact hf)))
theorem vmodel_ln (u:Bun) (l:List Blc) (a:Shp) (j:Int) (m:Nat) (ok:∀ d∈l,d.Ok) (sm:∀ d∈l,d.Sm) (oka:a.Ok) (hl:l.length≤6) (hm:m<l.length) (hf:(vB l a u.cl m).2≠0) (h:∀ k,k<m→(vB l a u.cl k).2=0):VT O_ (fnC Try.f30 [1,1,1,1,0,1,0]) (vmodel_ln_I u l a j m 0) (.ret) (vmodel_ln_Z u l a j m) :=
 VT.loop (fun k=>vmodel_ln_I u l a j m k) (m) (fun k hk=>vmodel_ln_s u l a j m ok sm oka hl hm hf h k hk) (vmodel_ln_e u l a j m ok sm oka hl hm hf h) (by intro h;cases h)
def modelE (l:List Blc) (a:Shp) (cl j:Int):Flt :=
 if l.length=0 then ⟨12,j,-1,-1⟩ else if 6<l.length then ⟨4,j,-1,-1⟩
 else if firstBad (fun k=>(vB l a cl k).2==0) l.length<l.length then ⟨(vB l a cl (firstBad (fun k=>(vB l a cl k).2==0) l.length)).2,j,firstBad (fun k=>(vB l a cl k).2==0) l.length,(vB l a cl (firstBad (fun k=>(vB l a cl k).2==0) l.length)).1⟩
 else ⟨0,0,0,0⟩
theorem modelE_y {l:List Blc} {a:Shp} {cl j:Int} (h0:¬ l.length=0) (h6:l.length≤6) (h:∀ k,k<l.length→(vB l a cl k).2=0):modelE l a cl j=⟨0,0,0,0⟩:=by
 unfold modelE
 rw[j_ h0,j_ (by omega),firstBad_all fun k hk=>by simpa using h k hk,j_ (by omega)]
theorem modelE_m {l:List Blc} {a:Shp} {cl j:Int} {m:Nat} (h6:l.length≤6) (hm:m<l.length) (hf:(vB l a cl m).2≠0) (h:∀ k,k<m→(vB l a cl k).2=0):modelE l a cl j=⟨(vB l a cl m).2,j,m,(vB l a cl m).1⟩:=by
 have e:=firstBad_at (p:=fun k=>(vB l a cl k).2==0) (m:=m) (by simpa using hf) (fun k hk=>by simpa using h k hk) hm
 unfold modelE
 rw[j_ (by omega),j_ (by omega),e,i_ hm]
theorem modelE_cases (l:List Blc) (a:Shp) (cl:Int):(¬ l.length=0∧l.length≤6∧∀ k,k<l.length→(vB l a cl k).2=0)∨(l.length=0∨6<l.length)∨(l.length≤6∧∃ m,m<l.length∧(vB l a cl m).2≠0∧∀ k,k<m→(vB l a cl k).2=0):=by
 by_cases c:l.length=0∨6<l.length
 ·exact .inr (.inl c)
 ·rcases all_or (fun k=>(vB l a cl k).2==0) l.length with h|⟨m,h1,h2,h3⟩
  ·exact .inl ⟨by omega,by omega,fun k hk=>by simpa using h k hk⟩
  ·exact .inr (.inr ⟨by omega,m,h1,by simpa using h2,fun k hk=>by simpa using h3 k hk⟩)
structure Bun.Sm (u:Bun):Prop where
 l:u.m.length≤4
 m:∀ d∈u.m,d.l.length≤8∧∀ x∈d.l,x.Sm
theorem vmodel_y (u:Bun) (j:Nat) (ok:u.Ok) (sm:u.Sm) (hj:j<u.m.length) (h0:¬ (u.m.getD j default).l.length=0) (h6:(u.m.getD j default).l.length≤6) (h:∀ k,k<(u.m.getD j default).l.length→(vB (u.m.getD j default).l u.inp u.cl k).2=0):VC O_ 30 ([bun u,i64 j]) (flt ⟨0,0,0,0⟩):=by
 have q2:u.inp.Ok:=⟨ok.h,ok.x,ok.c⟩
 have q3:=(getD_in ok.m hj).l
 have q4:=(getD_in sm.m hj).2
 have q5:=sm.l
 have oz1:=(map_at (mdlC) (default) (l:=u.m) (i:=j) hj)
 have oz4:=(M_ (k:=.i64) (show ((((K_ blcC (u.m.getD j default).l).length:Int)):Int)=((↑(u.m.getD j default).l.length:Int)) from (by (simp;done))))
 have oz6:=@vmodel_ly (u) ((u.m.getD j default).l) (Shp.mk u.1 u.2 u.3) ((↑j:Int)) q3 q4 q2 h6 h
 exact cR_ [r_,.r [] [.row (sO oz1)],r_,d_,r_,d_,r_,r_,.code [.any (rg [(0,1),(14,10),(26,4),(32,2)]),.weak 35 (wO oz4),.weak 36 (i64 (↑0:Int)),.sort] (BN_ 1) (zO oz6),r_] _ Try.func30 (.d7 (s_ (0≤(↑j:Int))) oz1 (show (((K_ blcC (u.m.getD j default).l).length:Int)==0)=false by (simp at *;omega)) (show decide (((K_ blcC (u.m.getD j default).l).length:Int)>6)=false by (simp at *;omega)) oz4 w0_ oz6)
theorem vmodel_m (u:Bun) (j m:Nat) (ok:u.Ok) (sm:u.Sm) (hj:j<u.m.length) (h6:(u.m.getD j default).l.length≤6) (hm:m<(u.m.getD j default).l.length) (hf:(vB (u.m.getD j default).l u.inp u.cl m).2≠0) (h:∀ k,k<m→(vB (u.m.getD j default).l u.inp u.cl k).2=0):VC O_ 30 ([bun u,i64 j]) (flt ⟨(vB (u.m.getD j default).l u.inp u.cl m).2,j,m,(vB (u.m.getD j default).l u.inp u.cl m).1⟩):=by
 have q2:u.inp.Ok:=⟨ok.h,ok.x,ok.c⟩
 have q3:=(getD_in ok.m hj).l
 have q4:=(getD_in sm.m hj).2
 have q5:=sm.l
 have oz1:=(map_at (mdlC) (default) (l:=u.m) (i:=j) hj)
 have oz4:=(M_ (k:=.i64) (show ((((K_ blcC (u.m.getD j default).l).length:Int)):Int)=((↑(u.m.getD j default).l.length:Int)) from (by (simp;done))))
 have oz6:=@vmodel_ln (u) ((u.m.getD j default).l) (Shp.mk u.1 u.2 u.3) ((↑j:Int)) (m) q3 q4 q2 h6 hm hf h
 exact cR_ [r_,.r [] [.row (sO oz1)],r_,d_,r_,d_,r_,r_,.code [.any (rg [(0,1),(14,10),(26,4),(32,2)]),.weak 35 (wO oz4),.weak 36 (i64 (↑0:Int)),.sort] (Exit.ret) (zO oz6)] _ Try.func30 (.d7 (s_ (0≤(↑j:Int))) oz1 (show (((K_ blcC (u.m.getD j default).l).length:Int)==0)=false by (simp only[E_,F_,I_,J_,ne_eq,H_,G_,T_,S_,CM_,BX_,BS_,Classical.not_not,CB_,Int.not_le,N_,P_,W_,Q_,Y_,BR_,BU_,BM_,BC_,BY_,eqNums,X_,AD_,BP_,CV_,List.length_set,BT_,BG_,CN_,CX_,BV_,BQ_,CU_];(first|done|with_reducible assumption|omega|contradiction))) (show decide (((K_ blcC (u.m.getD j default).l).length:Int)>6)=false by (simp at *;omega)) oz4 w0_ oz6)
theorem vmodel_a (u:Bun) (j:Nat) (sm:u.Sm) (hj:j<u.m.length) (h:(u.m.getD j default).l.length=0∨6<(u.m.getD j default).l.length):VC O_ 30 ([bun u,i64 j]) (flt (modelE (u.m.getD j default).l u.inp u.cl j)):=by
 have q5:=sm.l
 have oz0:=(s_ (0≤(↑j:Int)))
 have oz1:=(map_at (mdlC) (default) (l:=u.m) (i:=j) hj)
 rcases bft (((K_ blcC (u.m.getD j default).l).length:Int)==0) with hc0|hc0
 ·have gc0:((K_ blcC (u.m.getD j default).l).length:Int)=0:=bet hc0
  exact (cR_ [r_,.r [] [.row (sO oz1)],r_,b_,r_] (AV.agg [i64 12,i64 (↑j:Int),i64 (-1),i64 (-1)]) Try.func30 (.d3 oz0 oz1 hc0)).weak (A_ _) (AX_ (.cons (M_ (by (unfold modelE;(try simp only[X_] at *);(repeat first|rw[i_ (by omega)]|rw[j_ (by omega)])))) (.cons (M_ (by (unfold modelE;(try simp only[X_] at *);(repeat first|rw[i_ (by omega)]|rw[j_ (by omega)])))) (.cons (M_ (by (unfold modelE;(try simp only[X_] at *);(repeat first|rw[i_ (by omega)]|rw[j_ (by omega)])))) (.cons (M_ (by (unfold modelE;(try simp only[X_] at *);(repeat first|rw[i_ (by omega)]|rw[j_ (by omega)])))) .nil)))))
 ·have gc0:¬((K_ blcC (u.m.getD j default).l).length:Int)=0:=bef hc0
  exact (cR_ [r_,.r [] [.row (sO oz1)],r_,d_,r_,b_,r_] (AV.agg [i64 4,i64 (↑j:Int),i64 (-1),i64 (-1)]) Try.func30 (.d4 oz0 oz1 hc0 (show decide (((K_ blcC (u.m.getD j default).l).length:Int)>6)=true by (simp only[E_,F_,I_,J_,ne_eq,H_,G_,T_,S_,CM_,BX_,BS_,Classical.not_not,CB_,Int.not_le,N_,P_,W_,Q_,Y_,BR_,BU_,BM_,BC_,BY_,eqNums,X_,AD_,BP_,CV_,List.length_set,BT_,BG_,CN_,CX_,BV_,BQ_,CU_] at *;(first|done|with_reducible assumption|omega|contradiction))))).weak (A_ _) (AX_ (.cons (M_ (by (unfold modelE;(try simp only[X_] at *);(repeat first|rw[i_ (by omega)]|rw[j_ (by omega)])))) (.cons (M_ (by (unfold modelE;(try simp only[X_] at *);(repeat first|rw[i_ (by omega)]|rw[j_ (by omega)])))) (.cons (M_ (by (unfold modelE;(try simp only[X_] at *);(repeat first|rw[i_ (by omega)]|rw[j_ (by omega)])))) (.cons (M_ (by (unfold modelE;(try simp only[X_] at *);(repeat first|rw[i_ (by omega)]|rw[j_ (by omega)])))) .nil)))))
theorem vmodel_v (u:Bun) (j:Nat) (ok:u.Ok) (sm:u.Sm) (hj:j<u.m.length):VC O_ 30 [bun u,i64 j] (flt (modelE (u.m.getD j default).l u.inp u.cl j)):=by
 rcases modelE_cases (u.m.getD j default).l u.inp u.cl with ⟨h0,h6,h⟩|h|⟨h6,m,h1,h2,h3⟩
 ·rw[modelE_y h0 h6 h];exact vmodel_y u j ok sm hj h0 h6 h
 ·exact vmodel_a u j sm hj h
 ·rw[modelE_m h6 h1 h2 h3];exact vmodel_m u j m ok sm hj h6 h1 h2 h3
theorem modelE_z {l:List Blc} {a:Shp} {cl j:Int} (h:(modelE l a cl j).w=0):modelE l a cl j=⟨0,0,0,0⟩:=by
 rcases modelE_cases l a cl with ⟨h0,h6,g⟩|g|⟨h6,m,h1,h2,h3⟩
 ·exact modelE_y h0 h6 g
 ·exfalso
  revert h
  unfold modelE
  by_cases c:l.length=0
  ·rw[i_ c];dsimp only;decide
  ·rw[j_ c,i_ (by omega)];dsimp only;decide
 ·rw[modelE_m h6 h1 h2 h3] at h;exact absurd h h2
abbrev mE (u:Bun) (j:Nat):Flt:=modelE (u.m.getD j default).l u.inp u.cl j
noncomputable def vbundle_ly_I (u:Bun) (k:Nat):VS:=stt 27 [(1,.ptr 1 0 0),(2,.ptr 2 0 0),(14,i64 u.m.length),(15,i64 k)] [(1,.var (bunC u)),(2,.var [i64 0,i64 0,i64 0,i64 0])]
noncomputable def vbundle_ly_Z (u:Bun):VS:=vbundle_ly_I u (u.m.length)
theorem vbundle_ly_s (u:Bun) (ok:u.Ok) (sm:u.Sm) (h:∀ j,j<u.m.length→mE u j=⟨0,0,0,0⟩) (k:Nat) (hk:k<u.m.length):VT O_ (fnC Try.f19 [1,1,0,1,0,0]) (vbundle_ly_I u k) .normal (vbundle_ly_I u (k+1)):=by
 have q:modelE (u.m.getD k default).l u.inp u.cl k=⟨0,0,0,0⟩:=h k hk
 have q5:=sm.l
 have oz1:=@vmodel_v (u) (k) ok sm hk
 exact tR_ [r_,b_,r_,.r [] [cr oz1],.r [] [.v (AJ_ !eqNums [(L_,(modelE (u.m.getD k default).l u.inp u.cl (↑k:Int)).w,0),(L_,(modelE (u.m.getD k default).l u.inp u.cl (↑k:Int)).m,0),(L_,(modelE (u.m.getD k default).l u.inp u.cl (↑k:Int)).b,0),(L_,(modelE (u.m.getD k default).l u.inp u.cl (↑k:Int)).n,0)])],d_,.r [] [.n ((↑k:Int)+1)]] [.any (rg [(4,2),(16,8),(25,1)]),.drop [5],.weak 15 (i64 (↑(k+1):Int)),.sort] (.d6 (decide_eq_true (p:=((↑k:Int)<(u.m.length:Int))) (by omega)) oz1 (show BinTo O_ BinOp.neq 62 (Operand.tmp 21) (Operand.tmp 22) (BD_ #[AN_ L_ (modelE (u.m.getD k default).l u.inp u.cl (↑k:Int)).w,AN_ L_ (modelE (u.m.getD k default).l u.inp u.cl (↑k:Int)).m,AN_ L_ (modelE (u.m.getD k default).l u.inp u.cl (↑k:Int)).b,AN_ L_ (modelE (u.m.getD k default).l u.inp u.cl (↑k:Int)).n]) (BD_ #[AN_ L_ 0,AN_ L_ 0,AN_ L_ 0,AN_ L_ 0]) (AJ_ !eqNums [(L_,(modelE (u.m.getD k default).l u.inp u.cl (↑k:Int)).w,0),(L_,(modelE (u.m.getD k default).l u.inp u.cl (↑k:Int)).m,0),(L_,(modelE (u.m.getD k default).l u.inp u.cl (↑k:Int)).b,0),(L_,(modelE (u.m.getD k default).l u.inp u.cl (↑k:Int)).n,0)]) from ((bin_nums (l:=[(L_,(modelE (u.m.getD k default).l u.inp u.cl (↑k:Int)).w,0),(L_,(modelE (u.m.getD k default).l u.inp u.cl (↑k:Int)).m,0),(L_,(modelE (u.m.getD k default).l u.inp u.cl (↑k:Int)).b,0),(L_,(modelE (u.m.getD k default).l u.inp u.cl (↑k:Int)).n,0)]) (by kernel_rfl) (by kernel_rfl) (by kernel_rfl) (by kernel_rfl) _ _).2)) (show (!eqNums [(L_,(modelE (u.m.getD k default).l u.inp u.cl (↑k:Int)).w,0),(L_,(modelE (u.m.getD k default).l u.inp u.cl (↑k:Int)).m,0),(L_,(modelE (u.m.getD k default).l u.inp u.cl (↑k:Int)).b,0),(L_,(modelE (u.m.getD k default).l u.inp u.cl (↑k:Int)).n,0)])=false by (rw[q];rfl)) (i6n ((↑k:Int)+1) (by omega)) (wS_ k))
theorem vbundle_ly_e (u:Bun) (ok:u.Ok) (sm:u.Sm) (h:∀ j,j<u.m.length→mE u j=⟨0,0,0,0⟩):VT O_ (fnC Try.f19 [1,1,0,1,0,0]) (vbundle_ly_I u (u.m.length)) (.exit 0) (vbundle_ly_Z u):=by
 exact tR_ [r_,d_] [.any [16],.sort] (.d (decide_eq_false (p:=((u.m.length:Int)<(u.m.length:Int))) (by omega)))
theorem vbundle_ly (u:Bun) (ok:u.Ok) (sm:u.Sm) (h:∀ j,j<u.m.length→mE u j=⟨0,0,0,0⟩):VT O_ (fnC Try.f19 [1,1,0,1,0]) (vbundle_ly_I u 0) (.exit 0) (vbundle_ly_Z u) :=
 VT.loop (fun k=>vbundle_ly_I u k) (u.m.length) (fun k hk=>vbundle_ly_s u ok sm h k hk) (vbundle_ly_e u ok sm h) (by intro h;cases h)
noncomputable def vbundle_ln_I (u:Bun) (m:Nat) (k:Nat):VS:=stt 27 [(1,.ptr 1 0 0),(2,.ptr 2 0 0),(14,i64 u.m.length),(15,i64 k)] [(1,.var (bunC u)),(2,.var [i64 0,i64 0,i64 0,i64 0])]
noncomputable def vbundle_ln_Z (u:Bun) (m:Nat):VS:=stt 27 [(2,.ptr 2 0 0)] [(2,.var (fltC (mE u m)))]
theorem vbundle_ln_s (u:Bun) (m:Nat) (ok:u.Ok) (sm:u.Sm) (hm:m<u.m.length) (hf:(mE u m).w≠0) (h:∀ j,j<m→mE u j=⟨0,0,0,0⟩) (k:Nat) (hk:k<m):VT O_ (fnC Try.f19 [1,1,0,1,0,0]) (vbundle_ln_I u m k) .normal (vbundle_ln_I u m (k+1)):=by
 have q:modelE (u.m.getD k default).l u.inp u.cl k=⟨0,0,0,0⟩:=h k hk
 have q5:=sm.l
 have oz1:=@vmodel_v (u) (k) ok sm (by omega)
 exact tR_ [r_,b_,r_,.r [] [cr oz1],.r [] [.v (AJ_ !eqNums [(L_,(modelE (u.m.getD k default).l u.inp u.cl (↑k:Int)).w,0),(L_,(modelE (u.m.getD k default).l u.inp u.cl (↑k:Int)).m,0),(L_,(modelE (u.m.getD k default).l u.inp u.cl (↑k:Int)).b,0),(L_,(modelE (u.m.getD k default).l u.inp u.cl (↑k:Int)).n,0)])],d_,.r [] [.n ((↑k:Int)+1)]] [.any (rg [(4,2),(16,8),(25,1)]),.drop [5],.weak 15 (i64 (↑(k+1):Int)),.sort] (.d6 (decide_eq_true (p:=((↑k:Int)<(u.m.length:Int))) (by omega)) oz1 (show BinTo O_ BinOp.neq 62 (Operand.tmp 21) (Operand.tmp 22) (BD_ #[AN_ L_ (modelE (u.m.getD k default).l u.inp u.cl (↑k:Int)).w,AN_ L_ (modelE (u.m.getD k default).l u.inp u.cl (↑k:Int)).m,AN_ L_ (modelE (u.m.getD k default).l u.inp u.cl (↑k:Int)).b,AN_ L_ (modelE (u.m.getD k default).l u.inp u.cl (↑k:Int)).n]) (BD_ #[AN_ L_ 0,AN_ L_ 0,AN_ L_ 0,AN_ L_ 0]) (AJ_ !eqNums [(L_,(modelE (u.m.getD k default).l u.inp u.cl (↑k:Int)).w,0),(L_,(modelE (u.m.getD k default).l u.inp u.cl (↑k:Int)).m,0),(L_,(modelE (u.m.getD k default).l u.inp u.cl (↑k:Int)).b,0),(L_,(modelE (u.m.getD k default).l u.inp u.cl (↑k:Int)).n,0)]) from ((bin_nums (l:=[(L_,(modelE (u.m.getD k default).l u.inp u.cl (↑k:Int)).w,0),(L_,(modelE (u.m.getD k default).l u.inp u.cl (↑k:Int)).m,0),(L_,(modelE (u.m.getD k default).l u.inp u.cl (↑k:Int)).b,0),(L_,(modelE (u.m.getD k default).l u.inp u.cl (↑k:Int)).n,0)]) (by kernel_rfl) (by kernel_rfl) (by kernel_rfl) (by kernel_rfl) _ _).2)) (show (!eqNums [(L_,(modelE (u.m.getD k default).l u.inp u.cl (↑k:Int)).w,0),(L_,(modelE (u.m.getD k default).l u.inp u.cl (↑k:Int)).m,0),(L_,(modelE (u.m.getD k default).l u.inp u.cl (↑k:Int)).b,0),(L_,(modelE (u.m.getD k default).l u.inp u.cl (↑k:Int)).n,0)])=false by (rw[q];rfl)) (i6n ((↑k:Int)+1) (by omega)) (wS_ k))
theorem vbundle_ln_e (u:Bun) (m:Nat) (ok:u.Ok) (sm:u.Sm) (hm:m<u.m.length) (hf:(mE u m).w≠0) (h:∀ j,j<m→mE u j=⟨0,0,0,0⟩):VT O_ (fnC Try.f19 [1,1,0,1,0,0]) (vbundle_ln_I u m (m)) (.ret) (vbundle_ln_Z u m):=by
 have q5:=sm.l
 have hg:¬ (modelE (u.m.getD m default).l u.inp u.cl m).w=0:=hf
 have oz1:=@vmodel_v (u) (m) ok sm hm
 exact tR_ [r_,b_,r_,.r [] [cr oz1],.r [] [.v (AJ_ !eqNums [(L_,(modelE (u.m.getD m default).l u.inp u.cl (↑m:Int)).w,0),(L_,(modelE (u.m.getD m default).l u.inp u.cl (↑m:Int)).m,0),(L_,(modelE (u.m.getD m default).l u.inp u.cl (↑m:Int)).b,0),(L_,(modelE (u.m.getD m default).l u.inp u.cl (↑m:Int)).n,0)])],b_,r_] [.any (rg [(1,1),(4,2),(14,11)]),.drop [1,5],.sort] (.d4 (decide_eq_true (p:=((↑m:Int)<(u.m.length:Int))) (by omega)) oz1 (show BinTo O_ BinOp.neq 62 (Operand.tmp 21) (Operand.tmp 22) (BD_ #[AN_ L_ (modelE (u.m.getD m default).l u.inp u.cl (↑m:Int)).w,AN_ L_ (modelE (u.m.getD m default).l u.inp u.cl (↑m:Int)).m,AN_ L_ (modelE (u.m.getD m default).l u.inp u.cl (↑m:Int)).b,AN_ L_ (modelE (u.m.getD m default).l u.inp u.cl (↑m:Int)).n]) (BD_ #[AN_ L_ 0,AN_ L_ 0,AN_ L_ 0,AN_ L_ 0]) (AJ_ !eqNums [(L_,(modelE (u.m.getD m default).l u.inp u.cl (↑m:Int)).w,0),(L_,(modelE (u.m.getD m default).l u.inp u.cl (↑m:Int)).m,0),(L_,(modelE (u.m.getD m default).l u.inp u.cl (↑m:Int)).b,0),(L_,(modelE (u.m.getD m default).l u.inp u.cl (↑m:Int)).n,0)]) from ((bin_nums (l:=[(L_,(modelE (u.m.getD m default).l u.inp u.cl (↑m:Int)).w,0),(L_,(modelE (u.m.getD m default).l u.inp u.cl (↑m:Int)).m,0),(L_,(modelE (u.m.getD m default).l u.inp u.cl (↑m:Int)).b,0),(L_,(modelE (u.m.getD m default).l u.inp u.cl (↑m:Int)).n,0)]) (by kernel_rfl) (by kernel_rfl) (by kernel_rfl) (by kernel_rfl) _ _).2)) (show (!eqNums [(L_,(modelE (u.m.getD m default).l u.inp u.cl (↑m:Int)).w,0),(L_,(modelE (u.m.getD m default).l u.inp u.cl (↑m:Int)).m,0),(L_,(modelE (u.m.getD m default).l u.inp u.cl (↑m:Int)).b,0),(L_,(modelE (u.m.getD m default).l u.inp u.cl (↑m:Int)).n,0)])=true by (simp only[eqNums];rw[beq_eq_false_iff_ne.2 hg];rfl)))
theorem vbundle_ln (u:Bun) (m:Nat) (ok:u.Ok) (sm:u.Sm) (hm:m<u.m.length) (hf:(mE u m).w≠0) (h:∀ j,j<m→mE u j=⟨0,0,0,0⟩):VT O_ (fnC Try.f19 [1,1,0,1,0]) (vbundle_ln_I u m 0) (.ret) (vbundle_ln_Z u m) :=
 VT.loop (fun k=>vbundle_ln_I u m k) (m) (fun k hk=>vbundle_ln_s u m ok sm hm hf h k hk) (vbundle_ln_e u m ok sm hm hf h) (by intro h;cases h)
def bunE (u:Bun):Flt:=if wholeE u≠0 then ⟨wholeE u,-1,-1,-1⟩ else if firstBad (fun j=>(mE u j).w==0) u.m.length<u.m.length then mE u (firstBad (fun j=>(mE u j).w==0) u.m.length) else ⟨0,0,0,0⟩
theorem bunE_y {u:Bun} (w:wholeE u=0) (h:∀ j,j<u.m.length→mE u j=⟨0,0,0,0⟩):bunE u=⟨0,0,0,0⟩:=by
 unfold bunE
 rw[j_ (by simp[w]),firstBad_all fun j hj=>by rw[h j hj];rfl,j_ (by omega)]
theorem bunE_m {u:Bun} {m:Nat} (w:wholeE u=0) (hm:m<u.m.length) (hf:(mE u m).w≠0) (h:∀ j,j<m→mE u j=⟨0,0,0,0⟩):bunE u=mE u m:=by
 have e:=firstBad_at (p:=fun j=>(mE u j).w==0) (m:=m) (by simpa using hf) (fun j hj=>by rw[h j hj];rfl) hm
 unfold bunE
 rw[j_ (by simp[w]),e,i_ hm]
theorem bunE_cases (u:Bun):wholeE u≠0∨(wholeE u=0∧∀ j,j<u.m.length→mE u j=⟨0,0,0,0⟩)∨(wholeE u=0∧∃ m,m<u.m.length∧(mE u m).w≠0∧∀ j,j<m→mE u j=⟨0,0,0,0⟩):=by
 by_cases w:wholeE u=0
 ·rcases all_or (fun j=>(mE u j).w==0) u.m.length with h|⟨m,h1,h2,h3⟩
  ·exact .inr (.inl ⟨w,fun j hj=>modelE_z (beq_iff_eq.1 (h j hj))⟩)
  ·exact .inr (.inr ⟨w,m,h1,by simpa using h2,fun j hj=>modelE_z (beq_iff_eq.1 (h3 j hj))⟩)
 ·exact .inl w
theorem vbundle_a (u:Bun) (ok:u.Ok) (sm:u.Sm) (h:wholeE u≠0):VC O_ 19 ([bun u]) (flt (bunE u)):=by
 have q5:=sm.l
 have oz0:=@vwhole_v (u) ok (by omega)
 exact (cR_ [r_,.r [] [cr oz0],r_,b_,r_] (AV.agg [i64 (wholeE u),i64 (-1),i64 (-1),i64 (-1)]) Try.func19 (.d2 oz0 (show (wholeE u != 0)=true by (simp;omega)))).weak (A_ _) (AX_ (.cons (M_ (by (unfold bunE;rw[i_ h]))) (.cons (M_ (by (unfold bunE;rw[i_ h]))) (.cons (M_ (by (unfold bunE;rw[i_ h]))) (.cons (M_ (by (unfold bunE;rw[i_ h]))) .nil)))))
theorem vbundle_y (u:Bun) (ok:u.Ok) (sm:u.Sm) (w:wholeE u=0) (h:∀ j,j<u.m.length→mE u j=⟨0,0,0,0⟩):VC O_ 19 ([bun u]) (flt ⟨0,0,0,0⟩):=by
 have q5:=sm.l
 have oz0:=@vwhole_v (u) ok (by omega)
 have oz4:=@vbundle_ly (u) ok sm h
 exact cR_ [r_,.r [] [cr oz0],r_,d_,r_,.code [.any [0,3,6,7,8,9,12,13],.weak 14 (i64 (u.m.length:Int)),.weak 15 (i64 (↑0:Int)),.sort] (BN_ 0) (zO oz4),r_] _ Try.func19 (.d5 oz0 (show (wholeE u != 0)=false by (rw[w];rfl)) (M_ (k:=.i64) (show ((((K_ mdlC u.m).length:Int)):Int)=((u.m.length:Int)) from (by (simp;done)))) w0_ oz4)
theorem vbundle_m (u:Bun) (m:Nat) (ok:u.Ok) (sm:u.Sm) (w:wholeE u=0) (hm:m<u.m.length) (hf:(mE u m).w≠0) (h:∀ j,j<m→mE u j=⟨0,0,0,0⟩):VC O_ 19 ([bun u]) (flt (mE u m)):=by
 have q5:=sm.l
 have oz0:=@vwhole_v (u) ok (by omega)
 have oz4:=@vbundle_ln (u) (m) ok sm hm hf h
 exact cR_ [r_,.r [] [cr oz0],r_,d_,r_,.code [.any [0,3,6,7,8,9,12,13],.weak 14 (i64 (u.m.length:Int)),.weak 15 (i64 (↑0:Int)),.sort] (Exit.ret) (zO oz4)] _ Try.func19 (.d5 oz0 (show (wholeE u != 0)=false by (rw[w];rfl)) (M_ (k:=.i64) (show ((((K_ mdlC u.m).length:Int)):Int)=((u.m.length:Int)) from (by (simp;done)))) w0_ oz4)
theorem vbundle_v (u:Bun) (ok:u.Ok) (sm:u.Sm):VC O_ 19 [bun u] (flt (bunE u)):=by
 rcases bunE_cases u with h|⟨w,h⟩|⟨w,m,h1,h2,h3⟩
 ·exact vbundle_a u ok sm h
 ·rw[bunE_y w h];exact vbundle_y u ok sm w h
 ·rw[bunE_m w h1 h2 h3];exact vbundle_m u m ok sm w h1 h2 h3
theorem vright_v (u:Bun) (ok:u.Ok) (sm:u.Sm):VC O_ 8 ([bun u]) (bv ((bunE u).w==0)):=by
 have oz0:=@vbundle_v (u) ok sm
 exact cR_ [r_,.r [] [cr oz0]] _ Try.func8 (.d oz0)
theorem roll_v (s:Int)  : VM O_ 4 ([u64 s]) ([]) (.ptr 951 0 0) ([(951,.var [u64 s])]):=by
 exact mR_ [r_,r_] [.ren 5 951,.sort] _ Try.func4 (.n)
noncomputable def dinp_0_I  (k:Nat):VS:=stt 24 [(5,nilv),(11,.sl 1 []),(12,i64 (0:Nat)),(13,i64 k)] []
noncomputable def dinp_0_Z  : VS:=dinp_0_I  (0)
theorem dinp_0_e   : VT O_ (fnC Try.f9 [1,1,0,1,0,0]) (dinp_0_I  (0)) (.exit 0) (dinp_0_Z ):=by
 exact tR_ [r_,d_] [.any [14],.sort] (.d z0_)
theorem dinp_0   : VT O_ (fnC Try.f9 [1,1,0,1,0]) (dinp_0_I  0) (.exit 0) (dinp_0_Z ) :=
 VT.loop (fun k=>dinp_0_I  k) (0) (fun k hk=>absurd hk (Nat.not_lt_zero k)) (dinp_0_e  ) (by intro h;cases h)
theorem dinput_nil (a:Shp) (oka:a.Ok):VC O_ 9 ([.lit (.pointer none),shp a]) (.sl 1 []):=by
 have o1:=oka.h
 have o2:=oka.x
 have o3:=oka.c
 have oz0:=@elems_v (a.h) (a.x) (a.c) o1 o2 o3
 have oz1:=@dnum_nil (elems a.h a.x a.c) (-128) (256)
 have oz4:=@dinp_0
 exact (cR_ [r_,r_,.r [] [cr oz0,cr oz1],.code [.any [0,1,3,4,8,9,10],.drop [3],.weak 12 (i64 (↑0:Int)),.weak 13 (i64 (↑0:Int)),.sort] (BN_ 0) (zO oz4),r_] (AV.lit (AK_ none 0 0)) Try.func9 (.d5 oz0 oz1 (M_ (k:=.i64) (show (((↑0:Int)):Int)=((↑0:Int)) from (by (simp;done)))) w0_ oz4)).weak (A_ _) (AG_ _)
theorem elems0:VC O_ 20 [.agg [i64 0,i64 0,i64 0]] (i64 0):=VC.to (elems_v 0 0 0 (by decide) (by decide) (by decide)) (by kernel_rfl)
theorem dinput_z (s:Int)  : VM O_ 9 ([.ptr 100000 0 0,.agg [i64 0,i64 0,i64 0]]) ([(100000,.var [u64 s])]) (.sl 1 []) ([(100000,.var [u64 s])]):=by
 have oz0:=@elems0
 have oz1:=@dnum_z (s) (-128) (256)
 have oz4:=@dinp_l ([]) (s) (by (simp;done)) (by (simp;done))
 exact mR_ [r_,r_,.r [] [cr oz0,cm oz1],.code [.any [0,1,3,4,8,9,10],.drop [3],.weak 12 (i64 ((K_ (row1 .i64) []).length:Int)),.weak 13 (i64 (↑0:Int)),.nils 5 900 39 1,.sort] (BN_ 0) (zO oz4),r_] [.frz 900,.sort] _ Try.func9 (.d5 oz0 oz1 (M_ (k:=.i64) (show (((↑0:Int)):Int)=(((K_ (row1 .i64) []).length:Int)) from (by (simp;done)))) w0_ oz4)
theorem numL_at (T:Int→Int) (D:Int→Int→Int) (s fr many:Int) {n k:Nat} (h:k<n):(numL T D s fr many n).getD k 0=fr+D (dsN T s k) many:=by
 induction n with
 | zero=>omega
 | succ n ih =>
  rw[numL,B_]
  by_cases e:k=n
  ·subst e;rw[AI_ (by rw[numL_len];omega),numL_len,Nat.sub_self];rfl
  ·rw[BL_ (by rw[numL_len];omega),←B_];exact ih (by omega)
noncomputable def craftB_l_I (T:Int→Int) (D:Int→Int→Int) (t x:Int) (u:Bun) (n:Nat) (k:Nat):VS:=stt 100 [(3,.ptr 901 0 0),(4,.ptr 14 0 0),(5,.ptr 5 0 0),(7,.sl 1 ((numL T D t (-128) 256 n).map (row1 .i8))),(8,i64 k)] [(5,.var (bunC u)),(14,.var [u64 (dsN T t k)]),(901,.var [u64 x])]
noncomputable def craftB_l_Z (T:Int→Int) (D:Int→Int→Int) (t x:Int) (u:Bun) (n:Nat):VS:=craftB_l_I T D t x u n (n)
theorem craftB_l_s (T:Int→Int) (D:Int→Int→Int) (t x:Int) (u:Bun) (n:Nat) (hD:Dcs T D) (hn:n≤16384) (k:Nat) (hk:k<n):VT O_ (fnC Try.f3 [1,1,1,1,1,1,0,1,0,0]) (craftB_l_I T D t x u n k) .normal (craftB_l_I T D t x u n (k+1)):=by
 have q:=hD.b (dsN T t k) 256 (by decide)
 have q1:=numL_at T D t (-128) 256 hk
 have q2:=numL_len T D t (-128) 256 n
 have oz2:=(map_at (row1 .i8) (0) (l:=numL T D t (-128) 256 n) (i:=k) (by omega))
 have oz3:=(i6n ((numL T D t (-128) 256 n).getD k 0) (by omega))
 have oz4:=@rdbelow_t (T) (D) hD (dsN T t k) (256) (by omega) (by omega)
 exact tR_ [r_,b_,.r [] [.row (sO oz2),.n (nO oz3),.callm [(14,100000)] [] (rM oz4) (oM oz4),.n (D (dsN T t k) 256-128)],d_,.r [] [.n ((↑k:Int)+1)]] [.any (rg [(46,15)]),.weak 8 (i64 (↑(k+1):Int)),.blk 14 (Blk.var [u64 (dsN T t (k+1))]),.sort] (.c8 (show decide ((↑k:Int)<((K_ (row1 .i8) (numL T D t (-128) 256 n)).length:Int))=true by (simp;omega)) (s_ (0≤(↑k:Int))) oz2 oz3 oz4 (i6n (D (dsN T t k) 256-128) (by omega)) (show ((numL T D t (-128) 256 n).getD k 0 != D (dsN T t k) 256-128)=false by (simp at *;omega)) (i6n ((↑k:Int)+1) (by omega))<|.d2 (wS_ k) (show BlkW (Blk.var [u64 (T (dsN T t k))]) (Blk.var [u64 (dsN T t (k+1))]) from (BlkW.var (m:=[u64 (dsN T t (k+1))]) (.cons (M_ (by rfl)) .nil))))
theorem craftB_l_e (T:Int→Int) (D:Int→Int→Int) (t x:Int) (u:Bun) (n:Nat) (hD:Dcs T D) (hn:n≤16384):VT O_ (fnC Try.f3 [1,1,1,1,1,1,0,1,0,0]) (craftB_l_I T D t x u n (n)) (.exit 0) (craftB_l_Z T D t x u n):=by
 have q2:=numL_len T D t (-128) 256 n
 exact tR_ [r_,d_] [.any (rg [(46,4)]),.sort] (.d (show decide ((↑n:Int)<((K_ (row1 .i8) (numL T D t (-128) 256 n)).length:Int))=false by (simp;omega)))
theorem craftB_l (T:Int→Int) (D:Int→Int→Int) (t x:Int) (u:Bun) (n:Nat) (hD:Dcs T D) (hn:n≤16384):VT O_ (fnC Try.f3 [1,1,1,1,1,1,0,1,0]) (craftB_l_I T D t x u n 0) (.exit 0) (craftB_l_Z T D t x u n) :=
 VT.loop (fun k=>craftB_l_I T D t x u n k) (n) (fun k hk=>craftB_l_s T D t x u n hD hn k hk) (craftB_l_e T D t x u n hD hn) (by intro h;cases h)
theorem craftB_v (T:Int→Int) (D:Int→Int→Int) (s t:Int) (u:Bun) (hD:Dcs T D) (ok:u.Ok) (sm:u.Sm) (da:u.inp.Dc) (h7:VC O_ 8 [bun u] (bv true)) (g1:VM O_ 5 [.ptr 100000 0 0] [(100000,.var [u64 s])] (bun u) [(100000,.var [u64 t])]) (g2:VM O_ 6 [.ptr 100000 0 0] [(100000,.var [u64 s])] (bun u) [(100000,.var [u64 t])]) (g3:VM O_ 9 [.ptr 100000 0 0,shp u.inp] [(100000,.var [u64 t])] (.sl 1 ((numL T D t (-128) 256 (elems u.h u.x u.c).toNat).map (row1 .i8))) [(100000,.var [u64 (dsN T t (elems u.h u.x u.c).toNat)])]) (h6:VC O_ 7 [bun u,bun u] (bv true)) (hk:VC O_ 15 [] (bv true)):VC O_ 3 ([u64 s]) (bv true):=by
 have e:=Dc_elems da
 have oka:=da.ok
 have o1:=ok.h
 have o2:=ok.x
 have o3:=ok.c
 have q2:=numL_len T D t (-128) 256 (elems u.h u.x u.c).toNat
 have oz0:=@roll_v (s)
 have oz1:=@g1
 have oz2:=@g2
 have oz3:=@h6
 have oz4:=z0_
 have oz6:=@h7
 have oz20:=@g3
 have oz21:=@refElems_v (u.h) (u.x) (u.c) o1 o2 o3
 have oz25:=@craftB_l (T) (D) (t) (dsN T t (elems u.h u.x u.c).toNat) (u) ((elems u.h u.x u.c).toNat) hD (by (simp only[X_] at *;omega))
 have oz26:=@dnext_nil
 have oz27:=z1_
 have oz29:=@dbelow_nil
 have oz34:=@dnum_nil (3) (1) (5)
 have oz40:=@dbun_nil
 have oz49:=@dinput_nil (Shp.mk u.h u.x u.c) oka
 have oz56:=@dinput_z (dsN T t (elems u.h u.x u.c).toNat)
 have oz61:=@hk
 exact cR_ [r_,.r [] [.callm [] [(951,20000)] (rM oz0) (oM oz0)],.r [] [.callm [(20000,100000)] [] (rM oz1) (oM oz1),.callm [(14,100000)] [] (rM oz2) (oM oz2)],.r [] [cr oz3,e_,e_,cr oz6,e_,f_,e_,e_,.callm [] [(951,20001)] (rM oz0) (oM oz0),e_,.callm [(20001,100000)] [] (rM oz1) (oM oz1),e_,e_,cr oz3,e_,f_],d_,.r [] [.callm [(20000,100000)] [] (rM oz20) (oM oz20)],.r [] [cr oz21],d_,r_,.code [.any (rg [(0,1),(2,1),(6,1),(10,36)]),.drop [6,20001],.ren 20000 901,.weak 8 (i64 (↑0:Int)),.blk 14 (Blk.var [u64 (dsN T t 0)]),.sort] (BN_ 0) (zO oz25),r_,.r [] [cr oz26,e_,e_,cr oz29,e_,e_,e_,e_,cr oz34,e_,e_,e_,e_,e_,cr oz40,e_,e_,e_,e_,e_,e_,e_,e_,cr oz49,e_,e_,e_,e_,e_,e_,.callm [(901,100000)] [] (rM oz56) (oM oz56),e_,e_,e_,e_,cr oz61,e_]] _ Try.func3 (.c8 oz0 oz1 oz2 oz3 oz4 oz4 oz6 oz4<|.c8 oz4 oz4 oz4 oz0 oz4 oz1 oz4 oz4<|.c8 oz3 oz4 oz4 oz4 oz20 oz21 (show (((K_ (row1 .i8) (numL T D t (-128) 256 (elems u.h u.x u.c).toNat)).length:Int) != elems u.h u.x u.c)=false by (simp at *;omega)) w0_<|.c8 (show BlkW (Blk.var [u64 t]) (Blk.var [u64 (dsN T t 0)]) from (BlkW.var (m:=[u64 (dsN T t 0)]) (.cons (M_ (by rfl)) .nil))) oz25 oz26 oz27 oz27 oz29 oz27 oz27<|.c8 oz27 oz27 oz34 oz27 oz27 oz27 oz27 oz27<|.c8 oz40 oz27 oz27 oz27 oz27 oz27 oz27 oz27<|.c8 oz27 oz49 oz27 oz27 oz27 oz27 oz27 oz27<|.d7 oz56 oz27 oz27 oz27 oz27 oz61 oz27)
theorem heldQ_m {a b m s z lo hi:Int} (h:a≤b) (hl:lo≤hi):heldQ a m s z lo hi≤heldQ b m s z lo hi:=by
 unfold heldQ
 by_cases c:rightQ m s=true
 ·rw[i_ c,i_ c]
  have hm:0<m:=by unfold rightQ at c;simp at c;omega
  have:=rnd_mono (a*m) (b*m) s (CZ_ h (by omega))
  exact clampI_mono _ _ _ _ (by omega) hl
 ·rw[j_ c,j_ c];exact Int.le_refl _
theorem joinE_m {x x' y y':Int} {n:Nod} (hx:x≤x') (hy:y≤y') (hl:n.lo≤n.hi):joinE x y n≤joinE x' y' n:=by
 unfold joinE
 by_cases c:(rightQ n.qm n.qs&&rightQ n.rm n.rs)=true
 ·rw[i_ c,i_ c]
  rw[N_] at c
  have hm:0<n.qm:=by have:=c.1;unfold rightQ at this;simp at this;omega
  have hm2:0<n.rm:=by have:=c.2;unfold rightQ at this;simp at this;omega
  have h1:=rnd_mono ((x-n.za)*n.qm) ((x'-n.za)*n.qm) n.qs (CZ_ (by omega) (by omega))
  have h2:=rnd_mono ((y-n.zb)*n.rm) ((y'-n.zb)*n.rm) n.rs (CZ_ (by omega) (by omega))
  exact clampI_mono _ _ _ _ (by omega) hl
 ·rw[j_ c,j_ c];exact Int.le_refl _
theorem row_small {w:List Int} {bias lo hi z:Int} (g:Bool) (hw:∀ v∈w,In8 v) (hb : -1000≤bias∧bias≤1000) (h1:In8 lo) (h2:In8 hi) (h3:In8 z):∀ k:Nat,-1000-32640*(k:Int)≤(rowR w bias lo hi z g k).lo∧(rowR w bias lo hi z g k).hi≤1000+32640*(k:Int)
 | 0=>by simp only[rowR];omega
 | k+1=>by
  have:=row_small g hw hb h1 h2 h3 k
  have:=spA_bd g (v:=w.getD k 0) (gt_of hw (by unfold In8;omega) k) h1 h2 h3
  simp only[rowR];omega
theorem all_hold {w b:List Int} {lo hi z:Int} (g:Bool) (hw:∀ v∈w,In8 v) (wl:w.length≤60000) (hb:∀ v∈b,-1000≤v∧v≤1000) (h1:In8 lo) (h2:In8 hi) (h3:In8 z) (n:Nat):(allR w b lo hi z g n).all holdB=true:=by
 rw[List.all_eq_true]
 intro r hr
 unfold allR at hr
 obtain ⟨o,_,rfl⟩:=List.mem_map.1 hr
 unfold spRow holdB
 have hbo : -1000≤b.getD o 0∧b.getD o 0≤1000:=gt_of hb (by omega) o
 have:=row_small g (w:=BI_ ((((o:Int)+1)*((w.length:Int)/(b.length:Int))).toNat-((o:Int)*((w.length:Int)/(b.length:Int))).toNat) (BJ_ ((o:Int)*((w.length:Int)/(b.length:Int))).toNat w)) (fun v hv=>hw v (mem_td hv)) hbo h1 h2 h3 (BI_ ((((o:Int)+1)*((w.length:Int)/(b.length:Int))).toNat-((o:Int)*((w.length:Int)/(b.length:Int))).toNat) (BJ_ ((o:Int)*((w.length:Int)/(b.length:Int))).toNat w)).length
 have ll:(BI_ ((((o:Int)+1)*((w.length:Int)/(b.length:Int))).toNat-((o:Int)*((w.length:Int)/(b.length:Int))).toNat) (BJ_ ((o:Int)*((w.length:Int)/(b.length:Int))).toNat w)).length≤w.length:=by rw[BG_,CN_];omega
 rw[N_,E_,E_]
 omega
theorem bia100 {T:Int→Int} {D:Int→Int→Int} (hD:Dcs T D) (s:Int) (k:Nat):∀ x∈biaL T D s k,-1000≤x∧x≤1000:=by
 induction k with
 | zero=>intro x hx;cases hx
 | succ k ih =>
  intro x hx
  rw[biaL,BA_] at hx
  rcases hx with hx|hx
  ·exact ih x hx
  ·rw[CR_] at hx;subst hx
   have:=hD.b (dsN T s k) 201 (by decide)
   omega
theorem kind_check {T:Int→Int} {D:Int→Int→Int} (hD:Dcs T D) (s:Int) (a:Shp) (i:Int):checkE (kindN T D s a i).1=0:=by
 rcases kind_cases hD s a with h|h|⟨h,h1,h2⟩|h|h
 ·rw[kindN_0 a i h];rfl
 ·rw[kindN_4 a i h];rfl
 ·rw[kindN_2 i h h1 h2];rfl
 ·rw[kindN_3 a i h];rfl
 ·rw[kindN_a i h];rfl
theorem kind_at {T:Int→Int} {D:Int→Int→Int} (hD:Dcs T D) (s:Int) (a:Shp) (i:Int):(kindN T D s a i).1.na=i∧secN (kindN T D s a i).1=i:=by
 rcases kind_cases hD s a with h|h|⟨h,h1,h2⟩|h|h
 ·rw[kindN_0 a i h];exact ⟨rfl,rfl⟩
 ·rw[kindN_4 a i h];exact ⟨rfl,rfl⟩
 ·rw[kindN_2 i h h1 h2];exact ⟨rfl,rfl⟩
 ·rw[kindN_3 a i h];exact ⟨rfl,rfl⟩
 ·rw[kindN_a i h];exact ⟨rfl,rfl⟩
theorem nodeR_1 {n:Nod} {a b:Rng} (c:checkE n=0) (h:a.lo≤a.hi) (k:n.kd=1∨n.kd=2) (hs:(spansN n a).all holdB=true):(nodeR n a b).2=0∧(nodeR n a b).1.lo≤(nodeR n a b).1.hi:=by
 unfold nodeR
 rw[j_ (by simpa using c),j_ (by omega),i_ (by omega)]
 unfold sumG
 rw[i_ hs]
 refine ⟨rfl,?_⟩
 unfold afterE;dsimp only;omega
theorem nodeR_6 {n:Nod} {a b:Rng} (c:checkE n=0) (h:a.lo≤a.hi) (h2:b.lo≤b.hi) (k:n.kd=6) (l:n.lo≤n.hi):(nodeR n a b).2=0∧(nodeR n a b).1.lo≤(nodeR n a b).1.hi:=by
 unfold nodeR
 rw[j_ (by simpa using c),j_ (by omega),j_ (by omega),i_ k]
 exact ⟨rfl,joinE_m h h2 l⟩
theorem nodeR_7 {n:Nod} {a b:Rng} (c:checkE n=0) (h:a.lo≤a.hi) (k:n.kd=7) (l:n.lo≤n.hi):(nodeR n a b).2=0∧(nodeR n a b).1.lo≤(nodeR n a b).1.hi:=by
 unfold nodeR
 rw[j_ (by simpa using c),j_ (by omega),j_ (by omega),j_ (by omega),i_ k]
 exact ⟨rfl,heldQ_m (by omega) l⟩
theorem nodeR_4 {n:Nod} {a b:Rng} (c:checkE n=0) (h:a.lo≤a.hi) (k:n.kd=4):(nodeR n a b).2=0∧(nodeR n a b).1.lo≤(nodeR n a b).1.hi:=by
 unfold nodeR
 rw[j_ (by simpa using c),j_ (by omega),j_ (by omega),j_ (by omega),j_ (by omega),j_ (by omega)]
 exact ⟨rfl,h⟩
theorem w0_81 {T:Int→Int} {D:Int→Int→Int} (hD:Dcs T D) (s:Int) {a:Shp} (da:a.Dc):((1+D (T (T s)) 3)*(1+2*D (T s) 2)*(1+2*D (T s) 2)*a.c)≤81:=by
 have d1:=hD.b (T s) 2 (by decide)
 have d2:=hD.b (T (T s)) 3 (by decide)
 obtain ⟨c1,c2⟩:=da.c
 generalize D (T s) 2=e2 at *
 generalize D (T (T s)) 3=e3 at *
 have hK:1+2*e2=1∨1+2*e2=3:=by omega
 have hO:1+e3=1∨1+e3=2∨1+e3=3:=by omega
 rcases hK with h|h<;>rcases hO with g|g|g<;>rw[h,g]<;>omega
theorem kind_flow {T:Int→Int} {D:Int→Int→Int} (hD:Dcs T D) (s:Int) {a:Shp} (da:a.Dc) (i:Int) {r:Rng} (h:r.lo≤r.hi) (hr:r.In8):(nodeR (kindN T D s a i).1 r r).2=0∧(nodeR (kindN T D s a i).1 r r).1.lo≤(nodeR (kindN T D s a i).1 r r).1.hi:=by
 have c:=kind_check hD s a i
 obtain ⟨c1,c2⟩:=id da.c
 rcases kind_cases hD s a with q|q|⟨q,q1,q2⟩|q|q
 ·have w:=w0_81 hD s da
  rw[kindN_0 a i q] at c ⊢
  exact nodeR_1 c h (.inl rfl) (all_hold _ (wtsL8 hD _ _) (by show (wtsL T D _ _).length≤60000;rw[wtsL_len];omega) (bia100 hD _ _) hr.1 hr.2 j0 _)
 ·rw[kindN_4 a i q] at c ⊢
  exact nodeR_1 c h (.inr rfl) (all_hold _ (wtsL8 hD _ _) (by show (wtsL T D _ _).length≤60000;rw[wtsL_len];omega) (bia100 hD _ _) hr.1 hr.2 j0 _)
 ·rw[kindN_2 i q q1 q2] at c ⊢;exact nodeR_4 c h rfl
 ·rw[kindN_3 a i q] at c ⊢;exact nodeR_6 c h h rfl (by show (-128:Int)≤127;decide)
 ·rw[kindN_a i q] at c ⊢;exact nodeR_7 c h rfl (by show (0:Int)≤127;decide)
theorem nextE_y {n:Nod} {L:List Shp} (c:checkE n=0) (t:thereB n L.length=true):nextE n L=shapeE n (L.getD n.na.toNat default) (L.getD (secN n).toNat default):=by
 unfold nextE;rw[j_ (by simpa using c),i_ t]
theorem stepR_y {n:Nod} {L:List Rng} (t:thereB n L.length=true):stepR n L=nodeR n (L.getD n.na.toNat default) (L.getD (secN n).toNat default):=by
 unfold stepR;rw[i_ t]
theorem there_k {n:Nod} {k m:Int} (h:n.na=k∧secN n=k) (h0:0≤k) (h1:k<m):thereB n m=true:=by
 unfold thereB;rw[h.1,h.2];simp;omega
theorem gl_last {α:Type} [Inhabited α] (f:Nod→List α→α×Int) (l:List Nod) (x:α) (k:Nat):(growL f l x (k+1)).getD (k+1) default=(f (l.getD k default) (growL f l x k)).1:=by
 rw[growL,B_,AI_ (by rw[growL_len];omega),growL_len,Nat.sub_self];rfl
theorem chL_at (T:Int→Int) (D:Int→Int→Int) (s:Int) (a:Shp) {n k:Nat} (h:k<n):(chL T D s a n).getD k default=(kindN T D (chn T D s a k).1 (chn T D s a k).2 k).1:=by
 induction n with
 | zero=>omega
 | succ n ih =>
  rw[chL,B_]
  by_cases e:k=n
  ·subst e;rw[AI_ (by rw[chL_len];omega),chL_len,Nat.sub_self];rfl
  ·rw[BL_ (by rw[chL_len];omega),←B_];exact ih (by omega)
theorem ch_shape {T:Int→Int} {D:Int→Int→Int} (hD:Dcs T D) (s:Int) {a:Shp} (da:a.Dc) (n:Nat):∀ k,k≤n→(growL nextE (chL T D s a n) a k).getD k default=(chn T D s a k).2∧∀ j,j<k→errL nextE (chL T D s a n) a j=0:=by
 intro k
 induction k with
 | zero=>intro _;exact ⟨rfl,fun j hj=>by omega⟩
 | succ k ih =>
  intro hk
  obtain ⟨i1,i2⟩:=ih (by omega)
  have dk:=chn_Dc hD s da k
  have c:=kind_check hD (chn T D s a k).1 (chn T D s a k).2 k
  obtain ⟨n1,n2⟩:=kind_at hD (chn T D s a k).1 (chn T D s a k).2 k
  have sh:=kind_shape hD (chn T D s a k).1 dk k
  have e:nextE ((chL T D s a n).getD k default) (growL nextE (chL T D s a n) a k)=(kindT T D (chn T D s a k).1 (chn T D s a k).2,0):=by
   rw[chL_at T D s a (s_ (k<n))]
   rw[nextE_y c (there_k ⟨n1,n2⟩ (by omega) (by rw[growL_len];omega)),n1,n2,BV_,i1,sh]
  refine ⟨by rw[gl_last,e];rfl,fun j hj=>?_⟩
  by_cases g:j=k
  ·subst g;unfold errL;rw[e]
  ·exact i2 j (by omega)
theorem ch_flow {T:Int→Int} {D:Int→Int→Int} (hD:Dcs T D) (s:Int) {a:Shp} (da:a.Dc) {n:Nat} (hn:n≤8):∀ k,k≤n→(((growL stepR (chL T D s a n) fullR k).getD k default).lo≤((growL stepR (chL T D s a n) fullR k).getD k default).hi∧Rng.In8 ((growL stepR (chL T D s a n) fullR k).getD k default))∧∀ j,j<k→errL stepR (chL T D s a n) fullR j=0:=by
 intro k
 induction k with
 | zero=>intro _;exact ⟨⟨by show (-128:Int)≤127;decide,fullR_in⟩,fun j hj=>by omega⟩
 | succ k ih =>
  intro hk
  obtain ⟨⟨i1,i3⟩,i2⟩:=ih (by omega)
  have dk:=chn_Dc hD s da k
  obtain ⟨n1,n2⟩:=kind_at hD (chn T D s a k).1 (chn T D s a k).2 k
  have kk:In64 (k:Int):=⟨by omega,by omega⟩
  ·have okn:=kindN_ok hD (chn T D s a k).1 dk kk
   have fl:=kind_flow hD (chn T D s a k).1 dk k i1 i3
   have e:stepR ((chL T D s a n).getD k default) (growL stepR (chL T D s a n) fullR k)=nodeR (kindN T D (chn T D s a k).1 (chn T D s a k).2 k).1 ((growL stepR (chL T D s a n) fullR k).getD k default) ((growL stepR (chL T D s a n) fullR k).getD k default):=by
    rw[chL_at T D s a (s_ (k<n))]
    rw[stepR_y (there_k ⟨n1,n2⟩ (by omega) (by rw[growL_len];omega)),n1,n2,BV_]
   refine ⟨by rw[gl_last,e];exact ⟨fl.2,nodeR_in okn i3 i3⟩,fun j hj=>?_⟩
   by_cases g:j=k
   ·subst g;unfold errL;rw[e];exact fl.1
   ·exact i2 j (by omega)
theorem bkN_rng {T:Int→Int} {D:Int→Int→Int} (hD:Dcs T D) (s:Int):1≤bkN D s∧bkN D s≤2:=by
 have:=hD.b s 2 (by decide)
 unfold bkN;omega
theorem bkL_len (T:Int→Int) (D:Int→Int→Int) (s:Int) (a:Shp):(bkL T D s a).length=bkN D s:=chL_len T D (T s) a _
theorem bk_sok {T:Int→Int} {D:Int→Int→Int} (hD:Dcs T D) (s:Int) {a:Shp} (da:a.Dc):SOK (bkL T D s a) a∧lastS (bkL T D s a) a=bkA T D s a:=by
 have n:=bkN_rng hD s
 have e:=Dc_elems da
 have q:=ch_shape hD (T s) da (bkN D s) (bkN D s) (AV_ _)
 refine ⟨⟨by unfold Shp.Rt;omega,by rw[bkL_len];omega,by rw[bkL_len];omega,fun k hk=>q.2 k (by rwa [bkL_len] at hk)⟩,?_⟩
 unfold lastS shpsL
 rw[bkL_len];exact q.1
theorem bk_fok {T:Int→Int} {D:Int→Int→Int} (hD:Dcs T D) (s:Int) {a:Shp} (da:a.Dc):FOK (bkL T D s a) fullR∧(lastR (bkL T D s a)).In8:=by
 have n:=bkN_rng hD s
 have q:=ch_flow hD (T s) da (n:=bkN D s) (by omega) (bkN D s) (AV_ _)
 refine ⟨⟨by rw[bkL_len];omega,by rw[bkL_len];omega,by decide,fun k hk=>q.2 k (by rwa [bkL_len] at hk)⟩,?_⟩
 unfold lastR rchsL
 rw[bkL_len];exact q.1.2
theorem blkD_n (T:Int→Int) (D:Int→Int→Int) (s:Int) (a:Shp) (cl:Int) (last:Bool):(blkD T D s a cl last).1.n=bkL T D s a:=by
 unfold blkD
 split
 ·rfl
 ·split<;>rfl
theorem exB_ok {T:Int→Int} {D:Int→Int→Int} (hD:Dcs T D) (l:List Nod) (t:Int) {a:Shp} (da:a.Dc) {cl:Int} (hc:2≤cl∧cl≤4) {r:Rng} (hr:r.In8) (last:Bool):exitE (exB T D l t (cl*elems a.h a.x a.c) cl) a r cl last=0:=by
 have ce:=clel da hc
 have e:=Dc_elems da
 have lw:((wtsL T D t (cl*elems a.h a.x a.c).toNat).length:Int)=cl*elems a.h a.x a.c:=by rw[wtsL_len];exact CA_ (by omega)
 have lb:((biaL T D (dsN T t (cl*elems a.h a.x a.c).toNat) cl.toNat).length:Int)=cl:=by rw[biaL_len];exact CA_ (by omega)
 have d:=hD.b (dsN T (dsN T t (cl*elems a.h a.x a.c).toNat) cl.toNat) 400 (by decide)
 unfold exitE exB
 dsimp only
 rw[j_ (by simp),j_ (by simp)]
 have v0:verdE a (wtsL T D t (cl*elems a.h a.x a.c).toNat) (biaL T D (dsN T t (cl*elems a.h a.x a.c).toNat) cl.toNat) (D (dsN T (dsN T t (cl*elems a.h a.x a.c).toNat) cl.toNat) 400) cl=0:=by
  unfold verdE
  rw[j_ (by omega),j_ (by omega),j_ (by rw[lw,lb];omega),j_ (by omega)]
 rw[v0,j_ (by simp)]
 unfold headE
 have sh:sharedB (wtsL T D t (cl*elems a.h a.x a.c).toNat) (biaL T D (dsN T t (cl*elems a.h a.x a.c).toNat) cl.toNat)=true:=by
  unfold sharedB
  rw[lw,lb,N_,E_,E_]
  exact ⟨by omega,Int.mul_emod_right _ _⟩
 rw[i_ sh,i_ (all_hold _ (wtsL8 hD _ _) (by omega) (bia100 hD _ _) hr.1 hr.2 j0 _)]
theorem blk_valid {T:Int→Int} {D:Int→Int→Int} (hD:Dcs T D) (s:Int) {a:Shp} (da:a.Dc) {cl:Int} (hc:2≤cl∧cl≤4) (last:Bool):(validE (blkD T D s a cl last).1 a cl last).2=0:=by
 obtain ⟨so,sl⟩:=bk_sok hD s da
 obtain ⟨fo,fr⟩:=bk_fok hD s da
 have ex:exitE (blkD T D s a cl last).1 (bkA T D s a) (lastR (bkL T D s a)) cl last=0:=by
  unfold blkD
  split
  ·exact exB_ok hD _ _ (bkA_Dc hD s da) hc fr last
  ·split
   ·exact exB_ok hD _ _ (bkA_Dc hD s da) hc fr last
   ·rename_i g _
    unfold exitE
    dsimp only
    rw[j_ (by simp at g;simp[g]),i_ rfl]
 rw[validE_y (by rw[blkD_n];exact so) (by rw[blkD_n];exact fo),blkD_n,sl,ex,j_ (by simp)]
theorem mdb_at (T:Int→Int) (D:Int→Int→Int) (s:Int) (a:Shp) (cl N:Int) {n k:Nat} (h:k<n):(mdb T D s a cl N n).getD k default=(blkD T D (mdc T D s a cl N k).1 (mdc T D s a cl N k).2 cl ((k:Int)==N-1)).1:=by
 induction n with
 | zero=>omega
 | succ n ih =>
  rw[mdb,B_]
  by_cases e:k=n
  ·subst e;rw[AI_ (by rw[mdb_len];omega),mdb_len,Nat.sub_self];rfl
  ·rw[BL_ (by rw[mdb_len];omega),←B_];exact ih (by omega)
theorem md_in {T:Int→Int} {D:Int→Int→Int} (hD:Dcs T D) (s:Int) {a:Shp} (da:a.Dc) (cl N:Int) (n:Nat):∀ k,k≤n→inS (mdb T D s a cl N n) a k=(mdc T D s a cl N k).2:=by
 intro k
 induction k with
 | zero=>intro _;rfl
 | succ k ih =>
  intro hk
  rw[inS,ih (by omega),mdb_at T D s a cl N (s_ (k<n)),blkD_n,(bk_sok hD _ (mdc_Dc hD s da cl N k)).2];rfl
theorem md_valid {T:Int→Int} {D:Int→Int→Int} (hD:Dcs T D) (s:Int) {a:Shp} (da:a.Dc) {cl N:Int} (hc:2≤cl∧cl≤4) (hN:1≤N∧N≤3) (j:Int):modelE (mdb T D s a cl N N.toNat) a cl j=⟨0,0,0,0⟩:=by
 have ln:=mdb_len T D s a cl N N.toNat
 refine modelE_y (by omega) (by omega) fun k hk=>?_
 have e:=md_in hD s da cl N N.toNat k (by omega)
 have l2:((K_ blcC (mdb T D s a cl N N.toNat)).length:Int)=N:=by rw[X_,ln];omega
 unfold vB
 rw[e,l2,mdb_at T D s a cl N (s_ (k<N.toNat))]
 exact blk_valid hD _ (mdc_Dc hD s da cl N k) hc _
theorem bnm_at (T:Int→Int) (D:Int→Int→Int) (s:Int) (a:Shp) (cl:Int) {n k:Nat} (h:k<n):(bnm T D s a cl n).getD k default=⟨mdb T D (T (bnc T D s a cl k)) a cl (1+D (bnc T D s a cl k) 3) (1+D (bnc T D s a cl k) 3).toNat⟩:=by
 induction n with
 | zero=>omega
 | succ n ih =>
  rw[bnm,B_]
  by_cases e:k=n
  ·subst e;rw[AI_ (by rw[bnm_len];omega),bnm_len,Nat.sub_self];rfl
  ·rw[BL_ (by rw[bnm_len];omega),←B_];exact ih (by omega)
theorem bunC_rng {T:Int→Int} {D:Int→Int→Int} (hD:Dcs T D) (s:Int):2≤bunC' T D s∧bunC' T D s≤4:=by
 have:=hD.b (T (T (T s))) 3 (by decide)
 unfold bunC';omega
theorem bunD_valid {T:Int→Int} {D:Int→Int→Int} (hD:Dcs T D) (s:Int):(bunE (bunD T D s).1).w=0:=by
 have dI:=bunI_Dc hD s
 have e:=Dc_elems dI
 have hc:=bunC_rng hD s
 have hn:=hD.b (T (T (T (T s)))) 2 (by decide)
 have ln:=bnm_len T D (bunS' T s) (bunI T D s) (bunC' T D s) (bunN T D s).toNat
 have hN:1≤bunN T D s∧bunN T D s≤2:=by unfold bunN;omega
 have w:wholeE (bunD T D s).1=0:=by
  unfold wholeE bunD
  dsimp only
  rw[j_ (by omega),j_ (by omega),j_ (by omega),j_ (by omega)]
 rw[bunE_y w fun j hj=>?_]
 have hj:j<(bunN T D s).toNat:=by rw[←ln];exact hj
 have d:=hD.b (bnc T D (bunS' T s) (bunI T D s) (bunC' T D s) j) 3 (by decide)
 show modelE (((bnm T D (bunS' T s) (bunI T D s) (bunC' T D s) (bunN T D s).toNat)).getD j default).l (bunI T D s) (bunC' T D s) j=_
 rw[bnm_at T D _ _ _ hj]
 exact md_valid hD _ dI hc ⟨by omega,by omega⟩ j
theorem chL_ok {T:Int→Int} {D:Int→Int→Int} (hD:Dcs T D) (s:Int) {a:Shp} (da:a.Dc) {n:Nat} (hn:n≤8):∀ x∈chL T D s a n,x.Ok∧x.w.length≤100000∧x.b.length≤100000:=by
 induction n with
 | zero=>intro x hx;cases hx
 | succ n ih =>
  intro x hx
  rw[chL,BA_] at hx
  rcases hx with hx|hx
  ·exact ih (by omega) x hx
  ·rw[CR_] at hx;subst hx
   have d:=chn_Dc hD s da n
   refine ⟨kindN_ok hD _ d ⟨by omega,by omega⟩,?_⟩
   obtain ⟨c1,c2⟩:=id d.c
   rcases kind_cases hD (chn T D s a n).1 (chn T D s a n).2 with h|h|⟨h,h1,h2⟩|h|h
   ·have w:=w0_rng hD (chn T D s a n).1 d
    rw[kindN_0 _ _ h]
    exact ⟨by show (wtsL T D _ _).length≤100000;rw[wtsL_len];omega,by show (biaL T D _ _).length≤100000;rw[biaL_len];omega⟩
   ·rw[kindN_4 _ _ h]
    exact ⟨by show (wtsL T D _ _).length≤100000;rw[wtsL_len];omega,by show (biaL T D _ _).length≤100000;rw[biaL_len];omega⟩
   ·rw[kindN_2 _ h h1 h2];exact ⟨Nat.zero_le _,Nat.zero_le _⟩
   ·rw[kindN_3 _ _ h];exact ⟨Nat.zero_le _,Nat.zero_le _⟩
   ·rw[kindN_a _ h];exact ⟨Nat.zero_le _,Nat.zero_le _⟩
theorem exB_good {T:Int→Int} {D:Int→Int→Int} (hD:Dcs T D) {l:List Nod} (hl:∀ x∈l,x.Ok∧x.w.length≤100000∧x.b.length≤100000) (l2:l.length≤2) (t:Int) {a:Shp} (da:a.Dc) {cl:Int} (hc:2≤cl∧cl≤4):(exB T D l t (cl*elems a.h a.x a.c) cl).Ok∧(exB T D l t (cl*elems a.h a.x a.c) cl).Sm:=by
 have ce:=clel da hc
 have d:=hD.b (dsN T (dsN T t (cl*elems a.h a.x a.c).toNat) cl.toNat) 400 (by decide)
 refine ⟨⟨fun x hx=>(hl x hx).1,wtsL8 hD _ _,biaL32 hD _ _,⟨by show _≤D _ 400;omega,by show D _ 400≤_;omega⟩⟩,⟨by show l.length≤12;omega,fun x hx=>(hl x hx).2,by show (wtsL T D _ _).length≤_;rw[wtsL_len];omega,by show (biaL T D _ _).length≤_;rw[biaL_len];omega⟩⟩
theorem blkD_good {T:Int→Int} {D:Int→Int→Int} (hD:Dcs T D) (s:Int) {a:Shp} (da:a.Dc) {cl:Int} (hc:2≤cl∧cl≤4) (last:Bool):(blkD T D s a cl last).1.Ok∧(blkD T D s a cl last).1.Sm:=by
 have n:=bkN_rng hD s
 have hl:=chL_ok hD (T s) da (n:=bkN D s) (by omega)
 have l2:(chL T D (T s) a (bkN D s)).length≤2:=by rw[chL_len];omega
 unfold blkD
 split
 ·exact exB_good hD hl l2 _ (bkA_Dc hD s da) hc
 ·split
  ·exact exB_good hD hl l2 _ (bkA_Dc hD s da) hc
  ·exact ⟨⟨fun x hx=>(hl x hx).1,jn,jm,jz⟩,⟨by show (chL T D (T s) a (bkN D s)).length≤12;omega,fun x hx=>(hl x hx).2,Nat.zero_le _,Nat.zero_le _⟩⟩
theorem mdb_good {T:Int→Int} {D:Int→Int→Int} (hD:Dcs T D) (s:Int) {a:Shp} (da:a.Dc) {cl:Int} (hc:2≤cl∧cl≤4) (N:Int) (n:Nat):∀ x∈mdb T D s a cl N n,x.Ok∧x.Sm:=by
 induction n with
 | zero=>intro x hx;cases hx
 | succ n ih =>
  intro x hx
  rw[mdb,BA_] at hx
  rcases hx with hx|hx
  ·exact ih x hx
  ·rw[CR_] at hx;subst hx;exact blkD_good hD _ (mdc_Dc hD s da cl N n) hc _
theorem bnm_good {T:Int→Int} {D:Int→Int→Int} (hD:Dcs T D) (s:Int) {a:Shp} (da:a.Dc) {cl:Int} (hc:2≤cl∧cl≤4) (n:Nat):∀ m∈bnm T D s a cl n,m.l.length≤3∧∀ x∈m.l,x.Ok∧x.Sm:=by
 induction n with
 | zero=>intro x hx;cases hx
 | succ n ih =>
  intro x hx
  rw[bnm,BA_] at hx
  rcases hx with hx|hx
  ·exact ih x hx
  ·rw[CR_] at hx;subst hx
   have d:=hD.b (bnc T D s a cl n) 3 (by decide)
   exact ⟨by show (mdb T D _ _ _ _ _).length≤3;rw[mdb_len];omega,mdb_good hD _ da hc _ _⟩
theorem bunD_good {T:Int→Int} {D:Int→Int→Int} (hD:Dcs T D) (s:Int):(bunD T D s).1.Ok∧(bunD T D s).1.Sm:=by
 have dI:=bunI_Dc hD s
 have hc:=bunC_rng hD s
 have hn:=hD.b (T (T (T (T s)))) 2 (by decide)
 have g:=bnm_good hD (bunS' T s) dI hc (bunN T D s).toNat
 obtain ⟨⟨h1,h2⟩,⟨x1,x2⟩,⟨c1,c2⟩⟩:=dI
 refine ⟨⟨⟨by show _≤(bunI T D s).h;omega,by show (bunI T D s).h≤_;omega⟩,⟨by show _≤(bunI T D s).x;omega,by show (bunI T D s).x≤_;omega⟩,⟨by show _≤(bunI T D s).c;omega,by show (bunI T D s).c≤_;omega⟩,⟨by show _≤bunC' T D s;omega,by show bunC' T D s≤_;omega⟩,fun d hd=>⟨fun x hx=>((g d hd).2 x hx).1⟩⟩,⟨?_,fun d hd=>⟨by have:=(g d hd).1;omega,fun x hx=>((g d hd).2 x hx).2⟩⟩⟩
 show (bnm T D _ _ _ _).length≤4
 rw[bnm_len];unfold bunN;omega
theorem dcs:Dcs dst dbel:=⟨dbelow_v,rdbelow_v,fun s n h=>dbel_rng s h⟩
theorem known49_v   : VC O_ 15 ([]) (bv true):=by
 have q:(dmix (dst 0)==16294208416658607535)=true:=by decide
 have oz0:=@roll_v (0)
 have oz1:=@dnext_v (0)
 exact cR_ [r_,.r [] [.callm [] [(951,20000)] (rM oz0) (oM oz0),.callm [(20000,100000)] [] (rM oz1) (oM oz1)]] _ Try.func15 (.d2 oz0 oz1)
theorem Bun.Sm.sz' {u:Bun} (h:u.Sm):u.Sz:=⟨by have:=h.l;omega,fun m hm=>⟨by have:=(h.m m hm).1;omega,fun x hx=>⟨by have:=((h.m m hm).2 x hx).l;omega,((h.m m hm).2 x hx).s,((h.m m hm).2 x hx).w,((h.m m hm).2 x hx).b⟩⟩⟩
theorem nodEq_rfl' (n:Nod):nodEq n n=true:=(nodEq_iff _ _).2 rfl
theorem blcEq_rfl' (x:Blc):blcEq x x=true:=by
 unfold blcEq
 rw[zip_refl fun n _=>nodEq_rfl' n];simp
theorem mdlEq_rfl' (m:Mdl):mdlEq m m=true:=zip_refl fun x _=>blcEq_rfl' x
theorem bunEq_rfl' (u:Bun):bunEq u u=true:=by
 unfold bunEq
 rw[zip_refl fun x _=>mdlEq_rfl' x];simp
theorem craft_g (T:Int→Int) (D:Int→Int→Int) (hD:Dcs T D) (hk:VC O_ 15 [] (bv true)) (s:Int):VC O_ 3 [u64 s] (bv true):=by
 obtain ⟨ok,sm⟩:=bunD_good hD s
 have v:=bunD_valid hD s
 have dI:=bunI_Dc hD s
 have h6:=lbn_v (bunD T D s).1 (bunD T D s).1 sm.sz'
 rw[bunEq_rfl'] at h6
 have h7:=vright_v (bunD T D s).1 ok sm
 rw[beq_t v] at h7
 exact craftB_v T D s (bunD T D s).2 (bunD T D s).1 hD ok sm dI h7 (dbun_v T D s hD) (rdbun_v T D s hD) (dinput_v T D (bunD T D s).2 (bunI T D s) hD dI) h6 hk
theorem craftBundles_v (s:Int):VC O_ 3 [u64 s] (bv true):=craft_g dst dbel dcs known49_v s
end Go.Proofs.Ytdfihaminnmgpaa
