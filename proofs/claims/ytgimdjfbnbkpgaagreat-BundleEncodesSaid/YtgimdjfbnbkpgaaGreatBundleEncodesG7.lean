/- A part of this claim. No condition. -/
import Derived.Test.YtgimdjfbnbkpgaaGreatBundleEncodesG6
set_option maxRecDepth 100000
set_option maxHeartbeats 2000000
set_option linter.unusedVariables false
set_option linter.unusedSimpArgs false
set_option linter.unnecessarySimpa false
namespace Go.Proofs.YtgimdjfbnbkpgaaGreat
open Go.RowKit
open BlkW renaming rows→AG_
open Bool renaming and_eq_true→P_,and_eq_false_iff→S_,or_eq_false_iff→T_,not_eq_false'→U_,not_eq_true'→W_,or_eq_true→Z_,and_true→C_,false_and→AE_,not_eq_eq_eq_not→BK_,not_false→BN_,true_and→BO_,and_false→BP_,not_true→BQ_,false_or→BR_,or_false→BC_
open Exit renaming exit→AF_,ret→CA_
open Int renaming toNat_natCast→AJ_,tdiv_eq_ediv_of_nonneg→BF_,not_lt→CL_,tmod_eq_emod_of_nonneg→CX_,not_le→CF_
open IntWalk renaming i32_in→CR_
open List renaming map→K_,length_map→N_,length_append→O_,map_replicate→X_,map_append→A_,map_cons→D_,map_take→AM_,map_drop→AN_,map_nil→AO_,map_set→AP_,getD_eq_getElem?_getD→AU_,getElem?_map→AV_,length_cons→AC_,length_replicate→AH_,eq_nil_of_length_eq_zero→AI_,length_take→BL_,map_eq_nil_iff→BT_,take→BV_,drop→BW_,length_drop→BX_,length_range→BY_,length_nil→BB_,length_set→BD_,all_eq_true→CZ_
open Nat renaming le_refl→AX_,zero_add→BU_,le_of_lt→CD_
open Tryz renaming prog→L_
open Value renaming slice→AY_
open Weak renaming int→R_,bool→AZ_,tup→AA_,agg→AD_,nil→CK_,rows→CP_
open WeakL renaming refl→B_
def blocksE:List Blc→Int
 | []=>0
 | x::l=>if (blockR x).2≠0 then (blockR x).2 else blocksE l
theorem blocksE_y {l:List Blc}:(∀ k,k<l.length→(blockR (l.getD k default)).2=0)→blocksE l=0:=by
 induction l with
 | nil=>intro _;rfl
 | cons n l ih =>
  intro h
  have h0:(blockR n).2=0:=h 0 (by simp)
  rw[blocksE,j_ (by simpa using h0)]
  exact ih fun k hk=>h (k+1) (by simpa using hk)
theorem blocksE_n {l:List Blc}:∀ {m:Nat},m<l.length→(blockR (l.getD m default)).2≠0→(∀ k,k<m→(blockR (l.getD k default)).2=0)→blocksE l=(blockR (l.getD m default)).2:=by
 induction l with
 | nil=>intro m hm;simp at hm
 | cons n l ih =>
  intro m hm hf h
  cases m with
  | zero=>rw[blocksE,i_ (by exact hf)];rfl
  | succ m =>
   have h0:(blockR n).2=0:=h 0 (by omega)
   rw[blocksE,j_ (by simpa using h0)]
   exact ih (by simpa using hm) hf fun k hk=>h (k+1) (by omega)
def accM (l:List Blc) (B:List Int):Nat→List Int
 | 0=>B
 | k+1=>accM l B k++(blockR (l.getD k default)).1
structure Mdl.Fw (m:Mdl):Prop where
 b:∀ x∈m.l,Blc.Fw x
 l:m.l.length≤8
theorem Blc.Fw.n3 {x:Blc} (h:x.Fw):∀ n∈x.n,n.w.length≤3000∧n.b.length≤3000:=fun n hn=>by have:=h.n n hn;omega
theorem accM_le {m:Mdl} (h:m.Fw) (B:List Int) {k:Nat} (hk:k≤m.l.length):(accM m.l B k).length≤B.length+50000*k:=by
 induction k with
 | zero=>exact AX_ _
 | succ k ih =>
  have a:=ih (by omega)
  have b:=blockR_few (getD_in h.b (show k<m.l.length by omega))
  rw[accM,O_];omega
def modelR (m:Mdl):List Int×Int:=if 6<m.l.length then ([],4) else if blocksE m.l≠0 then ([],blocksE m.l) else (accM m.l (putN (m.l.length:Int)) m.l.length,0)
noncomputable def pmod_y_I (m:Mdl) (B:List Int) (k:Nat):VS:=stt 50 [(1,.ptr 1 0 0),(4,.ptr 15 0 0),(22,.sl 5 (m.l.map blcC)),(23,i64 m.l.length),(24,i64 k)] [(1,.var (mdlC m)),(15,.var [.own 900]),(900,.slc 5 1 ((accM m.l B k).map (row1 .u8)))]
noncomputable def pmod_y_Z (m:Mdl) (B:List Int):VS:=pmod_y_I m B (m.l.length)
theorem pmod_y_s (m:Mdl) (B:List Int) (fw:m.Fw) (hB:B.length≤10) (h:∀ k,k<m.l.length→(blockR (m.l.getD k default)).2=0) (k:Nat) (hk:k<m.l.length):VT L_ (fnC Tryz.f54 [1,1,1,1,1,0,1,0,0]) (pmod_y_I m B k) .normal (pmod_y_I m B (k+1)):=by
 have q:=h k hk
 have q1:=getD_in fw.b hk
 have q2:=q1.ok
 have q3:=q1.n3
 have q4:=accM_le fw B (CD_ hk)
 have q5:=blockR_few q1
 have q6:=fw.l
 have oz2:=(map_at (blcC) (default) (l:=m.l) (i:=k) hk)
 have oz3:=@pblock_v (m.l.getD k default) q2 q3
 exact VT.run (W:=[r_,b_,.r [] [.row (sO oz2)],.r [] [.callr (rO oz3)],r_,d_,r_,.r [] [.n ((↑k:Int)+1)]]) (G:=[.any (rg [(7,3),(25,10),(36,10)]),.drop [7],.ren 42 900,.weak 24 (i64 (↑(k+1):Int)),.blk 900 (Blk.slc 5 1 (K_ (row1 .u8) (accM m.l B (k+1)))),.sort]) (by kernel_rfl) (.c (decide_eq_true (p:=((↑k:Int)<(m.l.length:Int))) (by omega))<|.c (show 0≤(↑k:Int) by omega)<|.c oz2<|.c oz3<|.c (show ((blockR (m.l.getD k default)).snd != 0)=false by (simp at *;omega))<|.c (show ((K_ (row1 .u8) (accM m.l B k)).length+(K_ (row1 .u8) (blockR (m.l.getD k default)).fst).length)*1≤140737488355328 by (simp only[N_];omega))<|.c (show (K_ (row1 .u8) (accM m.l B k)).length+(K_ (row1 .u8) (blockR (m.l.getD k default)).fst).length≤9223372036854775807 by (simp only[N_];omega))<|.c (i6n ((↑k:Int)+1) (by omega))<|.c (wS_ k)<|.c (show BlkW (Blk.slc 5 1 (K_ (row1 .u8) (accM m.l B k)++K_ (row1 .u8) (blockR (m.l.getD k default)).fst)) (Blk.slc 5 1 (K_ (row1 .u8) (accM m.l B (k+1)))) from (AG_ (e:=5) (z:=1) (rows_to (row1 .u8) (r:=K_ (row1 .u8) (accM m.l B k)++K_ (row1 .u8) (blockR (m.l.getD k default)).fst) (l:=accM m.l B k++(blockR (m.l.getD k default)).fst) (m:=accM m.l B (k+1)) (by first|(simp only[A_,D_,AO_,AP_,X_,AM_,AN_];done)|rfl|(simp only[A_,D_,AO_,AP_,X_,AM_,AN_];rfl)) (show (accM m.l B k++(blockR (m.l.getD k default)).fst)=(accM m.l B (k+1)) from (by rfl)))))<|.n)
theorem pmod_y_e (m:Mdl) (B:List Int) (fw:m.Fw) (hB:B.length≤10) (h:∀ k,k<m.l.length→(blockR (m.l.getD k default)).2=0):VT L_ (fnC Tryz.f54 [1,1,1,1,1,0,1,0,0]) (pmod_y_I m B (m.l.length)) (.exit 0) (pmod_y_Z m B):=by
 exact VT.run (W:=[r_,d_]) (G:=[.any [25],.sort]) (by kernel_rfl) (.c (decide_eq_false (p:=((m.l.length:Int)<(m.l.length:Int))) (by omega))<|.n)
theorem pmod_y (m:Mdl) (B:List Int) (fw:m.Fw) (hB:B.length≤10) (h:∀ k,k<m.l.length→(blockR (m.l.getD k default)).2=0):VT L_ (fnC Tryz.f54 [1,1,1,1,1,0,1,0]) (pmod_y_I m B 0) (.exit 0) (pmod_y_Z m B) :=
 VT.loop (fun k=>pmod_y_I m B k) (m.l.length) (fun k hk=>pmod_y_s m B fw hB h k hk) (pmod_y_e m B fw hB h) (by intro h;cases h)
noncomputable def pmod_n_I (m:Mdl) (B:List Int) (j:Nat) (k:Nat):VS:=stt 50 [(1,.ptr 1 0 0),(4,.ptr 15 0 0),(22,.sl 5 (m.l.map blcC)),(23,i64 m.l.length),(24,i64 k)] [(1,.var (mdlC m)),(15,.var [.own 900]),(900,.slc 5 1 ((accM m.l B k).map (row1 .u8)))]
noncomputable def pmod_n_Z (m:Mdl) (B:List Int) (j:Nat):VS:=stt 50 [(2,nilv),(3,i64 (blockR (m.l.getD j default)).2)] []
theorem pmod_n_s (m:Mdl) (B:List Int) (j:Nat) (fw:m.Fw) (hB:B.length≤10) (hj:j<m.l.length) (hf:(blockR (m.l.getD j default)).2≠0) (h:∀ k,k<j→(blockR (m.l.getD k default)).2=0) (k:Nat) (hk:k<j):VT L_ (fnC Tryz.f54 [1,1,1,1,1,0,1,0,0]) (pmod_n_I m B j k) .normal (pmod_n_I m B j (k+1)):=by
 have q:=h k hk
 have q0:k<m.l.length:=by omega
 have q1:=getD_in fw.b q0
 have q2:=q1.ok
 have q3:=q1.n3
 have q4:=accM_le fw B (CD_ q0)
 have q5:=blockR_few q1
 have q6:=fw.l
 have oz2:=(map_at (blcC) (default) (l:=m.l) (i:=k) q0)
 have oz3:=@pblock_v (m.l.getD k default) q2 q3
 exact VT.run (W:=[r_,b_,.r [] [.row (sO oz2)],.r [] [.callr (rO oz3)],r_,d_,r_,.r [] [.n ((↑k:Int)+1)]]) (G:=[.any (rg [(7,3),(25,10),(36,10)]),.drop [7],.ren 42 900,.weak 24 (i64 (↑(k+1):Int)),.blk 900 (Blk.slc 5 1 (K_ (row1 .u8) (accM m.l B (k+1)))),.sort]) (by kernel_rfl) (.c (decide_eq_true (p:=((↑k:Int)<(m.l.length:Int))) (by omega))<|.c (show 0≤(↑k:Int) by omega)<|.c oz2<|.c oz3<|.c (show ((blockR (m.l.getD k default)).snd != 0)=false by (simp at *;omega))<|.c (show ((K_ (row1 .u8) (accM m.l B k)).length+(K_ (row1 .u8) (blockR (m.l.getD k default)).fst).length)*1≤140737488355328 by (simp only[N_];omega))<|.c (show (K_ (row1 .u8) (accM m.l B k)).length+(K_ (row1 .u8) (blockR (m.l.getD k default)).fst).length≤9223372036854775807 by (simp only[N_];omega))<|.c (i6n ((↑k:Int)+1) (by omega))<|.c (wS_ k)<|.c (show BlkW (Blk.slc 5 1 (K_ (row1 .u8) (accM m.l B k)++K_ (row1 .u8) (blockR (m.l.getD k default)).fst)) (Blk.slc 5 1 (K_ (row1 .u8) (accM m.l B (k+1)))) from (AG_ (e:=5) (z:=1) (rows_to (row1 .u8) (r:=K_ (row1 .u8) (accM m.l B k)++K_ (row1 .u8) (blockR (m.l.getD k default)).fst) (l:=accM m.l B k++(blockR (m.l.getD k default)).fst) (m:=accM m.l B (k+1)) (by first|(simp only[A_,D_,AO_,AP_,X_,AM_,AN_];done)|rfl|(simp only[A_,D_,AO_,AP_,X_,AM_,AN_];rfl)) (show (accM m.l B k++(blockR (m.l.getD k default)).fst)=(accM m.l B (k+1)) from (by rfl)))))<|.n)
theorem pmod_n_e (m:Mdl) (B:List Int) (j:Nat) (fw:m.Fw) (hB:B.length≤10) (hj:j<m.l.length) (hf:(blockR (m.l.getD j default)).2≠0) (h:∀ k,k<j→(blockR (m.l.getD k default)).2=0):VT L_ (fnC Tryz.f54 [1,1,1,1,1,0,1,0,0]) (pmod_n_I m B j (j)) (.ret) (pmod_n_Z m B j):=by
 have q1:=getD_in fw.b hj
 have q2:=q1.ok
 have q3:=q1.n3
 have oz2:=(map_at (blcC) (default) (l:=m.l) (i:=j) hj)
 have oz3:=@pblock_v (m.l.getD j default) q2 q3
 exact VT.run (W:=[r_,b_,.r [] [.row (sO oz2)],.r [] [.callr (rO oz3)],r_,b_,r_]) (G:=[.any (rg [(1,1),(4,1),(7,3),(22,14)]),.drop [1,15,900,7],.sort]) (by kernel_rfl) (.c (decide_eq_true (p:=((↑j:Int)<(m.l.length:Int))) (by omega))<|.c (show 0≤(↑j:Int) by omega)<|.c oz2<|.c oz3<|.c (show ((blockR (m.l.getD j default)).snd != 0)=true by (simp at *;omega))<|.n)
theorem pmod_n (m:Mdl) (B:List Int) (j:Nat) (fw:m.Fw) (hB:B.length≤10) (hj:j<m.l.length) (hf:(blockR (m.l.getD j default)).2≠0) (h:∀ k,k<j→(blockR (m.l.getD k default)).2=0):VT L_ (fnC Tryz.f54 [1,1,1,1,1,0,1,0]) (pmod_n_I m B j 0) (.ret) (pmod_n_Z m B j) :=
 VT.loop (fun k=>pmod_n_I m B j k) (j) (fun k hk=>pmod_n_s m B j fw hB hj hf h k hk) (pmod_n_e m B j fw hB hj hf h) (by intro h;cases h)
noncomputable def rmod_y_I (m:Mdl) (B:List Int) (k:Nat):VS:=stt 39 [(1,.ptr 1 0 0),(4,.own 900),(5,i64 k)] [(1,.var (mdlC m)),(900,.slc 5 1 ((accM m.l B k).map (row1 .u8)))]
noncomputable def rmod_y_Z (m:Mdl) (B:List Int):VS:=rmod_y_I m B (m.l.length)
theorem rmod_y_s (m:Mdl) (B:List Int) (fw:m.Fw) (hB:B.length≤10) (h:∀ k,k<m.l.length→(blockR (m.l.getD k default)).2=0) (k:Nat) (hk:k<m.l.length):VT L_ (fnC Tryz.f56 [1,1,1,0,1,0,0]) (rmod_y_I m B k) .normal (rmod_y_I m B (k+1)):=by
 have q:=h k hk
 have q1:=getD_in fw.b hk
 have q2:=q1.ok
 have q3:=q1.n3
 have q4:=accM_le fw B (CD_ hk)
 have q5:=blockR_few q1
 have q6:=fw.l
 have oz2:=(map_at (blcC) (default) (l:=m.l) (i:=k) hk)
 have oz3:=@rblock_v (m.l.getD k default) q2 q3
 exact VT.run (W:=[r_,b_,.r [] [.row (sO oz2),.callr (rO oz3)],r_,d_,r_,.r [] [.n ((↑k:Int)+1)]]) (G:=[.any (rg [(6,2),(16,18),(35,3)]),.ren 37 900,.weak 5 (i64 (↑(k+1):Int)),.blk 900 (Blk.slc 5 1 (K_ (row1 .u8) (accM m.l B (k+1)))),.sort]) (by kernel_rfl) (.c (show decide ((↑k:Int)<((K_ blcC m.l).length:Int))=true by (simp;omega))<|.c (show 0≤(↑k:Int) by omega)<|.c oz2<|.c oz3<|.c (show ((blockR (m.l.getD k default)).snd != 0)=false by (simp at *;omega))<|.c (show ((K_ (row1 .u8) (accM m.l B k)).length+(K_ (row1 .u8) (blockR (m.l.getD k default)).fst).length)*1≤140737488355328 by (simp only[N_];omega))<|.c (show (K_ (row1 .u8) (accM m.l B k)).length+(K_ (row1 .u8) (blockR (m.l.getD k default)).fst).length≤9223372036854775807 by (simp only[N_];omega))<|.c (i6n ((↑k:Int)+1) (by omega))<|.c (wS_ k)<|.c (show BlkW (Blk.slc 5 1 (K_ (row1 .u8) (accM m.l B k)++K_ (row1 .u8) (blockR (m.l.getD k default)).fst)) (Blk.slc 5 1 (K_ (row1 .u8) (accM m.l B (k+1)))) from (AG_ (e:=5) (z:=1) (rows_to (row1 .u8) (r:=K_ (row1 .u8) (accM m.l B k)++K_ (row1 .u8) (blockR (m.l.getD k default)).fst) (l:=accM m.l B k++(blockR (m.l.getD k default)).fst) (m:=accM m.l B (k+1)) (by first|(simp only[A_,D_,AO_,AP_,X_,AM_,AN_];done)|rfl|(simp only[A_,D_,AO_,AP_,X_,AM_,AN_];rfl)) (show (accM m.l B k++(blockR (m.l.getD k default)).fst)=(accM m.l B (k+1)) from (by rfl)))))<|.n)
theorem rmod_y_e (m:Mdl) (B:List Int) (fw:m.Fw) (hB:B.length≤10) (h:∀ k,k<m.l.length→(blockR (m.l.getD k default)).2=0):VT L_ (fnC Tryz.f56 [1,1,1,0,1,0,0]) (rmod_y_I m B (m.l.length)) (.exit 0) (rmod_y_Z m B):=by
 exact VT.run (W:=[r_,d_]) (G:=[.any (rg [(16,5)]),.sort]) (by kernel_rfl) (.c (show decide ((m.l.length:Int)<((K_ blcC m.l).length:Int))=false by (simp;done))<|.n)
theorem rmod_y (m:Mdl) (B:List Int) (fw:m.Fw) (hB:B.length≤10) (h:∀ k,k<m.l.length→(blockR (m.l.getD k default)).2=0):VT L_ (fnC Tryz.f56 [1,1,1,0,1,0]) (rmod_y_I m B 0) (.exit 0) (rmod_y_Z m B) :=
 VT.loop (fun k=>rmod_y_I m B k) (m.l.length) (fun k hk=>rmod_y_s m B fw hB h k hk) (rmod_y_e m B fw hB h) (by intro h;cases h)
noncomputable def rmod_n_I (m:Mdl) (B:List Int) (j:Nat) (k:Nat):VS:=stt 39 [(1,.ptr 1 0 0),(4,.own 900),(5,i64 k)] [(1,.var (mdlC m)),(900,.slc 5 1 ((accM m.l B k).map (row1 .u8)))]
noncomputable def rmod_n_Z (m:Mdl) (B:List Int) (j:Nat):VS:=stt 39 [(2,nilv),(3,i64 (blockR (m.l.getD j default)).2)] []
theorem rmod_n_s (m:Mdl) (B:List Int) (j:Nat) (fw:m.Fw) (hB:B.length≤10) (hj:j<m.l.length) (hf:(blockR (m.l.getD j default)).2≠0) (h:∀ k,k<j→(blockR (m.l.getD k default)).2=0) (k:Nat) (hk:k<j):VT L_ (fnC Tryz.f56 [1,1,1,0,1,0,0]) (rmod_n_I m B j k) .normal (rmod_n_I m B j (k+1)):=by
 have q:=h k hk
 have q0:k<m.l.length:=by omega
 have q1:=getD_in fw.b q0
 have q2:=q1.ok
 have q3:=q1.n3
 have q4:=accM_le fw B (CD_ q0)
 have q5:=blockR_few q1
 have q6:=fw.l
 have oz2:=(map_at (blcC) (default) (l:=m.l) (i:=k) q0)
 have oz3:=@rblock_v (m.l.getD k default) q2 q3
 exact VT.run (W:=[r_,b_,.r [] [.row (sO oz2),.callr (rO oz3)],r_,d_,r_,.r [] [.n ((↑k:Int)+1)]]) (G:=[.any (rg [(6,2),(16,18),(35,3)]),.ren 37 900,.weak 5 (i64 (↑(k+1):Int)),.blk 900 (Blk.slc 5 1 (K_ (row1 .u8) (accM m.l B (k+1)))),.sort]) (by kernel_rfl) (.c (show decide ((↑k:Int)<((K_ blcC m.l).length:Int))=true by (simp;omega))<|.c (show 0≤(↑k:Int) by omega)<|.c oz2<|.c oz3<|.c (show ((blockR (m.l.getD k default)).snd != 0)=false by (simp at *;omega))<|.c (show ((K_ (row1 .u8) (accM m.l B k)).length+(K_ (row1 .u8) (blockR (m.l.getD k default)).fst).length)*1≤140737488355328 by (simp only[N_];omega))<|.c (show (K_ (row1 .u8) (accM m.l B k)).length+(K_ (row1 .u8) (blockR (m.l.getD k default)).fst).length≤9223372036854775807 by (simp only[N_];omega))<|.c (i6n ((↑k:Int)+1) (by omega))<|.c (wS_ k)<|.c (show BlkW (Blk.slc 5 1 (K_ (row1 .u8) (accM m.l B k)++K_ (row1 .u8) (blockR (m.l.getD k default)).fst)) (Blk.slc 5 1 (K_ (row1 .u8) (accM m.l B (k+1)))) from (AG_ (e:=5) (z:=1) (rows_to (row1 .u8) (r:=K_ (row1 .u8) (accM m.l B k)++K_ (row1 .u8) (blockR (m.l.getD k default)).fst) (l:=accM m.l B k++(blockR (m.l.getD k default)).fst) (m:=accM m.l B (k+1)) (by first|(simp only[A_,D_,AO_,AP_,X_,AM_,AN_];done)|rfl|(simp only[A_,D_,AO_,AP_,X_,AM_,AN_];rfl)) (show (accM m.l B k++(blockR (m.l.getD k default)).fst)=(accM m.l B (k+1)) from (by rfl)))))<|.n)
theorem rmod_n_e (m:Mdl) (B:List Int) (j:Nat) (fw:m.Fw) (hB:B.length≤10) (hj:j<m.l.length) (hf:(blockR (m.l.getD j default)).2≠0) (h:∀ k,k<j→(blockR (m.l.getD k default)).2=0):VT L_ (fnC Tryz.f56 [1,1,1,0,1,0,0]) (rmod_n_I m B j (j)) (.ret) (rmod_n_Z m B j):=by
 have q1:=getD_in fw.b hj
 have q2:=q1.ok
 have q3:=q1.n3
 have oz2:=(map_at (blcC) (default) (l:=m.l) (i:=j) hj)
 have oz3:=@rblock_v (m.l.getD j default) q2 q3
 exact VT.run (W:=[r_,b_,.r [] [.row (sO oz2),.callr (rO oz3)],r_,b_,r_]) (G:=[.any (rg [(1,1),(4,4),(16,5),(23,12)]),.drop [1,900],.sort]) (by kernel_rfl) (.c (show decide ((↑j:Int)<((K_ blcC m.l).length:Int))=true by (simp;omega))<|.c (show 0≤(↑j:Int) by omega)<|.c oz2<|.c oz3<|.c (show ((blockR (m.l.getD j default)).snd != 0)=true by (simp at *;omega))<|.n)
theorem rmod_n (m:Mdl) (B:List Int) (j:Nat) (fw:m.Fw) (hB:B.length≤10) (hj:j<m.l.length) (hf:(blockR (m.l.getD j default)).2≠0) (h:∀ k,k<j→(blockR (m.l.getD k default)).2=0):VT L_ (fnC Tryz.f56 [1,1,1,0,1,0]) (rmod_n_I m B j 0) (.ret) (rmod_n_Z m B j) :=
 VT.loop (fun k=>rmod_n_I m B j k) (j) (fun k hk=>rmod_n_s m B j fw hB hj hf h k hk) (rmod_n_e m B j fw hB hj hf h) (by intro h;cases h)
theorem pmodel_f (m:Mdl) (h:6<m.l.length):VC L_ 54 ([.agg (mdlC m)]) (.tup [.sl 1 (([]:List Int).map (row1 .u8)),i64 4]):=by
 exact (VC.run (fn:=Tryz.f54) (W:=[r_,r_,b_,r_]) (r:=AV.tup [AV.lit (AY_ none 0 0),i64 4]) Tryz.func54 (by kernel_rfl) (.c (show decide (((K_ blcC m.l).length:Int)>6)=true by (simp;omega))<|.n)).weak (B_ _) (AA_ (.cons (CK_ _) (.cons (.refl _) .nil)))
theorem pmodel_n (L:Int→List Int) (m:Mdl) (j:Nat) (hL:Puts L) (fw:m.Fw) (hl:m.l.length≤6) (hj:j<m.l.length) (hf:(blockR (m.l.getD j default)).2≠0) (h:∀ k,k<j→(blockR (m.l.getD k default)).2=0):VC L_ 54 ([.agg (mdlC m)]) (.tup [.sl 1 (([]:List Int).map (row1 .u8)),i64 (blockR (m.l.getD j default)).2]):=by
 have hB:([]++L (m.l.length:Int)).length≤10:=hL.l _
 have oz1:=@VM.pre _ _ ([AV.ptr 100000 0 0,AV.ptr 100001 0 0,i64 6]) _ ([(100000,Blk.var [AV.lit (AY_ none 0 0)]),(100001,Blk.var [i64 ((K_ blcC m.l).length:Int)])]) _ _ _ ([GI.nilc 950 5 1 100000 0,GI.sort]) _ (@lnum_1 ([]) (L) (((K_ blcC m.l).length:Int)) (6) (by (simp;done)) hL) (by kernel_rfl) (.n)
 have oz5:=@pmod_n (Mdl.mk m.l) ([]++L ((K_ blcC m.l).length:Int)) (j) fw (by (simp only[N_] at *;omega)) hj hf h
 exact (VC.run (fn:=Tryz.f54) (W:=[r_,r_,d_,r_,r_,.r [] [.callm [(15,100000),(5,100001)] [(951,20000)] (rM oz1) (oM oz1)],r_,.code [.any (rg [(0,1),(2,2),(5,1),(10,12)]),.drop [5],.ren 20000 900,.weak 23 (i64 (m.l.length:Int)),.weak 24 (i64 (↑0:Int)),.blk 900 (Blk.slc 5 1 (K_ (row1 .u8) (accM m.l ([]++L ((K_ blcC m.l).length:Int)) 0))),.sort] (CA_) (zO oz5)]) (r:=AV.tup [AV.lit (AY_ none 0 0),i64 (blockR (m.l.getD j default)).snd]) Tryz.func54 (by kernel_rfl) (.c (show decide (((K_ blcC m.l).length:Int)>6)=false by (simp;omega))<|.c oz1<|.c (R_ (k:=.i64) (show ((((K_ blcC m.l).length:Int)):Int)=((m.l.length:Int)) from (by (simp;done))))<|.c w0_<|.c (show BlkW (Blk.slc 5 1 (K_ (row1 .u8) ([]++L ((K_ blcC m.l).length:Int)))) (Blk.slc 5 1 (K_ (row1 .u8) (accM m.l ([]++L ((K_ blcC m.l).length:Int)) 0))) from (AG_ (e:=5) (z:=1) (rows_to (row1 .u8) (r:=K_ (row1 .u8) ([]++L ((K_ blcC m.l).length:Int))) (l:=[]++L ((K_ blcC m.l).length:Int)) (m:=accM m.l ([]++L ((K_ blcC m.l).length:Int)) 0) rfl (show ([]++L ((K_ blcC m.l).length:Int))=(accM m.l ([]++L ((K_ blcC m.l).length:Int)) 0) from (by rfl)))))<|.c oz5<|.n)).weak (B_ _) (AA_ (.cons (CK_ _) (.cons (.refl _) .nil)))
theorem pmodel_y (L:Int→List Int) (m:Mdl) (hL:Puts L) (fw:m.Fw) (hl:m.l.length≤6) (h:∀ k,k<m.l.length→(blockR (m.l.getD k default)).2=0):VC L_ 54 ([.agg (mdlC m)]) (.tup [.sl 1 ((accM m.l ([]++L (m.l.length:Int)) m.l.length).map (row1 .u8)),i64 0]):=by
 have hB:([]++L (m.l.length:Int)).length≤10:=hL.l _
 have oz1:=@VM.pre _ _ ([AV.ptr 100000 0 0,AV.ptr 100001 0 0,i64 6]) _ ([(100000,Blk.var [AV.lit (AY_ none 0 0)]),(100001,Blk.var [i64 ((K_ blcC m.l).length:Int)])]) _ _ _ ([GI.nilc 950 5 1 100000 0,GI.sort]) _ (@lnum_1 ([]) (L) (((K_ blcC m.l).length:Int)) (6) (by (simp;done)) hL) (by kernel_rfl) (.n)
 have oz5:=@pmod_y (Mdl.mk m.l) ([]++L ((K_ blcC m.l).length:Int)) fw (by (simp only[N_] at *;omega)) h
 exact (VC.run (fn:=Tryz.f54) (W:=[r_,r_,d_,r_,r_,.r [] [.callm [(15,100000),(5,100001)] [(951,20000)] (rM oz1) (oM oz1)],r_,.code [.any (rg [(0,1),(2,2),(5,1),(10,12)]),.drop [5],.ren 20000 900,.weak 23 (i64 (m.l.length:Int)),.weak 24 (i64 (↑0:Int)),.blk 900 (Blk.slc 5 1 (K_ (row1 .u8) (accM m.l ([]++L ((K_ blcC m.l).length:Int)) 0))),.sort] (AF_ 0) (zO oz5),r_]) (r:=AV.tup [AV.sl 1 (K_ (row1 .u8) (accM m.l ([]++L ((K_ blcC m.l).length:Int)) m.l.length)),i64 0]) Tryz.func54 (by kernel_rfl) (.c (show decide (((K_ blcC m.l).length:Int)>6)=false by (simp;omega))<|.c oz1<|.c (R_ (k:=.i64) (show ((((K_ blcC m.l).length:Int)):Int)=((m.l.length:Int)) from (by (simp;done))))<|.c w0_<|.c (show BlkW (Blk.slc 5 1 (K_ (row1 .u8) ([]++L ((K_ blcC m.l).length:Int)))) (Blk.slc 5 1 (K_ (row1 .u8) (accM m.l ([]++L ((K_ blcC m.l).length:Int)) 0))) from (AG_ (e:=5) (z:=1) (rows_to (row1 .u8) (r:=K_ (row1 .u8) ([]++L ((K_ blcC m.l).length:Int))) (l:=[]++L ((K_ blcC m.l).length:Int)) (m:=accM m.l ([]++L ((K_ blcC m.l).length:Int)) 0) rfl (show ([]++L ((K_ blcC m.l).length:Int))=(accM m.l ([]++L ((K_ blcC m.l).length:Int)) 0) from (by rfl)))))<|.c oz5<|.n)).weak (B_ _) (AA_ (.cons (CP_ (rows_to (row1 .u8) (r:=K_ (row1 .u8) (accM m.l ([]++L ((K_ blcC m.l).length:Int)) m.l.length)) (l:=accM m.l ([]++L ((K_ blcC m.l).length:Int)) m.l.length) (m:=accM m.l ([]++L (m.l.length:Int)) m.l.length) rfl (show (accM m.l ([]++L ((K_ blcC m.l).length:Int)) m.l.length)=(accM m.l ([]++L (m.l.length:Int)) m.l.length) from (by (simp;done))))) (.cons (.refl _) .nil)))
theorem rmodel_f (m:Mdl) (h:6<m.l.length):VC L_ 56 ([.agg (mdlC m)]) (.tup [.sl 1 (([]:List Int).map (row1 .u8)),i64 4]):=by
 exact (VC.run (fn:=Tryz.f56) (W:=[r_,r_,b_,r_]) (r:=AV.tup [AV.lit (AY_ none 0 0),i64 4]) Tryz.func56 (by kernel_rfl) (.c (show decide (((K_ blcC m.l).length:Int)>6)=true by (simp;omega))<|.n)).weak (B_ _) (AA_ (.cons (CK_ _) (.cons (.refl _) .nil)))
theorem rmodel_n (L:Int→List Int) (m:Mdl) (j:Nat) (hL:RPuts L) (fw:m.Fw) (hl:m.l.length≤6) (hj:j<m.l.length) (hf:(blockR (m.l.getD j default)).2≠0) (h:∀ k,k<j→(blockR (m.l.getD k default)).2=0):VC L_ 56 ([.agg (mdlC m)]) (.tup [.sl 1 (([]:List Int).map (row1 .u8)),i64 (blockR (m.l.getD j default)).2]):=by
 have hB:([]++L (m.l.length:Int)).length≤10:=hL.l _
 have oz1:=@VM.pre _ _ ([AV.lit (AY_ none 0 0),i64 ((K_ blcC m.l).length:Int)]) _ ([]) _ _ _ ([GI.nils 0 950 5 1,GI.sort]) _ (@rput_1 ([]) (L) (((K_ blcC m.l).length:Int)) (by (simp;done)) hL) (by kernel_rfl) (.n)
 have oz4:=@rmod_n (Mdl.mk m.l) ([]++L ((K_ blcC m.l).length:Int)) (j) fw (by (simp only[N_] at *;omega)) hj hf h
 exact (VC.run (fn:=Tryz.f56) (W:=[r_,r_,d_,.r [] [.callm [] [(951,20000)] (rM oz1) (oM oz1)],r_,.code [.any (rg [(0,1),(2,2),(8,8)]),.ren 20000 900,.weak 5 (i64 (↑0:Int)),.blk 900 (Blk.slc 5 1 (K_ (row1 .u8) (accM m.l ([]++L ((K_ blcC m.l).length:Int)) 0))),.sort] (CA_) (zO oz4)]) (r:=AV.tup [AV.lit (AY_ none 0 0),i64 (blockR (m.l.getD j default)).snd]) Tryz.func56 (by kernel_rfl) (.c (show decide (((K_ blcC m.l).length:Int)>6)=false by (simp;omega))<|.c oz1<|.c w0_<|.c (show BlkW (Blk.slc 5 1 (K_ (row1 .u8) ([]++L ((K_ blcC m.l).length:Int)))) (Blk.slc 5 1 (K_ (row1 .u8) (accM m.l ([]++L ((K_ blcC m.l).length:Int)) 0))) from (AG_ (e:=5) (z:=1) (rows_to (row1 .u8) (r:=K_ (row1 .u8) ([]++L ((K_ blcC m.l).length:Int))) (l:=[]++L ((K_ blcC m.l).length:Int)) (m:=accM m.l ([]++L ((K_ blcC m.l).length:Int)) 0) rfl (show ([]++L ((K_ blcC m.l).length:Int))=(accM m.l ([]++L ((K_ blcC m.l).length:Int)) 0) from (by rfl)))))<|.c oz4<|.n)).weak (B_ _) (AA_ (.cons (CK_ _) (.cons (.refl _) .nil)))
theorem rmodel_y (L:Int→List Int) (m:Mdl) (hL:RPuts L) (fw:m.Fw) (hl:m.l.length≤6) (h:∀ k,k<m.l.length→(blockR (m.l.getD k default)).2=0):VC L_ 56 ([.agg (mdlC m)]) (.tup [.sl 1 ((accM m.l ([]++L (m.l.length:Int)) m.l.length).map (row1 .u8)),i64 0]):=by
 have hB:([]++L (m.l.length:Int)).length≤10:=hL.l _
 have oz1:=@VM.pre _ _ ([AV.lit (AY_ none 0 0),i64 ((K_ blcC m.l).length:Int)]) _ ([]) _ _ _ ([GI.nils 0 950 5 1,GI.sort]) _ (@rput_1 ([]) (L) (((K_ blcC m.l).length:Int)) (by (simp;done)) hL) (by kernel_rfl) (.n)
 have oz4:=@rmod_y (Mdl.mk m.l) ([]++L ((K_ blcC m.l).length:Int)) fw (by (simp only[N_] at *;omega)) h
 exact (VC.run (fn:=Tryz.f56) (W:=[r_,r_,d_,.r [] [.callm [] [(951,20000)] (rM oz1) (oM oz1)],r_,.code [.any (rg [(0,1),(2,2),(8,8)]),.ren 20000 900,.weak 5 (i64 (↑0:Int)),.blk 900 (Blk.slc 5 1 (K_ (row1 .u8) (accM m.l ([]++L ((K_ blcC m.l).length:Int)) 0))),.sort] (AF_ 0) (zO oz4),r_]) (r:=AV.tup [AV.sl 1 (K_ (row1 .u8) (accM m.l ([]++L ((K_ blcC m.l).length:Int)) m.l.length)),i64 0]) Tryz.func56 (by kernel_rfl) (.c (show decide (((K_ blcC m.l).length:Int)>6)=false by (simp;omega))<|.c oz1<|.c w0_<|.c (show BlkW (Blk.slc 5 1 (K_ (row1 .u8) ([]++L ((K_ blcC m.l).length:Int)))) (Blk.slc 5 1 (K_ (row1 .u8) (accM m.l ([]++L ((K_ blcC m.l).length:Int)) 0))) from (AG_ (e:=5) (z:=1) (rows_to (row1 .u8) (r:=K_ (row1 .u8) ([]++L ((K_ blcC m.l).length:Int))) (l:=[]++L ((K_ blcC m.l).length:Int)) (m:=accM m.l ([]++L ((K_ blcC m.l).length:Int)) 0) rfl (show ([]++L ((K_ blcC m.l).length:Int))=(accM m.l ([]++L ((K_ blcC m.l).length:Int)) 0) from (by rfl)))))<|.c oz4<|.n)).weak (B_ _) (AA_ (.cons (CP_ (rows_to (row1 .u8) (r:=K_ (row1 .u8) (accM m.l ([]++L ((K_ blcC m.l).length:Int)) m.l.length)) (l:=accM m.l ([]++L ((K_ blcC m.l).length:Int)) m.l.length) (m:=accM m.l ([]++L (m.l.length:Int)) m.l.length) rfl (show (accM m.l ([]++L ((K_ blcC m.l).length:Int)) m.l.length)=(accM m.l ([]++L (m.l.length:Int)) m.l.length) from (by (simp;done))))) (.cons (.refl _) .nil)))
theorem pmodel_v (m:Mdl) (fw:m.Fw):VC L_ 54 [.agg (mdlC m)] (.tup [.sl 1 ((modelR m).1.map (row1 .u8)),i64 (modelR m).2]):=by
 by_cases h1:6<m.l.length
 ·rw[show modelR m=([],4) from by unfold modelR;rw[i_ h1]];exact pmodel_f m h1
 rcases first_of (n:=m.l.length) (p:=fun k=>(blockR (m.l.getD k default)).2=0) with h|⟨j,hj,hf,h⟩
 ·have hE:=blocksE_y h
  rw[show modelR m=(accM m.l (putN (m.l.length:Int)) m.l.length,0) from by unfold modelR;rw[j_ h1,j_ (by simpa using hE)]]
  exact pmodel_y putN m puts fw (by omega) h
 ·have hE:=blocksE_n hj hf h
  rw[show modelR m=([],(blockR (m.l.getD j default)).2) from by unfold modelR;rw[j_ h1,hE,i_ hf]]
  exact pmodel_n putN m j puts fw (by omega) hj hf h
theorem rmodel_v (m:Mdl) (fw:m.Fw):VC L_ 56 [.agg (mdlC m)] (.tup [.sl 1 ((modelR m).1.map (row1 .u8)),i64 (modelR m).2]):=by
 by_cases h1:6<m.l.length
 ·rw[show modelR m=([],4) from by unfold modelR;rw[i_ h1]];exact rmodel_f m h1
 rcases first_of (n:=m.l.length) (p:=fun k=>(blockR (m.l.getD k default)).2=0) with h|⟨j,hj,hf,h⟩
 ·have hE:=blocksE_y h
  rw[show modelR m=(accM m.l (putN (m.l.length:Int)) m.l.length,0) from by unfold modelR;rw[j_ h1,j_ (by simpa using hE)]]
  exact rmodel_y putN m rputs fw (by omega) h
 ·have hE:=blocksE_n hj hf h
  rw[show modelR m=([],(blockR (m.l.getD j default)).2) from by unfold modelR;rw[j_ h1,hE,i_ hf]]
  exact rmodel_n putN m j rputs fw (by omega) hj hf h
def oneN (v:Int) (n:Nod):Int:=heldQ (v-n.za) n.qm n.qs n.qz n.lo n.hi
theorem actOne_w (v:Int) (n:Nod) (ok:n.Ok) (hv:In8 v):VC L_ 225 ([i8 v,nod n]) (i8 (oneN v n)):=by
 obtain ⟨q1,q2⟩:=id hv
 obtain ⟨q3,q4⟩:=ok.za
 have oz3:=@held_v (v-n.za) (n.qm) (n.qs) (n.qz) (n.lo) (n.hi) (by omega) (by (exact ok.qm)) (by (exact ok.qz)) (by (exact ok.lo)) (by (exact ok.hi))
 exact (VC.run (fn:=Tryz.f225) (W:=[r_,.r [] [.n v,.n n.za,.n (v-n.za),.callr (rO oz3)]]) (r:=i8 (heldQ (v-n.za) n.qm n.qs n.qz n.lo n.hi)) Tryz.func225 (by kernel_rfl) (.c (CR_ v (by omega))<|.c (CR_ n.za (by omega))<|.c (CR_ (v-n.za) (by omega))<|.c oz3<|.n)).weak (B_ _) (R_ (by rfl))
theorem upside_v (a b:Int)  : VC L_ 173 ([.agg [i8 a,i8 b]]) (bv (decide (a>b))):=by
 exact VC.run (fn:=Tryz.f173) (W:=[r_,r_]) Tryz.func173 (by kernel_rfl) (.n)
def headE (w b:List Int) (lo hi:Int):Int:=if sharedB w b=true then (if (allR w b lo hi 0 false b.length).all holdB=true then 0 else 10) else 9
abbrev hedC (w b:List Int) (nd:Int):List AV:=[ints .i8 w,ints .i32 b,i32 nd]
theorem hd_ok {w b:List Int} (hw:∀ v∈w,In8 v) (hb:∀ v∈b,In32 v):Nod.Ok ⟨0,0,0,0,0,0,0,0,0,w,b,0,0,0,0,0,0,0,0⟩:=by
 constructor<;>first|assumption|(constructor<;>(dsimp only;decide))
theorem hd_len (w b:List Int) (lo hi:Int):(allR w b lo hi 0 (decide ((0:Int)>0)) (if sharedB w b=true then b.length else 0)).length=if sharedB w b=true then b.length else 0:=by simp[allR]
theorem hd_pos {w b:List Int} (h:sharedB w b=true):0<b.length:=by
 simp only[sharedB,P_,E_] at h;exact h.1
theorem hd_le (w b:List Int) (lo hi:Int) (bl:b.length≤100000):(allR w b lo hi 0 (decide ((0:Int)>0)) (if sharedB w b=true then b.length else 0)).length≤1000000:=by rw[hd_len];split<;>omega
theorem hd_sh {w b:List Int} {lo hi:Int} {x:Bool} (h:(((K_ rngC (allR w b lo hi 0 (decide ((0:Int)>0)) (if sharedB w b=true then b.length else 0))).length:Int)==0)=x):sharedB w b = !x:=by
 rw[N_,hd_len] at h
 cases e:sharedB w b with
 | true =>
  have:=hd_pos e
  rw[e,i_ rfl] at h
  cases x with
  | true=>simp at h;subst h;simp at this
  | false=>rfl
 | false=>rw[e] at h;subst h;rfl
theorem hd9 {w b:List Int} {lo hi:Int} (h:(((K_ rngC (allR w b lo hi 0 (decide ((0:Int)>0)) (if sharedB w b=true then b.length else 0))).length:Int)==0)=true):9=headE w b lo hi:=by
 unfold headE;rw[hd_sh h];rfl
theorem hd10 {w b:List Int} {lo hi:Int} {y:Bool} (h:(((K_ rngC (allR w b lo hi 0 (decide ((0:Int)>0)) (if sharedB w b=true then b.length else 0))).length:Int)==0)=false) (h2:(!(allR w b lo hi 0 (decide ((0:Int)>0)) (if sharedB w b=true then b.length else 0)).all holdB)=y):(if y=true then 10 else 0)=headE w b lo hi:=by
 have e:=hd_sh h
 unfold headE
 rw[e] at h2 ⊢
 simp only[BN_,if_true] at h2 ⊢
 rw[show (false:Bool)=decide ((0:Int)>0) from rfl]
 cases y with
 | true=>rw[i_ rfl,j_ (by simpa using h2)]
 | false=>rw[j_ (by simp),i_ (by simpa using h2)]
theorem ghead_v (w b:List Int) (nd lo hi:Int) (hw:∀ v∈w,In8 v) (hb:∀ v∈b,In32 v) (wl:w.length≤100000) (bl:b.length≤100000) (h1:In8 lo) (h2:In8 hi):VC L_ 177 ([.agg (hedC w b nd),.agg [i8 lo,i8 hi]]) (i64 (headE w b lo hi)):=by
 have oz0:=@all_v (Nod.mk 0 0 0 0 0 0 0 0 0 w b 0 0 0 0 0 0 0 0) (lo) (hi) (by (exact hd_ok hw hb)) h1 h2 wl bl
 rcases bft ((↑(K_ rngC (allR w b lo hi 0 (decide (0>0)) (if sharedB w b=true then b.length else 0))).length:Int)==0) with hc0|hc0
 ·have gc0:(↑(K_ rngC (allR w b lo hi 0 (decide (0>0)) (if sharedB w b=true then b.length else 0))).length:Int)=0:=by first|exact hc0|exact of_decide_eq_true hc0|exact of_decide_eq_false hc0|simpa [eqNums] using hc0|(simp[eqNums] at hc0 ⊢;first|done|assumption|omega)
  exact (VC.run (fn:=Tryz.f177) (W:=[r_,.r [] [.callr (rO oz0)],r_,b_,r_]) (r:=i64 9) Tryz.func177 (by kernel_rfl) (.c oz0<|.c hc0<|.n)).weak (B_ _) (R_ (by (exact hd9 (by assumption))))
 ·have gc0:¬(↑(K_ rngC (allR w b lo hi 0 (decide (0>0)) (if sharedB w b=true then b.length else 0))).length:Int)=0:=by first|exact hc0|exact of_decide_eq_true hc0|exact of_decide_eq_false hc0|simpa [eqNums] using hc0|(simp[eqNums] at hc0 ⊢;first|done|assumption|omega)
  have oz2:=@holds_v (allR w b lo hi 0 (decide (0>0)) (if sharedB w b=true then b.length else 0)) (by (exact hd_le w b lo hi bl))
  rcases bft (!(allR w b lo hi 0 (decide (0>0)) (if sharedB w b=true then b.length else 0)).all holdB) with hc1|hc1
  ·have gc1:(allR w b lo hi 0 (decide (0>0)) (if sharedB w b=true then b.length else 0)).all holdB=false:=by first|exact hc1|exact of_decide_eq_true hc1|exact of_decide_eq_false hc1|simpa [eqNums] using hc1|(simp[eqNums] at hc1 ⊢;first|done|assumption|omega)
   exact (VC.run (fn:=Tryz.f177) (W:=[r_,.r [] [.callr (rO oz0)],r_,d_,.r [] [.callr (rO oz2)],b_,r_]) (r:=i64 10) Tryz.func177 (by kernel_rfl) (.c oz0<|.c hc0<|.c oz2<|.c hc1<|.n)).weak (B_ _) (R_ (by (exact hd10 (y:=true) (by assumption) (by assumption))))
  ·have gc1:(allR w b lo hi 0 (decide (0>0)) (if sharedB w b=true then b.length else 0)).all holdB=true:=by first|exact hc1|exact of_decide_eq_true hc1|exact of_decide_eq_false hc1|simpa [eqNums] using hc1|(simp[eqNums] at hc1 ⊢;first|done|assumption|omega)
   exact (VC.run (fn:=Tryz.f177) (W:=[r_,.r [] [.callr (rO oz0)],r_,d_,.r [] [.callr (rO oz2)],d_,r_]) (r:=i64 0) Tryz.func177 (by kernel_rfl) (.c oz0<|.c hc0<|.c oz2<|.c hc1<|.n)).weak (B_ _) (R_ (by (exact hd10 (y:=false) (by assumption) (by assumption))))
def rowsR (f:Nat→Rng):Nat→Rng
 | 0=>⟨0,0⟩
 | k+1=>if k=0 then ⟨min (f 0).lo (f 0).lo,max (f 0).hi (f 0).hi⟩ else ⟨min (rowsR f k).lo (f k).lo,max (rowsR f k).hi (f k).hi⟩
theorem shared_v (w b:List Int) (wl:w.length≤100000) (bl:b.length≤100000):VC L_ 103 ([ints .i8 w,ints .i32 b]) (bv (sharedB w b)):=by
 have q4:(b.length:Int)≠0→0≤(w.length:Int) % (b.length:Int)∧(w.length:Int) % (b.length:Int)<(b.length:Int):=fun h=>⟨Int.emod_nonneg _ h,Int.emod_lt_of_pos _ (by omega)⟩
 exact (VC.run (fn:=Tryz.f103) (W:=[r_,.r [] [o_,o_,o_,o_,p_,.n (((K_ (row1 .i8) w).length:Int) % ((K_ (row1 .i32) b).length:Int)),o_,.sel 2]]) (r:=bv (decide (((K_ (row1 .i32) b).length:Int)>0)&&((K_ (row1 .i8) w).length:Int) % ((K_ (row1 .i32) b).length:Int)==0)) Tryz.func103 (by kernel_rfl) (.c (show decide (((K_ (row1 .i32) b).length:Int)>0)=true→((K_ (row1 .i32) b).length:Int)≠0 from (fun hc0=>have gc0:((K_ (row1 .i32) b).length:Int)>0:=(by first|exact hc0|exact of_decide_eq_true hc0|exact of_decide_eq_false hc0|simpa [eqNums] using hc0|(simp[eqNums] at hc0 ⊢;first|done|assumption|omega));(by omega)))<|.c (show decide (((K_ (row1 .i32) b).length:Int)>0)=true→((K_ (row1 .i8) w).length:Int).tmod ((K_ (row1 .i32) b).length:Int)=((K_ (row1 .i8) w).length:Int) % ((K_ (row1 .i32) b).length:Int) from (fun hc0=>have gc0:((K_ (row1 .i32) b).length:Int)>0:=(by first|exact hc0|exact of_decide_eq_true hc0|exact of_decide_eq_false hc0|simpa [eqNums] using hc0|(simp[eqNums] at hc0 ⊢;first|done|assumption|omega));(CX_ (by omega))))<|.n)).weak (B_ _) (AZ_ (by (simp only[N_,sharedB];rw[Bool.eq_iff_iff];simp only[P_,E_,I_];omega)))
theorem spA_f {v lo hi z:Int} {g:Bool} (h:g=false):spA v lo hi z g=⟨min (v*(lo-z)) (v*(hi-z)),max (v*(lo-z)) (v*(hi-z))⟩:=by subst h;rfl
noncomputable def row24_l_I (w:List Int) (bias lo hi z:Int) (g:Bool) (k:Nat):VS:=stt 72 [(0,ints .i8 w),(2,i8 lo),(3,i8 hi),(4,i8 z),(5,bv g),(14,i64 (rowR w bias lo hi z g k).lo),(15,i64 (rowR w bias lo hi z g k).hi),(16,i64 k)] []
noncomputable def row24_l_Z (w:List Int) (bias lo hi z:Int) (g:Bool):VS:=row24_l_I w bias lo hi z g (w.length)
theorem row24_l_s (w:List Int) (bias lo hi z:Int) (g:Bool) (hw:∀ v∈w,In8 v) (wl:w.length≤1000000) (hb:In32 bias) (h1:In8 lo) (h2:In8 hi) (h3:In8 z) (k:Nat) (hk:k<w.length):VT L_ (fnC Tryz.f151 [1,1,0,1,0,0]) (row24_l_I w bias lo hi z g k) .normal (row24_l_I w bias lo hi z g (k+1)):=by
 have q1:=gt8 hw k
 have q2:=rowR_bd g hw hb h1 h2 h3 k
 have q3:=spA_bd g (v:=w.getD k 0) (gt_of hw (by unfold In8;omega) k) h1 h2 h3
 unfold In8 at h1 h2 h3
 have q4:=prod_bd (a:=w.getD k 0) (b:=lo-z) q1 (by omega)
 have q5:=prod_bd (a:=w.getD k 0) (b:=hi-z) q1 (by omega)
 have oz0:=(show decide ((↑k:Int)<((K_ (row1 .i8) w).length:Int))=true by (simp;omega))
 have oz1:=(show 0≤(↑k:Int) by omega)
 have oz2:=(map_at (row1 .i8) (0) (l:=w) (i:=k) hk)
 have oz3:=(i6n (w.getD k 0) (by omega))
 have oz4:=(i6n lo (by omega))
 have oz5:=(i6n z (by omega))
 have oz6:=(i6n (lo-z) (by omega))
 have oz7:=(i6n (w.getD k 0*(lo-z)) (by omega))
 have oz11:=(i6n hi (by omega))
 have oz13:=(i6n (hi-z) (by omega))
 have oz14:=(i6n (w.getD k 0*(hi-z)) (by omega))
 rcases bft (g) with hc0|hc0
 ·have gc0:g=true:=by first|exact hc0|exact of_decide_eq_true hc0|exact of_decide_eq_false hc0|simpa [eqNums] using hc0|(simp[eqNums] at hc0 ⊢;first|done|assumption|omega)
  have oz16:=(i6n ((rowR w bias lo hi z g k).lo+if 0<if w.getD k 0*(hi-z)<w.getD k 0*(lo-z) then w.getD k 0*(hi-z) else w.getD k 0*(lo-z) then 0 else if w.getD k 0*(hi-z)<w.getD k 0*(lo-z) then w.getD k 0*(hi-z) else w.getD k 0*(lo-z)) (by omega))
  have oz17:=(i6n ((rowR w bias lo hi z g k).hi+if 0>if w.getD k 0*(hi-z)>w.getD k 0*(lo-z) then w.getD k 0*(hi-z) else w.getD k 0*(lo-z) then 0 else if w.getD k 0*(hi-z)>w.getD k 0*(lo-z) then w.getD k 0*(hi-z) else w.getD k 0*(lo-z)) (by omega))
  have oz19:=(R_ (k:=.i64) (show (((rowR w bias lo hi z g k).lo+if 0<if w.getD k 0*(hi-z)<w.getD k 0*(lo-z) then w.getD k 0*(hi-z) else w.getD k 0*(lo-z) then 0 else if w.getD k 0*(hi-z)<w.getD k 0*(lo-z) then w.getD k 0*(hi-z) else w.getD k 0*(lo-z)):Int)=((rowR w bias lo hi z g (k+1)).lo) from (by (simp only[rowR,spA,i_ (by assumption:g=true)];(repeat split)<;>omega))))
  have oz20:=(R_ (k:=.i64) (show (((rowR w bias lo hi z g k).hi+if 0>if w.getD k 0*(hi-z)>w.getD k 0*(lo-z) then w.getD k 0*(hi-z) else w.getD k 0*(lo-z) then 0 else if w.getD k 0*(hi-z)>w.getD k 0*(lo-z) then w.getD k 0*(hi-z) else w.getD k 0*(lo-z)):Int)=((rowR w bias lo hi z g (k+1)).hi) from (by (simp only[rowR,spA,i_ (by assumption:g=true)];(repeat split)<;>omega))))
  exact VT.run (W:=[r_,b_,.r [] [.row (sO oz2),.n (nO oz3),.n (nO oz4),.n (nO oz5),.n (nO oz6),.n (nO oz7),.row (sO oz2),.n (nO oz3),.n (nO oz11),.n (nO oz5),.n (nO oz13),.n (nO oz14)],r_,r_,b_,r_,r_,.r [] [.n (nO oz16),.n (nO oz17)],.r [] [.n ((↑k:Int)+1)]]) (G:=[.any (rg [(17,4),(25,45)]),.weak 14 (wO oz19),.weak 15 (wO oz20),.weak 16 (i64 (↑(k+1):Int)),.sort]) (by kernel_rfl) (.c oz0<|.c oz1<|.c oz2<|.c oz3<|.c oz4<|.c oz5<|.c oz6<|.c oz7<|.c oz1<|.c oz2<|.c oz3<|.c oz11<|.c oz5<|.c oz13<|.c oz14<|.c hc0<|.c oz16<|.c oz17<|.c (i6n ((↑k:Int)+1) (by omega))<|.c oz19<|.c oz20<|.c (wS_ k)<|.n)
 ·have gc0:g=false:=by first|exact hc0|exact of_decide_eq_true hc0|exact of_decide_eq_false hc0|simpa [eqNums] using hc0|(simp[eqNums] at hc0 ⊢;first|done|assumption|omega)
  have oz16:=(i6n ((rowR w bias lo hi z g k).lo+if w.getD k 0*(hi-z)<w.getD k 0*(lo-z) then w.getD k 0*(hi-z) else w.getD k 0*(lo-z)) (by omega))
  have oz17:=(i6n ((rowR w bias lo hi z g k).hi+if w.getD k 0*(hi-z)>w.getD k 0*(lo-z) then w.getD k 0*(hi-z) else w.getD k 0*(lo-z)) (by omega))
  have oz19:=(R_ (k:=.i64) (show (((rowR w bias lo hi z g k).lo+if w.getD k 0*(hi-z)<w.getD k 0*(lo-z) then w.getD k 0*(hi-z) else w.getD k 0*(lo-z)):Int)=((rowR w bias lo hi z g (k+1)).lo) from (by (rw[rowR,spA_f (by assumption)];dsimp only;split<;>omega))))
  have oz20:=(R_ (k:=.i64) (show (((rowR w bias lo hi z g k).hi+if w.getD k 0*(hi-z)>w.getD k 0*(lo-z) then w.getD k 0*(hi-z) else w.getD k 0*(lo-z)):Int)=((rowR w bias lo hi z g (k+1)).hi) from (by (rw[rowR,spA_f (by assumption)];dsimp only;split<;>omega))))
  exact VT.run (W:=[r_,b_,.r [] [.row (sO oz2),.n (nO oz3),.n (nO oz4),.n (nO oz5),.n (nO oz6),.n (nO oz7),.row (sO oz2),.n (nO oz3),.n (nO oz11),.n (nO oz5),.n (nO oz13),.n (nO oz14)],r_,r_,d_,.r [] [.n (nO oz16),.n (nO oz17)],.r [] [.n ((↑k:Int)+1)]]) (G:=[.any (rg [(17,4),(25,35),(64,6)]),.weak 14 (wO oz19),.weak 15 (wO oz20),.weak 16 (i64 (↑(k+1):Int)),.sort]) (by kernel_rfl) (.c oz0<|.c oz1<|.c oz2<|.c oz3<|.c oz4<|.c oz5<|.c oz6<|.c oz7<|.c oz1<|.c oz2<|.c oz3<|.c oz11<|.c oz5<|.c oz13<|.c oz14<|.c hc0<|.c oz16<|.c oz17<|.c (i6n ((↑k:Int)+1) (by omega))<|.c oz19<|.c oz20<|.c (wS_ k)<|.n)
theorem row24_l_e (w:List Int) (bias lo hi z:Int) (g:Bool) (hw:∀ v∈w,In8 v) (wl:w.length≤1000000) (hb:In32 bias) (h1:In8 lo) (h2:In8 hi) (h3:In8 z):VT L_ (fnC Tryz.f151 [1,1,0,1,0,0]) (row24_l_I w bias lo hi z g (w.length)) (.exit 0) (row24_l_Z w bias lo hi z g):=by
 exact VT.run (W:=[r_,d_]) (G:=[.any (rg [(25,4)]),.sort]) (by kernel_rfl) (.c (show decide ((w.length:Int)<((K_ (row1 .i8) w).length:Int))=false by (simp;done))<|.n)
theorem row24_l (w:List Int) (bias lo hi z:Int) (g:Bool) (hw:∀ v∈w,In8 v) (wl:w.length≤1000000) (hb:In32 bias) (h1:In8 lo) (h2:In8 hi) (h3:In8 z):VT L_ (fnC Tryz.f151 [1,1,0,1,0]) (row24_l_I w bias lo hi z g 0) (.exit 0) (row24_l_Z w bias lo hi z g) :=
 VT.loop (fun k=>row24_l_I w bias lo hi z g k) (w.length) (fun k hk=>row24_l_s w bias lo hi z g hw wl hb h1 h2 h3 k hk) (row24_l_e w bias lo hi z g hw wl hb h1 h2 h3) (by intro h;cases h)
theorem row24_v (w:List Int) (bias lo hi z:Int) (g:Bool) (hw:∀ v∈w,In8 v) (wl:w.length≤1000000) (hb:In32 bias) (h1:In8 lo) (h2:In8 hi) (h3:In8 z):VC L_ 151 ([ints .i8 w,i32 bias,i8 lo,i8 hi,i8 z,bv g]) (.tup [i64 (rowR w bias lo hi z g w.length).lo,i64 (rowR w bias lo hi z g w.length).hi]):=by
 obtain ⟨b1,b2⟩:=id hb
 have oz0:=(i6n bias (by omega))
 have oz4:=@row24_l (w) (bias) (lo) (hi) (z) (g) hw wl hb h1 h2 h3
 exact VC.run (fn:=Tryz.f151) (W:=[r_,.r [] [.n (nO oz0),.n (nO oz0)],r_,.code [.any [1,12,13,21,22,23,24],.weak 15 (i64 (rowR w bias lo hi z g 0).hi),.weak 16 (i64 (↑0:Int)),.sort] (AF_ 0) (zO oz4),r_]) Tryz.func151 (by kernel_rfl) (.c oz0<|.c oz0<|.c (R_ (k:=.i64) (show ((bias):Int)=((rowR w bias lo hi z g 0).hi) from (by rfl)))<|.c w0_<|.c oz4<|.n)
theorem rows_a {f:Nat→Rng} {k:Nat} (h:((k:Int)==0)=true):(if (f k).lo<(f k).lo then (f k).lo else (f k).lo)=(rowsR f (k+1)).lo:=by
 have:k=0:=by simpa using h
 subst this;rw[rowsR,i_ rfl];dsimp only;split<;>omega
theorem rows_b {f:Nat→Rng} {k:Nat} (h:((k:Int)==0)=true):(if (f k).hi>(f k).hi then (f k).hi else (f k).hi)=(rowsR f (k+1)).hi:=by
 have:k=0:=by simpa using h
 subst this;rw[rowsR,i_ rfl];dsimp only;split<;>omega
theorem rows_c {f:Nat→Rng} {k:Nat} (h:((k:Int)==0)=false):(if (f k).lo<(rowsR f k).lo then (f k).lo else (rowsR f k).lo)=(rowsR f (k+1)).lo:=by
 have:¬ k=0:=by simpa using h
 rw[rowsR,j_ this];dsimp only;split<;>omega
theorem rows_d {f:Nat→Rng} {k:Nat} (h:((k:Int)==0)=false):(if (f k).hi>(rowsR f k).hi then (f k).hi else (rowsR f k).hi)=(rowsR f (k+1)).hi:=by
 have:¬ k=0:=by simpa using h
 rw[rowsR,j_ this];dsimp only;split<;>omega
noncomputable def rows_l_I (w b:List Int) (lo hi z:Int) (g:Bool) (k:Nat):VS:=stt 71 [(0,ints .i8 w),(1,ints .i32 b),(2,i8 lo),(3,i8 hi),(4,i8 z),(5,bv g),(15,i64 (rowsR (spRow w b lo hi z g) k).lo),(16,i64 (rowsR (spRow w b lo hi z g) k).hi),(17,i64 ((w.length:Int)/(b.length:Int))),(18,i64 k)] []
noncomputable def rows_l_Z (w b:List Int) (lo hi z:Int) (g:Bool):VS:=rows_l_I w b lo hi z g (b.length)
theorem rows_l_s (w b:List Int) (lo hi z:Int) (g:Bool) (hw:∀ v∈w,In8 v) (hb:∀ v∈b,In32 v) (wl:w.length≤100000) (bl:b.length≤100000) (b0:0<b.length) (h1:In8 lo) (h2:In8 hi) (h3:In8 z) (k:Nat) (hk:k<b.length):VT L_ (fnC Tryz.f104 [1,1,1,0,1,0,0]) (rows_l_I w b lo hi z g k) .normal (rows_l_I w b lo hi z g (k+1)):=by
 have q1:=share_bd (m:=w.length) hk
 have q2:=gt32 hb k
 have oz0:=(show decide ((↑k:Int)<((K_ (row1 .i32) b).length:Int))=true by (simp;omega))
 have oz1:=(i6n ((↑k:Int)*((w.length:Int)/(b.length:Int))) (by omega))
 have oz2:=(i6n ((↑k:Int)+1) (by omega))
 have oz3:=(i6n (((↑k:Int)+1)*((w.length:Int)/(b.length:Int))) (by omega))
 have oz4:=(show (↑k:Int)*((w.length:Int)/(b.length:Int))=(↑((↑k:Int)*((w.length:Int)/(b.length:Int))).toNat:Int) by omega)
 have oz5:=(show ((↑k:Int)+1)*((w.length:Int)/(b.length:Int))=(↑(((↑k:Int)+1)*((w.length:Int)/(b.length:Int))).toNat:Int) by omega)
 have oz6:=(show ((↑k:Int)*((w.length:Int)/(b.length:Int))).toNat≤(((↑k:Int)+1)*((w.length:Int)/(b.length:Int))).toNat by omega)
 have oz7:=(show (((↑k:Int)+1)*((w.length:Int)/(b.length:Int))).toNat≤(K_ (row1 .i8) w).length by (simp;omega))
 have oz8:=(show 0≤(↑k:Int) by omega)
 have oz9:=(map_at (row1 .i32) (0) (l:=b) (i:=k) hk)
 have oz10:=(show WeakL [AV.sl 1 (BV_ ((((↑k:Int)+1)*((w.length:Int)/(b.length:Int))).toNat-((↑k:Int)*((w.length:Int)/(b.length:Int))).toNat) (BW_ ((↑k:Int)*((w.length:Int)/(b.length:Int))).toNat (K_ (row1 .i8) w))),i32 (b.getD k 0),i8 lo,i8 hi,i8 z,bv g] [AV.sl 1 (K_ (row1 .i8) (BV_ ((((↑k:Int)+1)*((w.length:Int)/(b.length:Int))).toNat-((↑k:Int)*((w.length:Int)/(b.length:Int))).toNat) (BW_ ((↑k:Int)*((w.length:Int)/(b.length:Int))).toNat w))),i32 (b.getD k 0),i8 lo,i8 hi,i8 z,bv g] from (.cons (CP_ (rows_to (row1 .i8) (r:=BV_ ((((↑k:Int)+1)*((w.length:Int)/(b.length:Int))).toNat-((↑k:Int)*((w.length:Int)/(b.length:Int))).toNat) (BW_ ((↑k:Int)*((w.length:Int)/(b.length:Int))).toNat (K_ (row1 .i8) w))) (l:=BV_ ((((↑k:Int)+1)*((w.length:Int)/(b.length:Int))).toNat-((↑k:Int)*((w.length:Int)/(b.length:Int))).toNat) (BW_ ((↑k:Int)*((w.length:Int)/(b.length:Int))).toNat w)) (m:=BV_ ((((↑k:Int)+1)*((w.length:Int)/(b.length:Int))).toNat-((↑k:Int)*((w.length:Int)/(b.length:Int))).toNat) (BW_ ((↑k:Int)*((w.length:Int)/(b.length:Int))).toNat w)) (by first|(simp only[A_,D_,AO_,AP_,X_,AM_,AN_];done)|rfl|(simp only[A_,D_,AO_,AP_,X_,AM_,AN_];rfl)) rfl)) (.cons (.refl _) (.cons (.refl _) (.cons (.refl _) (.cons (.refl _) (.cons (.refl _) .nil)))))))
 have oz11:=@row24_v (BV_ ((((↑k:Int)+1)*((w.length:Int)/(b.length:Int))).toNat-((↑k:Int)*((w.length:Int)/(b.length:Int))).toNat) (BW_ ((↑k:Int)*((w.length:Int)/(b.length:Int))).toNat w)) (b.getD k 0) (lo) (hi) (z) (g) (by (exact fun v hv=>hw v (mem_td hv))) (by (rw[BL_,BX_];omega)) q2 h1 h2 h3
 rcases bft ((↑k:Int)==0) with hc0|hc0
 ·have gc0:(↑k:Int)=0:=bet hc0
  have oz14:=(R_ (k:=.i64) (show ((if (rowR (BV_ ((((↑k:Int)+1)*((w.length:Int)/(b.length:Int))).toNat-((↑k:Int)*((w.length:Int)/(b.length:Int))).toNat) (BW_ ((↑k:Int)*((w.length:Int)/(b.length:Int))).toNat w)) (b.getD k 0) lo hi z g (BV_ ((((↑k:Int)+1)*((w.length:Int)/(b.length:Int))).toNat-((↑k:Int)*((w.length:Int)/(b.length:Int))).toNat) (BW_ ((↑k:Int)*((w.length:Int)/(b.length:Int))).toNat w)).length).lo<(rowR (BV_ ((((↑k:Int)+1)*((w.length:Int)/(b.length:Int))).toNat-((↑k:Int)*((w.length:Int)/(b.length:Int))).toNat) (BW_ ((↑k:Int)*((w.length:Int)/(b.length:Int))).toNat w)) (b.getD k 0) lo hi z g (BV_ ((((↑k:Int)+1)*((w.length:Int)/(b.length:Int))).toNat-((↑k:Int)*((w.length:Int)/(b.length:Int))).toNat) (BW_ ((↑k:Int)*((w.length:Int)/(b.length:Int))).toNat w)).length).lo then (rowR (BV_ ((((↑k:Int)+1)*((w.length:Int)/(b.length:Int))).toNat-((↑k:Int)*((w.length:Int)/(b.length:Int))).toNat) (BW_ ((↑k:Int)*((w.length:Int)/(b.length:Int))).toNat w)) (b.getD k 0) lo hi z g (BV_ ((((↑k:Int)+1)*((w.length:Int)/(b.length:Int))).toNat-((↑k:Int)*((w.length:Int)/(b.length:Int))).toNat) (BW_ ((↑k:Int)*((w.length:Int)/(b.length:Int))).toNat w)).length).lo else (rowR (BV_ ((((↑k:Int)+1)*((w.length:Int)/(b.length:Int))).toNat-((↑k:Int)*((w.length:Int)/(b.length:Int))).toNat) (BW_ ((↑k:Int)*((w.length:Int)/(b.length:Int))).toNat w)) (b.getD k 0) lo hi z g (BV_ ((((↑k:Int)+1)*((w.length:Int)/(b.length:Int))).toNat-((↑k:Int)*((w.length:Int)/(b.length:Int))).toNat) (BW_ ((↑k:Int)*((w.length:Int)/(b.length:Int))).toNat w)).length).lo):Int)=((rowsR (spRow w b lo hi z g) (k+1)).lo) from (by (refine rows_a (f:=spRow w b lo hi z g) ?_;assumption))))
  have oz15:=(R_ (k:=.i64) (show ((if (rowR (BV_ ((((↑k:Int)+1)*((w.length:Int)/(b.length:Int))).toNat-((↑k:Int)*((w.length:Int)/(b.length:Int))).toNat) (BW_ ((↑k:Int)*((w.length:Int)/(b.length:Int))).toNat w)) (b.getD k 0) lo hi z g (BV_ ((((↑k:Int)+1)*((w.length:Int)/(b.length:Int))).toNat-((↑k:Int)*((w.length:Int)/(b.length:Int))).toNat) (BW_ ((↑k:Int)*((w.length:Int)/(b.length:Int))).toNat w)).length).hi>(rowR (BV_ ((((↑k:Int)+1)*((w.length:Int)/(b.length:Int))).toNat-((↑k:Int)*((w.length:Int)/(b.length:Int))).toNat) (BW_ ((↑k:Int)*((w.length:Int)/(b.length:Int))).toNat w)) (b.getD k 0) lo hi z g (BV_ ((((↑k:Int)+1)*((w.length:Int)/(b.length:Int))).toNat-((↑k:Int)*((w.length:Int)/(b.length:Int))).toNat) (BW_ ((↑k:Int)*((w.length:Int)/(b.length:Int))).toNat w)).length).hi then (rowR (BV_ ((((↑k:Int)+1)*((w.length:Int)/(b.length:Int))).toNat-((↑k:Int)*((w.length:Int)/(b.length:Int))).toNat) (BW_ ((↑k:Int)*((w.length:Int)/(b.length:Int))).toNat w)) (b.getD k 0) lo hi z g (BV_ ((((↑k:Int)+1)*((w.length:Int)/(b.length:Int))).toNat-((↑k:Int)*((w.length:Int)/(b.length:Int))).toNat) (BW_ ((↑k:Int)*((w.length:Int)/(b.length:Int))).toNat w)).length).hi else (rowR (BV_ ((((↑k:Int)+1)*((w.length:Int)/(b.length:Int))).toNat-((↑k:Int)*((w.length:Int)/(b.length:Int))).toNat) (BW_ ((↑k:Int)*((w.length:Int)/(b.length:Int))).toNat w)) (b.getD k 0) lo hi z g (BV_ ((((↑k:Int)+1)*((w.length:Int)/(b.length:Int))).toNat-((↑k:Int)*((w.length:Int)/(b.length:Int))).toNat) (BW_ ((↑k:Int)*((w.length:Int)/(b.length:Int))).toNat w)).length).hi):Int)=((rowsR (spRow w b lo hi z g) (k+1)).hi) from (by (refine rows_b (f:=spRow w b lo hi z g) ?_;assumption))))
  exact VT.run (W:=[r_,b_,.r [] [.n (nO oz1),.n (nO oz2),.n (nO oz3),.nats ((↑k:Int)*((w.length:Int)/(b.length:Int))).toNat (((↑k:Int)+1)*((w.length:Int)/(b.length:Int))).toNat,.row (sO oz9),.call (aO oz11) (rO oz11)],r_,b_,r_,r_,.r [] [.n (nO oz2)]]) (G:=[.any (rg [(19,2),(26,37)]),.weak 15 (wO oz14),.weak 16 (wO oz15),.weak 18 (i64 (↑(k+1):Int)),.sort]) (by kernel_rfl) (.c oz0<|.c oz1<|.c oz2<|.c oz3<|.c oz4<|.c oz5<|.c oz6<|.c oz7<|.c oz8<|.c oz9<|.c oz10<|.c oz11<|.c hc0<|.c oz2<|.c oz14<|.c oz15<|.c (wS_ k)<|.n)
 ·have gc0:¬(↑k:Int)=0:=bef hc0
  have oz14:=(R_ (k:=.i64) (show ((if (rowR (BV_ ((((↑k:Int)+1)*((w.length:Int)/(b.length:Int))).toNat-((↑k:Int)*((w.length:Int)/(b.length:Int))).toNat) (BW_ ((↑k:Int)*((w.length:Int)/(b.length:Int))).toNat w)) (b.getD k 0) lo hi z g (BV_ ((((↑k:Int)+1)*((w.length:Int)/(b.length:Int))).toNat-((↑k:Int)*((w.length:Int)/(b.length:Int))).toNat) (BW_ ((↑k:Int)*((w.length:Int)/(b.length:Int))).toNat w)).length).lo<(rowsR (spRow w b lo hi z g) k).lo then (rowR (BV_ ((((↑k:Int)+1)*((w.length:Int)/(b.length:Int))).toNat-((↑k:Int)*((w.length:Int)/(b.length:Int))).toNat) (BW_ ((↑k:Int)*((w.length:Int)/(b.length:Int))).toNat w)) (b.getD k 0) lo hi z g (BV_ ((((↑k:Int)+1)*((w.length:Int)/(b.length:Int))).toNat-((↑k:Int)*((w.length:Int)/(b.length:Int))).toNat) (BW_ ((↑k:Int)*((w.length:Int)/(b.length:Int))).toNat w)).length).lo else (rowsR (spRow w b lo hi z g) k).lo):Int)=((rowsR (spRow w b lo hi z g) (k+1)).lo) from (by (refine rows_c (f:=spRow w b lo hi z g) ?_;assumption))))
  have oz15:=(R_ (k:=.i64) (show ((if (rowR (BV_ ((((↑k:Int)+1)*((w.length:Int)/(b.length:Int))).toNat-((↑k:Int)*((w.length:Int)/(b.length:Int))).toNat) (BW_ ((↑k:Int)*((w.length:Int)/(b.length:Int))).toNat w)) (b.getD k 0) lo hi z g (BV_ ((((↑k:Int)+1)*((w.length:Int)/(b.length:Int))).toNat-((↑k:Int)*((w.length:Int)/(b.length:Int))).toNat) (BW_ ((↑k:Int)*((w.length:Int)/(b.length:Int))).toNat w)).length).hi>(rowsR (spRow w b lo hi z g) k).hi then (rowR (BV_ ((((↑k:Int)+1)*((w.length:Int)/(b.length:Int))).toNat-((↑k:Int)*((w.length:Int)/(b.length:Int))).toNat) (BW_ ((↑k:Int)*((w.length:Int)/(b.length:Int))).toNat w)) (b.getD k 0) lo hi z g (BV_ ((((↑k:Int)+1)*((w.length:Int)/(b.length:Int))).toNat-((↑k:Int)*((w.length:Int)/(b.length:Int))).toNat) (BW_ ((↑k:Int)*((w.length:Int)/(b.length:Int))).toNat w)).length).hi else (rowsR (spRow w b lo hi z g) k).hi):Int)=((rowsR (spRow w b lo hi z g) (k+1)).hi) from (by (refine rows_d (f:=spRow w b lo hi z g) ?_;assumption))))
  exact VT.run (W:=[r_,b_,.r [] [.n (nO oz1),.n (nO oz2),.n (nO oz3),.nats ((↑k:Int)*((w.length:Int)/(b.length:Int))).toNat (((↑k:Int)+1)*((w.length:Int)/(b.length:Int))).toNat,.row (sO oz9),.call (aO oz11) (rO oz11)],r_,d_,r_,.r [] [.n (nO oz2)]]) (G:=[.any (rg [(19,2),(26,29),(57,6)]),.weak 15 (wO oz14),.weak 16 (wO oz15),.weak 18 (i64 (↑(k+1):Int)),.sort]) (by kernel_rfl) (.c oz0<|.c oz1<|.c oz2<|.c oz3<|.c oz4<|.c oz5<|.c oz6<|.c oz7<|.c oz8<|.c oz9<|.c oz10<|.c oz11<|.c hc0<|.c oz2<|.c oz14<|.c oz15<|.c (wS_ k)<|.n)
theorem rows_l_e (w b:List Int) (lo hi z:Int) (g:Bool) (hw:∀ v∈w,In8 v) (hb:∀ v∈b,In32 v) (wl:w.length≤100000) (bl:b.length≤100000) (b0:0<b.length) (h1:In8 lo) (h2:In8 hi) (h3:In8 z):VT L_ (fnC Tryz.f104 [1,1,1,0,1,0,0]) (rows_l_I w b lo hi z g (b.length)) (.exit 0) (rows_l_Z w b lo hi z g):=by
 exact VT.run (W:=[r_,d_]) (G:=[.any (rg [(26,4)]),.sort]) (by kernel_rfl) (.c (show decide ((b.length:Int)<((K_ (row1 .i32) b).length:Int))=false by (simp;done))<|.n)
theorem rows_l (w b:List Int) (lo hi z:Int) (g:Bool) (hw:∀ v∈w,In8 v) (hb:∀ v∈b,In32 v) (wl:w.length≤100000) (bl:b.length≤100000) (b0:0<b.length) (h1:In8 lo) (h2:In8 hi) (h3:In8 z):VT L_ (fnC Tryz.f104 [1,1,1,0,1,0]) (rows_l_I w b lo hi z g 0) (.exit 0) (rows_l_Z w b lo hi z g) :=
 VT.loop (fun k=>rows_l_I w b lo hi z g k) (b.length) (fun k hk=>rows_l_s w b lo hi z g hw hb wl bl b0 h1 h2 h3 k hk) (rows_l_e w b lo hi z g hw hb wl bl b0 h1 h2 h3) (by intro h;cases h)
theorem rows_v (w b:List Int) (lo hi z:Int) (g:Bool) (hw:∀ v∈w,In8 v) (hb:∀ v∈b,In32 v) (wl:w.length≤100000) (bl:b.length≤100000) (b0:0<b.length) (h1:In8 lo) (h2:In8 hi) (h3:In8 z):VC L_ 104 ([ints .i8 w,ints .i32 b,i8 lo,i8 hi,i8 z,bv g]) (.tup [i64 (rowsR (spRow w b lo hi z g) b.length).lo,i64 (rowsR (spRow w b lo hi z g) b.length).hi,bv (decide ((rowsR (spRow w b lo hi z g) b.length).lo ≥ -2147483648)&&decide ((rowsR (spRow w b lo hi z g) b.length).hi≤2147483647))]):=by
 have q1:(0≤(w.length:Int)/(b.length:Int)∧(w.length:Int)/(b.length:Int)≤w.length):=⟨Int.ediv_nonneg (by omega) (by omega),Int.ediv_le_self _ (by omega)⟩
 have oz1:=(show IntKind.i64.wrap (((K_ (row1 .i8) w).length:Int).tdiv ((K_ (row1 .i32) b).length:Int))=((K_ (row1 .i8) w).length:Int)/((K_ (row1 .i32) b).length:Int) from (Eq.trans (congrArg _ (BF_ (by omega))) (by with_reducible exact i6n _ (by simp only[N_] at *;omega))))
 have oz4:=(R_ (k:=.i64) (show ((((K_ (row1 .i8) w).length:Int)/((K_ (row1 .i32) b).length:Int)):Int)=((w.length:Int)/(b.length:Int)) from (by (simp;done))))
 have oz6:=@rows_l (w) (b) (lo) (hi) (z) (g) hw hb wl bl b0 h1 h2 h3
 exact VC.run (fn:=Tryz.f104) (W:=[r_,r_,.r [] [.n (((K_ (row1 .i8) w).length:Int)/((K_ (row1 .i32) b).length:Int))],r_,.code [.any (rg [(12,3),(21,5)]),.weak 15 (i64 (rowsR (spRow w b lo hi z g) 0).lo),.weak 16 (i64 (rowsR (spRow w b lo hi z g) 0).hi),.weak 17 (wO oz4),.weak 18 (i64 (↑0:Int)),.sort] (AF_ 0) (zO oz6),.r [] [o_,o_,.sel 2]]) Tryz.func104 (by kernel_rfl) (.c (show ((K_ (row1 .i32) b).length:Int)≠0 by (simp only[N_] at *;omega))<|.c oz1<|.c (R_ (k:=.i64) (show ((0):Int)=((rowsR (spRow w b lo hi z g) 0).lo) from (by rfl)))<|.c (R_ (k:=.i64) (show ((0):Int)=((rowsR (spRow w b lo hi z g) 0).hi) from (by rfl)))<|.c oz4<|.c w0_<|.c oz6<|.n)
theorem rowsR_iff (f:Nat→Rng):∀ k,((rowsR f (k+1)).lo ≥ -2147483648∧(rowsR f (k+1)).hi≤2147483647)↔∀ i,i<k+1→holdB (f i)=true
 | 0=>by
  rw[show rowsR f (0+1)=⟨min (f 0).lo (f 0).lo,max (f 0).hi (f 0).hi⟩ by rw[rowsR,i_ rfl]]
  simp only[holdB,P_,E_]
  constructor
  ·intro h i hi
   rw[show i=0 by omega];omega
  ·intro h;have:=h 0 (by omega);omega
 | k+1=>by
  have ih:=rowsR_iff f k
  rw[rowsR,j_ (by omega)]
  dsimp only
  constructor
  ·intro h i hi
   by_cases e:i=k+1
   ·subst e;simp only[holdB,P_,E_];omega
   ·exact ih.1 (by omega) i (by omega)
  ·intro h
   have h1:=ih.2 fun i hi=>h i (by omega)
   have h2:=h (k+1) (by omega)
   simp only[holdB,P_,E_] at h2
   omega
theorem rows_all {w b:List Int} {lo hi z:Int} {g:Bool} (b0:0<b.length):(decide ((rowsR (spRow w b lo hi z g) b.length).lo ≥ -2147483648)&&decide ((rowsR (spRow w b lo hi z g) b.length).hi≤2147483647))=(allR w b lo hi z g b.length).all holdB:=by
 obtain ⟨n,hn⟩:∃ n,b.length=n+1:=⟨b.length-1,by omega⟩
 rw[hn,Bool.eq_iff_iff,P_,E_,E_,rowsR_iff,allR,List.all_map,CZ_]
 constructor
 ·intro h i hi;exact h i (List.mem_range.1 hi)
 ·intro h i hi;exact h i (List.mem_range.2 hi)
theorem refHead_v (w b:List Int) (nd lo hi:Int) (hw:∀ v∈w,In8 v) (hb:∀ v∈b,In32 v) (wl:w.length≤100000) (bl:b.length≤100000) (h1:In8 lo) (h2:In8 hi):VC L_ 71 ([.agg (hedC w b nd),.agg [i8 lo,i8 hi]]) (i64 (headE w b lo hi)):=by
 have q1:=@hd_pos w b
 have q2:=@rows_all w b lo hi 0 false
 have oz0:=@shared_v (w) (b) wl bl
 rcases bft (!sharedB w b) with hc0|hc0
 ·have gc0:sharedB w b=false:=by first|exact hc0|exact of_decide_eq_true hc0|exact of_decide_eq_false hc0|simpa [eqNums] using hc0|(simp[eqNums] at hc0 ⊢;first|done|assumption|omega)
  exact (VC.run (fn:=Tryz.f71) (W:=[r_,.r [] [.callr (rO oz0)],b_,r_]) (r:=i64 9) Tryz.func71 (by kernel_rfl) (.c oz0<|.c hc0<|.n)).weak (B_ _) (R_ (by (unfold headE;simp_all;done)))
 ·have gc0:sharedB w b=true:=by first|exact hc0|exact of_decide_eq_true hc0|exact of_decide_eq_false hc0|simpa [eqNums] using hc0|(simp[eqNums] at hc0 ⊢;first|done|assumption|omega)
  have oz2:=@rows_v (w) (b) (lo) (hi) (0) (false) hw hb wl bl (by (exact q1 (by simp_all))) h1 h2 (by omega)
  rcases bft (!(decide ((rowsR (spRow w b lo hi 0 false) b.length).lo ≥ -2147483648)&&decide ((rowsR (spRow w b lo hi 0 false) b.length).hi≤2147483647))) with hc1|hc1
  ·have gc1:¬(rowsR (spRow w b lo hi 0 false) b.length).lo ≥ -2147483648∨¬(rowsR (spRow w b lo hi 0 false) b.length).hi≤2147483647:=by simp only[Z_,T_,P_,S_,W_,U_,E_,F_,I_,J_,ne_eq,H_,G_,eqNums,C_] at hc1;first|exact hc1|omega
   exact (VC.run (fn:=Tryz.f71) (W:=[r_,.r [] [.callr (rO oz0)],d_,.r [] [.callr (rO oz2)],r_,b_,r_]) (r:=i64 10) Tryz.func71 (by kernel_rfl) (.c oz0<|.c hc0<|.c oz2<|.c hc1<|.n)).weak (B_ _) (R_ (by (unfold headE;simp_all;done)))
  ·have gc1:(rowsR (spRow w b lo hi 0 false) b.length).lo ≥ -2147483648∧(rowsR (spRow w b lo hi 0 false) b.length).hi≤2147483647:=by simp only[Z_,T_,P_,S_,W_,U_,E_,F_,I_,J_,ne_eq,H_,G_,eqNums,C_] at hc1;first|exact hc1|omega
   exact (VC.run (fn:=Tryz.f71) (W:=[r_,.r [] [.callr (rO oz0)],d_,.r [] [.callr (rO oz2)],r_,d_,r_]) (r:=i64 0) Tryz.func71 (by kernel_rfl) (.c oz0<|.c hc0<|.c oz2<|.c hc1<|.n)).weak (B_ _) (R_ (by (unfold headE;simp_all;done)))
abbrev rchC (r:Rng):List AV:=[i8 r.lo,i8 r.hi]
abbrev rch (r:Rng):AV:=.agg (rchC r)
def bothR (l:List Rng):Nat→Rng
 | 0=>l.getD 0 default
 | k+1=>⟨min (bothR l k).lo (l.getD k default).lo,max (bothR l k).hi (l.getD k default).hi⟩
noncomputable def both_l_I (l:List Rng) (k:Nat):VS:=stt 32 [(2,.ptr 2 0 0),(3,.ptr 3 0 0),(13,.sl 2 (l.map rngC)),(14,i64 l.length),(15,i64 k)] [(2,.var [i64 0,i64 0]),(3,.var (rngC (bothR l k)))]
noncomputable def both_l_Z (l:List Rng):VS:=both_l_I l (l.length)
theorem both_l_s (l:List Rng) (hl:l.length≤1000000) (k:Nat) (hk:k<l.length):VT L_ (fnC Tryz.f231 [1,1,1,0,1,0,0]) (both_l_I l k) .normal (both_l_I l (k+1)):=by
 have oz2:=(map_at (rngC) (default) (l:=l) (i:=k) hk)
 exact VT.run (W:=[r_,b_,.r [] [.row (sO oz2)],r_,.r [] [.n ((↑k:Int)+1)]]) (G:=[.any (rg [(5,1),(16,15)]),.drop [5],.weak 15 (i64 (↑(k+1):Int)),.blk 3 (Blk.var [i64 (bothR l (k+1)).lo,i64 (bothR l (k+1)).hi]),.sort]) (by kernel_rfl) (.c (decide_eq_true (p:=((↑k:Int)<(l.length:Int))) (by omega))<|.c (show 0≤(↑k:Int) by omega)<|.c oz2<|.c (i6n ((↑k:Int)+1) (by omega))<|.c (wS_ k)<|.c (show BlkW (Blk.var [i64 (if (l.getD k default).lo<(bothR l k).lo then (l.getD k default).lo else (bothR l k).lo),i64 (if (l.getD k default).hi>(bothR l k).hi then (l.getD k default).hi else (bothR l k).hi)]) (Blk.var [i64 (bothR l (k+1)).lo,i64 (bothR l (k+1)).hi]) from (BlkW.var (m:=[i64 (bothR l (k+1)).lo,i64 (bothR l (k+1)).hi]) (.cons (R_ (by (simp only[bothR];split<;>omega))) (.cons (R_ (by (simp only[bothR];split<;>omega))) .nil))))<|.n)
theorem both_l_e (l:List Rng) (hl:l.length≤1000000):VT L_ (fnC Tryz.f231 [1,1,1,0,1,0,0]) (both_l_I l (l.length)) (.exit 0) (both_l_Z l):=by
 exact VT.run (W:=[r_,d_]) (G:=[.any [16],.sort]) (by kernel_rfl) (.c (decide_eq_false (p:=((l.length:Int)<(l.length:Int))) (by omega))<|.n)
theorem both_l (l:List Rng) (hl:l.length≤1000000):VT L_ (fnC Tryz.f231 [1,1,1,0,1,0]) (both_l_I l 0) (.exit 0) (both_l_Z l) :=
 VT.loop (fun k=>both_l_I l k) (l.length) (fun k hk=>both_l_s l hl k hk) (both_l_e l hl) (by intro h;cases h)
theorem both_v (l:List Rng) (hl:l.length≤1000000):VC L_ 231 ([.sl 2 (l.map rngC)]) (rng (bothR l l.length)):=by
 rcases bft (((K_ rngC l).length:Int)==0) with hc0|hc0
 ·have gc0:((K_ rngC l).length:Int)=0:=bet hc0
  exact (VC.run (fn:=Tryz.f231) (W:=[r_,r_,b_,r_]) (r:=AV.agg [i64 0,i64 0]) Tryz.func231 (by kernel_rfl) (.c hc0<|.n)).weak (B_ _) (AD_ (.cons (R_ (by (have:l=[]:=AI_ (by simp only[N_] at *;omega);subst this;rfl))) (.cons (R_ (by (have:l=[]:=AI_ (by simp only[N_] at *;omega);subst this;rfl))) .nil)))
 ·have gc0:¬((K_ rngC l).length:Int)=0:=bef hc0
  have oz2:=(map_at (rngC) (default) (l:=l) (i:=0) (by (simp only[N_] at *;omega)))
  have oz6:=@both_l (l) hl
  exact VC.run (fn:=Tryz.f231) (W:=[r_,r_,d_,.r [] [.row (sO oz2)],r_,.code [.any [0,6,7,8,10,11,12],.weak 14 (i64 (l.length:Int)),.weak 15 (i64 (↑0:Int)),.blk 3 (Blk.var [i64 (bothR l 0).lo,i64 (bothR l 0).hi]),.sort] (AF_ 0) (zO oz6),r_]) Tryz.func231 (by kernel_rfl) (.c hc0<|.c (show (0:Int)≤(0:Int) by omega)<|.c oz2<|.c (R_ (k:=.i64) (show ((((K_ rngC l).length:Int)):Int)=((l.length:Int)) from (by (simp;done))))<|.c w0_<|.c (show BlkW (Blk.var [i64 (l.getD 0 default).lo,i64 (l.getD 0 default).hi]) (Blk.var [i64 (bothR l 0).lo,i64 (bothR l 0).hi]) from (BlkW.var (m:=[i64 (bothR l 0).lo,i64 (bothR l 0).hi]) (.cons (R_ (by rfl)) (.cons (R_ (by rfl)) .nil))))<|.c oz6<|.n)
def held32 (v:Int):Int:=if 2147483647<if -2147483648>v then -2147483648 else v then 2147483647 else if -2147483648>v then -2147483648 else v
theorem held32_in (v:Int):In32 (held32 v):=by unfold held32 In32;omega
theorem min_if (a b:Int):(if b<a then b else a)=min a b:=by omega
theorem max_if (a b:Int):(if b>a then b else a)=max a b:=by omega
def afterE (r:Rng) (n:Nod):Rng:=⟨min (heldQ (held32 r.lo) n.qm n.qs n.qz n.lo n.hi) (heldQ (held32 r.hi) n.qm n.qs n.qz n.lo n.hi),max (heldQ (held32 r.lo) n.qm n.qs n.qz n.lo n.hi) (heldQ (held32 r.hi) n.qm n.qs n.qz n.lo n.hi)⟩
theorem after_v (r:Rng) (n:Nod) (ok:n.Ok):VC L_ 230 ([rng r,.agg [i32 n.qm,i64 n.qs,i8 n.qz],i8 n.lo,i8 n.hi]) (.tup [i8 (afterE r n).lo,i8 (afterE r n).hi]):=by
 have ok_qm:=ok.qm
 have ok_qz:=ok.qz
 have ok_lo:=ok.lo
 have ok_hi:=ok.hi
 have q1:=held32_in r.lo
 have q2:=held32_in r.hi
 have oz0:=(CR_ (if 2147483647<if -2147483648>r.lo then -2147483648 else r.lo then 2147483647 else if -2147483648>r.lo then -2147483648 else r.lo) (by omega))
 have oz1:=@held_v (if 2147483647<if -2147483648>r.lo then -2147483648 else r.lo then 2147483647 else if -2147483648>r.lo then -2147483648 else r.lo) (n.qm) (n.qs) (n.qz) (n.lo) (n.hi) (by omega) ok_qm ok_qz ok_lo ok_hi
 have oz2:=(CR_ (if 2147483647<if -2147483648>r.hi then -2147483648 else r.hi then 2147483647 else if -2147483648>r.hi then -2147483648 else r.hi) (by omega))
 have oz3:=@held_v (if 2147483647<if -2147483648>r.hi then -2147483648 else r.hi then 2147483647 else if -2147483648>r.hi then -2147483648 else r.hi) (n.qm) (n.qs) (n.qz) (n.lo) (n.hi) (by omega) ok_qm ok_qz ok_lo ok_hi
 exact (VC.run (fn:=Tryz.f230) (W:=[r_,.r [] [.n (nO oz0),.callr (rO oz1)],.r [] [.n (nO oz2),.callr (rO oz3)],r_]) (r:=AV.tup [i8 (if heldQ (if 2147483647<if -2147483648>r.hi then -2147483648 else r.hi then 2147483647 else if -2147483648>r.hi then -2147483648 else r.hi) n.qm n.qs n.qz n.lo n.hi<heldQ (if 2147483647<if -2147483648>r.lo then -2147483648 else r.lo then 2147483647 else if -2147483648>r.lo then -2147483648 else r.lo) n.qm n.qs n.qz n.lo n.hi then heldQ (if 2147483647<if -2147483648>r.hi then -2147483648 else r.hi then 2147483647 else if -2147483648>r.hi then -2147483648 else r.hi) n.qm n.qs n.qz n.lo n.hi else heldQ (if 2147483647<if -2147483648>r.lo then -2147483648 else r.lo then 2147483647 else if -2147483648>r.lo then -2147483648 else r.lo) n.qm n.qs n.qz n.lo n.hi),i8 (if heldQ (if 2147483647<if -2147483648>r.hi then -2147483648 else r.hi then 2147483647 else if -2147483648>r.hi then -2147483648 else r.hi) n.qm n.qs n.qz n.lo n.hi>heldQ (if 2147483647<if -2147483648>r.lo then -2147483648 else r.lo then 2147483647 else if -2147483648>r.lo then -2147483648 else r.lo) n.qm n.qs n.qz n.lo n.hi then heldQ (if 2147483647<if -2147483648>r.hi then -2147483648 else r.hi then 2147483647 else if -2147483648>r.hi then -2147483648 else r.hi) n.qm n.qs n.qz n.lo n.hi else heldQ (if 2147483647<if -2147483648>r.lo then -2147483648 else r.lo then 2147483647 else if -2147483648>r.lo then -2147483648 else r.lo) n.qm n.qs n.qz n.lo n.hi)]) Tryz.func230 (by kernel_rfl) (.c oz0<|.c oz1<|.c oz2<|.c oz3<|.n)).weak (B_ _) (AA_ (.cons (R_ (by (exact min_if _ _))) (.cons (R_ (by (exact max_if _ _))) .nil)))
theorem clamp_in (v:Int) {lo hi:Int} (h1:In8 lo) (h2:In8 hi):In8 (clampI v lo hi):=by
 unfold clampI;split
 ·exact h1
 ·split
  ·exact h2
  ·omega
theorem refHeld_v (a m s z lo hi:Int) (ha:In32 a) (hm:In32 m) (hz:In8 z) (hl:In8 lo) (hh:In8 hi):VC L_ 181 ([i32 a,.agg [i32 m,i64 s,i8 z],i8 lo,i8 hi]) (i8 (heldQ a m s z lo hi)):=by
 have q1:=mul_bd32 a m ha.1 ha.2 hm.1 hm.2
 have q2:=rnd_bd (a*m) s 4611686018427387904 q1.1 q1.2
 have q3:=clamp_in (rnd (a*m) s+z) hl hh
 have oz0:=@refRight_v (m) (s) (z)
 rcases bft (!rightQ m s) with hc0|hc0
 ·have gc0:rightQ m s=false:=by first|exact hc0|exact of_decide_eq_true hc0|exact of_decide_eq_false hc0|simpa [eqNums] using hc0|(simp[eqNums] at hc0 ⊢;first|done|assumption|omega)
  exact (VC.run (fn:=Tryz.f181) (W:=[r_,.r [] [.callr (rO oz0)],b_,r_]) (r:=i8 0) Tryz.func181 (by kernel_rfl) (.c oz0<|.c hc0<|.n)).weak (B_ _) (R_ (by (unfold heldQ;rw[j_ (by simp_all)])))
 ·have gc0:rightQ m s=true:=by first|exact hc0|exact of_decide_eq_true hc0|exact of_decide_eq_false hc0|simpa [eqNums] using hc0|(simp[eqNums] at hc0 ⊢;first|done|assumption|omega)
  have oz5:=@refRound_v (a*m) (s) (by omega)
  have oz10:=@refSatHeld_v (rnd (a*m) s+z) (lo) (hi)
  have oz11:=(IntWalk.i8_in (clampI (rnd (a*m) s+z) lo hi) (by omega))
  exact (VC.run (fn:=Tryz.f181) (W:=[r_,.r [] [.callr (rO oz0)],d_,.r [] [.n a,.n m,.n (a*m),.callr (rO oz5),.n z,.n (rnd (a*m) s+z)],.r [] [.n lo,.n hi,.callr (rO oz10),.n (nO oz11)]]) (r:=i8 (clampI (rnd (a*m) s+z) lo hi)) Tryz.func181 (by kernel_rfl) (.c oz0<|.c hc0<|.c (i6n a (by omega))<|.c (i6n m (by omega))<|.c (i6n (a*m) (by omega))<|.c oz5<|.c (i6n z (by omega))<|.c (i6n (rnd (a*m) s+z) (by omega))<|.c (i6n lo (by omega))<|.c (i6n hi (by omega))<|.c oz10<|.c oz11<|.n)).weak (B_ _) (R_ (by (unfold heldQ;rw[i_ (by simp_all)])))
theorem refAfter_v (r:Rng) (n:Nod) (ok:n.Ok):VC L_ 148 ([i64 r.lo,i64 r.hi,.agg [i32 n.qm,i64 n.qs,i8 n.qz],i8 n.lo,i8 n.hi]) (.tup [i8 (afterE r n).lo,i8 (afterE r n).hi]):=by
 have ok_qm:=ok.qm
 have ok_qz:=ok.qz
 have ok_lo:=ok.lo
 have ok_hi:=ok.hi
 have q1:=held32_in r.lo
 have q2:=held32_in r.hi
 have oz0:=(CR_ (if 2147483647<if -2147483648>r.lo then -2147483648 else r.lo then 2147483647 else if -2147483648>r.lo then -2147483648 else r.lo) (by omega))
 have oz1:=@refHeld_v (if 2147483647<if -2147483648>r.lo then -2147483648 else r.lo then 2147483647 else if -2147483648>r.lo then -2147483648 else r.lo) (n.qm) (n.qs) (n.qz) (n.lo) (n.hi) (by omega) ok_qm ok_qz ok_lo ok_hi
 have oz2:=(CR_ (if 2147483647<if -2147483648>r.hi then -2147483648 else r.hi then 2147483647 else if -2147483648>r.hi then -2147483648 else r.hi) (by omega))
 have oz3:=@refHeld_v (if 2147483647<if -2147483648>r.hi then -2147483648 else r.hi then 2147483647 else if -2147483648>r.hi then -2147483648 else r.hi) (n.qm) (n.qs) (n.qz) (n.lo) (n.hi) (by omega) ok_qm ok_qz ok_lo ok_hi
 exact (VC.run (fn:=Tryz.f148) (W:=[r_,.r [] [.n (nO oz0),.callr (rO oz1)],.r [] [.n (nO oz2),.callr (rO oz3)],r_]) (r:=AV.tup [i8 (if heldQ (if 2147483647<if -2147483648>r.hi then -2147483648 else r.hi then 2147483647 else if -2147483648>r.hi then -2147483648 else r.hi) n.qm n.qs n.qz n.lo n.hi<heldQ (if 2147483647<if -2147483648>r.lo then -2147483648 else r.lo then 2147483647 else if -2147483648>r.lo then -2147483648 else r.lo) n.qm n.qs n.qz n.lo n.hi then heldQ (if 2147483647<if -2147483648>r.hi then -2147483648 else r.hi then 2147483647 else if -2147483648>r.hi then -2147483648 else r.hi) n.qm n.qs n.qz n.lo n.hi else heldQ (if 2147483647<if -2147483648>r.lo then -2147483648 else r.lo then 2147483647 else if -2147483648>r.lo then -2147483648 else r.lo) n.qm n.qs n.qz n.lo n.hi),i8 (if heldQ (if 2147483647<if -2147483648>r.hi then -2147483648 else r.hi then 2147483647 else if -2147483648>r.hi then -2147483648 else r.hi) n.qm n.qs n.qz n.lo n.hi>heldQ (if 2147483647<if -2147483648>r.lo then -2147483648 else r.lo then 2147483647 else if -2147483648>r.lo then -2147483648 else r.lo) n.qm n.qs n.qz n.lo n.hi then heldQ (if 2147483647<if -2147483648>r.hi then -2147483648 else r.hi then 2147483647 else if -2147483648>r.hi then -2147483648 else r.hi) n.qm n.qs n.qz n.lo n.hi else heldQ (if 2147483647<if -2147483648>r.lo then -2147483648 else r.lo then 2147483647 else if -2147483648>r.lo then -2147483648 else r.lo) n.qm n.qs n.qz n.lo n.hi)]) Tryz.func148 (by kernel_rfl) (.c oz0<|.c oz1<|.c oz2<|.c oz3<|.n)).weak (B_ _) (AA_ (.cons (R_ (by (exact min_if _ _))) (.cons (R_ (by (exact max_if _ _))) .nil)))
def joinE (x y:Int) (n:Nod):Int:=if (rightQ n.qm n.qs&&rightQ n.rm n.rs)=true then clampI (rnd ((x-n.za)*n.qm) n.qs+rnd ((y-n.zb)*n.rm) n.rs+n.qz) n.lo n.hi else 0
theorem mul_bd9 (a m:Int) (a0 : -255≤a) (a1:a≤255) (hm:In32 m) : -547608330240≤a*m∧a*m≤547608330240:=by
 obtain ⟨m0,m1⟩:=hm
 have h1:(a.natAbs*m.natAbs:Nat)≤255*2147483648:=Nat.mul_le_mul (by omega) (by omega)
 have:=Int.natAbs_mul a m
 omega
theorem joinP (v z m s:Int) (h1:In8 v) (h2:In8 z) (h3:In32 m):(-547608330240≤(v-z)*m∧(v-z)*m≤547608330240) ∧ -547608330240≤rnd ((v-z)*m) s∧rnd ((v-z)*m) s≤547608330240:=by
 have q:=mul_bd9 (v-z) m (by omega) (by omega) h3
 exact ⟨q,rnd_bd _ s _ q.1 q.2⟩
theorem joinMay_v (n:Nod)  : VC L_ 232 ([nod n]) (bv (rightQ n.qm n.qs&&rightQ n.rm n.rs)):=by
 have oz0:=@right_v (n.qm) (n.qs) (n.qz)
 have oz1:=@right_v (n.rm) (n.rs) (n.rz)
 exact VC.run (fn:=Tryz.f232) (W:=[r_,.r [] [.callr (rO oz0),o_,o_,o_,.callr (rO oz1),.sel 2]]) Tryz.func232 (by kernel_rfl) (.c oz0<|.c oz1<|.n)
theorem joinScaled_v (v z m s z2:Int) (h1:In8 v) (h2:In8 z) (h3:In32 m):VC L_ 234 ([i8 v,i8 z,.agg [i32 m,i64 s,i8 z2]]) (i64 (rnd ((v-z)*m) s)):=by
 have oz3:=@scale_v (v-z) (m) (s) (by omega) h3
 exact VC.run (fn:=Tryz.f234) (W:=[r_,.r [] [.n v,.n z,.n (v-z),.callr (rO oz3)]]) Tryz.func234 (by kernel_rfl) (.c (CR_ v (by omega))<|.c (CR_ z (by omega))<|.c (CR_ (v-z) (by omega))<|.c oz3<|.n)
theorem joinOne_v (x y:Int) (n:Nod) (ok:n.Ok) (hx:In8 x) (hy:In8 y):VC L_ 224 ([i8 x,i8 y,nod n]) (i8 (joinE x y n)):=by
 have ok_za:=ok.za
 have ok_zb:=ok.zb
 have ok_qm:=ok.qm
 have ok_rm:=ok.rm
 have ok_lo:=ok.lo
 have ok_hi:=ok.hi
 have ok_qz:=ok.qz
 have q1:=joinP x n.za n.qm n.qs hx ok.za ok.qm
 have q2:=joinP y n.zb n.rm n.rs hy ok.zb ok.rm
 have oz0:=@joinMay_v (n)
 rcases bft (!(rightQ n.qm n.qs&&rightQ n.rm n.rs)) with hc0|hc0
 ·have gc0:rightQ n.qm n.qs=false∨rightQ n.rm n.rs=false:=by simp only[Z_,T_,P_,S_,W_,U_,E_,F_,I_,J_,ne_eq,H_,G_,eqNums,C_] at hc0;first|exact hc0|omega
  exact (VC.run (fn:=Tryz.f224) (W:=[r_,.r [] [.callr (rO oz0)],b_,r_]) (r:=i8 0) Tryz.func224 (by kernel_rfl) (.c oz0<|.c hc0<|.n)).weak (B_ _) (R_ (by (unfold joinE;rw[j_ (by intro hh;simp only[P_] at hh;simp_all)])))
 ·have gc0:rightQ n.qm n.qs=true∧rightQ n.rm n.rs=true:=by simp only[Z_,T_,P_,S_,W_,U_,E_,F_,I_,J_,ne_eq,H_,G_,eqNums,C_] at hc0;first|exact hc0|omega
  have oz2:=@joinScaled_v (x) (n.za) (n.qm) (n.qs) (n.qz) hx ok_za ok_qm
  have oz3:=@joinScaled_v (y) (n.zb) (n.rm) (n.rs) (n.rz) hy ok_zb ok_rm
  have oz4:=(i6n (rnd ((x-n.za)*n.qm) n.qs+rnd ((y-n.zb)*n.rm) n.rs) (by omega))
  have oz6:=(i6n (rnd ((x-n.za)*n.qm) n.qs+rnd ((y-n.zb)*n.rm) n.rs+n.qz) (by omega))
  have oz7:=@clamp_v (rnd ((x-n.za)*n.qm) n.qs+rnd ((y-n.zb)*n.rm) n.rs+n.qz) (n.lo) (n.hi) ok_lo ok_hi
  exact (VC.run (fn:=Tryz.f224) (W:=[r_,.r [] [.callr (rO oz0)],d_,.r [] [.callr (rO oz2),.callr (rO oz3),.n (nO oz4),.n n.qz,.n (nO oz6),.callr (rO oz7)]]) (r:=i8 (clampI (rnd ((x-n.za)*n.qm) n.qs+rnd ((y-n.zb)*n.rm) n.rs+n.qz) n.lo n.hi)) Tryz.func224 (by kernel_rfl) (.c oz0<|.c hc0<|.c oz2<|.c oz3<|.c oz4<|.c (i6n n.qz (by omega))<|.c oz6<|.c oz7<|.n)).weak (B_ _) (R_ (by (unfold joinE;rw[i_ (by simp_all)])))
theorem refJoinOne_v (x y:Int) (n:Nod) (ok:n.Ok) (hx:In8 x) (hy:In8 y):VC L_ 149 ([i8 x,i8 y,nod n]) (i8 (joinE x y n)):=by
 have ok_za:=ok.za
 have ok_zb:=ok.zb
 have ok_qm:=ok.qm
 have ok_rm:=ok.rm
 have ok_lo:=ok.lo
 have ok_hi:=ok.hi
 have ok_qz:=ok.qz
 have q1:=joinP x n.za n.qm n.qs hx ok.za ok.qm
 have q2:=joinP y n.zb n.rm n.rs hy ok.zb ok.rm
 have q3:=clamp_in (rnd ((x-n.za)*n.qm) n.qs+rnd ((y-n.zb)*n.rm) n.rs+n.qz) ok.lo ok.hi
 have oz0:=@refRight_v (n.qm) (n.qs) (n.qz)
 have oz1:=@refRight_v (n.rm) (n.rs) (n.rz)
 rcases bft (!rightQ n.qm n.qs || !rightQ n.rm n.rs) with hc0|hc0
 ·have gc0:rightQ n.qm n.qs=false∨rightQ n.rm n.rs=false:=by simp only[Z_,T_,P_,S_,W_,U_,E_,F_,I_,J_,ne_eq,H_,G_,eqNums,C_] at hc0;first|exact hc0|omega
  exact (VC.run (fn:=Tryz.f149) (W:=[r_,.r [] [.callr (rO oz0),o_,o_,o_,.callr (rO oz1),o_,.sel 1],b_,r_]) (r:=i8 0) Tryz.func149 (by kernel_rfl) (.c oz0<|.c oz1<|.c hc0<|.n)).weak (B_ _) (R_ (by (unfold joinE;rw[j_ (by intro hh;simp only[P_] at hh;simp_all)])))
 ·have gc0:rightQ n.qm n.qs=true∧rightQ n.rm n.rs=true:=by simp only[Z_,T_,P_,S_,W_,U_,E_,F_,I_,J_,ne_eq,H_,G_,eqNums,C_] at hc0;first|exact hc0|omega
  have oz8:=@refRound_v ((x-n.za)*n.qm) (n.qs) (by omega)
  have oz14:=@refRound_v ((y-n.zb)*n.rm) (n.rs) (by omega)
  have oz15:=(i6n (rnd ((x-n.za)*n.qm) n.qs+rnd ((y-n.zb)*n.rm) n.rs) (by omega))
  have oz17:=(i6n (rnd ((x-n.za)*n.qm) n.qs+rnd ((y-n.zb)*n.rm) n.rs+n.qz) (by omega))
  have oz20:=@refSatHeld_v (rnd ((x-n.za)*n.qm) n.qs+rnd ((y-n.zb)*n.rm) n.rs+n.qz) (n.lo) (n.hi)
  have oz21:=(IntWalk.i8_in (clampI (rnd ((x-n.za)*n.qm) n.qs+rnd ((y-n.zb)*n.rm) n.rs+n.qz) n.lo n.hi) (by omega))
  exact (VC.run (fn:=Tryz.f149) (W:=[r_,.r [] [.callr (rO oz0),o_,o_,o_,.callr (rO oz1),o_,.sel 1],d_,.r [] [.n x,.n n.za,.n (x-n.za),.n n.qm,.n ((x-n.za)*n.qm),.callr (rO oz8)],.r [] [.n y,.n n.zb,.n (y-n.zb),.n n.rm,.n ((y-n.zb)*n.rm),.callr (rO oz14)],.r [] [.n (nO oz15),.n n.qz,.n (nO oz17),.n n.lo,.n n.hi,.callr (rO oz20),.n (nO oz21)]]) (r:=i8 (clampI (rnd ((x-n.za)*n.qm) n.qs+rnd ((y-n.zb)*n.rm) n.rs+n.qz) n.lo n.hi)) Tryz.func149 (by kernel_rfl) (.c oz0<|.c oz1<|.c hc0<|.c (i6n x (by omega))<|.c (i6n n.za (by omega))<|.c (i6n (x-n.za) (by omega))<|.c (i6n n.qm (by omega))<|.c (i6n ((x-n.za)*n.qm) (by omega))<|.c oz8<|.c (i6n y (by omega))<|.c (i6n n.zb (by omega))<|.c (i6n (y-n.zb) (by omega))<|.c (i6n n.rm (by omega))<|.c (i6n ((y-n.zb)*n.rm) (by omega))<|.c oz14<|.c oz15<|.c (i6n n.qz (by omega))<|.c oz17<|.c (i6n n.lo (by omega))<|.c (i6n n.hi (by omega))<|.c oz20<|.c oz21<|.n)).weak (B_ _) (R_ (by (unfold joinE;rw[i_ (by simp_all)])))
theorem refActOne_v (v:Int) (n:Nod) (ok:n.Ok) (hv:In8 v):VC L_ 150 ([i8 v,nod n]) (i8 (oneN v n)):=by
 have ok_za:=ok.za
 have ok_qm:=ok.qm
 have ok_qz:=ok.qz
 have ok_lo:=ok.lo
 have ok_hi:=ok.hi
 have oz3:=@refHeld_v (v-n.za) (n.qm) (n.qs) (n.qz) (n.lo) (n.hi) (by omega) ok_qm ok_qz ok_lo ok_hi
 exact (VC.run (fn:=Tryz.f150) (W:=[r_,.r [] [.n v,.n n.za,.n (v-n.za),.callr (rO oz3)]]) (r:=i8 (heldQ (v-n.za) n.qm n.qs n.qz n.lo n.hi)) Tryz.func150 (by kernel_rfl) (.c (CR_ v (by omega))<|.c (CR_ n.za (by omega))<|.c (CR_ (v-n.za) (by omega))<|.c oz3<|.n)).weak (B_ _) (R_ (by rfl))
theorem all_le (w b:List Int) (lo hi z:Int) (g:Bool) (bl:b.length≤100000):(allR w b lo hi z g (if sharedB w b=true then b.length else 0)).length≤1000000:=by
 have:(allR w b lo hi z g (if sharedB w b=true then b.length else 0)).length=if sharedB w b=true then b.length else 0:=by simp[allR]
 rw[this];split<;>omega
def spansN (n:Nod) (a:Rng):List Rng:=allR n.w n.b a.lo a.hi n.za (decide (n.np>0)) (if sharedB n.w n.b=true then n.b.length else 0)
def sumG (n:Nod) (a:Rng):Rng×Int:=if (spansN n a).all holdB=true then (afterE (bothR (spansN n a) (spansN n a).length) n,0) else (⟨0,0⟩,10)
theorem sumG_y {n:Nod} {a:Rng} (h:(allR n.w n.b a.lo a.hi n.za (decide (n.np>0)) (if sharedB n.w n.b=true then n.b.length else 0)).all holdB=true):sumG n a=(afterE (bothR (spansN n a) (spansN n a).length) n,0):=i_ h
theorem summed_v (n:Nod) (a:Rng) (ok:n.Ok) (h1:In8 a.lo) (h2:In8 a.hi) (wl:n.w.length≤100000) (bl:n.b.length≤100000):VC L_ 223 ([nod n,rch a]) (.tup [rch (sumG n a).1,i64 (sumG n a).2]):=by
 have q:=all_le n.w n.b a.lo a.hi n.za (decide (n.np>0)) bl
 have oz0:=@all_v (n) (a.lo) (a.hi) ok h1 h2 wl bl
 have oz1:=@holds_v (allR n.w n.b a.lo a.hi n.za (decide (n.np>0)) (if sharedB n.w n.b=true then n.b.length else 0)) q
 rcases bft (!(allR n.w n.b a.lo a.hi n.za (decide (n.np>0)) (if sharedB n.w n.b=true then n.b.length else 0)).all holdB) with hc0|hc0
 ·have gc0:(allR n.w n.b a.lo a.hi n.za (decide (n.np>0)) (if sharedB n.w n.b=true then n.b.length else 0)).all holdB=false:=by first|exact hc0|exact of_decide_eq_true hc0|exact of_decide_eq_false hc0|simpa [eqNums] using hc0|(simp[eqNums] at hc0 ⊢;first|done|assumption|omega)
  exact (VC.run (fn:=Tryz.f223) (W:=[r_,.r [] [.callr (rO oz0)],.r [] [.callr (rO oz1)],b_,r_]) (r:=AV.tup [AV.agg [i8 0,i8 0],i64 10]) Tryz.func223 (by kernel_rfl) (.c oz0<|.c oz1<|.c hc0<|.n)).weak (B_ _) (AA_ (.cons (AD_ (.cons (R_ (by (unfold sumG spansN;rw[j_ (by simp_all)]))) (.cons (R_ (by (unfold sumG spansN;rw[j_ (by simp_all)]))) .nil))) (.cons (R_ (by (unfold sumG spansN;rw[j_ (by simp_all)]))) .nil)))
 ·have gc0:(allR n.w n.b a.lo a.hi n.za (decide (n.np>0)) (if sharedB n.w n.b=true then n.b.length else 0)).all holdB=true:=by first|exact hc0|exact of_decide_eq_true hc0|exact of_decide_eq_false hc0|simpa [eqNums] using hc0|(simp[eqNums] at hc0 ⊢;first|done|assumption|omega)
  have oz3:=@both_v (allR n.w n.b a.lo a.hi n.za (decide (n.np>0)) (if sharedB n.w n.b=true then n.b.length else 0)) q
  have oz4:=@after_v (bothR (allR n.w n.b a.lo a.hi n.za (decide (n.np>0)) (if sharedB n.w n.b=true then n.b.length else 0)) (allR n.w n.b a.lo a.hi n.za (decide (n.np>0)) (if sharedB n.w n.b=true then n.b.length else 0)).length) (n) ok
  exact (VC.run (fn:=Tryz.f223) (W:=[r_,.r [] [.callr (rO oz0)],.r [] [.callr (rO oz1)],d_,.r [] [.callr (rO oz3),.callr (rO oz4)],r_]) (r:=AV.tup [AV.agg [i8 (afterE (bothR (allR n.w n.b a.lo a.hi n.za (decide (n.np>0)) (if sharedB n.w n.b=true then n.b.length else 0)) (allR n.w n.b a.lo a.hi n.za (decide (n.np>0)) (if sharedB n.w n.b=true then n.b.length else 0)).length) n).lo,i8 (afterE (bothR (allR n.w n.b a.lo a.hi n.za (decide (n.np>0)) (if sharedB n.w n.b=true then n.b.length else 0)) (allR n.w n.b a.lo a.hi n.za (decide (n.np>0)) (if sharedB n.w n.b=true then n.b.length else 0)).length) n).hi],i64 0]) Tryz.func223 (by kernel_rfl) (.c oz0<|.c oz1<|.c hc0<|.c oz3<|.c oz4<|.n)).weak (B_ _) (AA_ (.cons (AD_ (.cons (R_ (by (rw[sumG_y (by assumption)]<;>rfl))) (.cons (R_ (by (rw[sumG_y (by assumption)]<;>rfl))) .nil))) (.cons (R_ (by (rw[sumG_y (by assumption)]<;>rfl))) .nil)))
def Rng.In8 (a:Rng):Prop:=Go.Proofs.YtgimdjfbnbkpgaaGreat.In8 a.lo∧Go.Proofs.YtgimdjfbnbkpgaaGreat.In8 a.hi
def nodeR (n:Nod) (a b:Rng):Rng×Int :=
 if checkE n≠0 then (⟨0,0⟩,checkE n) else if a.lo>a.hi∨(n.kd=6∧b.lo>b.hi) then (⟨0,0⟩,2)
 else if n.kd=1∨n.kd=2∨n.kd=3 then sumG n a
 else if n.kd=6 then (⟨joinE a.lo b.lo n,joinE a.hi b.hi n⟩,0)
 else if n.kd=7 then (⟨oneN a.lo n,oneN a.hi n⟩,0)
 else if n.kd=8∧n.np>0 then (⟨min a.lo n.za,max a.hi n.za⟩,0) else (a,0)
noncomputable def ends64_l_I (a:Int) (l:List Int) (k:Nat):VS:=stt 27 [(6,i64 (foldR a l k).lo),(7,i64 (foldR a l k).hi),(12,ints .i64 l),(13,i64 l.length),(14,i64 k)] []
noncomputable def ends64_l_Z (a:Int) (l:List Int):VS:=ends64_l_I a l (l.length)
theorem ends64_l_s (a:Int) (l:List Int) (hl:l.length≤1000) (k:Nat) (hk:k<l.length):VT L_ (fnC Tryz.f204 [1,1,0,1,0,0]) (ends64_l_I a l k) .normal (ends64_l_I a l (k+1)):=by
 have oz4:=(R_ (k:=.i64) (show ((if l.getD k 0<(foldR a l k).lo then l.getD k 0 else (foldR a l k).lo):Int)=((foldR a l (k+1)).lo) from (by (simp only[foldR];split<;>omega))))
 have oz5:=(R_ (k:=.i64) (show ((if l.getD k 0>(foldR a l k).hi then l.getD k 0 else (foldR a l k).hi):Int)=((foldR a l (k+1)).hi) from (by (simp only[foldR];split<;>omega))))
 exact VT.run (W:=[r_,b_,.r [] [.row [i64 (l.getD k 0)]],r_,.r [] [.n ((↑k:Int)+1)]]) (G:=[.any (rg [(9,1),(15,10)]),.weak 6 (wO oz4),.weak 7 (wO oz5),.weak 14 (i64 (↑(k+1):Int)),.sort]) (by kernel_rfl) (.c (decide_eq_true (p:=((↑k:Int)<(l.length:Int))) (by omega))<|.c (show 0≤(↑k:Int) by omega)<|.c (map_at (row1 .i64) (0) (l:=l) (i:=k) hk)<|.c (i6n ((↑k:Int)+1) (by omega))<|.c oz4<|.c oz5<|.c (wS_ k)<|.n)
theorem ends64_l_e (a:Int) (l:List Int) (hl:l.length≤1000):VT L_ (fnC Tryz.f204 [1,1,0,1,0,0]) (ends64_l_I a l (l.length)) (.exit 0) (ends64_l_Z a l):=by
 exact VT.run (W:=[r_,d_]) (G:=[.any [15],.sort]) (by kernel_rfl) (.c (decide_eq_false (p:=((l.length:Int)<(l.length:Int))) (by omega))<|.n)
theorem ends64_l (a:Int) (l:List Int) (hl:l.length≤1000):VT L_ (fnC Tryz.f204 [1,1,0,1,0]) (ends64_l_I a l 0) (.exit 0) (ends64_l_Z a l) :=
 VT.loop (fun k=>ends64_l_I a l k) (l.length) (fun k hk=>ends64_l_s a l hl k hk) (ends64_l_e a l hl) (by intro h;cases h)
theorem ends64_v (a:Int) (l:List Int) (hl:l.length≤1000):VC L_ 204 ([i64 a,ints .i64 l]) (.tup [i64 (foldR a l l.length).lo,i64 (foldR a l l.length).hi]):=by
 have oz1:=(R_ (k:=.i64) (show ((((K_ (row1 .i64) l).length:Int)):Int)=((l.length:Int)) from (by (simp;done))))
 have oz3:=@ends64_l (a) (l) hl
 exact VC.run (fn:=Tryz.f204) (W:=[r_,r_,r_,.code [.any [0,1,4,5,10,11],.weak 7 (i64 (foldR a l 0).hi),.weak 13 (wO oz1),.weak 14 (i64 (↑0:Int)),.sort] (AF_ 0) (zO oz3),r_]) Tryz.func204 (by kernel_rfl) (.c (R_ (k:=.i64) (show ((a):Int)=((foldR a l 0).hi) from (by rfl)))<|.c oz1<|.c w0_<|.c oz3<|.n)
theorem ends64_1 (a b:Int):VC L_ 204 [i64 a,.sl 1 [[i64 b]]] (.tup [i64 (min a b),i64 (max a b)]):=ends64_v a [b] (by simp)
noncomputable def ends8_l_I (a:Int) (l:List Int) (k:Nat):VS:=stt 27 [(6,i8 (foldR a l k).lo),(7,i8 (foldR a l k).hi),(12,ints .i8 l),(13,i64 l.length),(14,i64 k)] []
noncomputable def ends8_l_Z (a:Int) (l:List Int):VS:=ends8_l_I a l (l.length)
theorem ends8_l_s (a:Int) (l:List Int) (hl:l.length≤1000) (k:Nat) (hk:k<l.length):VT L_ (fnC Tryz.f236 [1,1,0,1,0,0]) (ends8_l_I a l k) .normal (ends8_l_I a l (k+1)):=by
 have oz4:=(R_ (k:=.i8) (show ((if l.getD k 0<(foldR a l k).lo then l.getD k 0 else (foldR a l k).lo):Int)=((foldR a l (k+1)).lo) from (by (simp only[foldR];split<;>omega))))
 have oz5:=(R_ (k:=.i8) (show ((if l.getD k 0>(foldR a l k).hi then l.getD k 0 else (foldR a l k).hi):Int)=((foldR a l (k+1)).hi) from (by (simp only[foldR];split<;>omega))))
 exact VT.run (W:=[r_,b_,.r [] [.row [i8 (l.getD k 0)]],r_,.r [] [.n ((↑k:Int)+1)]]) (G:=[.any (rg [(9,1),(15,10)]),.weak 6 (wO oz4),.weak 7 (wO oz5),.weak 14 (i64 (↑(k+1):Int)),.sort]) (by kernel_rfl) (.c (decide_eq_true (p:=((↑k:Int)<(l.length:Int))) (by omega))<|.c (show 0≤(↑k:Int) by omega)<|.c (map_at (row1 .i8) (0) (l:=l) (i:=k) hk)<|.c (i6n ((↑k:Int)+1) (by omega))<|.c oz4<|.c oz5<|.c (wS_ k)<|.n)
theorem ends8_l_e (a:Int) (l:List Int) (hl:l.length≤1000):VT L_ (fnC Tryz.f236 [1,1,0,1,0,0]) (ends8_l_I a l (l.length)) (.exit 0) (ends8_l_Z a l):=by
 exact VT.run (W:=[r_,d_]) (G:=[.any [15],.sort]) (by kernel_rfl) (.c (decide_eq_false (p:=((l.length:Int)<(l.length:Int))) (by omega))<|.n)
theorem ends8_l (a:Int) (l:List Int) (hl:l.length≤1000):VT L_ (fnC Tryz.f236 [1,1,0,1,0]) (ends8_l_I a l 0) (.exit 0) (ends8_l_Z a l) :=
 VT.loop (fun k=>ends8_l_I a l k) (l.length) (fun k hk=>ends8_l_s a l hl k hk) (ends8_l_e a l hl) (by intro h;cases h)
theorem ends8_v (a:Int) (l:List Int) (hl:l.length≤1000):VC L_ 236 ([i8 a,ints .i8 l]) (.tup [i8 (foldR a l l.length).lo,i8 (foldR a l l.length).hi]):=by
 have oz1:=(R_ (k:=.i64) (show ((((K_ (row1 .i8) l).length:Int)):Int)=((l.length:Int)) from (by (simp;done))))
 have oz3:=@ends8_l (a) (l) hl
 exact VC.run (fn:=Tryz.f236) (W:=[r_,r_,r_,.code [.any [0,1,4,5,10,11],.weak 7 (i8 (foldR a l 0).hi),.weak 13 (wO oz1),.weak 14 (i64 (↑0:Int)),.sort] (AF_ 0) (zO oz3),r_]) Tryz.func236 (by kernel_rfl) (.c (R_ (k:=.i8) (show ((a):Int)=((foldR a l 0).hi) from (by rfl)))<|.c oz1<|.c w0_<|.c oz3<|.n)
theorem ends8_2 (a b c:Int):VC L_ 236 [i8 a,.sl 1 [[i8 b],[i8 c]]] (.tup [i8 (min (min a b) c),i8 (max (max a b) c)]):=ends8_v a [b,c] (by simp)
theorem over_v (a b c:Int)  : VC L_ 226 ([i8 a,.sl 1 [[i8 b],[i8 c]]]) (rch ⟨min (min a b) c,max (max a b) c⟩):=by
 have oz0:=@ends8_2 (a) (b) (c)
 exact VC.run (fn:=Tryz.f226) (W:=[r_,.r [] [.callr (rO oz0)],r_]) Tryz.func226 (by kernel_rfl) (.c oz0<|.n)
theorem gnode_v (n:Nod) (a b:Rng) (ok:n.Ok) (ha:a.In8) (hb:b.In8) (wl:n.w.length≤100000) (bl:n.b.length≤100000):VC L_ 205 ([nod n,rch a,rch b]) (.tup [rch (nodeR n a b).1,i64 (nodeR n a b).2]):=by
 have ok_kd:=ok.kd
 obtain ⟨p1,p2⟩:=id ha
 obtain ⟨p3,p4⟩:=id hb
 have oz0:=@check_v (n) wl bl ok_kd
 rcases bft (checkE n != 0) with hc0|hc0
 ·have gc0:¬checkE n=0:=bdt hc0
  exact (VC.run (fn:=Tryz.f205) (W:=[r_,.r [] [.callr (rO oz0)],r_,b_,r_]) (r:=AV.tup [AV.agg [i8 0,i8 0],i64 (checkE n)]) Tryz.func205 (by kernel_rfl) (.c oz0<|.c hc0<|.n)).weak (B_ _) (AA_ (.cons (AD_ (.cons (R_ (by (unfold nodeR;(repeat first|rw[i_ (by omega)]|rw[j_ (by omega)])))) (.cons (R_ (by (unfold nodeR;(repeat first|rw[i_ (by omega)]|rw[j_ (by omega)])))) .nil))) (.cons (R_ (by (unfold nodeR;(repeat first|rw[i_ (by omega)]|rw[j_ (by omega)])))) .nil)))
 ·have gc0:checkE n=0:=bdf hc0
  have oz2:=@upside_v (a.lo) (a.hi)
  have oz3:=@upside_v (b.lo) (b.hi)
  rcases bft (decide (a.lo>a.hi) || n.kd==6&&decide (b.lo>b.hi)) with hc1|hc1
  ·have gc1:a.lo>a.hi∨n.kd=6∧b.lo>b.hi:=by simp only[Z_,T_,P_,S_,W_,U_,E_,F_,I_,J_,ne_eq,H_,G_,eqNums,C_] at hc1;first|exact hc1|omega
   exact (VC.run (fn:=Tryz.f205) (W:=[r_,.r [] [.callr (rO oz0)],r_,d_,.r [] [.callr (rO oz2),o_,o_,o_,o_,o_,o_,.callr (rO oz3),o_,.sel 2,.sel 1],b_,r_]) (r:=AV.tup [AV.agg [i8 0,i8 0],i64 2]) Tryz.func205 (by kernel_rfl) (.c oz0<|.c hc0<|.c oz2<|.c oz3<|.c hc1<|.n)).weak (B_ _) (AA_ (.cons (AD_ (.cons (R_ (by (unfold nodeR;(repeat first|rw[i_ (by omega)]|rw[j_ (by omega)])))) (.cons (R_ (by (unfold nodeR;(repeat first|rw[i_ (by omega)]|rw[j_ (by omega)])))) .nil))) (.cons (R_ (by (unfold nodeR;(repeat first|rw[i_ (by omega)]|rw[j_ (by omega)])))) .nil)))
  ·have gc1:¬a.lo>a.hi∧(¬n.kd=6∨¬b.lo>b.hi):=by simp only[Z_,T_,P_,S_,W_,U_,E_,F_,I_,J_,ne_eq,H_,G_,eqNums,C_] at hc1;first|exact hc1|omega
   have oz5:=@sumsK_v (n.kd)
   rcases bft (n.kd==1 || n.kd==2 || n.kd==3) with hc2|hc2
   ·have gc2:(n.kd=1∨n.kd=2)∨n.kd=3:=by simp only[Z_,T_,P_,S_,W_,U_,E_,F_,I_,J_,ne_eq,H_,G_,eqNums,C_] at hc2;first|exact hc2|omega
    have oz7:=@summed_v (n) (a) ok p1 p2 wl bl
    exact (VC.run (fn:=Tryz.f205) (W:=[r_,.r [] [.callr (rO oz0)],r_,d_,.r [] [.callr (rO oz2),o_,o_,o_,o_,o_,o_,.callr (rO oz3),o_,.sel 2,.sel 1],d_,.r [] [.callr (rO oz5)],b_,.r [] [.callr (rO oz7)]]) (r:=AV.tup [AV.agg [i8 (sumG n a).fst.lo,i8 (sumG n a).fst.hi],i64 (sumG n a).snd]) Tryz.func205 (by kernel_rfl) (.c oz0<|.c hc0<|.c oz2<|.c oz3<|.c hc1<|.c oz5<|.c hc2<|.c oz7<|.n)).weak (B_ _) (AA_ (.cons (AD_ (.cons (R_ (by (unfold nodeR;(repeat first|rw[i_ (by omega)]|rw[j_ (by omega)])))) (.cons (R_ (by (unfold nodeR;(repeat first|rw[i_ (by omega)]|rw[j_ (by omega)])))) .nil))) (.cons (R_ (by (unfold nodeR;(repeat first|rw[i_ (by omega)]|rw[j_ (by omega)])))) .nil)))
   ·have gc2:(¬n.kd=1∧¬n.kd=2)∧¬n.kd=3:=by simp only[Z_,T_,P_,S_,W_,U_,E_,F_,I_,J_,ne_eq,H_,G_,eqNums,C_] at hc2;first|exact hc2|omega
    rcases bft (n.kd==6) with hc3|hc3
    ·have gc3:n.kd=6:=bet hc3
     have oz8:=@joinOne_v (a.lo) (b.lo) (n) ok p1 p3
     have oz9:=@joinOne_v (a.hi) (b.hi) (n) ok p2 p4
     exact (VC.run (fn:=Tryz.f205) (W:=[r_,.r [] [.callr (rO oz0)],r_,d_,.r [] [.callr (rO oz2),o_,o_,o_,o_,o_,o_,.callr (rO oz3),o_,.sel 2,.sel 1],d_,.r [] [.callr (rO oz5)],d_,r_,b_,.r [] [.callr (rO oz8),.callr (rO oz9)]]) (r:=AV.tup [AV.agg [i8 (joinE a.lo b.lo n),i8 (joinE a.hi b.hi n)],i64 0]) Tryz.func205 (by kernel_rfl) (.c oz0<|.c hc0<|.c oz2<|.c oz3<|.c hc1<|.c oz5<|.c hc2<|.c hc3<|.c oz8<|.c oz9<|.n)).weak (B_ _) (AA_ (.cons (AD_ (.cons (R_ (by (unfold nodeR;(repeat first|rw[i_ (by omega)]|rw[j_ (by omega)])))) (.cons (R_ (by (unfold nodeR;(repeat first|rw[i_ (by omega)]|rw[j_ (by omega)])))) .nil))) (.cons (R_ (by (unfold nodeR;(repeat first|rw[i_ (by omega)]|rw[j_ (by omega)])))) .nil)))
    ·have gc3:¬n.kd=6:=bef hc3
     rcases bft (n.kd==7) with hc4|hc4
     ·have gc4:n.kd=7:=bet hc4
      have oz9:=@actOne_w (a.lo) (n) ok p1
      have oz10:=@actOne_w (a.hi) (n) ok p2
      exact (VC.run (fn:=Tryz.f205) (W:=[r_,.r [] [.callr (rO oz0)],r_,d_,.r [] [.callr (rO oz2),o_,o_,o_,o_,o_,o_,.callr (rO oz3),o_,.sel 2,.sel 1],d_,.r [] [.callr (rO oz5)],d_,r_,d_,r_,b_,.r [] [.callr (rO oz9),.callr (rO oz10)]]) (r:=AV.tup [AV.agg [i8 (oneN a.lo n),i8 (oneN a.hi n)],i64 0]) Tryz.func205 (by kernel_rfl) (.c oz0<|.c hc0<|.c oz2<|.c oz3<|.c hc1<|.c oz5<|.c hc2<|.c hc3<|.c hc4<|.c oz9<|.c oz10<|.n)).weak (B_ _) (AA_ (.cons (AD_ (.cons (R_ (by (unfold nodeR;(repeat first|rw[i_ (by omega)]|rw[j_ (by omega)])))) (.cons (R_ (by (unfold nodeR;(repeat first|rw[i_ (by omega)]|rw[j_ (by omega)])))) .nil))) (.cons (R_ (by (unfold nodeR;(repeat first|rw[i_ (by omega)]|rw[j_ (by omega)])))) .nil)))
     ·have gc4:¬n.kd=7:=bef hc4
      rcases bft (n.kd==8&&decide (n.np>0)) with hc5|hc5
      ·have gc5:n.kd=8∧n.np>0:=by simp only[Z_,T_,P_,S_,W_,U_,E_,F_,I_,J_,ne_eq,H_,G_,eqNums,C_] at hc5;first|exact hc5|omega
       have oz10:=@over_v (n.za) (a.lo) (a.hi)
       exact (VC.run (fn:=Tryz.f205) (W:=[r_,.r [] [.callr (rO oz0)],r_,d_,.r [] [.callr (rO oz2),o_,o_,o_,o_,o_,o_,.callr (rO oz3),o_,.sel 2,.sel 1],d_,.r [] [.callr (rO oz5)],d_,r_,d_,r_,d_,.r [] [o_,o_,o_,.sel 2],b_,.r [] [.callr (rO oz10)]]) (r:=AV.tup [AV.agg [i8 (Rng.mk (min (min n.za a.lo) a.hi) (max (max n.za a.lo) a.hi)).lo,i8 (Rng.mk (min (min n.za a.lo) a.hi) (max (max n.za a.lo) a.hi)).hi],i64 0]) Tryz.func205 (by kernel_rfl) (.c oz0<|.c hc0<|.c oz2<|.c oz3<|.c hc1<|.c oz5<|.c hc2<|.c hc3<|.c hc4<|.c hc5<|.c oz10<|.n)).weak (B_ _) (AA_ (.cons (AD_ (.cons (R_ (by (unfold nodeR;(repeat first|rw[i_ (by omega)]|rw[j_ (by omega)]);dsimp only;omega))) (.cons (R_ (by (unfold nodeR;(repeat first|rw[i_ (by omega)]|rw[j_ (by omega)]);dsimp only;omega))) .nil))) (.cons (R_ (by (unfold nodeR;(repeat first|rw[i_ (by omega)]|rw[j_ (by omega)])))) .nil)))
      ·have gc5:¬n.kd=8∨¬n.np>0:=by simp only[Z_,T_,P_,S_,W_,U_,E_,F_,I_,J_,ne_eq,H_,G_,eqNums,C_] at hc5;first|exact hc5|omega
       exact (VC.run (fn:=Tryz.f205) (W:=[r_,.r [] [.callr (rO oz0)],r_,d_,.r [] [.callr (rO oz2),o_,o_,o_,o_,o_,o_,.callr (rO oz3),o_,.sel 2,.sel 1],d_,.r [] [.callr (rO oz5)],d_,r_,d_,r_,d_,.r [] [o_,o_,o_,.sel 2],d_,r_]) (r:=AV.tup [AV.agg [i8 a.lo,i8 a.hi],i64 0]) Tryz.func205 (by kernel_rfl) (.c oz0<|.c hc0<|.c oz2<|.c oz3<|.c hc1<|.c oz5<|.c hc2<|.c hc3<|.c hc4<|.c hc5<|.n)).weak (B_ _) (AA_ (.cons (AD_ (.cons (R_ (by (unfold nodeR;(repeat first|rw[i_ (by omega)]|rw[j_ (by omega)])))) (.cons (R_ (by (unfold nodeR;(repeat first|rw[i_ (by omega)]|rw[j_ (by omega)])))) .nil))) (.cons (R_ (by (unfold nodeR;(repeat first|rw[i_ (by omega)]|rw[j_ (by omega)])))) .nil)))
def stepR (n:Nod) (L:List Rng):Rng×Int:=if thereB n L.length=true then nodeR n (L.getD n.na.toNat default) (L.getD (secN n).toNat default) else (⟨0,0⟩,8)
theorem gstep_v (n:Nod) (L:List Rng) (ok:n.Ok) (okL:∀ r∈L,r.In8) (hL:L.length≤100) (wl:n.w.length≤100000) (bl:n.b.length≤100000):VC L_ 174 ([nod n,.sl 2 (L.map rchC)]) (.tup [rch (stepR n L).1,i64 (stepR n L).2]):=by
 have q1:=@there_iff n L.length
 have q2:(K_ rchC L).length=L.length:=N_ _
 have q3:=fun (h:n.na.toNat<L.length)=>getD_in okL h
 have q4:=fun (h:(secN n).toNat<L.length)=>getD_in okL h
 have q5:n.kd=6→secN n=n.nb:=fun h=>i_ h
 have q6:¬ n.kd=6→secN n=n.na:=fun h=>j_ h
 rcases bft (n.kd==6) with hc0|hc0
 ·have gc0:n.kd=6:=bet hc0
  have oz1:=@ends64_1 (n.na) (n.nb)
  rcases bft (decide (min n.na n.nb<0) || decide (max n.na n.nb≥((K_ rchC L).length:Int))) with hc1|hc1
  ·have gc1:min n.na n.nb<0∨max n.na n.nb≥((K_ rchC L).length:Int):=by simp only[Z_,T_,P_,S_,W_,U_,E_,F_,I_,J_,ne_eq,H_,G_,eqNums,C_] at hc1;first|exact hc1|omega
   exact (VC.run (fn:=Tryz.f174) (W:=[r_,r_,r_,b_,r_,.r [] [.callr (rO oz1)],.r [] [o_,o_,o_,o_,.sel 1],b_,r_]) (r:=AV.tup [AV.agg [i8 0,i8 0],i64 8]) Tryz.func174 (by kernel_rfl) (.c hc0<|.c oz1<|.c hc1<|.n)).weak (B_ _) (AA_ (.cons (AD_ (.cons (R_ (by (unfold stepR;rw[j_ (by rw[q1];omega)]))) (.cons (R_ (by (unfold stepR;rw[j_ (by rw[q1];omega)]))) .nil))) (.cons (R_ (by (unfold stepR;rw[j_ (by rw[q1];omega)]))) .nil)))
  ·have gc1:¬min n.na n.nb<0∧¬max n.na n.nb≥((K_ rchC L).length:Int):=by simp only[Z_,T_,P_,S_,W_,U_,E_,F_,I_,J_,ne_eq,H_,G_,eqNums,C_] at hc1;first|exact hc1|omega
   have oz4:=(map_at (rchC) (default) (l:=L) (i:=n.na.toNat) (by omega))
   have oz6:=(map_at (rchC) (default) (l:=L) (i:=n.nb.toNat) (by omega))
   have oz7:=@gnode_v (n) (L.getD n.na.toNat default) (L.getD n.nb.toNat default) ok (by (exact q3 (by omega))) (by (rw[←q5 (by omega)];exact q4 (by rw[q5 (by omega)];omega))) wl bl
   exact (VC.run (fn:=Tryz.f174) (W:=[r_,r_,r_,b_,r_,.r [] [.callr (rO oz1)],.r [] [o_,o_,o_,o_,.sel 1],d_,.r [] [.row (sO oz4),.row (sO oz6),.callr (rO oz7)]]) (r:=AV.tup [AV.agg [i8 (nodeR n (L.getD n.na.toNat default) (L.getD n.nb.toNat default)).fst.lo,i8 (nodeR n (L.getD n.na.toNat default) (L.getD n.nb.toNat default)).fst.hi],i64 (nodeR n (L.getD n.na.toNat default) (L.getD n.nb.toNat default)).snd]) Tryz.func174 (by kernel_rfl) (.c hc0<|.c oz1<|.c hc1<|.c (show 0≤n.na by omega)<|.c oz4<|.c (show 0≤n.nb by omega)<|.c oz6<|.c oz7<|.n)).weak (B_ _) (AA_ (.cons (AD_ (.cons (R_ (by (unfold stepR;rw[q5 (by omega),i_ (by rw[q1];omega)]))) (.cons (R_ (by (unfold stepR;rw[q5 (by omega),i_ (by rw[q1];omega)]))) .nil))) (.cons (R_ (by (unfold stepR;rw[q5 (by omega),i_ (by rw[q1];omega)]))) .nil)))
 ·have gc0:¬n.kd=6:=bef hc0
  have oz1:=@ends64_1 (n.na) (n.na)
  rcases bft (decide (min n.na n.na<0) || decide (max n.na n.na≥((K_ rchC L).length:Int))) with hc1|hc1
  ·have gc1:min n.na n.na<0∨max n.na n.na≥((K_ rchC L).length:Int):=by simp only[Z_,T_,P_,S_,W_,U_,E_,F_,I_,J_,ne_eq,H_,G_,eqNums,C_] at hc1;first|exact hc1|omega
   exact (VC.run (fn:=Tryz.f174) (W:=[r_,r_,r_,d_,.r [] [.callr (rO oz1)],.r [] [o_,o_,o_,o_,.sel 1],b_,r_]) (r:=AV.tup [AV.agg [i8 0,i8 0],i64 8]) Tryz.func174 (by kernel_rfl) (.c hc0<|.c oz1<|.c hc1<|.n)).weak (B_ _) (AA_ (.cons (AD_ (.cons (R_ (by (unfold stepR;rw[j_ (by rw[q1];omega)]))) (.cons (R_ (by (unfold stepR;rw[j_ (by rw[q1];omega)]))) .nil))) (.cons (R_ (by (unfold stepR;rw[j_ (by rw[q1];omega)]))) .nil)))
  ·have gc1:¬min n.na n.na<0∧¬max n.na n.na≥((K_ rchC L).length:Int):=by simp only[Z_,T_,P_,S_,W_,U_,E_,F_,I_,J_,ne_eq,H_,G_,eqNums,C_] at hc1;first|exact hc1|omega
   have oz3:=(show 0≤n.na by omega)
   have oz4:=(map_at (rchC) (default) (l:=L) (i:=n.na.toNat) (by omega))
   have oz7:=@gnode_v (n) (L.getD n.na.toNat default) (L.getD n.na.toNat default) ok (by (exact q3 (by omega))) (by (exact q3 (by omega))) wl bl
   exact (VC.run (fn:=Tryz.f174) (W:=[r_,r_,r_,d_,.r [] [.callr (rO oz1)],.r [] [o_,o_,o_,o_,.sel 1],d_,.r [] [.row (sO oz4),.row (sO oz4),.callr (rO oz7)]]) (r:=AV.tup [AV.agg [i8 (nodeR n (L.getD n.na.toNat default) (L.getD n.na.toNat default)).fst.lo,i8 (nodeR n (L.getD n.na.toNat default) (L.getD n.na.toNat default)).fst.hi],i64 (nodeR n (L.getD n.na.toNat default) (L.getD n.na.toNat default)).snd]) Tryz.func174 (by kernel_rfl) (.c hc0<|.c oz1<|.c hc1<|.c oz3<|.c oz4<|.c oz3<|.c oz4<|.c oz7<|.n)).weak (B_ _) (AA_ (.cons (AD_ (.cons (R_ (by (unfold stepR;rw[q6 (by omega),i_ (by rw[q1];omega)]))) (.cons (R_ (by (unfold stepR;rw[q6 (by omega),i_ (by rw[q1];omega)]))) .nil))) (.cons (R_ (by (unfold stepR;rw[q6 (by omega),i_ (by rw[q1];omega)]))) .nil)))
def FOK (l:List Nod) (a:Rng):Prop:=0<l.length∧l.length≤8∧a.lo≤a.hi∧∀ k,k<l.length→errL stepR l a k=0
theorem nodeR_in {n:Nod} {a b:Rng} (ok:n.Ok) (ha:a.In8) (hb:b.In8):(nodeR n a b).1.In8:=by
 have hz:Rng.In8 ⟨0,0⟩:=⟨⟨by dsimp only;decide,by dsimp only;decide⟩,⟨by dsimp only;decide,by dsimp only;decide⟩⟩
 have held:∀ x m s z,In8 (heldQ x m s z n.lo n.hi):=fun x m s z=>by
  unfold heldQ;split
  ·exact clamp_in _ ok.lo ok.hi
  ·exact ⟨by decide,by decide⟩
 unfold nodeR
 split
 ·exact hz
 ·split
  ·exact hz
  ·split
   ·unfold sumG;split
    ·unfold afterE
     have h1:=held (held32 (bothR (spansN n a) (spansN n a).length).lo) n.qm n.qs n.qz
     have h2:=held (held32 (bothR (spansN n a) (spansN n a).length).hi) n.qm n.qs n.qz
     constructor<;>dsimp only<;>omega
    ·exact hz
   ·split
    ·have hj:∀ x y,In8 (joinE x y n):=fun x y=>by
      unfold joinE;split
      ·exact clamp_in _ ok.lo ok.hi
      ·exact ⟨by decide,by decide⟩
     exact ⟨hj _ _,hj _ _⟩
    ·split
     ·exact ⟨held _ _ _ _,held _ _ _ _⟩
     ·obtain ⟨p1,p2⟩:=ha
      have p3:=ok.za
      split
      ·constructor<;>dsimp only<;>omega
      ·exact ⟨p1,p2⟩
theorem stepR_in {n:Nod} {L:List Rng} (ok:n.Ok) (hL:∀ r∈L,r.In8):(stepR n L).1.In8:=by
 unfold stepR
 split
 ·rename_i h
  have h:=there_iff.1 h
  exact nodeR_in ok (getD_in hL (by omega)) (getD_in hL (by omega))
 ·exact ⟨⟨by dsimp only;decide,by dsimp only;decide⟩,⟨by dsimp only;decide,by dsimp only;decide⟩⟩
theorem flow_in {l:List Nod} {a:Rng} (okl:∀ n∈l,n.Ok) (ha:a.In8) {k:Nat} (hk:k≤l.length):∀ r∈growL stepR l a k,r.In8 :=
 growL_all (n:=k) ha (fun j hj h=>stepR_in (getD_in okl (by omega)) h) k (AX_ _)
noncomputable def flow_ly_I (l:List Nod) (a:Rng) (k:Nat):VS:=stt 50 [(0,.sl 19 (l.map nodC)),(7,.own 900),(25,.sl 19 (l.map nodC)),(26,i64 l.length),(27,i64 k)] [(900,.slc 228 2 ((growL stepR l a k).map rchC))]
noncomputable def flow_ly_Z (l:List Nod) (a:Rng):VS:=flow_ly_I l a (l.length)
theorem flow_ly_s (l:List Nod) (a:Rng) (okl:∀ n∈l,n.Ok) (wl:∀ n∈l,n.w.length≤100000∧n.b.length≤100000) (ha:a.In8) (f8:l.length≤8) (h:∀ k,k<l.length→errL stepR l a k=0) (k:Nat) (hk:k<l.length):VT L_ (fnC Tryz.f145 [1,1,1,0,1,0,0]) (flow_ly_I l a k) .normal (flow_ly_I l a (k+1)):=by
 have q:=h k hk
 have q1:=growL_len stepR l a k
 have q2:=flow_in okl ha (CD_ hk)
 have q3:=getD_in okl hk
 have q4:=getD_in wl hk
 obtain ⟨q5,q6⟩:=q4
 unfold errL at q
 have oz2:=(map_at (nodC) (default) (l:=l) (i:=k) hk)
 have oz3:=@gstep_v (l.getD k default) (growL stepR l a k) q3 q2 (by omega) q5 q6
 exact VT.run (W:=[r_,b_,.r [] [.row (sO oz2)],.r [] [.callr (rO oz3)],r_,d_,r_,.r [] [.n ((↑k:Int)+1)]]) (G:=[.any (rg [(8,4),(28,12),(42,5)]),.drop [9,10,44],.ren 45 900,.weak 27 (i64 (↑(k+1):Int)),.blk 900 (Blk.slc 228 2 (K_ rchC (growL stepR l a (k+1)))),.sort]) (by kernel_rfl) (.c (decide_eq_true (p:=((↑k:Int)<(l.length:Int))) (by omega))<|.c (show 0≤(↑k:Int) by omega)<|.c oz2<|.c oz3<|.c (show ((stepR (l.getD k default) (growL stepR l a k)).snd != 0)=false by (simp at *;omega))<|.c (show ((K_ rchC (growL stepR l a k)).length+1)*2≤140737488355328 by (simp;omega))<|.c (show (K_ rchC (growL stepR l a k)).length+1≤9223372036854775807 by (simp;omega))<|.c (i6n ((↑k:Int)+1) (by omega))<|.c (wS_ k)<|.c (show BlkW (Blk.slc 228 2 (K_ rchC (growL stepR l a k)++[[i8 (stepR (l.getD k default) (growL stepR l a k)).fst.lo,i8 (stepR (l.getD k default) (growL stepR l a k)).fst.hi]])) (Blk.slc 228 2 (K_ rchC (growL stepR l a (k+1)))) from (AG_ (e:=228) (z:=2) (rows_to (rchC) (r:=K_ rchC (growL stepR l a k)++[[i8 (stepR (l.getD k default) (growL stepR l a k)).fst.lo,i8 (stepR (l.getD k default) (growL stepR l a k)).fst.hi]]) (l:=growL stepR l a k++[Rng.mk (stepR (l.getD k default) (growL stepR l a k)).fst.lo (stepR (l.getD k default) (growL stepR l a k)).fst.hi]) (m:=growL stepR l a (k+1)) (by first|(simp only[A_,D_,AO_,AP_,X_,AM_,AN_];done)|rfl|(simp only[A_,D_,AO_,AP_,X_,AM_,AN_];rfl)|(simp only[A_,D_,AO_,AP_,X_,AM_,AN_,rchC,ints];done)) (show (growL stepR l a k++[Rng.mk (stepR (l.getD k default) (growL stepR l a k)).fst.lo (stepR (l.getD k default) (growL stepR l a k)).fst.hi])=(growL stepR l a (k+1)) from (by rfl)))))<|.n)
theorem flow_ly_e (l:List Nod) (a:Rng) (okl:∀ n∈l,n.Ok) (wl:∀ n∈l,n.w.length≤100000∧n.b.length≤100000) (ha:a.In8) (f8:l.length≤8) (h:∀ k,k<l.length→errL stepR l a k=0):VT L_ (fnC Tryz.f145 [1,1,1,0,1,0,0]) (flow_ly_I l a (l.length)) (.exit 1) (flow_ly_Z l a):=by
 exact VT.run (W:=[r_,d_]) (G:=[.any [28],.sort]) (by kernel_rfl) (.c (decide_eq_false (p:=((l.length:Int)<(l.length:Int))) (by omega))<|.n)
theorem flow_ly (l:List Nod) (a:Rng) (okl:∀ n∈l,n.Ok) (wl:∀ n∈l,n.w.length≤100000∧n.b.length≤100000) (ha:a.In8) (f8:l.length≤8) (h:∀ k,k<l.length→errL stepR l a k=0):VT L_ (fnC Tryz.f145 [1,1,1,0,1,0]) (flow_ly_I l a 0) (.exit 1) (flow_ly_Z l a) :=
 VT.loop (fun k=>flow_ly_I l a k) (l.length) (fun k hk=>flow_ly_s l a okl wl ha f8 h k hk) (flow_ly_e l a okl wl ha f8 h) (by intro h;cases h)
noncomputable def flow_ln_I (l:List Nod) (a:Rng) (m:Nat) (k:Nat):VS:=stt 50 [(0,.sl 19 (l.map nodC)),(7,.own 900),(25,.sl 19 (l.map nodC)),(26,i64 l.length),(27,i64 k)] [(900,.slc 228 2 ((growL stepR l a k).map rchC))]
noncomputable def flow_ln_Z (l:List Nod) (a:Rng) (m:Nat):VS:=stt 50 [(4,nilv),(5,i64 m),(6,i64 (errL stepR l a m))] []
theorem flow_ln_s (l:List Nod) (a:Rng) (m:Nat) (okl:∀ n∈l,n.Ok) (wl:∀ n∈l,n.w.length≤100000∧n.b.length≤100000) (ha:a.In8) (f8:l.length≤8) (hm:m<l.length) (hf:errL stepR l a m≠0) (h:∀ k,k<m→errL stepR l a k=0) (k:Nat) (hk:k<m):VT L_ (fnC Tryz.f145 [1,1,1,0,1,0,0]) (flow_ln_I l a m k) .normal (flow_ln_I l a m (k+1)):=by
 have q:=h k hk
 have q1:=growL_len stepR l a k
 have q2:=flow_in okl ha (show k≤l.length by omega)
 have q3:=getD_in okl (show k<l.length by omega)
 have q4:=getD_in wl (show k<l.length by omega)
 obtain ⟨q5,q6⟩:=q4
 unfold errL at q
 have oz2:=(map_at (nodC) (default) (l:=l) (i:=k) (by omega))
 have oz3:=@gstep_v (l.getD k default) (growL stepR l a k) q3 q2 (by omega) q5 q6
 exact VT.run (W:=[r_,b_,.r [] [.row (sO oz2)],.r [] [.callr (rO oz3)],r_,d_,r_,.r [] [.n ((↑k:Int)+1)]]) (G:=[.any (rg [(8,4),(28,12),(42,5)]),.drop [9,10,44],.ren 45 900,.weak 27 (i64 (↑(k+1):Int)),.blk 900 (Blk.slc 228 2 (K_ rchC (growL stepR l a (k+1)))),.sort]) (by kernel_rfl) (.c (decide_eq_true (p:=((↑k:Int)<(l.length:Int))) (by omega))<|.c (show 0≤(↑k:Int) by omega)<|.c oz2<|.c oz3<|.c (show ((stepR (l.getD k default) (growL stepR l a k)).snd != 0)=false by (simp at *;omega))<|.c (show ((K_ rchC (growL stepR l a k)).length+1)*2≤140737488355328 by (simp;omega))<|.c (show (K_ rchC (growL stepR l a k)).length+1≤9223372036854775807 by (simp;omega))<|.c (i6n ((↑k:Int)+1) (by omega))<|.c (wS_ k)<|.c (show BlkW (Blk.slc 228 2 (K_ rchC (growL stepR l a k)++[[i8 (stepR (l.getD k default) (growL stepR l a k)).fst.lo,i8 (stepR (l.getD k default) (growL stepR l a k)).fst.hi]])) (Blk.slc 228 2 (K_ rchC (growL stepR l a (k+1)))) from (AG_ (e:=228) (z:=2) (rows_to (rchC) (r:=K_ rchC (growL stepR l a k)++[[i8 (stepR (l.getD k default) (growL stepR l a k)).fst.lo,i8 (stepR (l.getD k default) (growL stepR l a k)).fst.hi]]) (l:=growL stepR l a k++[Rng.mk (stepR (l.getD k default) (growL stepR l a k)).fst.lo (stepR (l.getD k default) (growL stepR l a k)).fst.hi]) (m:=growL stepR l a (k+1)) (by first|(simp only[A_,D_,AO_,AP_,X_,AM_,AN_];done)|rfl|(simp only[A_,D_,AO_,AP_,X_,AM_,AN_];rfl)|(simp only[A_,D_,AO_,AP_,X_,AM_,AN_,rchC,ints];done)) (show (growL stepR l a k++[Rng.mk (stepR (l.getD k default) (growL stepR l a k)).fst.lo (stepR (l.getD k default) (growL stepR l a k)).fst.hi])=(growL stepR l a (k+1)) from (by rfl)))))<|.n)
theorem flow_ln_e (l:List Nod) (a:Rng) (m:Nat) (okl:∀ n∈l,n.Ok) (wl:∀ n∈l,n.w.length≤100000∧n.b.length≤100000) (ha:a.In8) (f8:l.length≤8) (hm:m<l.length) (hf:errL stepR l a m≠0) (h:∀ k,k<m→errL stepR l a k=0):VT L_ (fnC Tryz.f145 [1,1,1,0,1,0,0]) (flow_ln_I l a m (m)) (.ret) (flow_ln_Z l a m):=by
 have q1:=growL_len stepR l a m
 have q2:=flow_in okl ha (CD_ hm)
 have q3:=getD_in okl hm
 have q4:=getD_in wl hm
 obtain ⟨q5,q6⟩:=q4
 unfold errL at hf
 have oz2:=(map_at (nodC) (default) (l:=l) (i:=m) hm)
 have oz3:=@gstep_v (l.getD m default) (growL stepR l a m) q3 q2 (by omega) q5 q6
 have oz5:=(R_ (k:=.i64) (show (((stepR (l.getD m default) (growL stepR l a m)).snd):Int)=(errL stepR l a m) from (by rfl)))
 exact VT.run (W:=[r_,b_,.r [] [.row (sO oz2)],.r [] [.callr (rO oz3)],r_,b_,r_]) (G:=[.any (rg [(0,1),(7,5),(25,17)]),.drop [900,9,10],.weak 6 (wO oz5),.sort]) (by kernel_rfl) (.c (decide_eq_true (p:=((↑m:Int)<(l.length:Int))) (by omega))<|.c (show 0≤(↑m:Int) by omega)<|.c oz2<|.c oz3<|.c (show ((stepR (l.getD m default) (growL stepR l a m)).snd != 0)=true by (simp at *;omega))<|.c oz5<|.n)
theorem flow_ln (l:List Nod) (a:Rng) (m:Nat) (okl:∀ n∈l,n.Ok) (wl:∀ n∈l,n.w.length≤100000∧n.b.length≤100000) (ha:a.In8) (f8:l.length≤8) (hm:m<l.length) (hf:errL stepR l a m≠0) (h:∀ k,k<m→errL stepR l a k=0):VT L_ (fnC Tryz.f145 [1,1,1,0,1,0]) (flow_ln_I l a m 0) (.ret) (flow_ln_Z l a m) :=
 VT.loop (fun k=>flow_ln_I l a m k) (m) (fun k hk=>flow_ln_s l a m okl wl ha f8 hm hf h k hk) (flow_ln_e l a m okl wl ha f8 hm hf h) (by intro h;cases h)
theorem flow_y (l:List Nod) (a:Rng) (okl:∀ n∈l,n.Ok) (wl:∀ n∈l,n.w.length≤100000∧n.b.length≤100000) (ha:a.In8) (h:FOK l a):VC L_ 145 ([.sl 19 (l.map nodC),rch a]) (.tup [.sl 2 ((growL stepR l a l.length).map rchC),i64 l.length,i64 0]):=by
 obtain ⟨q2,q3,q1,q4⟩:=id h
 have oz2:=@upside_v (a.lo) (a.hi)
 have oz6:=@flow_ly (l) (a) okl wl ha q3 q4
 exact (VC.run (fn:=Tryz.f145) (W:=[r_,r_,d_,r_,d_,.r [] [.callr (rO oz2)],d_,r_,r_,.code [.any (rg [(1,1),(3,4),(12,13)]),.drop [3],.ren 24 900,.weak 26 (i64 (l.length:Int)),.weak 27 (i64 (↑0:Int)),.sort] (AF_ 1) (zO oz6),r_]) (r:=AV.tup [AV.sl 2 (K_ rchC (growL stepR l a l.length)),i64 ((K_ nodC l).length:Int),i64 0]) Tryz.func145 (by kernel_rfl) (.c (show (((K_ nodC l).length:Int)==0)=false by (simp only[E_,F_,I_,J_,ne_eq,H_,G_,W_,U_,BK_,BQ_,BN_,Classical.not_not,CL_,CF_,P_,S_,Z_,T_,C_,BO_,BP_,AE_,BC_,BR_,eqNums,N_,O_,AC_,BB_,BD_,AH_,BL_,BX_,BY_,AJ_,BU_,BT_];(first|done|with_reducible assumption|omega|contradiction)))<|.c (show decide (((K_ nodC l).length:Int)>8)=false by (simp;omega))<|.c oz2<|.c (decide_eq_false (p:=(a.lo>a.hi)) (by omega))<|.c (R_ (k:=.i64) (show ((((K_ nodC l).length:Int)):Int)=((l.length:Int)) from (by (simp;done))))<|.c w0_<|.c oz6<|.n)).weak (B_ _) (AA_ (.cons (.refl _) (.cons (R_ (by (simp;done))) (.cons (.refl _) .nil))))
theorem flow_m (l:List Nod) (a:Rng) (m:Nat) (okl:∀ n∈l,n.Ok) (wl:∀ n∈l,n.w.length≤100000∧n.b.length≤100000) (ha:a.In8) (i:a.lo≤a.hi) (f8:l.length≤8) (hm:m<l.length) (hf:errL stepR l a m≠0) (h:∀ k,k<m→errL stepR l a k=0):VC L_ 145 ([.sl 19 (l.map nodC),rch a]) (.tup [nilv,i64 m,i64 (errL stepR l a m)]):=by
 have oz2:=@upside_v (a.lo) (a.hi)
 have oz6:=@flow_ln (l) (a) (m) okl wl ha f8 hm hf h
 exact VC.run (fn:=Tryz.f145) (W:=[r_,r_,d_,r_,d_,.r [] [.callr (rO oz2)],d_,r_,r_,.code [.any (rg [(1,1),(3,4),(12,13)]),.drop [3],.ren 24 900,.weak 26 (i64 (l.length:Int)),.weak 27 (i64 (↑0:Int)),.sort] (CA_) (zO oz6)]) Tryz.func145 (by kernel_rfl) (.c (show (((K_ nodC l).length:Int)==0)=false by (simp only[E_,F_,I_,J_,ne_eq,H_,G_,W_,U_,BK_,BQ_,BN_,Classical.not_not,CL_,CF_,P_,S_,Z_,T_,C_,BO_,BP_,AE_,BC_,BR_,eqNums,N_,O_,AC_,BB_,BD_,AH_,BL_,BX_,BY_,AJ_,BU_,BT_];(first|done|with_reducible assumption|omega|contradiction)))<|.c (show decide (((K_ nodC l).length:Int)>8)=false by (simp;omega))<|.c oz2<|.c (decide_eq_false (p:=(a.lo>a.hi)) (by omega))<|.c (R_ (k:=.i64) (show ((((K_ nodC l).length:Int)):Int)=((l.length:Int)) from (by (simp;done))))<|.c w0_<|.c oz6<|.n)
def flowB (l:List Nod) (a:Rng):Nat→Bool:=fun k=>errL stepR l a k==0
def flowE (l:List Nod) (a:Rng):Int×Int :=
 if l.length=0 then (-1,12) else if 8<l.length then (-1,4) else if a.lo>a.hi then (-1,2)
 else if firstBad (flowB l a) l.length<l.length then (firstBad (flowB l a) l.length,errL stepR l a (firstBad (flowB l a) l.length)) else (l.length,0)
theorem flow_a (l:List Nod) (a:Rng) (hl:l.length≤1000) (h:l.length=0∨8<l.length∨a.lo>a.hi):VC L_ 145 ([.sl 19 (l.map nodC),rch a]) (.tup [nilv,i64 (flowE l a).1,i64 (flowE l a).2]):=by
 rcases bft (((K_ nodC l).length:Int)==0) with hc0|hc0
 ·have gc0:((K_ nodC l).length:Int)=0:=bet hc0
  exact (VC.run (fn:=Tryz.f145) (W:=[r_,r_,b_,r_]) (r:=AV.tup [AV.lit (AY_ none 0 0),i64 (-1),i64 12]) Tryz.func145 (by kernel_rfl) (.c hc0<|.n)).weak (B_ _) (AA_ (.cons (.refl _) (.cons (R_ (by (unfold flowE;(try simp only[N_] at *);(repeat first|rw[i_ (by omega)]|rw[j_ (by omega)])))) (.cons (R_ (by (unfold flowE;(try simp only[N_] at *);(repeat first|rw[i_ (by omega)]|rw[j_ (by omega)])))) .nil))))
 ·have gc0:¬((K_ nodC l).length:Int)=0:=bef hc0
  rcases bft (decide (((K_ nodC l).length:Int)>8)) with hc1|hc1
  ·have gc1:=of_decide_eq_true hc1
   exact (VC.run (fn:=Tryz.f145) (W:=[r_,r_,d_,r_,b_,r_]) (r:=AV.tup [AV.lit (AY_ none 0 0),i64 (-1),i64 4]) Tryz.func145 (by kernel_rfl) (.c hc0<|.c hc1<|.n)).weak (B_ _) (AA_ (.cons (.refl _) (.cons (R_ (by (unfold flowE;(try simp only[N_] at *);(repeat first|rw[i_ (by omega)]|rw[j_ (by omega)])))) (.cons (R_ (by (unfold flowE;(try simp only[N_] at *);(repeat first|rw[i_ (by omega)]|rw[j_ (by omega)])))) .nil))))
  ·have gc1:=of_decide_eq_false hc1
   have oz2:=@upside_v (a.lo) (a.hi)
   exact (VC.run (fn:=Tryz.f145) (W:=[r_,r_,d_,r_,d_,.r [] [.callr (rO oz2)],b_,r_]) (r:=AV.tup [AV.lit (AY_ none 0 0),i64 (-1),i64 2]) Tryz.func145 (by kernel_rfl) (.c hc0<|.c hc1<|.c oz2<|.c (show decide (a.lo>a.hi)=true by (simp only[E_,F_,I_,J_,ne_eq,H_,G_,W_,U_,BK_,BQ_,BN_,Classical.not_not,CL_,CF_,P_,S_,Z_,T_,C_,BO_,BP_,AE_,BC_,BR_,eqNums,N_,O_,AC_,BB_,BD_,AH_,BL_,BX_,BY_,AJ_,BU_,BT_] at *;(first|done|with_reducible assumption|omega|contradiction)))<|.n)).weak (B_ _) (AA_ (.cons (.refl _) (.cons (R_ (by (unfold flowE;(try simp only[N_] at *);(repeat first|rw[i_ (by omega)]|rw[j_ (by omega)])))) (.cons (R_ (by (unfold flowE;(try simp only[N_] at *);(repeat first|rw[i_ (by omega)]|rw[j_ (by omega)])))) .nil))))
theorem flowE_y {l:List Nod} {a:Rng} (h:FOK l a):flowE l a=((l.length:Int),0):=by
 obtain ⟨q2,q3,q1,q4⟩:=h
 unfold flowE
 rw[j_ (by omega),j_ (by omega),j_ (by omega),firstBad_all fun k hk=>by simpa [flowB] using q4 k hk,j_ (by omega)]
theorem flowE_at {l:List Nod} {a:Rng} {m:Nat} (i:a.lo≤a.hi) (e:0<l.length) (f:l.length≤8) (hm:m<l.length) (hf:errL stepR l a m≠0) (h:∀ k,k<m→errL stepR l a k=0):flowE l a=((m:Int),errL stepR l a m):=by
 have:=firstBad_at (p:=flowB l a) (m:=m) (by simpa [flowB] using hf) (fun k hk=>by simpa [flowB] using h k hk) hm
 unfold flowE
 rw[j_ (by omega),j_ (by omega),j_ (by omega),this,i_ hm]
theorem FOK.cases (l:List Nod) (a:Rng):FOK l a∨(l.length=0∨8<l.length∨a.lo>a.hi)∨(a.lo≤a.hi∧0<l.length∧l.length≤8∧∃ m,m<l.length∧errL stepR l a m≠0∧∀ k,k<m→errL stepR l a k=0):=by
 by_cases c:l.length=0∨8<l.length∨a.lo>a.hi
 ·exact .inr (.inl c)
 ·rcases all_or (flowB l a) l.length with h|⟨m,h1,h2,h3⟩
  ·exact .inl ⟨by omega,by omega,by omega,fun k hk=>by simpa [flowB] using h k hk⟩
  ·exact .inr (.inr ⟨by omega,by omega,by omega,m,h1,by simpa [flowB] using h2,fun k hk=>by simpa [flowB] using h3 k hk⟩)
theorem flowE_n {l:List Nod} {a:Rng} (h:¬ FOK l a):(flowE l a).2≠0:=by
 rcases FOK.cases l a with q|q|⟨i,e,f,m,h1,h2,h3⟩
 ·exact absurd q h
 ·unfold flowE
  by_cases c1:l.length=0
  ·rw[i_ c1];dsimp only;decide
  ·rw[j_ c1]
   by_cases c2:8<l.length
   ·rw[i_ c2];dsimp only;decide
   ·rw[j_ c2,i_ (by omega)];dsimp only;decide
 ·rw[flowE_at i e f h1 h2 h3];exact h2
theorem flow_n (l:List Nod) (a:Rng) (okl:∀ n∈l,n.Ok) (wl:∀ n∈l,n.w.length≤100000∧n.b.length≤100000) (ha:a.In8) (hl:l.length≤1000) (h:¬ FOK l a):VC L_ 145 [.sl 19 (l.map nodC),rch a] (.tup [nilv,i64 (flowE l a).1,i64 (flowE l a).2]):=by
 rcases FOK.cases l a with q|q|⟨i,e,f,m,h1,h2,h3⟩
 ·exact absurd q h
 ·exact flow_a l a hl q
 ·rw[flowE_at i e f h1 h2 h3];exact flow_m l a m okl wl ha i f h1 h2 h3
theorem rowsR_both (f:Nat→Rng) (n:Nat):∀ k,k<n→rowsR f (k+1)=bothR ((List.range n).map f) (k+1):=by
 have g:∀ k,k<n→((List.range n).map f).getD k default=f k:=fun k hk=>by
  rw[AU_,AV_,List.getElem?_range hk];rfl
 intro k
 induction k with
 | zero=>intro h;rw[rowsR,i_ rfl,bothR,bothR,g 0 h]
 | succ k ih=>intro h;rw[rowsR,j_ (by omega),ih (by omega),bothR.eq_2 _ (k+1),g _ h]
theorem rowsR_spans {n:Nod} {a:Rng} (b0:0<n.b.length) (h:sharedB n.w n.b=true):rowsR (spRow n.w n.b a.lo a.hi n.za (decide (n.np>0))) n.b.length=bothR (spansN n a) (spansN n a).length:=by
 have e:spansN n a=(List.range n.b.length).map (spRow n.w n.b a.lo a.hi n.za (decide (n.np>0))):=by unfold spansN allR;rw[i_ h]
 rw[e,N_,BY_]
 obtain ⟨m,hm⟩:∃ m,n.b.length=m+1:=⟨n.b.length-1,by omega⟩
 rw[hm];exact rowsR_both _ _ _ (by omega)
theorem sumE_s {n:Nod} {a:Rng} (h:sharedB n.w n.b=true) (hh:((allR n.w n.b a.lo a.hi n.za (decide (n.np>0)) n.b.length).all holdB)=true):sumG n a=(afterE ⟨(rowsR (spRow n.w n.b a.lo a.hi n.za (decide (n.np>0))) n.b.length).lo,(rowsR (spRow n.w n.b a.lo a.hi n.za (decide (n.np>0))) n.b.length).hi⟩ n,0):=by
 rw[sumG_y (by rw[i_ h];exact hh),←rowsR_spans (hd_pos h) h]
theorem sumE_o {n:Nod} {a:Rng} (h:sharedB n.w n.b=true) (hh:((allR n.w n.b a.lo a.hi n.za (decide (n.np>0)) n.b.length).all holdB)=false):sumG n a=(⟨0,0⟩,10):=by
 unfold sumG spansN;rw[i_ h,j_ (by rw[hh];decide)]
theorem sumE_0 {n:Nod} {a:Rng} (h:sharedB n.w n.b=false):sumG n a=(afterE ⟨0,0⟩ n,0):=by
 unfold sumG spansN;rw[h];rfl
theorem nodeR_pad {n:Nod} {a b:Rng} (h1:¬ checkE n≠0) (h2:¬ (a.lo>a.hi∨(n.kd=6∧b.lo>b.hi))) (h3:n.kd=8∧n.np>0):nodeR n a b=(⟨min a.lo n.za,max a.hi n.za⟩,0):=by
 unfold nodeR
 rw[j_ h1,j_ h2,j_ (by omega),j_ (by omega),j_ (by omega),i_ h3]
theorem refGNode_v (n:Nod) (a b:Rng) (ok:n.Ok) (ha:a.In8) (hb:b.In8) (wl:n.w.length≤100000) (bl:n.b.length≤100000):VC L_ 102 ([nod n,rch a,rch b]) (.tup [rch (nodeR n a b).1,i64 (nodeR n a b).2]):=by
 have ok_kd:=ok.kd
 have ok_za:=ok.za
 have ok_w:=ok.w
 have ok_b:=ok.b
 obtain ⟨p1,p2⟩:=id ha
 obtain ⟨p3,p4⟩:=id hb
 have q1:=@hd_pos n.w n.b
 have q2:=@rows_all n.w n.b a.lo a.hi n.za (decide (n.np>0))
 have oz0:=@refCheck_v (n) wl bl ok_kd
 rcases bft (checkE n != 0) with hc0|hc0
 ·have gc0:¬checkE n=0:=bdt hc0
  exact (VC.run (fn:=Tryz.f102) (W:=[r_,.r [] [.callr (rO oz0)],r_,b_,r_]) (r:=AV.tup [AV.agg [i8 0,i8 0],i64 (checkE n)]) Tryz.func102 (by kernel_rfl) (.c oz0<|.c hc0<|.n)).weak (B_ _) (AA_ (.cons (AD_ (.cons (R_ (by (unfold nodeR;(repeat first|rw[i_ (by omega)]|rw[j_ (by omega)])))) (.cons (R_ (by (unfold nodeR;(repeat first|rw[i_ (by omega)]|rw[j_ (by omega)])))) .nil))) (.cons (R_ (by (unfold nodeR;(repeat first|rw[i_ (by omega)]|rw[j_ (by omega)])))) .nil)))
 ·have gc0:checkE n=0:=bdf hc0
  rcases bft (decide (a.lo>a.hi) || n.kd==6&&decide (b.lo>b.hi)) with hc1|hc1
  ·have gc1:a.lo>a.hi∨n.kd=6∧b.lo>b.hi:=by simp only[Z_,T_,P_,S_,W_,U_,E_,F_,I_,J_,ne_eq,H_,G_,eqNums,C_] at hc1;first|exact hc1|omega
   exact (VC.run (fn:=Tryz.f102) (W:=[r_,.r [] [.callr (rO oz0)],r_,d_,.r [] [o_,o_,o_,o_,o_,o_,o_,o_,o_,o_,.sel 2,.sel 1],b_,r_]) (r:=AV.tup [AV.agg [i8 0,i8 0],i64 2]) Tryz.func102 (by kernel_rfl) (.c oz0<|.c hc0<|.c hc1<|.n)).weak (B_ _) (AA_ (.cons (AD_ (.cons (R_ (by (unfold nodeR;(repeat first|rw[i_ (by omega)]|rw[j_ (by omega)])))) (.cons (R_ (by (unfold nodeR;(repeat first|rw[i_ (by omega)]|rw[j_ (by omega)])))) .nil))) (.cons (R_ (by (unfold nodeR;(repeat first|rw[i_ (by omega)]|rw[j_ (by omega)])))) .nil)))
  ·have gc1:¬a.lo>a.hi∧(¬n.kd=6∨¬b.lo>b.hi):=by simp only[Z_,T_,P_,S_,W_,U_,E_,F_,I_,J_,ne_eq,H_,G_,eqNums,C_] at hc1;first|exact hc1|omega
   rcases bft (n.kd==1 || n.kd==2 || n.kd==3) with hc2|hc2
   ·have gc2:(n.kd=1∨n.kd=2)∨n.kd=3:=by simp only[Z_,T_,P_,S_,W_,U_,E_,F_,I_,J_,ne_eq,H_,G_,eqNums,C_] at hc2;first|exact hc2|omega
    have oz4:=@shared_v (n.w) (n.b) wl bl
    rcases bft (sharedB n.w n.b) with hc3|hc3
    ·have gc3:sharedB n.w n.b=true:=by first|exact hc3|exact of_decide_eq_true hc3|exact of_decide_eq_false hc3|simpa [eqNums] using hc3|(simp[eqNums] at hc3 ⊢;first|done|assumption|omega)
     have oz6:=@rows_v (n.w) (n.b) (a.lo) (a.hi) (n.za) (decide (n.np>0)) ok_w ok_b wl bl (by (exact q1 (by assumption))) p1 p2 ok_za
     rcases bft (!(decide ((rowsR (spRow n.w n.b a.lo a.hi n.za (decide (n.np>0))) n.b.length).lo ≥ -2147483648)&&decide ((rowsR (spRow n.w n.b a.lo a.hi n.za (decide (n.np>0))) n.b.length).hi≤2147483647))) with hc4|hc4
     ·have gc4:¬(rowsR (spRow n.w n.b a.lo a.hi n.za (decide (n.np>0))) n.b.length).lo ≥ -2147483648∨¬(rowsR (spRow n.w n.b a.lo a.hi n.za (decide (n.np>0))) n.b.length).hi≤2147483647:=by simp only[Z_,T_,P_,S_,W_,U_,E_,F_,I_,J_,ne_eq,H_,G_,eqNums,C_] at hc4;first|exact hc4|omega
      exact (VC.run (fn:=Tryz.f102) (W:=[r_,.r [] [.callr (rO oz0)],r_,d_,.r [] [o_,o_,o_,o_,o_,o_,o_,o_,o_,o_,.sel 2,.sel 1],d_,.r [] [o_,o_,o_,.sel 1,o_,o_,o_,.sel 1],b_,r_,.r [] [.callr (rO oz4)],b_,.r [] [.callr (rO oz6)],r_,b_,r_]) (r:=AV.tup [AV.agg [i8 0,i8 0],i64 10]) Tryz.func102 (by kernel_rfl) (.c oz0<|.c hc0<|.c hc1<|.c hc2<|.c oz4<|.c hc3<|.c oz6<|.c hc4<|.n)).weak (B_ _) (AA_ (.cons (AD_ (.cons (R_ (by (unfold nodeR;(repeat first|rw[i_ (by omega)]|rw[j_ (by omega)]);rw[sumE_o (by assumption) (by rw[←q2 (q1 (by assumption))];simp_all)]<;>rfl))) (.cons (R_ (by (unfold nodeR;(repeat first|rw[i_ (by omega)]|rw[j_ (by omega)]);rw[sumE_o (by assumption) (by rw[←q2 (q1 (by assumption))];simp_all)]<;>rfl))) .nil))) (.cons (R_ (by (unfold nodeR;(repeat first|rw[i_ (by omega)]|rw[j_ (by omega)]);rw[sumE_o (by assumption) (by rw[←q2 (q1 (by assumption))];simp_all)]<;>rfl))) .nil)))
     ·have gc4:(rowsR (spRow n.w n.b a.lo a.hi n.za (decide (n.np>0))) n.b.length).lo ≥ -2147483648∧(rowsR (spRow n.w n.b a.lo a.hi n.za (decide (n.np>0))) n.b.length).hi≤2147483647:=by simp only[Z_,T_,P_,S_,W_,U_,E_,F_,I_,J_,ne_eq,H_,G_,eqNums,C_] at hc4;first|exact hc4|omega
      have oz8:=@refAfter_v (rowsR (spRow n.w n.b a.lo a.hi n.za (decide (n.np>0))) n.b.length) (n) ok
      exact (VC.run (fn:=Tryz.f102) (W:=[r_,.r [] [.callr (rO oz0)],r_,d_,.r [] [o_,o_,o_,o_,o_,o_,o_,o_,o_,o_,.sel 2,.sel 1],d_,.r [] [o_,o_,o_,.sel 1,o_,o_,o_,.sel 1],b_,r_,.r [] [.callr (rO oz4)],b_,.r [] [.callr (rO oz6)],r_,d_,.r [] [.callr (rO oz8)],r_]) (r:=AV.tup [AV.agg [i8 (afterE (rowsR (spRow n.w n.b a.lo a.hi n.za (decide (n.np>0))) n.b.length) n).lo,i8 (afterE (rowsR (spRow n.w n.b a.lo a.hi n.za (decide (n.np>0))) n.b.length) n).hi],i64 0]) Tryz.func102 (by kernel_rfl) (.c oz0<|.c hc0<|.c hc1<|.c hc2<|.c oz4<|.c hc3<|.c oz6<|.c hc4<|.c oz8<|.n)).weak (B_ _) (AA_ (.cons (AD_ (.cons (R_ (by (unfold nodeR;(repeat first|rw[i_ (by omega)]|rw[j_ (by omega)]);rw[sumE_s (by assumption) (by rw[←q2 (q1 (by assumption))];simp_all)]<;>rfl))) (.cons (R_ (by (unfold nodeR;(repeat first|rw[i_ (by omega)]|rw[j_ (by omega)]);rw[sumE_s (by assumption) (by rw[←q2 (q1 (by assumption))];simp_all)]<;>rfl))) .nil))) (.cons (R_ (by (unfold nodeR;(repeat first|rw[i_ (by omega)]|rw[j_ (by omega)]);rw[sumE_s (by assumption) (by rw[←q2 (q1 (by assumption))];simp_all)]<;>rfl))) .nil)))
    ·have gc3:sharedB n.w n.b=false:=by first|exact hc3|exact of_decide_eq_true hc3|exact of_decide_eq_false hc3|simpa [eqNums] using hc3|(simp[eqNums] at hc3 ⊢;first|done|assumption|omega)
     have oz7:=@refAfter_v (Rng.mk 0 0) (n) ok
     exact (VC.run (fn:=Tryz.f102) (W:=[r_,.r [] [.callr (rO oz0)],r_,d_,.r [] [o_,o_,o_,o_,o_,o_,o_,o_,o_,o_,.sel 2,.sel 1],d_,.r [] [o_,o_,o_,.sel 1,o_,o_,o_,.sel 1],b_,r_,.r [] [.callr (rO oz4)],d_,r_,d_,.r [] [.callr (rO oz7)],r_]) (r:=AV.tup [AV.agg [i8 (afterE (Rng.mk 0 0) n).lo,i8 (afterE (Rng.mk 0 0) n).hi],i64 0]) Tryz.func102 (by kernel_rfl) (.c oz0<|.c hc0<|.c hc1<|.c hc2<|.c oz4<|.c hc3<|.c (show false=false by with_reducible rfl)<|.c oz7<|.n)).weak (B_ _) (AA_ (.cons (AD_ (.cons (R_ (by (unfold nodeR;(repeat first|rw[i_ (by omega)]|rw[j_ (by omega)]);rw[sumE_0 (by assumption)]<;>rfl))) (.cons (R_ (by (unfold nodeR;(repeat first|rw[i_ (by omega)]|rw[j_ (by omega)]);rw[sumE_0 (by assumption)]<;>rfl))) .nil))) (.cons (R_ (by (unfold nodeR;(repeat first|rw[i_ (by omega)]|rw[j_ (by omega)]);rw[sumE_0 (by assumption)]<;>rfl))) .nil)))
   ·have gc2:(¬n.kd=1∧¬n.kd=2)∧¬n.kd=3:=by simp only[Z_,T_,P_,S_,W_,U_,E_,F_,I_,J_,ne_eq,H_,G_,eqNums,C_] at hc2;first|exact hc2|omega
    rcases bft (n.kd==6) with hc3|hc3
    ·have gc3:n.kd=6:=bet hc3
     have oz5:=@refJoinOne_v (a.lo) (b.lo) (n) ok p1 p3
     have oz6:=@refJoinOne_v (a.hi) (b.hi) (n) ok p2 p4
     exact (VC.run (fn:=Tryz.f102) (W:=[r_,.r [] [.callr (rO oz0)],r_,d_,.r [] [o_,o_,o_,o_,o_,o_,o_,o_,o_,o_,.sel 2,.sel 1],d_,.r [] [o_,o_,o_,.sel 1,o_,o_,o_,.sel 1],d_,r_,b_,.r [] [.callr (rO oz5),.callr (rO oz6)]]) (r:=AV.tup [AV.agg [i8 (joinE a.lo b.lo n),i8 (joinE a.hi b.hi n)],i64 0]) Tryz.func102 (by kernel_rfl) (.c oz0<|.c hc0<|.c hc1<|.c hc2<|.c hc3<|.c oz5<|.c oz6<|.n)).weak (B_ _) (AA_ (.cons (AD_ (.cons (R_ (by (unfold nodeR;(repeat first|rw[i_ (by omega)]|rw[j_ (by omega)])))) (.cons (R_ (by (unfold nodeR;(repeat first|rw[i_ (by omega)]|rw[j_ (by omega)])))) .nil))) (.cons (R_ (by (unfold nodeR;(repeat first|rw[i_ (by omega)]|rw[j_ (by omega)])))) .nil)))
    ·have gc3:¬n.kd=6:=bef hc3
     rcases bft (n.kd==7) with hc4|hc4
     ·have gc4:n.kd=7:=bet hc4
      have oz6:=@refActOne_v (a.lo) (n) ok p1
      have oz7:=@refActOne_v (a.hi) (n) ok p2
      exact (VC.run (fn:=Tryz.f102) (W:=[r_,.r [] [.callr (rO oz0)],r_,d_,.r [] [o_,o_,o_,o_,o_,o_,o_,o_,o_,o_,.sel 2,.sel 1],d_,.r [] [o_,o_,o_,.sel 1,o_,o_,o_,.sel 1],d_,r_,d_,r_,b_,.r [] [.callr (rO oz6),.callr (rO oz7)]]) (r:=AV.tup [AV.agg [i8 (oneN a.lo n),i8 (oneN a.hi n)],i64 0]) Tryz.func102 (by kernel_rfl) (.c oz0<|.c hc0<|.c hc1<|.c hc2<|.c hc3<|.c hc4<|.c oz6<|.c oz7<|.n)).weak (B_ _) (AA_ (.cons (AD_ (.cons (R_ (by (unfold nodeR;(repeat first|rw[i_ (by omega)]|rw[j_ (by omega)])))) (.cons (R_ (by (unfold nodeR;(repeat first|rw[i_ (by omega)]|rw[j_ (by omega)])))) .nil))) (.cons (R_ (by (unfold nodeR;(repeat first|rw[i_ (by omega)]|rw[j_ (by omega)])))) .nil)))
     ·have gc4:¬n.kd=7:=bef hc4
      rcases bft (n.kd==8&&decide (n.np>0)) with hc5|hc5
      ·have gc5:n.kd=8∧n.np>0:=by simp only[Z_,T_,P_,S_,W_,U_,E_,F_,I_,J_,ne_eq,H_,G_,eqNums,C_] at hc5;first|exact hc5|omega
       exact (VC.run (fn:=Tryz.f102) (W:=[r_,.r [] [.callr (rO oz0)],r_,d_,.r [] [o_,o_,o_,o_,o_,o_,o_,o_,o_,o_,.sel 2,.sel 1],d_,.r [] [o_,o_,o_,.sel 1,o_,o_,o_,.sel 1],d_,r_,d_,r_,d_,.r [] [o_,o_,o_,.sel 2],b_,r_]) (r:=AV.tup [AV.agg [i8 (if n.za<a.lo then n.za else a.lo),i8 (if n.za>a.hi then n.za else a.hi)],i64 0]) Tryz.func102 (by kernel_rfl) (.c oz0<|.c hc0<|.c hc1<|.c hc2<|.c hc3<|.c hc4<|.c hc5<|.n)).weak (B_ _) (AA_ (.cons (AD_ (.cons (R_ (by (rw[nodeR_pad (by omega) (by omega) (by omega)];dsimp only;omega))) (.cons (R_ (by (rw[nodeR_pad (by omega) (by omega) (by omega)];dsimp only;omega))) .nil))) (.cons (R_ (by (unfold nodeR;(repeat first|rw[i_ (by omega)]|rw[j_ (by omega)])))) .nil)))
      ·have gc5:¬n.kd=8∨¬n.np>0:=by simp only[Z_,T_,P_,S_,W_,U_,E_,F_,I_,J_,ne_eq,H_,G_,eqNums,C_] at hc5;first|exact hc5|omega
       exact (VC.run (fn:=Tryz.f102) (W:=[r_,.r [] [.callr (rO oz0)],r_,d_,.r [] [o_,o_,o_,o_,o_,o_,o_,o_,o_,o_,.sel 2,.sel 1],d_,.r [] [o_,o_,o_,.sel 1,o_,o_,o_,.sel 1],d_,r_,d_,r_,d_,.r [] [o_,o_,o_,.sel 2],d_,r_]) (r:=AV.tup [AV.agg [i8 a.lo,i8 a.hi],i64 0]) Tryz.func102 (by kernel_rfl) (.c oz0<|.c hc0<|.c hc1<|.c hc2<|.c hc3<|.c hc4<|.c hc5<|.n)).weak (B_ _) (AA_ (.cons (AD_ (.cons (R_ (by (unfold nodeR;(repeat first|rw[i_ (by omega)]|rw[j_ (by omega)])))) (.cons (R_ (by (unfold nodeR;(repeat first|rw[i_ (by omega)]|rw[j_ (by omega)])))) .nil))) (.cons (R_ (by (unfold nodeR;(repeat first|rw[i_ (by omega)]|rw[j_ (by omega)])))) .nil)))
theorem stepR_6 {n:Nod} {L:List Rng} (h:thereB n ((K_ rchC L).length:Int)=true) (h6:n.kd=6):stepR n L=nodeR n (L.getD n.na.toNat default) (L.getD n.nb.toNat default):=by
 rw[N_] at h
 unfold stepR;rw[i_ h];unfold secN;rw[i_ h6]
theorem stepR_1 {n:Nod} {L:List Rng} (h:thereB n ((K_ rchC L).length:Int)=true) (h6:¬ n.kd=6):stepR n L=nodeR n (L.getD n.na.toNat default) (L.getD n.na.toNat default):=by
 rw[N_] at h
 unfold stepR;rw[i_ h];unfold secN;rw[j_ h6]
theorem stepR_0 {n:Nod} {L:List Rng} (h:thereB n ((K_ rchC L).length:Int)=false):stepR n L=(⟨0,0⟩,8):=by
 rw[N_] at h
 unfold stepR;rw[h];rfl
theorem stepR_ok {n:Nod} {L:List Rng} (h:(stepR n L).2=0):thereB n ((K_ rchC L).length:Int)=true:=by
 cases e:thereB n ((K_ rchC L).length:Int) with
 | true=>rfl
 | false=>rw[stepR_0 e] at h;cases h
theorem stepR_at {n:Nod} {L:List Rng} (okL:∀ r∈L,r.In8) (h:thereB n ((K_ rchC L).length:Int)=true):(0≤n.na∧n.na<L.length∧n.na.toNat<L.length∧(n.kd=6→0≤n.nb∧n.nb<L.length∧n.nb.toNat<L.length))∧(L.getD n.na.toNat default).In8∧(n.kd=6→(L.getD n.nb.toNat default).In8):=by
 rw[N_] at h
 have h:=there_iff.1 h
 have h6:n.kd=6→secN n=n.nb:=fun h=>i_ h
 refine ⟨⟨by omega,by omega,by omega,fun e=>by have:=h6 e;omega⟩,getD_in okL (by omega),fun e=>getD_in okL (by have:=h6 e;omega)⟩
noncomputable def rflow_ly_I (l:List Nod) (a:Rng) (k:Nat):VS:=stt 77 [(0,.sl 19 (l.map nodC)),(7,.own 900),(8,i64 k)] [(900,.slc 141 2 ((growL stepR l a k).map rchC))]
noncomputable def rflow_ly_Z (l:List Nod) (a:Rng):VS:=rflow_ly_I l a (l.length)
theorem rflow_ly_s (l:List Nod) (a:Rng) (okl:∀ n∈l,n.Ok) (wl:∀ n∈l,n.w.length≤100000∧n.b.length≤100000) (ha:a.In8) (f8:l.length≤8) (h:∀ k,k<l.length→errL stepR l a k=0) (k:Nat) (hk:k<l.length):VT L_ (fnC Tryz.f69 [1,1,1,1,1,0,1,0,0]) (rflow_ly_I l a k) .normal (rflow_ly_I l a (k+1)):=by
 have q:=h k hk
 have q1:=growL_len stepR l a k
 have q2:=flow_in okl ha (CD_ hk)
 have q3:=getD_in okl hk
 have q4:=getD_in wl hk
 obtain ⟨q5,q6⟩:=q4
 have q8:(K_ rchC (growL stepR l a k)).length=(growL stepR l a k).length:=N_ _
 unfold errL at q
 have qt:=stepR_ok q
 obtain ⟨qa,qb,qc⟩:=stepR_at (n:=l.getD k default) q2 qt
 have s6:=stepR_6 qt
 have s1:=stepR_1 qt
 have oz0:=(show decide ((↑k:Int)<((K_ nodC l).length:Int))=true by (simp;omega))
 have oz1:=(show 0≤(↑k:Int) by omega)
 have oz2:=(map_at (nodC) (default) (l:=l) (i:=k) hk)
 have oz3:=@refThere_v (l.getD k default) (((K_ rchC (growL stepR l a k)).length:Int))
 have oz4:=(show (!thereB (l.getD k default) ((K_ rchC (growL stepR l a k)).length:Int))=false by (rw[qt];rfl))
 have oz5:=(show 0≤(l.getD k default).na by omega)
 have oz6:=(show (l.getD k default).na<((K_ rchC (growL stepR l a k)).length:Int) by omega)
 have oz7:=(map_at (rchC) (default) (l:=growL stepR l a k) (i:=(l.getD k default).na.toNat) (by omega))
 rcases bft ((l.getD k default).kd==6) with hc0|hc0
 ·have gc0:(l.getD k default).kd=6:=bet hc0
  have oz11:=(map_at (rchC) (default) (l:=growL stepR l a k) (i:=(l.getD k default).nb.toNat) (by omega))
  have oz15:=@refGNode_v (l.getD k default) ((growL stepR l a k).getD (l.getD k default).na.toNat default) ((growL stepR l a k).getD (l.getD k default).nb.toNat default) q3 qb (by (exact qc (by omega))) q5 q6
  exact VT.run (W:=[r_,b_,.r [] [.row (sO oz2)],.r [] [.callr (rO oz3)],d_,.r [] [.row (sO oz7)],r_,b_,.r [] [.row (sO oz11)],.r [] [.row (sO oz7),.callr (rO oz15)],r_,d_,r_,.r [] [.n ((↑k:Int)+1)]]) (G:=[.any (rg [(9,4),(26,15),(42,26),(70,4)]),.drop [9,10,11,72],.ren 73 900,.weak 8 (i64 (↑(k+1):Int)),.blk 900 (Blk.slc 141 2 (K_ rchC (growL stepR l a (k+1)))),.sort]) (by kernel_rfl) (.c oz0<|.c oz1<|.c oz2<|.c oz3<|.c oz4<|.c oz5<|.c oz6<|.c oz7<|.c hc0<|.c (show 0≤(l.getD k default).nb by omega)<|.c (show (l.getD k default).nb<((K_ rchC (growL stepR l a k)).length:Int) by omega)<|.c oz11<|.c oz5<|.c oz6<|.c oz7<|.c oz15<|.c (show ((nodeR (l.getD k default) ((growL stepR l a k).getD (l.getD k default).na.toNat default) ((growL stepR l a k).getD (l.getD k default).nb.toNat default)).snd != 0)=false by (rw[s6 (by omega)] at q;rw[q];rfl))<|.c (show ((K_ rchC (growL stepR l a k)).length+1)*2≤140737488355328 by omega)<|.c (show (K_ rchC (growL stepR l a k)).length+1≤9223372036854775807 by omega)<|.c (i6n ((↑k:Int)+1) (by omega))<|.c (wS_ k)<|.c (show BlkW (Blk.slc 141 2 (K_ rchC (growL stepR l a k)++[[i8 (nodeR (l.getD k default) ((growL stepR l a k).getD (l.getD k default).na.toNat default) ((growL stepR l a k).getD (l.getD k default).nb.toNat default)).fst.lo,i8 (nodeR (l.getD k default) ((growL stepR l a k).getD (l.getD k default).na.toNat default) ((growL stepR l a k).getD (l.getD k default).nb.toNat default)).fst.hi]])) (Blk.slc 141 2 (K_ rchC (growL stepR l a (k+1)))) from (AG_ (e:=141) (z:=2) (rows_to (rchC) (r:=K_ rchC (growL stepR l a k)++[[i8 (nodeR (l.getD k default) ((growL stepR l a k).getD (l.getD k default).na.toNat default) ((growL stepR l a k).getD (l.getD k default).nb.toNat default)).fst.lo,i8 (nodeR (l.getD k default) ((growL stepR l a k).getD (l.getD k default).na.toNat default) ((growL stepR l a k).getD (l.getD k default).nb.toNat default)).fst.hi]]) (l:=growL stepR l a k++[Rng.mk (nodeR (l.getD k default) ((growL stepR l a k).getD (l.getD k default).na.toNat default) ((growL stepR l a k).getD (l.getD k default).nb.toNat default)).fst.lo (nodeR (l.getD k default) ((growL stepR l a k).getD (l.getD k default).na.toNat default) ((growL stepR l a k).getD (l.getD k default).nb.toNat default)).fst.hi]) (m:=growL stepR l a (k+1)) (by first|(simp only[A_,D_,AO_,AP_,X_,AM_,AN_];done)|rfl|(simp only[A_,D_,AO_,AP_,X_,AM_,AN_];rfl)|(simp only[A_,D_,AO_,AP_,X_,AM_,AN_,rchC,ints];done)) (show (growL stepR l a k++[Rng.mk (nodeR (l.getD k default) ((growL stepR l a k).getD (l.getD k default).na.toNat default) ((growL stepR l a k).getD (l.getD k default).nb.toNat default)).fst.lo (nodeR (l.getD k default) ((growL stepR l a k).getD (l.getD k default).na.toNat default) ((growL stepR l a k).getD (l.getD k default).nb.toNat default)).fst.hi])=(growL stepR l a (k+1)) from (by (rw[growL,s6 (by omega)]))))))<|.n)
 ·have gc0:¬(l.getD k default).kd=6:=bef hc0
  have oz12:=@refGNode_v (l.getD k default) ((growL stepR l a k).getD (l.getD k default).na.toNat default) ((growL stepR l a k).getD (l.getD k default).na.toNat default) q3 qb qb q5 q6
  exact VT.run (W:=[r_,b_,.r [] [.row (sO oz2)],.r [] [.callr (rO oz3)],d_,.r [] [.row (sO oz7)],r_,d_,.r [] [.row (sO oz7),.callr (rO oz12)],r_,d_,r_,.r [] [.n ((↑k:Int)+1)]]) (G:=[.any (rg [(9,4),(26,15),(42,8),(55,13),(70,4)]),.drop [9,10,11,72],.ren 73 900,.weak 8 (i64 (↑(k+1):Int)),.blk 900 (Blk.slc 141 2 (K_ rchC (growL stepR l a (k+1)))),.sort]) (by kernel_rfl) (.c oz0<|.c oz1<|.c oz2<|.c oz3<|.c oz4<|.c oz5<|.c oz6<|.c oz7<|.c hc0<|.c oz5<|.c oz6<|.c oz7<|.c oz12<|.c (show ((nodeR (l.getD k default) ((growL stepR l a k).getD (l.getD k default).na.toNat default) ((growL stepR l a k).getD (l.getD k default).na.toNat default)).snd != 0)=false by (rw[s1 (by omega)] at q;rw[q];rfl))<|.c (show ((K_ rchC (growL stepR l a k)).length+1)*2≤140737488355328 by omega)<|.c (show (K_ rchC (growL stepR l a k)).length+1≤9223372036854775807 by omega)<|.c (i6n ((↑k:Int)+1) (by omega))<|.c (wS_ k)<|.c (show BlkW (Blk.slc 141 2 (K_ rchC (growL stepR l a k)++[[i8 (nodeR (l.getD k default) ((growL stepR l a k).getD (l.getD k default).na.toNat default) ((growL stepR l a k).getD (l.getD k default).na.toNat default)).fst.lo,i8 (nodeR (l.getD k default) ((growL stepR l a k).getD (l.getD k default).na.toNat default) ((growL stepR l a k).getD (l.getD k default).na.toNat default)).fst.hi]])) (Blk.slc 141 2 (K_ rchC (growL stepR l a (k+1)))) from (AG_ (e:=141) (z:=2) (rows_to (rchC) (r:=K_ rchC (growL stepR l a k)++[[i8 (nodeR (l.getD k default) ((growL stepR l a k).getD (l.getD k default).na.toNat default) ((growL stepR l a k).getD (l.getD k default).na.toNat default)).fst.lo,i8 (nodeR (l.getD k default) ((growL stepR l a k).getD (l.getD k default).na.toNat default) ((growL stepR l a k).getD (l.getD k default).na.toNat default)).fst.hi]]) (l:=growL stepR l a k++[Rng.mk (nodeR (l.getD k default) ((growL stepR l a k).getD (l.getD k default).na.toNat default) ((growL stepR l a k).getD (l.getD k default).na.toNat default)).fst.lo (nodeR (l.getD k default) ((growL stepR l a k).getD (l.getD k default).na.toNat default) ((growL stepR l a k).getD (l.getD k default).na.toNat default)).fst.hi]) (m:=growL stepR l a (k+1)) (by first|(simp only[A_,D_,AO_,AP_,X_,AM_,AN_];done)|rfl|(simp only[A_,D_,AO_,AP_,X_,AM_,AN_];rfl)|(simp only[A_,D_,AO_,AP_,X_,AM_,AN_,rchC,ints];done)) (show (growL stepR l a k++[Rng.mk (nodeR (l.getD k default) ((growL stepR l a k).getD (l.getD k default).na.toNat default) ((growL stepR l a k).getD (l.getD k default).na.toNat default)).fst.lo (nodeR (l.getD k default) ((growL stepR l a k).getD (l.getD k default).na.toNat default) ((growL stepR l a k).getD (l.getD k default).na.toNat default)).fst.hi])=(growL stepR l a (k+1)) from (by (rw[growL,s1 (by omega)]))))))<|.n)
theorem rflow_ly_e (l:List Nod) (a:Rng) (okl:∀ n∈l,n.Ok) (wl:∀ n∈l,n.w.length≤100000∧n.b.length≤100000) (ha:a.In8) (f8:l.length≤8) (h:∀ k,k<l.length→errL stepR l a k=0):VT L_ (fnC Tryz.f69 [1,1,1,1,1,0,1,0,0]) (rflow_ly_I l a (l.length)) (.exit 0) (rflow_ly_Z l a):=by
 exact VT.run (W:=[r_,d_]) (G:=[.any (rg [(26,4)]),.sort]) (by kernel_rfl) (.c (show decide ((l.length:Int)<((K_ nodC l).length:Int))=false by (simp;done))<|.n)
theorem rflow_ly (l:List Nod) (a:Rng) (okl:∀ n∈l,n.Ok) (wl:∀ n∈l,n.w.length≤100000∧n.b.length≤100000) (ha:a.In8) (f8:l.length≤8) (h:∀ k,k<l.length→errL stepR l a k=0):VT L_ (fnC Tryz.f69 [1,1,1,1,1,0,1,0]) (rflow_ly_I l a 0) (.exit 0) (rflow_ly_Z l a) :=
 VT.loop (fun k=>rflow_ly_I l a k) (l.length) (fun k hk=>rflow_ly_s l a okl wl ha f8 h k hk) (rflow_ly_e l a okl wl ha f8 h) (by intro h;cases h)
noncomputable def rflow_ln_I (l:List Nod) (a:Rng) (m:Nat) (k:Nat):VS:=stt 77 [(0,.sl 19 (l.map nodC)),(7,.own 900),(8,i64 k)] [(900,.slc 141 2 ((growL stepR l a k).map rchC))]
noncomputable def rflow_ln_Z (l:List Nod) (a:Rng) (m:Nat):VS:=stt 77 [(4,nilv),(5,i64 m),(6,i64 (errL stepR l a m))] []
theorem rflow_ln_s (l:List Nod) (a:Rng) (m:Nat) (okl:∀ n∈l,n.Ok) (wl:∀ n∈l,n.w.length≤100000∧n.b.length≤100000) (ha:a.In8) (f8:l.length≤8) (hm:m<l.length) (hf:errL stepR l a m≠0) (h:∀ k,k<m→errL stepR l a k=0) (k:Nat) (hk:k<m):VT L_ (fnC Tryz.f69 [1,1,1,1,1,0,1,0,0]) (rflow_ln_I l a m k) .normal (rflow_ln_I l a m (k+1)):=by
 have q:=h k hk
 have q1:=growL_len stepR l a k
 have q2:=flow_in okl ha (show k≤l.length by omega)
 have q3:=getD_in okl (show k<l.length by omega)
 have q4:=getD_in wl (show k<l.length by omega)
 obtain ⟨q5,q6⟩:=q4
 have q8:(K_ rchC (growL stepR l a k)).length=(growL stepR l a k).length:=N_ _
 unfold errL at q
 have qt:=stepR_ok q
 obtain ⟨qa,qb,qc⟩:=stepR_at (n:=l.getD k default) q2 qt
 have s6:=stepR_6 qt
 have s1:=stepR_1 qt
 have oz0:=(show decide ((↑k:Int)<((K_ nodC l).length:Int))=true by (simp;omega))
 have oz1:=(show 0≤(↑k:Int) by omega)
 have oz2:=(map_at (nodC) (default) (l:=l) (i:=k) (by omega))
 have oz3:=@refThere_v (l.getD k default) (((K_ rchC (growL stepR l a k)).length:Int))
 have oz4:=(show (!thereB (l.getD k default) ((K_ rchC (growL stepR l a k)).length:Int))=false by (rw[qt];rfl))
 have oz5:=(show 0≤(l.getD k default).na by omega)
 have oz6:=(show (l.getD k default).na<((K_ rchC (growL stepR l a k)).length:Int) by omega)
 have oz7:=(map_at (rchC) (default) (l:=growL stepR l a k) (i:=(l.getD k default).na.toNat) (by omega))
 rcases bft ((l.getD k default).kd==6) with hc0|hc0
 ·have gc0:(l.getD k default).kd=6:=bet hc0
  have oz11:=(map_at (rchC) (default) (l:=growL stepR l a k) (i:=(l.getD k default).nb.toNat) (by omega))
  have oz15:=@refGNode_v (l.getD k default) ((growL stepR l a k).getD (l.getD k default).na.toNat default) ((growL stepR l a k).getD (l.getD k default).nb.toNat default) q3 qb (by (exact qc (by omega))) q5 q6
  exact VT.run (W:=[r_,b_,.r [] [.row (sO oz2)],.r [] [.callr (rO oz3)],d_,.r [] [.row (sO oz7)],r_,b_,.r [] [.row (sO oz11)],.r [] [.row (sO oz7),.callr (rO oz15)],r_,d_,r_,.r [] [.n ((↑k:Int)+1)]]) (G:=[.any (rg [(9,4),(26,15),(42,26),(70,4)]),.drop [9,10,11,72],.ren 73 900,.weak 8 (i64 (↑(k+1):Int)),.blk 900 (Blk.slc 141 2 (K_ rchC (growL stepR l a (k+1)))),.sort]) (by kernel_rfl) (.c oz0<|.c oz1<|.c oz2<|.c oz3<|.c oz4<|.c oz5<|.c oz6<|.c oz7<|.c hc0<|.c (show 0≤(l.getD k default).nb by omega)<|.c (show (l.getD k default).nb<((K_ rchC (growL stepR l a k)).length:Int) by omega)<|.c oz11<|.c oz5<|.c oz6<|.c oz7<|.c oz15<|.c (show ((nodeR (l.getD k default) ((growL stepR l a k).getD (l.getD k default).na.toNat default) ((growL stepR l a k).getD (l.getD k default).nb.toNat default)).snd != 0)=false by (rw[s6 (by omega)] at q;rw[q];rfl))<|.c (show ((K_ rchC (growL stepR l a k)).length+1)*2≤140737488355328 by omega)<|.c (show (K_ rchC (growL stepR l a k)).length+1≤9223372036854775807 by omega)<|.c (i6n ((↑k:Int)+1) (by omega))<|.c (wS_ k)<|.c (show BlkW (Blk.slc 141 2 (K_ rchC (growL stepR l a k)++[[i8 (nodeR (l.getD k default) ((growL stepR l a k).getD (l.getD k default).na.toNat default) ((growL stepR l a k).getD (l.getD k default).nb.toNat default)).fst.lo,i8 (nodeR (l.getD k default) ((growL stepR l a k).getD (l.getD k default).na.toNat default) ((growL stepR l a k).getD (l.getD k default).nb.toNat default)).fst.hi]])) (Blk.slc 141 2 (K_ rchC (growL stepR l a (k+1)))) from (AG_ (e:=141) (z:=2) (rows_to (rchC) (r:=K_ rchC (growL stepR l a k)++[[i8 (nodeR (l.getD k default) ((growL stepR l a k).getD (l.getD k default).na.toNat default) ((growL stepR l a k).getD (l.getD k default).nb.toNat default)).fst.lo,i8 (nodeR (l.getD k default) ((growL stepR l a k).getD (l.getD k default).na.toNat default) ((growL stepR l a k).getD (l.getD k default).nb.toNat default)).fst.hi]]) (l:=growL stepR l a k++[Rng.mk (nodeR (l.getD k default) ((growL stepR l a k).getD (l.getD k default).na.toNat default) ((growL stepR l a k).getD (l.getD k default).nb.toNat default)).fst.lo (nodeR (l.getD k default) ((growL stepR l a k).getD (l.getD k default).na.toNat default) ((growL stepR l a k).getD (l.getD k default).nb.toNat default)).fst.hi]) (m:=growL stepR l a (k+1)) (by first|(simp only[A_,D_,AO_,AP_,X_,AM_,AN_];done)|rfl|(simp only[A_,D_,AO_,AP_,X_,AM_,AN_];rfl)|(simp only[A_,D_,AO_,AP_,X_,AM_,AN_,rchC,ints];done)) (show (growL stepR l a k++[Rng.mk (nodeR (l.getD k default) ((growL stepR l a k).getD (l.getD k default).na.toNat default) ((growL stepR l a k).getD (l.getD k default).nb.toNat default)).fst.lo (nodeR (l.getD k default) ((growL stepR l a k).getD (l.getD k default).na.toNat default) ((growL stepR l a k).getD (l.getD k default).nb.toNat default)).fst.hi])=(growL stepR l a (k+1)) from (by (rw[growL,s6 (by omega)]))))))<|.n)
 ·have gc0:¬(l.getD k default).kd=6:=bef hc0
  have oz12:=@refGNode_v (l.getD k default) ((growL stepR l a k).getD (l.getD k default).na.toNat default) ((growL stepR l a k).getD (l.getD k default).na.toNat default) q3 qb qb q5 q6
  exact VT.run (W:=[r_,b_,.r [] [.row (sO oz2)],.r [] [.callr (rO oz3)],d_,.r [] [.row (sO oz7)],r_,d_,.r [] [.row (sO oz7),.callr (rO oz12)],r_,d_,r_,.r [] [.n ((↑k:Int)+1)]]) (G:=[.any (rg [(9,4),(26,15),(42,8),(55,13),(70,4)]),.drop [9,10,11,72],.ren 73 900,.weak 8 (i64 (↑(k+1):Int)),.blk 900 (Blk.slc 141 2 (K_ rchC (growL stepR l a (k+1)))),.sort]) (by kernel_rfl) (.c oz0<|.c oz1<|.c oz2<|.c oz3<|.c oz4<|.c oz5<|.c oz6<|.c oz7<|.c hc0<|.c oz5<|.c oz6<|.c oz7<|.c oz12<|.c (show ((nodeR (l.getD k default) ((growL stepR l a k).getD (l.getD k default).na.toNat default) ((growL stepR l a k).getD (l.getD k default).na.toNat default)).snd != 0)=false by (rw[s1 (by omega)] at q;rw[q];rfl))<|.c (show ((K_ rchC (growL stepR l a k)).length+1)*2≤140737488355328 by omega)<|.c (show (K_ rchC (growL stepR l a k)).length+1≤9223372036854775807 by omega)<|.c (i6n ((↑k:Int)+1) (by omega))<|.c (wS_ k)<|.c (show BlkW (Blk.slc 141 2 (K_ rchC (growL stepR l a k)++[[i8 (nodeR (l.getD k default) ((growL stepR l a k).getD (l.getD k default).na.toNat default) ((growL stepR l a k).getD (l.getD k default).na.toNat default)).fst.lo,i8 (nodeR (l.getD k default) ((growL stepR l a k).getD (l.getD k default).na.toNat default) ((growL stepR l a k).getD (l.getD k default).na.toNat default)).fst.hi]])) (Blk.slc 141 2 (K_ rchC (growL stepR l a (k+1)))) from (AG_ (e:=141) (z:=2) (rows_to (rchC) (r:=K_ rchC (growL stepR l a k)++[[i8 (nodeR (l.getD k default) ((growL stepR l a k).getD (l.getD k default).na.toNat default) ((growL stepR l a k).getD (l.getD k default).na.toNat default)).fst.lo,i8 (nodeR (l.getD k default) ((growL stepR l a k).getD (l.getD k default).na.toNat default) ((growL stepR l a k).getD (l.getD k default).na.toNat default)).fst.hi]]) (l:=growL stepR l a k++[Rng.mk (nodeR (l.getD k default) ((growL stepR l a k).getD (l.getD k default).na.toNat default) ((growL stepR l a k).getD (l.getD k default).na.toNat default)).fst.lo (nodeR (l.getD k default) ((growL stepR l a k).getD (l.getD k default).na.toNat default) ((growL stepR l a k).getD (l.getD k default).na.toNat default)).fst.hi]) (m:=growL stepR l a (k+1)) (by first|(simp only[A_,D_,AO_,AP_,X_,AM_,AN_];done)|rfl|(simp only[A_,D_,AO_,AP_,X_,AM_,AN_];rfl)|(simp only[A_,D_,AO_,AP_,X_,AM_,AN_,rchC,ints];done)) (show (growL stepR l a k++[Rng.mk (nodeR (l.getD k default) ((growL stepR l a k).getD (l.getD k default).na.toNat default) ((growL stepR l a k).getD (l.getD k default).na.toNat default)).fst.lo (nodeR (l.getD k default) ((growL stepR l a k).getD (l.getD k default).na.toNat default) ((growL stepR l a k).getD (l.getD k default).na.toNat default)).fst.hi])=(growL stepR l a (k+1)) from (by (rw[growL,s1 (by omega)]))))))<|.n)
theorem rflow_ln_e (l:List Nod) (a:Rng) (m:Nat) (okl:∀ n∈l,n.Ok) (wl:∀ n∈l,n.w.length≤100000∧n.b.length≤100000) (ha:a.In8) (f8:l.length≤8) (hm:m<l.length) (hf:errL stepR l a m≠0) (h:∀ k,k<m→errL stepR l a k=0):VT L_ (fnC Tryz.f69 [1,1,1,1,1,0,1,0,0]) (rflow_ln_I l a m (m)) (.ret) (rflow_ln_Z l a m):=by
 have q1:=growL_len stepR l a m
 have q2:=flow_in okl ha (CD_ hm)
 have q3:=getD_in okl hm
 have q4:=getD_in wl hm
 obtain ⟨q5,q6⟩:=q4
 have q8:(K_ rchC (growL stepR l a m)).length=(growL stepR l a m).length:=N_ _
 have qa:=fun h=>stepR_at (n:=l.getD m default) q2 h
 have s6:=@stepR_6 (l.getD m default) (growL stepR l a m)
 have s1:=@stepR_1 (l.getD m default) (growL stepR l a m)
 have s0:=@stepR_0 (l.getD m default) (growL stepR l a m)
 have q:errL stepR l a m=(stepR (l.getD m default) (growL stepR l a m)).2:=rfl
 unfold errL at hf
 have oz0:=(show decide ((↑m:Int)<((K_ nodC l).length:Int))=true by (simp;omega))
 have oz1:=(show 0≤(↑m:Int) by omega)
 have oz2:=(map_at (nodC) (default) (l:=l) (i:=m) hm)
 have oz3:=@refThere_v (l.getD m default) (((K_ rchC (growL stepR l a m)).length:Int))
 rcases bft (!thereB (l.getD m default) ((K_ rchC (growL stepR l a m)).length:Int)) with hc0|hc0
 ·have gc0:thereB (l.getD m default) ((K_ rchC (growL stepR l a m)).length:Int)=false:=by first|exact hc0|exact of_decide_eq_true hc0|exact of_decide_eq_false hc0|simpa [eqNums] using hc0|(simp[eqNums] at hc0 ⊢;first|done|assumption|omega)
  exact VT.run (W:=[r_,b_,.r [] [.row (sO oz2)],.r [] [.callr (rO oz3)],b_,r_]) (G:=[.any (rg [(0,1),(7,3),(26,4),(32,10)]),.drop [900,9],.weak 6 (i64 (errL stepR l a m)),.sort]) (by kernel_rfl) (.c oz0<|.c oz1<|.c oz2<|.c oz3<|.c hc0<|.c (R_ (k:=.i64) (show ((8):Int)=(errL stepR l a m) from (by (rw[q,s0 (by simp_all)]))))<|.n)
 ·have gc0:thereB (l.getD m default) ((K_ rchC (growL stepR l a m)).length:Int)=true:=by first|exact hc0|exact of_decide_eq_true hc0|exact of_decide_eq_false hc0|simpa [eqNums] using hc0|(simp[eqNums] at hc0 ⊢;first|done|assumption|omega)
  have oz5:=(show 0≤(l.getD m default).na by (have:=qa (by assumption);omega))
  have oz6:=(show (l.getD m default).na<((K_ rchC (growL stepR l a m)).length:Int) by (have:=qa (by assumption);omega))
  have oz7:=(map_at (rchC) (default) (l:=growL stepR l a m) (i:=(l.getD m default).na.toNat) (by (have:=qa (by assumption);omega)))
  rcases bft ((l.getD m default).kd==6) with hc1|hc1
  ·have gc1:(l.getD m default).kd=6:=bet hc1
   have oz11:=(map_at (rchC) (default) (l:=growL stepR l a m) (i:=(l.getD m default).nb.toNat) (by (have:=qa (by assumption);omega)))
   have oz15:=@refGNode_v (l.getD m default) ((growL stepR l a m).getD (l.getD m default).na.toNat default) ((growL stepR l a m).getD (l.getD m default).nb.toNat default) q3 (by (have:=qa (by assumption);exact this.2.1)) (by (have:=qa (by assumption);exact this.2.2 (by omega))) q5 q6
   have oz17:=(R_ (k:=.i64) (show (((nodeR (l.getD m default) ((growL stepR l a m).getD (l.getD m default).na.toNat default) ((growL stepR l a m).getD (l.getD m default).nb.toNat default)).snd):Int)=(errL stepR l a m) from (by (rw[q,s6 (by assumption) (by omega)]))))
   exact VT.run (W:=[r_,b_,.r [] [.row (sO oz2)],.r [] [.callr (rO oz3)],d_,.r [] [.row (sO oz7)],r_,b_,.r [] [.row (sO oz11)],.r [] [.row (sO oz7),.callr (rO oz15)],r_,b_,r_]) (G:=[.any (rg [(0,1),(7,6),(26,4),(32,9),(42,28)]),.drop [900,9,10,11],.weak 6 (wO oz17),.sort]) (by kernel_rfl) (.c oz0<|.c oz1<|.c oz2<|.c oz3<|.c hc0<|.c oz5<|.c oz6<|.c oz7<|.c hc1<|.c (show 0≤(l.getD m default).nb by (have:=qa (by assumption);omega))<|.c (show (l.getD m default).nb<((K_ rchC (growL stepR l a m)).length:Int) by (have:=qa (by assumption);omega))<|.c oz11<|.c oz5<|.c oz6<|.c oz7<|.c oz15<|.c (show ((nodeR (l.getD m default) ((growL stepR l a m).getD (l.getD m default).na.toNat default) ((growL stepR l a m).getD (l.getD m default).nb.toNat default)).snd != 0)=true by (rw[s6 (by assumption) (by omega)] at hf;rw[J_];exact hf))<|.c oz17<|.n)
  ·have gc1:¬(l.getD m default).kd=6:=bef hc1
   have oz12:=@refGNode_v (l.getD m default) ((growL stepR l a m).getD (l.getD m default).na.toNat default) ((growL stepR l a m).getD (l.getD m default).na.toNat default) q3 (by (have:=qa (by assumption);exact this.2.1)) (by (have:=qa (by assumption);exact this.2.1)) q5 q6
   have oz14:=(R_ (k:=.i64) (show (((nodeR (l.getD m default) ((growL stepR l a m).getD (l.getD m default).na.toNat default) ((growL stepR l a m).getD (l.getD m default).na.toNat default)).snd):Int)=(errL stepR l a m) from (by (rw[q,s1 (by assumption) (by omega)]))))
   exact VT.run (W:=[r_,b_,.r [] [.row (sO oz2)],.r [] [.callr (rO oz3)],d_,.r [] [.row (sO oz7)],r_,d_,.r [] [.row (sO oz7),.callr (rO oz12)],r_,b_,r_]) (G:=[.any (rg [(0,1),(7,6),(26,4),(32,9),(42,8),(55,15)]),.drop [900,9,10,11],.weak 6 (wO oz14),.sort]) (by kernel_rfl) (.c oz0<|.c oz1<|.c oz2<|.c oz3<|.c hc0<|.c oz5<|.c oz6<|.c oz7<|.c hc1<|.c oz5<|.c oz6<|.c oz7<|.c oz12<|.c (show ((nodeR (l.getD m default) ((growL stepR l a m).getD (l.getD m default).na.toNat default) ((growL stepR l a m).getD (l.getD m default).na.toNat default)).snd != 0)=true by (rw[s1 (by assumption) (by omega)] at hf;rw[J_];exact hf))<|.c oz14<|.n)
theorem rflow_ln (l:List Nod) (a:Rng) (m:Nat) (okl:∀ n∈l,n.Ok) (wl:∀ n∈l,n.w.length≤100000∧n.b.length≤100000) (ha:a.In8) (f8:l.length≤8) (hm:m<l.length) (hf:errL stepR l a m≠0) (h:∀ k,k<m→errL stepR l a k=0):VT L_ (fnC Tryz.f69 [1,1,1,1,1,0,1,0]) (rflow_ln_I l a m 0) (.ret) (rflow_ln_Z l a m) :=
 VT.loop (fun k=>rflow_ln_I l a m k) (m) (fun k hk=>rflow_ln_s l a m okl wl ha f8 hm hf h k hk) (rflow_ln_e l a m okl wl ha f8 hm hf h) (by intro h;cases h)
theorem rflow_y (l:List Nod) (a:Rng) (okl:∀ n∈l,n.Ok) (wl:∀ n∈l,n.w.length≤100000∧n.b.length≤100000) (ha:a.In8) (h:FOK l a):VC L_ 69 ([.sl 19 (l.map nodC),rch a]) (.tup [.sl 2 ((growL stepR l a l.length).map rchC),i64 l.length,i64 0]):=by
 obtain ⟨q2,q3,q1,q4⟩:=id h
 have oz4:=@rflow_ly (l) (a) okl wl ha q3 q4
 exact (VC.run (fn:=Tryz.f69) (W:=[r_,r_,d_,r_,d_,r_,d_,r_,r_,.code [.any (rg [(1,1),(3,4),(13,13)]),.drop [3],.ren 25 900,.weak 8 (i64 (↑0:Int)),.sort] (AF_ 0) (zO oz4),r_]) (r:=AV.tup [AV.sl 2 (K_ rchC (growL stepR l a l.length)),i64 ((K_ nodC l).length:Int),i64 0]) Tryz.func69 (by kernel_rfl) (.c (show (((K_ nodC l).length:Int)==0)=false by (simp only[E_,F_,I_,J_,ne_eq,H_,G_,W_,U_,BK_,BQ_,BN_,Classical.not_not,CL_,CF_,P_,S_,Z_,T_,C_,BO_,BP_,AE_,BC_,BR_,eqNums,N_,O_,AC_,BB_,BD_,AH_,BL_,BX_,BY_,AJ_,BU_,BT_];(first|done|with_reducible assumption|omega|contradiction)))<|.c (show decide (((K_ nodC l).length:Int)>8)=false by (simp;omega))<|.c (decide_eq_false (p:=(a.lo>a.hi)) (by omega))<|.c w0_<|.c oz4<|.n)).weak (B_ _) (AA_ (.cons (.refl _) (.cons (R_ (by (simp;done))) (.cons (.refl _) .nil))))
theorem rflow_m (l:List Nod) (a:Rng) (m:Nat) (okl:∀ n∈l,n.Ok) (wl:∀ n∈l,n.w.length≤100000∧n.b.length≤100000) (ha:a.In8) (i:a.lo≤a.hi) (f8:l.length≤8) (hm:m<l.length) (hf:errL stepR l a m≠0) (h:∀ k,k<m→errL stepR l a k=0):VC L_ 69 ([.sl 19 (l.map nodC),rch a]) (.tup [nilv,i64 m,i64 (errL stepR l a m)]):=by
 have oz4:=@rflow_ln (l) (a) (m) okl wl ha f8 hm hf h
 exact VC.run (fn:=Tryz.f69) (W:=[r_,r_,d_,r_,d_,r_,d_,r_,r_,.code [.any (rg [(1,1),(3,4),(13,13)]),.drop [3],.ren 25 900,.weak 8 (i64 (↑0:Int)),.sort] (CA_) (zO oz4)]) Tryz.func69 (by kernel_rfl) (.c (show (((K_ nodC l).length:Int)==0)=false by (simp only[E_,F_,I_,J_,ne_eq,H_,G_,W_,U_,BK_,BQ_,BN_,Classical.not_not,CL_,CF_,P_,S_,Z_,T_,C_,BO_,BP_,AE_,BC_,BR_,eqNums,N_,O_,AC_,BB_,BD_,AH_,BL_,BX_,BY_,AJ_,BU_,BT_];(first|done|with_reducible assumption|omega|contradiction)))<|.c (show decide (((K_ nodC l).length:Int)>8)=false by (simp;omega))<|.c (decide_eq_false (p:=(a.lo>a.hi)) (by omega))<|.c w0_<|.c oz4<|.n)
theorem rflow_a (l:List Nod) (a:Rng) (hl:l.length≤1000) (h:l.length=0∨8<l.length∨a.lo>a.hi):VC L_ 69 ([.sl 19 (l.map nodC),rch a]) (.tup [nilv,i64 (flowE l a).1,i64 (flowE l a).2]):=by
 rcases bft (((K_ nodC l).length:Int)==0) with hc0|hc0
 ·have gc0:((K_ nodC l).length:Int)=0:=bet hc0
  exact (VC.run (fn:=Tryz.f69) (W:=[r_,r_,b_,r_]) (r:=AV.tup [AV.lit (AY_ none 0 0),i64 (-1),i64 12]) Tryz.func69 (by kernel_rfl) (.c hc0<|.n)).weak (B_ _) (AA_ (.cons (.refl _) (.cons (R_ (by (unfold flowE;(try simp only[N_] at *);(repeat first|rw[i_ (by omega)]|rw[j_ (by omega)])))) (.cons (R_ (by (unfold flowE;(try simp only[N_] at *);(repeat first|rw[i_ (by omega)]|rw[j_ (by omega)])))) .nil))))
 ·have gc0:¬((K_ nodC l).length:Int)=0:=bef hc0
  rcases bft (decide (((K_ nodC l).length:Int)>8)) with hc1|hc1
  ·have gc1:=of_decide_eq_true hc1
   exact (VC.run (fn:=Tryz.f69) (W:=[r_,r_,d_,r_,b_,r_]) (r:=AV.tup [AV.lit (AY_ none 0 0),i64 (-1),i64 4]) Tryz.func69 (by kernel_rfl) (.c hc0<|.c hc1<|.n)).weak (B_ _) (AA_ (.cons (.refl _) (.cons (R_ (by (unfold flowE;(try simp only[N_] at *);(repeat first|rw[i_ (by omega)]|rw[j_ (by omega)])))) (.cons (R_ (by (unfold flowE;(try simp only[N_] at *);(repeat first|rw[i_ (by omega)]|rw[j_ (by omega)])))) .nil))))
  ·have gc1:=of_decide_eq_false hc1
   exact (VC.run (fn:=Tryz.f69) (W:=[r_,r_,d_,r_,d_,r_,b_,r_]) (r:=AV.tup [AV.lit (AY_ none 0 0),i64 (-1),i64 2]) Tryz.func69 (by kernel_rfl) (.c hc0<|.c hc1<|.c (show decide (a.lo>a.hi)=true by (simp only[E_,F_,I_,J_,ne_eq,H_,G_,W_,U_,BK_,BQ_,BN_,Classical.not_not,CL_,CF_,P_,S_,Z_,T_,C_,BO_,BP_,AE_,BC_,BR_,eqNums,N_,O_,AC_,BB_,BD_,AH_,BL_,BX_,BY_,AJ_,BU_,BT_] at *;(first|done|with_reducible assumption|omega|contradiction)))<|.n)).weak (B_ _) (AA_ (.cons (.refl _) (.cons (R_ (by (unfold flowE;(try simp only[N_] at *);(repeat first|rw[i_ (by omega)]|rw[j_ (by omega)])))) (.cons (R_ (by (unfold flowE;(try simp only[N_] at *);(repeat first|rw[i_ (by omega)]|rw[j_ (by omega)])))) .nil))))
theorem rflow_n (l:List Nod) (a:Rng) (okl:∀ n∈l,n.Ok) (wl:∀ n∈l,n.w.length≤100000∧n.b.length≤100000) (ha:a.In8) (hl:l.length≤1000) (h:¬ FOK l a):VC L_ 69 [.sl 19 (l.map nodC),rch a] (.tup [nilv,i64 (flowE l a).1,i64 (flowE l a).2]):=by
 rcases FOK.cases l a with q|q|⟨i,e,f,m,h1,h2,h3⟩
 ·exact absurd q h
 ·exact rflow_a l a hl q
 ·rw[flowE_at i e f h1 h2 h3];exact rflow_m l a m okl wl ha i f h1 h2 h3
end Go.Proofs.YtgimdjfbnbkpgaaGreat
