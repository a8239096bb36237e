/- A part of this claim. No condition. -/
import Derived.Test.YtgimdjfbnbkpgaaGreatBundleTellsG6
set_option maxRecDepth 100000
set_option maxHeartbeats 2000000
set_option linter.unusedVariables false
set_option linter.unusedSimpArgs false
set_option linter.unnecessarySimpa false
namespace Go.Proofs.YtgimdjfbnbkpgaaGreat
open Go.RowKit
open BlkW renaming rows→AE_
open Bool renaming and_eq_true→P_,and_eq_false_iff→S_,or_eq_false_iff→T_,not_eq_false'→W_,not_eq_true'→X_,or_eq_true→AK_,and_true→AN_,false_and→BK_,not_true→BU_,false_or→BV_,true_and→BW_,not_false→BX_,and_false→BY_,or_false→BG_,not_eq_eq_eq_not→CK_
open Exit renaming exit→AF_
open Int renaming toNat_natCast→BZ_,not_lt→CC_
open IntKind renaming i64→Q_
open List renaming map→K_,length_append→N_,length_map→O_,map_replicate→U_,map_append→Y_,getElem?_eq_getElem→B_,map_cons→C_,map_take→AL_,map_drop→AM_,map_nil→AO_,map_set→AP_,getD_eq_getElem?_getD→AT_,length_cons→AJ_,length_take→BT_,length_replicate→BC_,length_set→BF_,length_nil→BI_,getElem?_append_left→CL_,length_drop→CN_,getElem_mem→CO_,getElem?_append_right→CU_,map_eq_nil_iff→CV_,length_range→CW_,all_eq_true→CE_
open Nat renaming le_trans→A_,le_refl→AX_,zero_add→BS_,zero_le→CG_,le_of_lt→CH_
open Option renaming getD_some→BR_
open Tryz renaming prog→M_
open Value renaming int→AR_,slice→AY_,bool→BA_,agg→CS_
open Weak renaming int→R_,bool→AZ_,tup→AB_,agg→AG_,nil→BQ_,rows→BE_
open WeakL renaming refl→D_
noncomputable def pblk_y_I (x:Blc) (B:List Int) (k:Nat):VS:=stt 59 [(1,.ptr 1 0 0),(4,.ptr 16 0 0),(23,.sl 19 (x.n.map nodC)),(24,i64 x.n.length),(25,i64 k)] [(1,.var (blcC x)),(16,.var [.own 900]),(900,.slc 5 1 ((accB x.n B k).map (row1 .u8)))]
noncomputable def pblk_y_Z (x:Blc) (B:List Int):VS:=pblk_y_I x B (x.n.length)
theorem pblk_y_s (x:Blc) (B:List Int) (hn:Nods x.n) (hl:x.n.length≤8) (hB:B.length≤10) (h:∀ k,k<x.n.length→(nodeP (x.n.getD k default)).2=0) (k:Nat) (hk:k<x.n.length):VT M_ (fnC Tryz.f93 [1,1,1,1,1,0,1,0,0]) (pblk_y_I x B k) .normal (pblk_y_I x B (k+1)):=by
 have q:=h k hk
 have q1:=getD_in hn.ok hk
 obtain ⟨q2,q3⟩:=getD_in hn.w hk
 have q4:=accB_le hn B (CH_ hk)
 have q5:=nodeR_le _ q1
 have q6:(x.n.getD k default).w.length≤100000:=by omega
 have q7:(x.n.getD k default).b.length≤100000:=by omega
 have oz2:=(map_at (nodC) (default) (l:=x.n) (i:=k) hk)
 have oz3:=@pnode_v (x.n.getD k default) q1 q6 q7
 exact VT.run (W:=[r_,b_,.r [] [.row (sO oz2)],.r [] [.callr (rO oz3)],r_,d_,r_,.r [] [.n ((↑k:Int)+1)]]) (G:=[.any (rg [(7,3),(26,10),(37,10)]),.drop [7],.ren 43 900,.weak 25 (i64 (↑(k+1):Int)),.blk 900 (Blk.slc 5 1 (K_ (row1 .u8) (accB x.n B (k+1)))),.sort]) (by kernel_rfl) (.c (decide_eq_true (p:=((↑k:Int)<(x.n.length:Int))) (by omega))<|.c (show 0≤(↑k:Int) by omega)<|.c oz2<|.c oz3<|.c (show ((nodeP (x.n.getD k default)).snd != 0)=false by (simp at *;omega))<|.c (show ((K_ (row1 .u8) (accB x.n B k)).length+(K_ (row1 .u8) (nodeP (x.n.getD k default)).fst).length)*1≤140737488355328 by (simp only[O_];omega))<|.c (show (K_ (row1 .u8) (accB x.n B k)).length+(K_ (row1 .u8) (nodeP (x.n.getD k default)).fst).length≤9223372036854775807 by (simp only[O_];omega))<|.c (i6n ((↑k:Int)+1) (by omega))<|.c (wS_ k)<|.c (show BlkW (Blk.slc 5 1 (K_ (row1 .u8) (accB x.n B k)++K_ (row1 .u8) (nodeP (x.n.getD k default)).fst)) (Blk.slc 5 1 (K_ (row1 .u8) (accB x.n B (k+1)))) from (AE_ (e:=5) (z:=1) (rows_to (row1 .u8) (r:=K_ (row1 .u8) (accB x.n B k)++K_ (row1 .u8) (nodeP (x.n.getD k default)).fst) (l:=accB x.n B k++(nodeP (x.n.getD k default)).fst) (m:=accB x.n B (k+1)) (by first|(simp only[Y_,C_,AO_,AP_,U_,AL_,AM_];done)|rfl|(simp only[Y_,C_,AO_,AP_,U_,AL_,AM_];rfl)) (show (accB x.n B k++(nodeP (x.n.getD k default)).fst)=(accB x.n B (k+1)) from (by rfl)))))<|.n)
theorem pblk_y_e (x:Blc) (B:List Int) (hn:Nods x.n) (hl:x.n.length≤8) (hB:B.length≤10) (h:∀ k,k<x.n.length→(nodeP (x.n.getD k default)).2=0):VT M_ (fnC Tryz.f93 [1,1,1,1,1,0,1,0,0]) (pblk_y_I x B (x.n.length)) (.exit 0) (pblk_y_Z x B):=by
 exact VT.run (W:=[r_,d_]) (G:=[.any [26],.sort]) (by kernel_rfl) (.c (decide_eq_false (p:=((x.n.length:Int)<(x.n.length:Int))) (by omega))<|.n)
theorem pblk_y (x:Blc) (B:List Int) (hn:Nods x.n) (hl:x.n.length≤8) (hB:B.length≤10) (h:∀ k,k<x.n.length→(nodeP (x.n.getD k default)).2=0):VT M_ (fnC Tryz.f93 [1,1,1,1,1,0,1,0]) (pblk_y_I x B 0) (.exit 0) (pblk_y_Z x B) :=
 VT.loop (fun k=>pblk_y_I x B k) (x.n.length) (fun k hk=>pblk_y_s x B hn hl hB h k hk) (pblk_y_e x B hn hl hB h) (by intro h;cases h)
noncomputable def pblk_n_I (x:Blc) (B:List Int) (m:Nat) (k:Nat):VS:=stt 59 [(1,.ptr 1 0 0),(4,.ptr 16 0 0),(23,.sl 19 (x.n.map nodC)),(24,i64 x.n.length),(25,i64 k)] [(1,.var (blcC x)),(16,.var [.own 900]),(900,.slc 5 1 ((accB x.n B k).map (row1 .u8)))]
noncomputable def pblk_n_Z (x:Blc) (B:List Int) (m:Nat):VS:=stt 59 [(2,nilv),(3,i64 (nodeP (x.n.getD m default)).2)] []
theorem pblk_n_s (x:Blc) (B:List Int) (m:Nat) (hn:Nods x.n) (hl:x.n.length≤8) (hB:B.length≤10) (hm:m<x.n.length) (hf:(nodeP (x.n.getD m default)).2≠0) (h:∀ k,k<m→(nodeP (x.n.getD k default)).2=0) (k:Nat) (hk:k<m):VT M_ (fnC Tryz.f93 [1,1,1,1,1,0,1,0,0]) (pblk_n_I x B m k) .normal (pblk_n_I x B m (k+1)):=by
 have q:=h k hk
 have q0:k<x.n.length:=by omega
 have q1:=getD_in hn.ok q0
 obtain ⟨q2,q3⟩:=getD_in hn.w q0
 have q4:=accB_le hn B (CH_ q0)
 have q5:=nodeR_le _ q1
 have q6:(x.n.getD k default).w.length≤100000:=by omega
 have q7:(x.n.getD k default).b.length≤100000:=by omega
 have oz2:=(map_at (nodC) (default) (l:=x.n) (i:=k) q0)
 have oz3:=@pnode_v (x.n.getD k default) q1 q6 q7
 exact VT.run (W:=[r_,b_,.r [] [.row (sO oz2)],.r [] [.callr (rO oz3)],r_,d_,r_,.r [] [.n ((↑k:Int)+1)]]) (G:=[.any (rg [(7,3),(26,10),(37,10)]),.drop [7],.ren 43 900,.weak 25 (i64 (↑(k+1):Int)),.blk 900 (Blk.slc 5 1 (K_ (row1 .u8) (accB x.n B (k+1)))),.sort]) (by kernel_rfl) (.c (decide_eq_true (p:=((↑k:Int)<(x.n.length:Int))) (by omega))<|.c (show 0≤(↑k:Int) by omega)<|.c oz2<|.c oz3<|.c (show ((nodeP (x.n.getD k default)).snd != 0)=false by (simp at *;omega))<|.c (show ((K_ (row1 .u8) (accB x.n B k)).length+(K_ (row1 .u8) (nodeP (x.n.getD k default)).fst).length)*1≤140737488355328 by (simp only[O_];omega))<|.c (show (K_ (row1 .u8) (accB x.n B k)).length+(K_ (row1 .u8) (nodeP (x.n.getD k default)).fst).length≤9223372036854775807 by (simp only[O_];omega))<|.c (i6n ((↑k:Int)+1) (by omega))<|.c (wS_ k)<|.c (show BlkW (Blk.slc 5 1 (K_ (row1 .u8) (accB x.n B k)++K_ (row1 .u8) (nodeP (x.n.getD k default)).fst)) (Blk.slc 5 1 (K_ (row1 .u8) (accB x.n B (k+1)))) from (AE_ (e:=5) (z:=1) (rows_to (row1 .u8) (r:=K_ (row1 .u8) (accB x.n B k)++K_ (row1 .u8) (nodeP (x.n.getD k default)).fst) (l:=accB x.n B k++(nodeP (x.n.getD k default)).fst) (m:=accB x.n B (k+1)) (by first|(simp only[Y_,C_,AO_,AP_,U_,AL_,AM_];done)|rfl|(simp only[Y_,C_,AO_,AP_,U_,AL_,AM_];rfl)) (show (accB x.n B k++(nodeP (x.n.getD k default)).fst)=(accB x.n B (k+1)) from (by rfl)))))<|.n)
theorem pblk_n_e (x:Blc) (B:List Int) (m:Nat) (hn:Nods x.n) (hl:x.n.length≤8) (hB:B.length≤10) (hm:m<x.n.length) (hf:(nodeP (x.n.getD m default)).2≠0) (h:∀ k,k<m→(nodeP (x.n.getD k default)).2=0):VT M_ (fnC Tryz.f93 [1,1,1,1,1,0,1,0,0]) (pblk_n_I x B m (m)) (.ret) (pblk_n_Z x B m):=by
 have q1:=getD_in hn.ok hm
 obtain ⟨q2,q3⟩:=getD_in hn.w hm
 have q6:(x.n.getD m default).w.length≤100000:=by omega
 have q7:(x.n.getD m default).b.length≤100000:=by omega
 have oz2:=(map_at (nodC) (default) (l:=x.n) (i:=m) hm)
 have oz3:=@pnode_v (x.n.getD m default) q1 q6 q7
 exact VT.run (W:=[r_,b_,.r [] [.row (sO oz2)],.r [] [.callr (rO oz3)],r_,b_,r_]) (G:=[.any (rg [(1,1),(4,1),(7,3),(23,14)]),.drop [1,16,900,7],.sort]) (by kernel_rfl) (.c (decide_eq_true (p:=((↑m:Int)<(x.n.length:Int))) (by omega))<|.c (show 0≤(↑m:Int) by omega)<|.c oz2<|.c oz3<|.c (show ((nodeP (x.n.getD m default)).snd != 0)=true by (simp at *;omega))<|.n)
theorem pblk_n (x:Blc) (B:List Int) (m:Nat) (hn:Nods x.n) (hl:x.n.length≤8) (hB:B.length≤10) (hm:m<x.n.length) (hf:(nodeP (x.n.getD m default)).2≠0) (h:∀ k,k<m→(nodeP (x.n.getD k default)).2=0):VT M_ (fnC Tryz.f93 [1,1,1,1,1,0,1,0]) (pblk_n_I x B m 0) (.ret) (pblk_n_Z x B m) :=
 VT.loop (fun k=>pblk_n_I x B m k) (m) (fun k hk=>pblk_n_s x B m hn hl hB hm hf h k hk) (pblk_n_e x B m hn hl hB hm hf h) (by intro h;cases h)
noncomputable def rblk_y_I (x:Blc) (B:List Int) (k:Nat):VS:=stt 92 [(1,.ptr 1 0 0),(4,.own 900),(5,i64 k)] [(1,.var (blcC x)),(900,.slc 5 1 ((accB x.n B k).map (row1 .u8)))]
noncomputable def rblk_y_Z (x:Blc) (B:List Int):VS:=rblk_y_I x B (x.n.length)
theorem rblk_y_s (x:Blc) (B:List Int) (hn:Nods x.n) (hl:x.n.length≤8) (hB:B.length≤10) (h:∀ k,k<x.n.length→(nodeP (x.n.getD k default)).2=0) (k:Nat) (hk:k<x.n.length):VT M_ (fnC Tryz.f95 [1,1,1,0,1,0,0]) (rblk_y_I x B k) .normal (rblk_y_I x B (k+1)):=by
 have q:=h k hk
 have q1:=getD_in hn.ok hk
 obtain ⟨q2,q3⟩:=getD_in hn.w hk
 have q4:=accB_le hn B (CH_ hk)
 have q5:=nodeR_le _ q1
 have q6:(x.n.getD k default).w.length≤100000:=by omega
 have q7:(x.n.getD k default).b.length≤100000:=by omega
 have oz2:=(map_at (nodC) (default) (l:=x.n) (i:=k) hk)
 have oz3:=@rnode_v (x.n.getD k default) q1 q6 q7
 exact VT.run (W:=[r_,b_,.r [] [.row (sO oz2),.callr (rO oz3)],r_,d_,r_,.r [] [.n ((↑k:Int)+1)]]) (G:=[.any (rg [(6,2),(17,18),(36,3)]),.ren 38 900,.weak 5 (i64 (↑(k+1):Int)),.blk 900 (Blk.slc 5 1 (K_ (row1 .u8) (accB x.n B (k+1)))),.sort]) (by kernel_rfl) (.c (show decide ((↑k:Int)<((K_ nodC x.n).length:Int))=true by (simp;omega))<|.c (show 0≤(↑k:Int) by omega)<|.c oz2<|.c oz3<|.c (show ((nodeP (x.n.getD k default)).snd != 0)=false by (simp at *;omega))<|.c (show ((K_ (row1 .u8) (accB x.n B k)).length+(K_ (row1 .u8) (nodeP (x.n.getD k default)).fst).length)*1≤140737488355328 by (simp only[O_];omega))<|.c (show (K_ (row1 .u8) (accB x.n B k)).length+(K_ (row1 .u8) (nodeP (x.n.getD k default)).fst).length≤9223372036854775807 by (simp only[O_];omega))<|.c (i6n ((↑k:Int)+1) (by omega))<|.c (wS_ k)<|.c (show BlkW (Blk.slc 5 1 (K_ (row1 .u8) (accB x.n B k)++K_ (row1 .u8) (nodeP (x.n.getD k default)).fst)) (Blk.slc 5 1 (K_ (row1 .u8) (accB x.n B (k+1)))) from (AE_ (e:=5) (z:=1) (rows_to (row1 .u8) (r:=K_ (row1 .u8) (accB x.n B k)++K_ (row1 .u8) (nodeP (x.n.getD k default)).fst) (l:=accB x.n B k++(nodeP (x.n.getD k default)).fst) (m:=accB x.n B (k+1)) (by first|(simp only[Y_,C_,AO_,AP_,U_,AL_,AM_];done)|rfl|(simp only[Y_,C_,AO_,AP_,U_,AL_,AM_];rfl)) (show (accB x.n B k++(nodeP (x.n.getD k default)).fst)=(accB x.n B (k+1)) from (by rfl)))))<|.n)
theorem rblk_y_e (x:Blc) (B:List Int) (hn:Nods x.n) (hl:x.n.length≤8) (hB:B.length≤10) (h:∀ k,k<x.n.length→(nodeP (x.n.getD k default)).2=0):VT M_ (fnC Tryz.f95 [1,1,1,0,1,0,0]) (rblk_y_I x B (x.n.length)) (.exit 0) (rblk_y_Z x B):=by
 exact VT.run (W:=[r_,d_]) (G:=[.any (rg [(17,5)]),.sort]) (by kernel_rfl) (.c (show decide ((x.n.length:Int)<((K_ nodC x.n).length:Int))=false by (simp;done))<|.n)
theorem rblk_y (x:Blc) (B:List Int) (hn:Nods x.n) (hl:x.n.length≤8) (hB:B.length≤10) (h:∀ k,k<x.n.length→(nodeP (x.n.getD k default)).2=0):VT M_ (fnC Tryz.f95 [1,1,1,0,1,0]) (rblk_y_I x B 0) (.exit 0) (rblk_y_Z x B) :=
 VT.loop (fun k=>rblk_y_I x B k) (x.n.length) (fun k hk=>rblk_y_s x B hn hl hB h k hk) (rblk_y_e x B hn hl hB h) (by intro h;cases h)
noncomputable def rblk_n_I (x:Blc) (B:List Int) (m:Nat) (k:Nat):VS:=stt 92 [(1,.ptr 1 0 0),(4,.own 900),(5,i64 k)] [(1,.var (blcC x)),(900,.slc 5 1 ((accB x.n B k).map (row1 .u8)))]
noncomputable def rblk_n_Z (x:Blc) (B:List Int) (m:Nat):VS:=stt 92 [(2,nilv),(3,i64 (nodeP (x.n.getD m default)).2)] []
theorem rblk_n_s (x:Blc) (B:List Int) (m:Nat) (hn:Nods x.n) (hl:x.n.length≤8) (hB:B.length≤10) (hm:m<x.n.length) (hf:(nodeP (x.n.getD m default)).2≠0) (h:∀ k,k<m→(nodeP (x.n.getD k default)).2=0) (k:Nat) (hk:k<m):VT M_ (fnC Tryz.f95 [1,1,1,0,1,0,0]) (rblk_n_I x B m k) .normal (rblk_n_I x B m (k+1)):=by
 have q:=h k hk
 have q0:k<x.n.length:=by omega
 have q1:=getD_in hn.ok q0
 obtain ⟨q2,q3⟩:=getD_in hn.w q0
 have q4:=accB_le hn B (CH_ q0)
 have q5:=nodeR_le _ q1
 have q6:(x.n.getD k default).w.length≤100000:=by omega
 have q7:(x.n.getD k default).b.length≤100000:=by omega
 have oz2:=(map_at (nodC) (default) (l:=x.n) (i:=k) q0)
 have oz3:=@rnode_v (x.n.getD k default) q1 q6 q7
 exact VT.run (W:=[r_,b_,.r [] [.row (sO oz2),.callr (rO oz3)],r_,d_,r_,.r [] [.n ((↑k:Int)+1)]]) (G:=[.any (rg [(6,2),(17,18),(36,3)]),.ren 38 900,.weak 5 (i64 (↑(k+1):Int)),.blk 900 (Blk.slc 5 1 (K_ (row1 .u8) (accB x.n B (k+1)))),.sort]) (by kernel_rfl) (.c (show decide ((↑k:Int)<((K_ nodC x.n).length:Int))=true by (simp;omega))<|.c (show 0≤(↑k:Int) by omega)<|.c oz2<|.c oz3<|.c (show ((nodeP (x.n.getD k default)).snd != 0)=false by (simp at *;omega))<|.c (show ((K_ (row1 .u8) (accB x.n B k)).length+(K_ (row1 .u8) (nodeP (x.n.getD k default)).fst).length)*1≤140737488355328 by (simp only[O_];omega))<|.c (show (K_ (row1 .u8) (accB x.n B k)).length+(K_ (row1 .u8) (nodeP (x.n.getD k default)).fst).length≤9223372036854775807 by (simp only[O_];omega))<|.c (i6n ((↑k:Int)+1) (by omega))<|.c (wS_ k)<|.c (show BlkW (Blk.slc 5 1 (K_ (row1 .u8) (accB x.n B k)++K_ (row1 .u8) (nodeP (x.n.getD k default)).fst)) (Blk.slc 5 1 (K_ (row1 .u8) (accB x.n B (k+1)))) from (AE_ (e:=5) (z:=1) (rows_to (row1 .u8) (r:=K_ (row1 .u8) (accB x.n B k)++K_ (row1 .u8) (nodeP (x.n.getD k default)).fst) (l:=accB x.n B k++(nodeP (x.n.getD k default)).fst) (m:=accB x.n B (k+1)) (by first|(simp only[Y_,C_,AO_,AP_,U_,AL_,AM_];done)|rfl|(simp only[Y_,C_,AO_,AP_,U_,AL_,AM_];rfl)) (show (accB x.n B k++(nodeP (x.n.getD k default)).fst)=(accB x.n B (k+1)) from (by rfl)))))<|.n)
theorem rblk_n_e (x:Blc) (B:List Int) (m:Nat) (hn:Nods x.n) (hl:x.n.length≤8) (hB:B.length≤10) (hm:m<x.n.length) (hf:(nodeP (x.n.getD m default)).2≠0) (h:∀ k,k<m→(nodeP (x.n.getD k default)).2=0):VT M_ (fnC Tryz.f95 [1,1,1,0,1,0,0]) (rblk_n_I x B m (m)) (.ret) (rblk_n_Z x B m):=by
 have q1:=getD_in hn.ok hm
 obtain ⟨q2,q3⟩:=getD_in hn.w hm
 have q6:(x.n.getD m default).w.length≤100000:=by omega
 have q7:(x.n.getD m default).b.length≤100000:=by omega
 have oz2:=(map_at (nodC) (default) (l:=x.n) (i:=m) hm)
 have oz3:=@rnode_v (x.n.getD m default) q1 q6 q7
 exact VT.run (W:=[r_,b_,.r [] [.row (sO oz2),.callr (rO oz3)],r_,b_,r_]) (G:=[.any (rg [(1,1),(4,4),(17,5),(24,12)]),.drop [1,900],.sort]) (by kernel_rfl) (.c (show decide ((↑m:Int)<((K_ nodC x.n).length:Int))=true by (simp;omega))<|.c (show 0≤(↑m:Int) by omega)<|.c oz2<|.c oz3<|.c (show ((nodeP (x.n.getD m default)).snd != 0)=true by (simp at *;omega))<|.n)
theorem rblk_n (x:Blc) (B:List Int) (m:Nat) (hn:Nods x.n) (hl:x.n.length≤8) (hB:B.length≤10) (hm:m<x.n.length) (hf:(nodeP (x.n.getD m default)).2≠0) (h:∀ k,k<m→(nodeP (x.n.getD k default)).2=0):VT M_ (fnC Tryz.f95 [1,1,1,0,1,0]) (rblk_n_I x B m 0) (.ret) (rblk_n_Z x B m) :=
 VT.loop (fun k=>rblk_n_I x B m k) (m) (fun k hk=>rblk_n_s x B m hn hl hB hm hf h k hk) (rblk_n_e x B m hn hl hB hm hf h) (by intro h;cases h)
theorem pblock_f (x:Blc) (h:8<x.n.length):VC M_ 93 ([blc x]) (.tup [.sl 1 (([]:List Int).map (row1 .u8)),i64 4]):=by
 exact (VC.run (fn:=Tryz.f93) (W:=[r_,r_,b_,r_]) (r:=AV.tup [AV.lit (AY_ none 0 0),i64 4]) Tryz.func93 (by kernel_rfl) (.c (show decide (((K_ nodC x.n).length:Int)>8)=true by (simp;omega))<|.n)).weak (D_ _) (AB_ (.cons (BQ_ _) (.cons (.refl _) .nil)))
theorem pblock_n (L:Int→List Int) (x:Blc) (m:Nat) (hL:Puts L) (hn:Nods x.n) (hl:x.n.length≤8) (hm:m<x.n.length) (hf:(nodeP (x.n.getD m default)).2≠0) (h:∀ k,k<m→(nodeP (x.n.getD k default)).2=0):VC M_ 93 ([blc x]) (.tup [.sl 1 (([]:List Int).map (row1 .u8)),i64 (nodeP (x.n.getD m default)).2]):=by
 have hB:([]++L (x.n.length:Int)).length≤10:=hL.l _
 have oz1:=@VM.pre _ _ ([AV.ptr 100000 0 0,AV.ptr 100001 0 0,i64 8]) _ ([(100000,Blk.var [AV.lit (AY_ none 0 0)]),(100001,Blk.var [i64 ((K_ nodC x.n).length:Int)])]) _ _ _ ([GI.nilc 950 5 1 100000 0,GI.sort]) _ (@lnum_1 ([]) (L) (((K_ nodC x.n).length:Int)) (8) (by (simp;done)) hL) (by kernel_rfl) (.n)
 have oz5:=@pblk_n (x) ([]++L ((K_ nodC x.n).length:Int)) (m) hn hl (by (simp only[O_] at *;omega)) hm hf h
 exact (VC.run (fn:=Tryz.f93) (W:=[r_,r_,d_,r_,r_,.r [] [.callm [(16,100000),(5,100001)] [(951,20000)] (rM oz1) (oM oz1)],r_,.code [.any (rg [(0,1),(2,2),(5,1),(11,12)]),.drop [5],.ren 20000 900,.weak 24 (i64 (x.n.length:Int)),.weak 25 (i64 (↑0:Int)),.blk 900 (Blk.slc 5 1 (K_ (row1 .u8) (accB x.n ([]++L ((K_ nodC x.n).length:Int)) 0))),.sort] (Exit.ret) (zO oz5)]) (r:=AV.tup [AV.lit (AY_ none 0 0),i64 (nodeP (x.n.getD m default)).snd]) Tryz.func93 (by kernel_rfl) (.c (show decide (((K_ nodC x.n).length:Int)>8)=false by (simp;omega))<|.c oz1<|.c (R_ (k:=.i64) (show ((((K_ nodC x.n).length:Int)):Int)=((x.n.length:Int)) from (by (simp;done))))<|.c w0_<|.c (show BlkW (Blk.slc 5 1 (K_ (row1 .u8) ([]++L ((K_ nodC x.n).length:Int)))) (Blk.slc 5 1 (K_ (row1 .u8) (accB x.n ([]++L ((K_ nodC x.n).length:Int)) 0))) from (AE_ (e:=5) (z:=1) (rows_to (row1 .u8) (r:=K_ (row1 .u8) ([]++L ((K_ nodC x.n).length:Int))) (l:=[]++L ((K_ nodC x.n).length:Int)) (m:=accB x.n ([]++L ((K_ nodC x.n).length:Int)) 0) rfl (show ([]++L ((K_ nodC x.n).length:Int))=(accB x.n ([]++L ((K_ nodC x.n).length:Int)) 0) from (by rfl)))))<|.c oz5<|.n)).weak (D_ _) (AB_ (.cons (BQ_ _) (.cons (.refl _) .nil)))
theorem pblock_h (L:Int→List Int) (x:Blc) (hL:Puts L) (hn:Nods x.n) (hl:x.n.length≤8) (h:∀ k,k<x.n.length→(nodeP (x.n.getD k default)).2=0) (hx:headX x≠0):VC M_ 93 ([blc x]) (.tup [.sl 1 (([]:List Int).map (row1 .u8)),i64 (headX x)]):=by
 have hB:([]++L (x.n.length:Int)).length≤10:=hL.l _
 have oz1:=@VM.pre _ _ ([AV.ptr 100000 0 0,AV.ptr 100001 0 0,i64 8]) _ ([(100000,Blk.var [AV.lit (AY_ none 0 0)]),(100001,Blk.var [i64 ((K_ nodC x.n).length:Int)])]) _ _ _ ([GI.nilc 950 5 1 100000 0,GI.sort]) _ (@lnum_1 ([]) (L) (((K_ nodC x.n).length:Int)) (8) (by (simp;done)) hL) (by kernel_rfl) (.n)
 have oz5:=@pblk_y (x) ([]++L ((K_ nodC x.n).length:Int)) hn hl (by (simp only[O_] at *;omega)) h
 have oz6:=@headMay_v (x)
 exact (VC.run (fn:=Tryz.f93) (W:=[r_,r_,d_,r_,r_,.r [] [.callm [(16,100000),(5,100001)] [(951,20000)] (rM oz1) (oM oz1)],r_,.code [.any (rg [(0,1),(2,2),(5,1),(11,12)]),.drop [5],.ren 20000 900,.weak 24 (i64 (x.n.length:Int)),.weak 25 (i64 (↑0:Int)),.blk 900 (Blk.slc 5 1 (K_ (row1 .u8) (accB x.n ([]++L ((K_ nodC x.n).length:Int)) 0))),.sort] (AF_ 0) (zO oz5),.r [] [.callr (rO oz6)],r_,b_,r_]) (r:=AV.tup [AV.lit (AY_ none 0 0),i64 (headX x)]) Tryz.func93 (by kernel_rfl) (.c (show decide (((K_ nodC x.n).length:Int)>8)=false by (simp;omega))<|.c oz1<|.c (R_ (k:=.i64) (show ((((K_ nodC x.n).length:Int)):Int)=((x.n.length:Int)) from (by (simp;done))))<|.c w0_<|.c (show BlkW (Blk.slc 5 1 (K_ (row1 .u8) ([]++L ((K_ nodC x.n).length:Int)))) (Blk.slc 5 1 (K_ (row1 .u8) (accB x.n ([]++L ((K_ nodC x.n).length:Int)) 0))) from (AE_ (e:=5) (z:=1) (rows_to (row1 .u8) (r:=K_ (row1 .u8) ([]++L ((K_ nodC x.n).length:Int))) (l:=[]++L ((K_ nodC x.n).length:Int)) (m:=accB x.n ([]++L ((K_ nodC x.n).length:Int)) 0) rfl (show ([]++L ((K_ nodC x.n).length:Int))=(accB x.n ([]++L ((K_ nodC x.n).length:Int)) 0) from (by rfl)))))<|.c oz5<|.c oz6<|.c (show (headX x != 0)=true by (simp;omega))<|.n)).weak (D_ _) (AB_ (.cons (BQ_ _) (.cons (.refl _) .nil)))
theorem pblock_xn (L:Int→List Int) (x:Blc) (hL:Puts L) (hn:Nods x.n) (hl:x.n.length≤8) (h:∀ k,k<x.n.length→(nodeP (x.n.getD k default)).2=0) (hx:headX x=0) (he:x.ex=false):VC M_ 93 ([blc x]) (.tup [.sl 1 ((accB x.n ([]++L (x.n.length:Int)) x.n.length++L 0).map (row1 .u8)),i64 0]):=by
 have hB:([]++L (x.n.length:Int)).length≤10:=hL.l _
 have hA:(accB x.n ([]++L (x.n.length:Int)) x.n.length).length≤400000:=by
  have:=accB_le hn ([]++L (x.n.length:Int)) (AX_ _)
  omega
 have oz1:=@VM.pre _ _ ([AV.ptr 100000 0 0,AV.ptr 100001 0 0,i64 8]) _ ([(100000,Blk.var [AV.lit (AY_ none 0 0)]),(100001,Blk.var [i64 ((K_ nodC x.n).length:Int)])]) _ _ _ ([GI.nilc 950 5 1 100000 0,GI.sort]) _ (@lnum_1 ([]) (L) (((K_ nodC x.n).length:Int)) (8) (by (simp;done)) hL) (by kernel_rfl) (.n)
 have oz5:=@pblk_y (x) ([]++L ((K_ nodC x.n).length:Int)) hn hl (by (simp only[O_] at *;omega)) h
 have oz6:=@headMay_v (x)
 have oz8:=@lexit_n (accB x.n ([]++L ((K_ nodC x.n).length:Int)) x.n.length) (L) (x) (by (simp only[O_] at *;omega)) hL he
 exact (VC.run (fn:=Tryz.f93) (W:=[r_,r_,d_,r_,r_,.r [] [.callm [(16,100000),(5,100001)] [(951,20000)] (rM oz1) (oM oz1)],r_,.code [.any (rg [(0,1),(2,2),(5,1),(11,12)]),.drop [5],.ren 20000 900,.weak 24 (i64 (x.n.length:Int)),.weak 25 (i64 (↑0:Int)),.blk 900 (Blk.slc 5 1 (K_ (row1 .u8) (accB x.n ([]++L ((K_ nodC x.n).length:Int)) 0))),.sort] (AF_ 0) (zO oz5),.r [] [.callr (rO oz6)],r_,d_,.r [] [.callm [(900,950),(16,100000),(1,100001)] [(951,20001)] (rM oz8) (oM oz8)],r_]) (r:=AV.tup [AV.sl 1 (K_ (row1 .u8) (accB x.n ([]++L ((K_ nodC x.n).length:Int)) x.n.length++L 0)),i64 0]) Tryz.func93 (by kernel_rfl) (.c (show decide (((K_ nodC x.n).length:Int)>8)=false by (simp;omega))<|.c oz1<|.c (R_ (k:=.i64) (show ((((K_ nodC x.n).length:Int)):Int)=((x.n.length:Int)) from (by (simp;done))))<|.c w0_<|.c (show BlkW (Blk.slc 5 1 (K_ (row1 .u8) ([]++L ((K_ nodC x.n).length:Int)))) (Blk.slc 5 1 (K_ (row1 .u8) (accB x.n ([]++L ((K_ nodC x.n).length:Int)) 0))) from (AE_ (e:=5) (z:=1) (rows_to (row1 .u8) (r:=K_ (row1 .u8) ([]++L ((K_ nodC x.n).length:Int))) (l:=[]++L ((K_ nodC x.n).length:Int)) (m:=accB x.n ([]++L ((K_ nodC x.n).length:Int)) 0) rfl (show ([]++L ((K_ nodC x.n).length:Int))=(accB x.n ([]++L ((K_ nodC x.n).length:Int)) 0) from (by rfl)))))<|.c oz5<|.c oz6<|.c (show (headX x != 0)=false by (simp;omega))<|.c oz8<|.n)).weak (D_ _) (AB_ (.cons (BE_ (rows_to (row1 .u8) (r:=K_ (row1 .u8) (accB x.n ([]++L ((K_ nodC x.n).length:Int)) x.n.length++L 0)) (l:=accB x.n ([]++L ((K_ nodC x.n).length:Int)) x.n.length++L 0) (m:=accB x.n ([]++L (x.n.length:Int)) x.n.length++L 0) rfl (show (accB x.n ([]++L ((K_ nodC x.n).length:Int)) x.n.length++L 0)=(accB x.n ([]++L (x.n.length:Int)) x.n.length++L 0) from (by (simp;done))))) (.cons (.refl _) .nil)))
theorem pblock_xy (L:Int→List Int) (x:Blc) (hL:Puts L) (ok:x.Ok) (hn:Nods x.n) (hl:x.n.length≤8) (h:∀ k,k<x.n.length→(nodeP (x.n.getD k default)).2=0) (hx:headX x=0) (he:x.ex=true) (hw:x.w.length≤16384) (hb:x.b.length≤16384):VC M_ 93 ([blc x]) (.tup [.sl 1 ((accB x.n ([]++L (x.n.length:Int)) x.n.length++L 1++L (x.w.length:Int)++smallL x.w++L (x.b.length:Int)++wideL x.b++L x.nd).map (row1 .u8)),i64 0]):=by
 have hB:([]++L (x.n.length:Int)).length≤10:=hL.l _
 have hA:(accB x.n ([]++L (x.n.length:Int)) x.n.length).length≤300000:=by
  have:=accB_le hn ([]++L (x.n.length:Int)) (AX_ _)
  omega
 have h32:=ok.b
 have hnd:=ok.nd
 have oz1:=@VM.pre _ _ ([AV.ptr 100000 0 0,AV.ptr 100001 0 0,i64 8]) _ ([(100000,Blk.var [AV.lit (AY_ none 0 0)]),(100001,Blk.var [i64 ((K_ nodC x.n).length:Int)])]) _ _ _ ([GI.nilc 950 5 1 100000 0,GI.sort]) _ (@lnum_1 ([]) (L) (((K_ nodC x.n).length:Int)) (8) (by (simp;done)) hL) (by kernel_rfl) (.n)
 have oz5:=@pblk_y (x) ([]++L ((K_ nodC x.n).length:Int)) hn hl (by (simp only[O_] at *;omega)) h
 have oz6:=@headMay_v (x)
 have oz8:=@lexit_y (accB x.n ([]++L ((K_ nodC x.n).length:Int)) x.n.length) (L) (x) (by (simp only[O_] at *;omega)) hL he hw hb h32 hnd
 exact (VC.run (fn:=Tryz.f93) (W:=[r_,r_,d_,r_,r_,.r [] [.callm [(16,100000),(5,100001)] [(951,20000)] (rM oz1) (oM oz1)],r_,.code [.any (rg [(0,1),(2,2),(5,1),(11,12)]),.drop [5],.ren 20000 900,.weak 24 (i64 (x.n.length:Int)),.weak 25 (i64 (↑0:Int)),.blk 900 (Blk.slc 5 1 (K_ (row1 .u8) (accB x.n ([]++L ((K_ nodC x.n).length:Int)) 0))),.sort] (AF_ 0) (zO oz5),.r [] [.callr (rO oz6)],r_,d_,.r [] [.callm [(900,950),(16,100000),(1,100001)] [(951,20001)] (rM oz8) (oM oz8)],r_]) (r:=AV.tup [AV.sl 1 (K_ (row1 .u8) (accB x.n ([]++L ((K_ nodC x.n).length:Int)) x.n.length++L 1++L (x.w.length:Int)++smallL x.w++L (x.b.length:Int)++wideL x.b++L x.nd)),i64 0]) Tryz.func93 (by kernel_rfl) (.c (show decide (((K_ nodC x.n).length:Int)>8)=false by (simp;omega))<|.c oz1<|.c (R_ (k:=.i64) (show ((((K_ nodC x.n).length:Int)):Int)=((x.n.length:Int)) from (by (simp;done))))<|.c w0_<|.c (show BlkW (Blk.slc 5 1 (K_ (row1 .u8) ([]++L ((K_ nodC x.n).length:Int)))) (Blk.slc 5 1 (K_ (row1 .u8) (accB x.n ([]++L ((K_ nodC x.n).length:Int)) 0))) from (AE_ (e:=5) (z:=1) (rows_to (row1 .u8) (r:=K_ (row1 .u8) ([]++L ((K_ nodC x.n).length:Int))) (l:=[]++L ((K_ nodC x.n).length:Int)) (m:=accB x.n ([]++L ((K_ nodC x.n).length:Int)) 0) rfl (show ([]++L ((K_ nodC x.n).length:Int))=(accB x.n ([]++L ((K_ nodC x.n).length:Int)) 0) from (by rfl)))))<|.c oz5<|.c oz6<|.c (show (headX x != 0)=false by (simp;omega))<|.c oz8<|.n)).weak (D_ _) (AB_ (.cons (BE_ (rows_to (row1 .u8) (r:=K_ (row1 .u8) (accB x.n ([]++L ((K_ nodC x.n).length:Int)) x.n.length++L 1++L (x.w.length:Int)++smallL x.w++L (x.b.length:Int)++wideL x.b++L x.nd)) (l:=accB x.n ([]++L ((K_ nodC x.n).length:Int)) x.n.length++L 1++L (x.w.length:Int)++smallL x.w++L (x.b.length:Int)++wideL x.b++L x.nd) (m:=accB x.n ([]++L (x.n.length:Int)) x.n.length++L 1++L (x.w.length:Int)++smallL x.w++L (x.b.length:Int)++wideL x.b++L x.nd) rfl (show (accB x.n ([]++L ((K_ nodC x.n).length:Int)) x.n.length++L 1++L (x.w.length:Int)++smallL x.w++L (x.b.length:Int)++wideL x.b++L x.nd)=(accB x.n ([]++L (x.n.length:Int)) x.n.length++L 1++L (x.w.length:Int)++smallL x.w++L (x.b.length:Int)++wideL x.b++L x.nd) from (by (simp;done))))) (.cons (.refl _) .nil)))
theorem rblock_f (x:Blc) (h:8<x.n.length):VC M_ 95 ([blc x]) (.tup [.sl 1 (([]:List Int).map (row1 .u8)),i64 4]):=by
 exact (VC.run (fn:=Tryz.f95) (W:=[r_,r_,b_,r_]) (r:=AV.tup [AV.lit (AY_ none 0 0),i64 4]) Tryz.func95 (by kernel_rfl) (.c (show decide (((K_ nodC x.n).length:Int)>8)=true by (simp;omega))<|.n)).weak (D_ _) (AB_ (.cons (BQ_ _) (.cons (.refl _) .nil)))
theorem rblock_n (L:Int→List Int) (x:Blc) (m:Nat) (hL:RPuts L) (hn:Nods x.n) (hl:x.n.length≤8) (hm:m<x.n.length) (hf:(nodeP (x.n.getD m default)).2≠0) (h:∀ k,k<m→(nodeP (x.n.getD k default)).2=0):VC M_ 95 ([blc x]) (.tup [.sl 1 (([]:List Int).map (row1 .u8)),i64 (nodeP (x.n.getD m default)).2]):=by
 have hB:([]++L (x.n.length:Int)).length≤10:=hL.l _
 have oz1:=@VM.pre _ _ ([AV.lit (AY_ none 0 0),i64 ((K_ nodC x.n).length:Int)]) _ ([]) _ _ _ ([GI.nils 0 950 5 1,GI.sort]) _ (@rput_1 ([]) (L) (((K_ nodC x.n).length:Int)) (by (simp;done)) hL) (by kernel_rfl) (.n)
 have oz4:=@rblk_n (x) ([]++L ((K_ nodC x.n).length:Int)) (m) hn hl (by (simp only[O_] at *;omega)) hm hf h
 exact (VC.run (fn:=Tryz.f95) (W:=[r_,r_,d_,.r [] [.callm [] [(951,20000)] (rM oz1) (oM oz1)],r_,.code [.any (rg [(0,1),(2,2),(9,8)]),.ren 20000 900,.weak 5 (i64 (↑0:Int)),.blk 900 (Blk.slc 5 1 (K_ (row1 .u8) (accB x.n ([]++L ((K_ nodC x.n).length:Int)) 0))),.sort] (Exit.ret) (zO oz4)]) (r:=AV.tup [AV.lit (AY_ none 0 0),i64 (nodeP (x.n.getD m default)).snd]) Tryz.func95 (by kernel_rfl) (.c (show decide (((K_ nodC x.n).length:Int)>8)=false by (simp;omega))<|.c oz1<|.c w0_<|.c (show BlkW (Blk.slc 5 1 (K_ (row1 .u8) ([]++L ((K_ nodC x.n).length:Int)))) (Blk.slc 5 1 (K_ (row1 .u8) (accB x.n ([]++L ((K_ nodC x.n).length:Int)) 0))) from (AE_ (e:=5) (z:=1) (rows_to (row1 .u8) (r:=K_ (row1 .u8) ([]++L ((K_ nodC x.n).length:Int))) (l:=[]++L ((K_ nodC x.n).length:Int)) (m:=accB x.n ([]++L ((K_ nodC x.n).length:Int)) 0) rfl (show ([]++L ((K_ nodC x.n).length:Int))=(accB x.n ([]++L ((K_ nodC x.n).length:Int)) 0) from (by rfl)))))<|.c oz4<|.n)).weak (D_ _) (AB_ (.cons (BQ_ _) (.cons (.refl _) .nil)))
theorem rblock_ha (L:Int→List Int) (x:Blc) (hL:RPuts L) (hn:Nods x.n) (hl:x.n.length≤8) (h:∀ k,k<x.n.length→(nodeP (x.n.getD k default)).2=0) (hx:x.ex=false) (h2:0<x.w.length∨0<x.b.length∨x.nd≠0):VC M_ 95 ([blc x]) (.tup [.sl 1 (([]:List Int).map (row1 .u8)),i64 11]):=by
 have hB:([]++L (x.n.length:Int)).length≤10:=hL.l _
 have hA:(accB x.n ([]++L (x.n.length:Int)) x.n.length).length≤1000000:=by
  have:=accB_le hn ([]++L (x.n.length:Int)) (AX_ _)
  omega
 have oz0:=(show decide (((K_ nodC x.n).length:Int)>8)=false by (simp;omega))
 have oz1:=@VM.pre _ _ ([AV.lit (AY_ none 0 0),i64 ((K_ nodC x.n).length:Int)]) _ ([]) _ _ _ ([GI.nils 0 950 5 1,GI.sort]) _ (@rput_1 ([]) (L) (((K_ nodC x.n).length:Int)) (by (simp;done)) hL) (by kernel_rfl) (.n)
 have oz2:=w0_
 rcases bft (!x.ex&&(decide (((K_ (row1 .i8) x.w).length:Int)>0) || decide (((K_ (row1 .i32) x.b).length:Int)>0) || x.nd != 0)) with hc0|hc0
 ·have gc0:x.ex=false∧((((K_ (row1 .i8) x.w).length:Int)>0∨((K_ (row1 .i32) x.b).length:Int)>0)∨¬x.nd=0):=by simp only[AK_,T_,P_,S_,X_,W_,E_,F_,I_,J_,ne_eq,H_,G_,eqNums,AN_] at hc0;first|exact hc0|omega
  have oz4:=@rblk_y (x) ([]++L ((K_ nodC x.n).length:Int)) hn hl (by (simp only[O_] at *;omega)) h
  exact (VC.run (fn:=Tryz.f95) (W:=[r_,r_,d_,.r [] [.callm [] [(951,20000)] (rM oz1) (oM oz1)],r_,.code [.any (rg [(0,1),(2,2),(9,8)]),.ren 20000 900,.weak 5 (wO oz2),.blk 900 (Blk.slc 5 1 (K_ (row1 .u8) (accB x.n ([]++L ((K_ nodC x.n).length:Int)) 0))),.sort] (AF_ 0) (zO oz4),r_,.r [] [o_,o_,o_,o_,o_,o_,o_,o_,o_,o_,.sel 1,o_,o_,o_,o_,o_,.sel 1,.sel 2],b_,r_]) (r:=AV.tup [AV.lit (AY_ none 0 0),i64 11]) Tryz.func95 (by kernel_rfl) (.c oz0<|.c oz1<|.c oz2<|.c (show BlkW (Blk.slc 5 1 (K_ (row1 .u8) ([]++L ((K_ nodC x.n).length:Int)))) (Blk.slc 5 1 (K_ (row1 .u8) (accB x.n ([]++L ((K_ nodC x.n).length:Int)) 0))) from (AE_ (e:=5) (z:=1) (rows_to (row1 .u8) (r:=K_ (row1 .u8) ([]++L ((K_ nodC x.n).length:Int))) (l:=[]++L ((K_ nodC x.n).length:Int)) (m:=accB x.n ([]++L ((K_ nodC x.n).length:Int)) 0) rfl (show ([]++L ((K_ nodC x.n).length:Int))=(accB x.n ([]++L ((K_ nodC x.n).length:Int)) 0) from (by rfl)))))<|.c oz4<|.c hc0<|.n)).weak (D_ _) (AB_ (.cons (BQ_ _) (.cons (.refl _) .nil)))
 ·have gc0:x.ex=true∨(¬((K_ (row1 .i8) x.w).length:Int)>0∧¬((K_ (row1 .i32) x.b).length:Int)>0)∧x.nd=0:=by simp only[AK_,T_,P_,S_,X_,W_,E_,F_,I_,J_,ne_eq,H_,G_,eqNums,AN_] at hc0;first|exact hc0|omega
  have oz3:=(show BlkW (Blk.slc 5 1 (K_ (row1 .u8) ([]++L ((K_ nodC x.n).length:Int)))) (Blk.slc 5 1 (K_ (row1 .u8) (accB x.n ([]++L ((K_ nodC x.n).length:Int)) 0))) from (AE_ (e:=5) (z:=1) (rows_to (row1 .u8) (r:=K_ (row1 .u8) ([]++L ((K_ nodC x.n).length:Int))) (l:=[]++L ((K_ nodC x.n).length:Int)) (m:=accB x.n ([]++L ((K_ nodC x.n).length:Int)) 0) rfl (show ([]++L ((K_ nodC x.n).length:Int))=(accB x.n ([]++L ((K_ nodC x.n).length:Int)) 0) from (by (simp_all;done))))))
  have oz4:=@rblk_y (x) ([]++L ((K_ nodC x.n).length:Int)) hn hl (by (simp only[O_] at *;omega)) h
  rcases bft (decide (x.nd<0) || decide (((K_ (row1 .i8) x.w).length:Int)>16384) || decide (((K_ (row1 .i32) x.b).length:Int)>16384)) with hc1|hc1
  ·have gc1:(x.nd<0∨((K_ (row1 .i8) x.w).length:Int)>16384)∨((K_ (row1 .i32) x.b).length:Int)>16384:=by simp only[AK_,T_,P_,S_,X_,W_,E_,F_,I_,J_,ne_eq,H_,G_,eqNums,AN_] at hc1;first|exact hc1|omega
   exact (VC.run (fn:=Tryz.f95) (W:=[r_,r_,d_,.r [] [.callm [] [(951,20000)] (rM oz1) (oM oz1)],r_,.code [.any (rg [(0,1),(2,2),(9,8)]),.ren 20000 900,.weak 5 (wO oz2),.blk 900 (Blk.slc 5 1 (K_ (row1 .u8) (accB x.n ([]++L ((K_ nodC x.n).length:Int)) 0))),.sort] (AF_ 0) (zO oz4),r_,.r [] [o_,o_,o_,o_,o_,o_,o_,o_,o_,o_,.sel 1,o_,o_,o_,o_,o_,.sel 1,.sel 2],d_,.r [] [o_,o_,o_,o_,.sel 1,o_,o_,o_,o_,.sel 1],b_,r_]) (r:=AV.tup [AV.lit (AY_ none 0 0),i64 3]) Tryz.func95 (by kernel_rfl) (.c oz0<|.c oz1<|.c oz2<|.c oz3<|.c oz4<|.c hc0<|.c hc1<|.n)).weak (D_ _) (AB_ (.cons (BQ_ _) (.cons (R_ (by (simp_all;done))) .nil)))
  ·have gc1:(¬x.nd<0∧¬((K_ (row1 .i8) x.w).length:Int)>16384)∧¬((K_ (row1 .i32) x.b).length:Int)>16384:=by simp only[AK_,T_,P_,S_,X_,W_,E_,F_,I_,J_,ne_eq,H_,G_,eqNums,AN_] at hc1;first|exact hc1|omega
   have oz8:=@rput_1 (accB x.n ([]++L ((K_ nodC x.n).length:Int)) x.n.length) (L) (0) (by (simp only[O_] at *;omega)) hL
   exact (VC.run (fn:=Tryz.f95) (W:=[r_,r_,d_,.r [] [.callm [] [(951,20000)] (rM oz1) (oM oz1)],r_,.code [.any (rg [(0,1),(2,2),(9,8)]),.ren 20000 900,.weak 5 (wO oz2),.blk 900 (Blk.slc 5 1 (K_ (row1 .u8) (accB x.n ([]++L ((K_ nodC x.n).length:Int)) 0))),.sort] (AF_ 0) (zO oz4),r_,.r [] [o_,o_,o_,o_,o_,o_,o_,o_,o_,o_,.sel 1,o_,o_,o_,o_,o_,.sel 1,.sel 2],d_,.r [] [o_,o_,o_,o_,.sel 1,o_,o_,o_,o_,.sel 1],d_,r_,b_,.r [] [.callm [(900,950)] [(951,20001)] (rM oz8) (oM oz8)]]) (r:=AV.tup [AV.sl 1 (K_ (row1 .u8) (accB x.n ([]++L ((K_ nodC x.n).length:Int)) x.n.length++L 0)),i64 0]) Tryz.func95 (by kernel_rfl) (.c oz0<|.c oz1<|.c oz2<|.c oz3<|.c oz4<|.c hc0<|.c hc1<|.c (show (!x.ex)=true by (simp;omega))<|.c oz8<|.n)).weak (D_ _) (AB_ (.cons (BE_ (show (K_ (row1 .u8) (accB x.n ([]++L ((K_ nodC x.n).length:Int)) x.n.length++L 0))=([]) from (by (simp_all;done)))) (.cons (R_ (by (simp_all;done))) .nil)))
theorem rblock_hb (L:Int→List Int) (x:Blc) (hL:RPuts L) (hn:Nods x.n) (hl:x.n.length≤8) (h:∀ k,k<x.n.length→(nodeP (x.n.getD k default)).2=0) (hx:¬ (x.ex=false∧(0<x.w.length∨0<x.b.length∨x.nd≠0))) (h2:x.nd<0∨16384<x.w.length∨16384<x.b.length):VC M_ 95 ([blc x]) (.tup [.sl 1 (([]:List Int).map (row1 .u8)),i64 3]):=by
 have hB:([]++L (x.n.length:Int)).length≤10:=hL.l _
 have hA:(accB x.n ([]++L (x.n.length:Int)) x.n.length).length≤1000000:=by
  have:=accB_le hn ([]++L (x.n.length:Int)) (AX_ _)
  omega
 have oz0:=(show decide (((K_ nodC x.n).length:Int)>8)=false by (simp;omega))
 have oz1:=@VM.pre _ _ ([AV.lit (AY_ none 0 0),i64 ((K_ nodC x.n).length:Int)]) _ ([]) _ _ _ ([GI.nils 0 950 5 1,GI.sort]) _ (@rput_1 ([]) (L) (((K_ nodC x.n).length:Int)) (by (simp;done)) hL) (by kernel_rfl) (.n)
 have oz2:=w0_
 rcases bft (!x.ex&&(decide (((K_ (row1 .i8) x.w).length:Int)>0) || decide (((K_ (row1 .i32) x.b).length:Int)>0) || x.nd != 0)) with hc0|hc0
 ·have gc0:x.ex=false∧((((K_ (row1 .i8) x.w).length:Int)>0∨((K_ (row1 .i32) x.b).length:Int)>0)∨¬x.nd=0):=by simp only[AK_,T_,P_,S_,X_,W_,E_,F_,I_,J_,ne_eq,H_,G_,eqNums,AN_] at hc0;first|exact hc0|omega
  have oz4:=@rblk_y (x) ([]++L ((K_ nodC x.n).length:Int)) hn hl (by (simp only[O_] at *;omega)) h
  exact (VC.run (fn:=Tryz.f95) (W:=[r_,r_,d_,.r [] [.callm [] [(951,20000)] (rM oz1) (oM oz1)],r_,.code [.any (rg [(0,1),(2,2),(9,8)]),.ren 20000 900,.weak 5 (wO oz2),.blk 900 (Blk.slc 5 1 (K_ (row1 .u8) (accB x.n ([]++L ((K_ nodC x.n).length:Int)) 0))),.sort] (AF_ 0) (zO oz4),r_,.r [] [o_,o_,o_,o_,o_,o_,o_,o_,o_,o_,.sel 1,o_,o_,o_,o_,o_,.sel 1,.sel 2],b_,r_]) (r:=AV.tup [AV.lit (AY_ none 0 0),i64 11]) Tryz.func95 (by kernel_rfl) (.c oz0<|.c oz1<|.c oz2<|.c (show BlkW (Blk.slc 5 1 (K_ (row1 .u8) ([]++L ((K_ nodC x.n).length:Int)))) (Blk.slc 5 1 (K_ (row1 .u8) (accB x.n ([]++L ((K_ nodC x.n).length:Int)) 0))) from (AE_ (e:=5) (z:=1) (rows_to (row1 .u8) (r:=K_ (row1 .u8) ([]++L ((K_ nodC x.n).length:Int))) (l:=[]++L ((K_ nodC x.n).length:Int)) (m:=accB x.n ([]++L ((K_ nodC x.n).length:Int)) 0) rfl (show ([]++L ((K_ nodC x.n).length:Int))=(accB x.n ([]++L ((K_ nodC x.n).length:Int)) 0) from (by (simp_all;done))))))<|.c oz4<|.c hc0<|.n)).weak (D_ _) (AB_ (.cons (BQ_ _) (.cons (R_ (by (simp_all;done))) .nil)))
 ·have gc0:x.ex=true∨(¬((K_ (row1 .i8) x.w).length:Int)>0∧¬((K_ (row1 .i32) x.b).length:Int)>0)∧x.nd=0:=by simp only[AK_,T_,P_,S_,X_,W_,E_,F_,I_,J_,ne_eq,H_,G_,eqNums,AN_] at hc0;first|exact hc0|omega
  have oz4:=@rblk_y (x) ([]++L ((K_ nodC x.n).length:Int)) hn hl (by (simp only[O_] at *;omega)) h
  exact (VC.run (fn:=Tryz.f95) (W:=[r_,r_,d_,.r [] [.callm [] [(951,20000)] (rM oz1) (oM oz1)],r_,.code [.any (rg [(0,1),(2,2),(9,8)]),.ren 20000 900,.weak 5 (wO oz2),.blk 900 (Blk.slc 5 1 (K_ (row1 .u8) (accB x.n ([]++L ((K_ nodC x.n).length:Int)) 0))),.sort] (AF_ 0) (zO oz4),r_,.r [] [o_,o_,o_,o_,o_,o_,o_,o_,o_,o_,.sel 1,o_,o_,o_,o_,o_,.sel 1,.sel 2],d_,.r [] [o_,o_,o_,o_,.sel 1,o_,o_,o_,o_,.sel 1],b_,r_]) (r:=AV.tup [AV.lit (AY_ none 0 0),i64 3]) Tryz.func95 (by kernel_rfl) (.c oz0<|.c oz1<|.c oz2<|.c (show BlkW (Blk.slc 5 1 (K_ (row1 .u8) ([]++L ((K_ nodC x.n).length:Int)))) (Blk.slc 5 1 (K_ (row1 .u8) (accB x.n ([]++L ((K_ nodC x.n).length:Int)) 0))) from (AE_ (e:=5) (z:=1) (rows_to (row1 .u8) (r:=K_ (row1 .u8) ([]++L ((K_ nodC x.n).length:Int))) (l:=[]++L ((K_ nodC x.n).length:Int)) (m:=accB x.n ([]++L ((K_ nodC x.n).length:Int)) 0) rfl (show ([]++L ((K_ nodC x.n).length:Int))=(accB x.n ([]++L ((K_ nodC x.n).length:Int)) 0) from (by rfl)))))<|.c oz4<|.c hc0<|.c (show (decide (x.nd<0) || decide (((K_ (row1 .i8) x.w).length:Int)>16384) || decide (((K_ (row1 .i32) x.b).length:Int)>16384))=true by (simp;omega))<|.n)).weak (D_ _) (AB_ (.cons (BQ_ _) (.cons (.refl _) .nil)))
theorem rblock_xn (L:Int→List Int) (x:Blc) (hL:RPuts L) (hn:Nods x.n) (hl:x.n.length≤8) (h:∀ k,k<x.n.length→(nodeP (x.n.getD k default)).2=0) (he:x.ex=false) (h2:¬ (0<x.w.length∨0<x.b.length∨x.nd≠0)):VC M_ 95 ([blc x]) (.tup [.sl 1 ((accB x.n ([]++L (x.n.length:Int)) x.n.length++L 0).map (row1 .u8)),i64 0]):=by
 have hB:([]++L (x.n.length:Int)).length≤10:=hL.l _
 have hA:(accB x.n ([]++L (x.n.length:Int)) x.n.length).length≤400000:=by
  have:=accB_le hn ([]++L (x.n.length:Int)) (AX_ _)
  omega
 have oz1:=@VM.pre _ _ ([AV.lit (AY_ none 0 0),i64 ((K_ nodC x.n).length:Int)]) _ ([]) _ _ _ ([GI.nils 0 950 5 1,GI.sort]) _ (@rput_1 ([]) (L) (((K_ nodC x.n).length:Int)) (by (simp;done)) hL) (by kernel_rfl) (.n)
 have oz4:=@rblk_y (x) ([]++L ((K_ nodC x.n).length:Int)) hn hl (by (simp only[O_] at *;omega)) h
 have oz6:=(decide_eq_false (p:=(x.nd<0)) (by omega))
 have oz13:=@rput_1 (accB x.n ([]++L ((K_ nodC x.n).length:Int)) x.n.length) (L) (0) (by (simp only[O_] at *;omega)) hL
 exact (VC.run (fn:=Tryz.f95) (W:=[r_,r_,d_,.r [] [.callm [] [(951,20000)] (rM oz1) (oM oz1)],r_,.code [.any (rg [(0,1),(2,2),(9,8)]),.ren 20000 900,.weak 5 (i64 (↑0:Int)),.blk 900 (Blk.slc 5 1 (K_ (row1 .u8) (accB x.n ([]++L ((K_ nodC x.n).length:Int)) 0))),.sort] (AF_ 0) (zO oz4),r_,.r [] [o_,o_,o_,o_,o_,o_,o_,o_,o_,o_,.sel 1,o_,o_,o_,o_,o_,.sel 1,.sel 2],d_,.r [] [e_,e_,e_,e_,f_,o_,o_,o_,o_,.sel 1],d_,r_,b_,.r [] [.callm [(900,950)] [(951,20001)] (rM oz13) (oM oz13)]]) (r:=AV.tup [AV.sl 1 (K_ (row1 .u8) (accB x.n ([]++L ((K_ nodC x.n).length:Int)) x.n.length++L 0)),i64 0]) Tryz.func95 (by kernel_rfl) (.c (show decide (((K_ nodC x.n).length:Int)>8)=false by (simp;omega))<|.c oz1<|.c w0_<|.c (show BlkW (Blk.slc 5 1 (K_ (row1 .u8) ([]++L ((K_ nodC x.n).length:Int)))) (Blk.slc 5 1 (K_ (row1 .u8) (accB x.n ([]++L ((K_ nodC x.n).length:Int)) 0))) from (AE_ (e:=5) (z:=1) (rows_to (row1 .u8) (r:=K_ (row1 .u8) ([]++L ((K_ nodC x.n).length:Int))) (l:=[]++L ((K_ nodC x.n).length:Int)) (m:=accB x.n ([]++L ((K_ nodC x.n).length:Int)) 0) rfl (show ([]++L ((K_ nodC x.n).length:Int))=(accB x.n ([]++L ((K_ nodC x.n).length:Int)) 0) from (by rfl)))))<|.c oz4<|.c (show (!x.ex&&(decide (((K_ (row1 .i8) x.w).length:Int)>0) || decide (((K_ (row1 .i32) x.b).length:Int)>0) || x.nd != 0))=false by (simp only[E_,F_,I_,J_,ne_eq,H_,G_,X_,W_,CK_,BU_,BX_,Classical.not_not,CC_,Int.not_le,P_,S_,AK_,T_,AN_,BW_,BY_,BK_,BG_,BV_,eqNums,O_,N_,AJ_,BI_,BF_,BC_,BT_,CN_,CW_,BZ_,BS_,CV_];(first|done|with_reducible assumption|omega|contradiction)))<|.c oz6<|.c oz6<|.c oz6<|.c oz6<|.c oz6<|.c (show (decide (((K_ (row1 .i8) x.w).length:Int)>16384) || decide (((K_ (row1 .i32) x.b).length:Int)>16384))=false by (simp;omega))<|.c (show (!x.ex)=true by (simp;omega))<|.c oz13<|.n)).weak (D_ _) (AB_ (.cons (BE_ (rows_to (row1 .u8) (r:=K_ (row1 .u8) (accB x.n ([]++L ((K_ nodC x.n).length:Int)) x.n.length++L 0)) (l:=accB x.n ([]++L ((K_ nodC x.n).length:Int)) x.n.length++L 0) (m:=accB x.n ([]++L (x.n.length:Int)) x.n.length++L 0) rfl (show (accB x.n ([]++L ((K_ nodC x.n).length:Int)) x.n.length++L 0)=(accB x.n ([]++L (x.n.length:Int)) x.n.length++L 0) from (by (simp;done))))) (.cons (.refl _) .nil)))
theorem rblock_xy (L:Int→List Int) (x:Blc) (hL:RPuts L) (ok:x.Ok) (hn:Nods x.n) (hl:x.n.length≤8) (h:∀ k,k<x.n.length→(nodeP (x.n.getD k default)).2=0) (he:x.ex=true) (hw:x.w.length≤16384) (hb:x.b.length≤16384) (h0:0≤x.nd):VC M_ 95 ([blc x]) (.tup [.sl 1 ((accB x.n ([]++L (x.n.length:Int)) x.n.length++L 1++L (x.w.length:Int)++smallL x.w++L (x.b.length:Int)++wideL x.b++L x.nd).map (row1 .u8)),i64 0]):=by
 have hB:([]++L (x.n.length:Int)).length≤10:=hL.l _
 have h32:=ok.b
 have hnd:=ok.nd
 have q1:=hL.l 1
 have q2:=hL.l (x.w.length:Int)
 have q3:=hL.l (x.b.length:Int)
 have q4:(smallL x.w).length=x.w.length:=O_ _
 have q5:=wideL_len x.b h32
 have hA:(accB x.n ([]++L (x.n.length:Int)) x.n.length).length≤1000000:=by
  have:=accB_le hn ([]++L (x.n.length:Int)) (AX_ _)
  omega
 have hC:(accB x.n ([]++L (x.n.length:Int)) x.n.length++L 1).length≤500000:=by
  have:=accB_le hn ([]++L (x.n.length:Int)) (AX_ _)
  rw[N_];omega
 have hD:(accB x.n ([]++L (x.n.length:Int)) x.n.length++L 1++L (x.w.length:Int)++smallL x.w++L (x.b.length:Int)++wideL x.b).length≤1000000:=by
  have:=accB_le hn ([]++L (x.n.length:Int)) (AX_ _)
  simp only[N_] at *;omega
 have w5:x.w.length≤100000:=by omega
 clear q1 q2 q3 q4 q5
 have oz0:=(show decide (((K_ nodC x.n).length:Int)>8)=false by (simp;omega))
 have oz1:=@VM.pre _ _ ([AV.lit (AY_ none 0 0),i64 ((K_ nodC x.n).length:Int)]) _ ([]) _ _ _ ([GI.nils 0 950 5 1,GI.sort]) _ (@rput_1 ([]) (L) (((K_ nodC x.n).length:Int)) (by (simp;done)) hL) (by kernel_rfl) (.n)
 have oz2:=w0_
 rcases bft (!x.ex&&(decide (((K_ (row1 .i8) x.w).length:Int)>0) || decide (((K_ (row1 .i32) x.b).length:Int)>0) || x.nd != 0)) with hc0|hc0
 ·have gc0:x.ex=false∧((((K_ (row1 .i8) x.w).length:Int)>0∨((K_ (row1 .i32) x.b).length:Int)>0)∨¬x.nd=0):=by simp only[AK_,T_,P_,S_,X_,W_,E_,F_,I_,J_,ne_eq,H_,G_,eqNums,AN_] at hc0;first|exact hc0|omega
  have oz4:=@rblk_y (x) ([]++L ((K_ nodC x.n).length:Int)) hn hl (by (simp only[O_] at *;omega)) h
  exact (VC.run (fn:=Tryz.f95) (W:=[r_,r_,d_,.r [] [.callm [] [(951,20000)] (rM oz1) (oM oz1)],r_,.code [.any (rg [(0,1),(2,2),(9,8)]),.ren 20000 900,.weak 5 (wO oz2),.blk 900 (Blk.slc 5 1 (K_ (row1 .u8) (accB x.n ([]++L ((K_ nodC x.n).length:Int)) 0))),.sort] (AF_ 0) (zO oz4),r_,.r [] [o_,o_,o_,o_,o_,o_,o_,o_,o_,o_,.sel 1,o_,o_,o_,o_,o_,.sel 1,.sel 2],b_,r_]) (r:=AV.tup [AV.lit (AY_ none 0 0),i64 11]) Tryz.func95 (by kernel_rfl) (.c oz0<|.c oz1<|.c oz2<|.c (show BlkW (Blk.slc 5 1 (K_ (row1 .u8) ([]++L ((K_ nodC x.n).length:Int)))) (Blk.slc 5 1 (K_ (row1 .u8) (accB x.n ([]++L ((K_ nodC x.n).length:Int)) 0))) from (AE_ (e:=5) (z:=1) (rows_to (row1 .u8) (r:=K_ (row1 .u8) ([]++L ((K_ nodC x.n).length:Int))) (l:=[]++L ((K_ nodC x.n).length:Int)) (m:=accB x.n ([]++L ((K_ nodC x.n).length:Int)) 0) rfl (show ([]++L ((K_ nodC x.n).length:Int))=(accB x.n ([]++L ((K_ nodC x.n).length:Int)) 0) from (by (simp_all;done))))))<|.c oz4<|.c hc0<|.n)).weak (D_ _) (AB_ (.cons (Weak.nilr (show []=(K_ (row1 .u8) (accB x.n ([]++L (x.n.length:Int)) x.n.length++L 1++L (x.w.length:Int)++smallL x.w++L (x.b.length:Int)++wideL x.b++L x.nd)) from (by (simp_all;done)))) (.cons (R_ (by (simp_all;done))) .nil)))
 ·have gc0:x.ex=true∨(¬((K_ (row1 .i8) x.w).length:Int)>0∧¬((K_ (row1 .i32) x.b).length:Int)>0)∧x.nd=0:=by simp only[AK_,T_,P_,S_,X_,W_,E_,F_,I_,J_,ne_eq,H_,G_,eqNums,AN_] at hc0;first|exact hc0|omega
  have oz4:=@rblk_y (x) ([]++L ((K_ nodC x.n).length:Int)) hn hl (by (simp only[O_] at *;omega)) h
  have oz6:=(decide_eq_false (p:=(x.nd<0)) (by omega))
  have oz13:=@rput_1 (accB x.n ([]++L ((K_ nodC x.n).length:Int)) x.n.length) (L) (1) (by (simp only[O_] at *;omega)) hL
  have oz14:=@rlists_v (accB x.n ([]++L ((K_ nodC x.n).length:Int)) x.n.length++L 1) (L) (x.w) (x.b) (by (simp only[O_] at *;omega)) hL w5 hb h32
  have oz16:=@rput_1 (accB x.n ([]++L ((K_ nodC x.n).length:Int)) x.n.length++L 1++L (x.w.length:Int)++smallL x.w++L (x.b.length:Int)++wideL x.b) (L) (x.nd) (by (simp only[O_] at *;omega)) hL
  exact (VC.run (fn:=Tryz.f95) (W:=[r_,r_,d_,.r [] [.callm [] [(951,20000)] (rM oz1) (oM oz1)],r_,.code [.any (rg [(0,1),(2,2),(9,8)]),.ren 20000 900,.weak 5 (wO oz2),.blk 900 (Blk.slc 5 1 (K_ (row1 .u8) (accB x.n ([]++L ((K_ nodC x.n).length:Int)) 0))),.sort] (AF_ 0) (zO oz4),r_,.r [] [o_,o_,o_,o_,o_,o_,o_,o_,o_,o_,.sel 1,o_,o_,o_,o_,o_,.sel 1,.sel 2],d_,.r [] [e_,e_,e_,e_,f_,o_,o_,o_,o_,.sel 1],d_,r_,d_,.r [] [.callm [(900,950)] [(951,20001)] (rM oz13) (oM oz13),.callm [(20001,950)] [(951,20002)] (rM oz14) (oM oz14),.n x.nd,.callm [(20002,950)] [(951,20003)] (rM oz16) (oM oz16)]]) (r:=AV.tup [AV.sl 1 (K_ (row1 .u8) (accB x.n ([]++L ((K_ nodC x.n).length:Int)) x.n.length++L 1++L (x.w.length:Int)++smallL x.w++L (x.b.length:Int)++wideL x.b++L x.nd)),i64 0]) Tryz.func95 (by kernel_rfl) (.c oz0<|.c oz1<|.c oz2<|.c (show BlkW (Blk.slc 5 1 (K_ (row1 .u8) ([]++L ((K_ nodC x.n).length:Int)))) (Blk.slc 5 1 (K_ (row1 .u8) (accB x.n ([]++L ((K_ nodC x.n).length:Int)) 0))) from (AE_ (e:=5) (z:=1) (rows_to (row1 .u8) (r:=K_ (row1 .u8) ([]++L ((K_ nodC x.n).length:Int))) (l:=[]++L ((K_ nodC x.n).length:Int)) (m:=accB x.n ([]++L ((K_ nodC x.n).length:Int)) 0) rfl (show ([]++L ((K_ nodC x.n).length:Int))=(accB x.n ([]++L ((K_ nodC x.n).length:Int)) 0) from (by rfl)))))<|.c oz4<|.c hc0<|.c oz6<|.c oz6<|.c oz6<|.c oz6<|.c oz6<|.c (show (decide (((K_ (row1 .i8) x.w).length:Int)>16384) || decide (((K_ (row1 .i32) x.b).length:Int)>16384))=false by (simp;omega))<|.c (show (!x.ex)=false by (simp;omega))<|.c oz13<|.c oz14<|.c (i6n x.nd (by omega))<|.c oz16<|.n)).weak (D_ _) (AB_ (.cons (BE_ (rows_to (row1 .u8) (r:=K_ (row1 .u8) (accB x.n ([]++L ((K_ nodC x.n).length:Int)) x.n.length++L 1++L (x.w.length:Int)++smallL x.w++L (x.b.length:Int)++wideL x.b++L x.nd)) (l:=accB x.n ([]++L ((K_ nodC x.n).length:Int)) x.n.length++L 1++L (x.w.length:Int)++smallL x.w++L (x.b.length:Int)++wideL x.b++L x.nd) (m:=accB x.n ([]++L (x.n.length:Int)) x.n.length++L 1++L (x.w.length:Int)++smallL x.w++L (x.b.length:Int)++wideL x.b++L x.nd) rfl (show (accB x.n ([]++L ((K_ nodC x.n).length:Int)) x.n.length++L 1++L (x.w.length:Int)++smallL x.w++L (x.b.length:Int)++wideL x.b++L x.nd)=(accB x.n ([]++L (x.n.length:Int)) x.n.length++L 1++L (x.w.length:Int)++smallL x.w++L (x.b.length:Int)++wideL x.b++L x.nd) from (by (simp;done))))) (.cons (.refl _) .nil)))
theorem nodes_first (l:List Nod):(∀ k,k<l.length→(nodeP (l.getD k default)).2=0)∨∃ m,m<l.length∧¬ (nodeP (l.getD m default)).2=0∧∀ k,k<m→(nodeP (l.getD k default)).2=0:=first_of
theorem mem_of_getD {l:List Nod} {p:Nod→Prop} (h:∀ k,k<l.length→p (l.getD k default)):∀ n∈l,p n:=by
 intro n hn
 obtain ⟨k,hk,e⟩:=List.mem_iff_getElem.1 hn
 have:=h k hk
 rwa [AT_,B_ hk,BR_,e] at this
theorem headX_ex {x:Blc} (h:headX x=0) (he:x.ex=true):0≤x.nd∧x.w.length≤16384∧x.b.length≤16384:=by
 unfold headX at h
 rw[j_ (by rw[he];simp)] at h
 by_cases q:x.nd<0∨16384<x.w.length∨16384<x.b.length
 ·rw[i_ q] at h;cases h
 ·omega
theorem headX_n {x:Blc} (h:headX x=0) (he:x.ex=false):¬ (0<x.w.length∨0<x.b.length∨x.nd≠0):=fun q=>by
 unfold headX at h;rw[i_ ⟨he,q⟩] at h;cases h
theorem pblock_v (x:Blc) (ok:x.Ok) (hw:∀ n∈x.n,n.w.length≤3000∧n.b.length≤3000):VC M_ 93 [blc x] (.tup [.sl 1 ((blockR x).1.map (row1 .u8)),i64 (blockR x).2]):=by
 have hn:Nods x.n:=⟨ok.n,hw⟩
 by_cases h1:8<x.n.length
 ·rw[show blockR x=([],4) from by unfold blockR;rw[i_ h1]];exact pblock_f x h1
 rcases nodes_first x.n with h|⟨m,hm,hf,h⟩
 ·have hE:=nodesE_y (mem_of_getD h)
  by_cases h3:headX x=0
  ·rw[show blockR x=(exitL (accB x.n (putN (x.n.length:Int)) x.n.length) x,0) from by unfold blockR;rw[j_ h1,j_ (by simpa using hE),j_ (by simpa using h3)]]
   unfold exitL
   cases he:x.ex with
   | true =>
    rw[i_ rfl]
    have q:=headX_ex h3 he
    exact pblock_xy putN x puts ok hn (by omega) h h3 he q.2.1 q.2.2
   | false =>
    rw[j_ (by simp)]
    exact pblock_xn putN x puts hn (by omega) h h3 he
  ·rw[show blockR x=([],headX x) from by unfold blockR;rw[j_ h1,j_ (by simpa using hE),i_ h3]]
   exact pblock_h putN x puts hn (by omega) h h3
 ·have hE:=nodesE_n hm hf h
  rw[show blockR x=([],(nodeP (x.n.getD m default)).2) from by unfold blockR;rw[j_ h1,hE,i_ hf]]
  exact pblock_n putN x m puts hn (by omega) hm hf h
theorem rblock_v (x:Blc) (ok:x.Ok) (hw:∀ n∈x.n,n.w.length≤3000∧n.b.length≤3000):VC M_ 95 [blc x] (.tup [.sl 1 ((blockR x).1.map (row1 .u8)),i64 (blockR x).2]):=by
 have hn:Nods x.n:=⟨ok.n,hw⟩
 by_cases h1:8<x.n.length
 ·rw[show blockR x=([],4) from by unfold blockR;rw[i_ h1]];exact rblock_f x h1
 rcases nodes_first x.n with h|⟨m,hm,hf,h⟩
 ·have hE:=nodesE_y (mem_of_getD h)
  by_cases h3:headX x=0
  ·rw[show blockR x=(exitL (accB x.n (putN (x.n.length:Int)) x.n.length) x,0) from by unfold blockR;rw[j_ h1,j_ (by simpa using hE),j_ (by simpa using h3)]]
   unfold exitL
   cases he:x.ex with
   | true =>
    rw[i_ rfl]
    have q:=headX_ex h3 he
    exact rblock_xy putN x rputs ok hn (by omega) h he q.2.1 q.2.2 q.1
   | false =>
    rw[j_ (by simp)]
    exact rblock_xn putN x rputs hn (by omega) h he (headX_n h3 he)
  ·rw[show blockR x=([],headX x) from by unfold blockR;rw[j_ h1,j_ (by simpa using hE),i_ h3]]
   unfold headX
   by_cases ha:x.ex=false∧(0<x.w.length∨0<x.b.length∨x.nd≠0)
   ·rw[i_ ha];exact rblock_ha putN x rputs hn (by omega) h ha.1 ha.2
   ·rw[j_ ha]
    by_cases hb:x.nd<0∨16384<x.w.length∨16384<x.b.length
    ·rw[i_ hb];exact rblock_hb putN x rputs hn (by omega) h ha hb
    ·exact absurd (by unfold headX;rw[j_ ha,j_ hb]) h3
 ·have hE:=nodesE_n hm hf h
  rw[show blockR x=([],(nodeP (x.n.getD m default)).2) from by unfold blockR;rw[j_ h1,hE,i_ hf]]
  exact rblock_n putN x m rputs hn (by omega) hm hf h
def ByR (l:List Int):Prop:=∀ x∈l,0≤x∧x≤255
theorem ByR.app {a b:List Int} (h:ByR a) (g:ByR b):ByR (a++b):=fun x hx=>by
 rcases List.mem_append.1 hx with q|q
 ·exact h x q
 ·exact g x q
theorem ByR.nil:ByR []:=fun x hx=>by cases hx
theorem ByR.put (x:Int):ByR (putN x):=putL_rng _
theorem ByR.sml (l:List Int):ByR (smallL l):=fun x hx=>by
 obtain ⟨y,_,rfl⟩:=List.mem_map.1 hx;omega
theorem ByR.wid (l:List Int):ByR (wideL l):=wideL_rng l
theorem ByR.one (x:Int):ByR [IntKind.u8.wrap x]:=by rw[←small1];exact ByR.sml _
theorem nodeL_rng (n:Nod):ByR (nodeL putN n):=by
 unfold nodeL
 repeat' split
 all_goals (first|unfold lb_1|unfold lb_2|unfold lb_3|unfold lb_4|unfold lb_6|unfold lb_7|unfold lb_8|unfold lb_9)
 all_goals (repeat first|with_reducible exact ByR.put _|with_reducible exact ByR.sml _|with_reducible exact ByR.wid _|with_reducible exact ByR.one _|with_reducible apply ByR.app)
theorem nodeR_rng (n:Nod):ByR (nodeP n).1:=by
 unfold nodeP
 split
 ·exact ByR.nil
 ·split
  ·exact ByR.nil
  ·split
   ·exact ByR.nil
   ·exact nodeL_rng n
theorem accB_rng (l:List Nod) {B:List Int} (h:ByR B) (k:Nat):ByR (accB l B k):=by
 induction k with
 | zero=>exact h
 | succ k ih=>exact ih.app (nodeR_rng _)
theorem exitL_rng {B:List Int} (h:ByR B) (x:Blc):ByR (exitL B x):=by
 unfold exitL
 split<;>(repeat first|with_reducible exact h|with_reducible exact ByR.put _|with_reducible exact ByR.sml _|with_reducible exact ByR.wid _|with_reducible apply ByR.app)
theorem blockR_rng (x:Blc):ByR (blockR x).1:=by
 unfold blockR
 split
 ·exact ByR.nil
 ·split
  ·exact ByR.nil
  ·split
   ·exact ByR.nil
   ·exact exitL_rng (accB_rng _ (ByR.put _) _) x
structure Blc.Fw (x:Blc):Prop where
 ok:x.Ok
 n:∀ n∈x.n,n.w.length≤1000∧n.b.length≤100
 l:x.n.length≤12
 w:x.w.length≤4000
 b:x.b.length≤100
theorem Blc.fw {x:Blc} (ok:x.Ok) (h:blcS x=true):x.Fw:=by
 obtain ⟨a,b,c⟩:=blcS_iff.1 h
 obtain ⟨d,_,e⟩:=few_facts a
 exact ⟨ok,e,d,b,c⟩
theorem accB_few {x:Blc} (h:x.Fw) (B:List Int) {k:Nat} (hk:k≤x.n.length):(accB x.n B k).length≤B.length+2200*k:=by
 induction k with
 | zero=>exact AX_ _
 | succ k ih =>
  have a:=ih (by omega)
  have b:=nodeR_le _ (getD_in h.ok.n (show k<x.n.length by omega))
  have c:=getD_in h.n (show k<x.n.length by omega)
  rw[accB,N_];omega
theorem blockR_few {x:Blc} (h:x.Fw):(blockR x).1.length≤50000:=by
 unfold blockR
 split
 ·exact CG_ _
 ·split
  ·exact CG_ _
  ·split
   ·exact CG_ _
   ·have a:=accB_few h (putN (x.n.length:Int)) (AX_ _)
    have p:=putN_len
    have p1:=p (x.n.length:Int);have p2:=p 1;have p3:=p (x.w.length:Int);have p4:=p (x.b.length:Int);have p5:=p x.nd;have p6:=p 0
    have w:=wideL_len x.b h.ok.b
    have s:(smallL x.w).length=x.w.length:=O_ _
    have h1:=h.l;have h2:=h.w;have h3:=h.b
    dsimp only
    unfold exitL
    split<;>simp only[N_]<;>omega
def blocksE:List Blc→Int
 | []=>0
 | x::l=>if (blockR x).2≠0 then (blockR x).2 else blocksE l
theorem blocksE_y {l:List Blc}:(∀ k,k<l.length→(blockR (l.getD k default)).2=0)→blocksE l=0:=by
 induction l with
 | nil=>intro _;rfl
 | cons n l ih =>
  intro h
  have h0:(blockR n).2=0:=h 0 (by simp)
  rw[blocksE,j_ (by simpa using h0)]
  exact ih fun k hk=>h (k+1) (by simpa using hk)
theorem blocksE_n {l:List Blc}:∀ {m:Nat},m<l.length→(blockR (l.getD m default)).2≠0→(∀ k,k<m→(blockR (l.getD k default)).2=0)→blocksE l=(blockR (l.getD m default)).2:=by
 induction l with
 | nil=>intro m hm;simp at hm
 | cons n l ih =>
  intro m hm hf h
  cases m with
  | zero=>rw[blocksE,i_ (by exact hf)];rfl
  | succ m =>
   have h0:(blockR n).2=0:=h 0 (by omega)
   rw[blocksE,j_ (by simpa using h0)]
   exact ih (by simpa using hm) hf fun k hk=>h (k+1) (by omega)
def accM (l:List Blc) (B:List Int):Nat→List Int
 | 0=>B
 | k+1=>accM l B k++(blockR (l.getD k default)).1
structure Mdl.Fw (m:Mdl):Prop where
 b:∀ x∈m.l,Blc.Fw x
 l:m.l.length≤8
theorem Blc.Fw.n3 {x:Blc} (h:x.Fw):∀ n∈x.n,n.w.length≤3000∧n.b.length≤3000:=fun n hn=>by have:=h.n n hn;omega
theorem accM_le {m:Mdl} (h:m.Fw) (B:List Int) {k:Nat} (hk:k≤m.l.length):(accM m.l B k).length≤B.length+50000*k:=by
 induction k with
 | zero=>exact AX_ _
 | succ k ih =>
  have a:=ih (by omega)
  have b:=blockR_few (getD_in h.b (show k<m.l.length by omega))
  rw[accM,N_];omega
def modelR (m:Mdl):List Int×Int:=if 6<m.l.length then ([],4) else if blocksE m.l≠0 then ([],blocksE m.l) else (accM m.l (putN (m.l.length:Int)) m.l.length,0)
noncomputable def pmod_y_I (m:Mdl) (B:List Int) (k:Nat):VS:=stt 50 [(1,.ptr 1 0 0),(4,.ptr 15 0 0),(22,.sl 5 (m.l.map blcC)),(23,i64 m.l.length),(24,i64 k)] [(1,.var (mdlC m)),(15,.var [.own 900]),(900,.slc 5 1 ((accM m.l B k).map (row1 .u8)))]
noncomputable def pmod_y_Z (m:Mdl) (B:List Int):VS:=pmod_y_I m B (m.l.length)
theorem pmod_y_s (m:Mdl) (B:List Int) (fw:m.Fw) (hB:B.length≤10) (h:∀ k,k<m.l.length→(blockR (m.l.getD k default)).2=0) (k:Nat) (hk:k<m.l.length):VT M_ (fnC Tryz.f54 [1,1,1,1,1,0,1,0,0]) (pmod_y_I m B k) .normal (pmod_y_I m B (k+1)):=by
 have q:=h k hk
 have q1:=getD_in fw.b hk
 have q2:=q1.ok
 have q3:=q1.n3
 have q4:=accM_le fw B (CH_ hk)
 have q5:=blockR_few q1
 have q6:=fw.l
 have oz2:=(map_at (blcC) (default) (l:=m.l) (i:=k) hk)
 have oz3:=@pblock_v (m.l.getD k default) q2 q3
 exact VT.run (W:=[r_,b_,.r [] [.row (sO oz2)],.r [] [.callr (rO oz3)],r_,d_,r_,.r [] [.n ((↑k:Int)+1)]]) (G:=[.any (rg [(7,3),(25,10),(36,10)]),.drop [7],.ren 42 900,.weak 24 (i64 (↑(k+1):Int)),.blk 900 (Blk.slc 5 1 (K_ (row1 .u8) (accM m.l B (k+1)))),.sort]) (by kernel_rfl) (.c (decide_eq_true (p:=((↑k:Int)<(m.l.length:Int))) (by omega))<|.c (show 0≤(↑k:Int) by omega)<|.c oz2<|.c oz3<|.c (show ((blockR (m.l.getD k default)).snd != 0)=false by (simp at *;omega))<|.c (show ((K_ (row1 .u8) (accM m.l B k)).length+(K_ (row1 .u8) (blockR (m.l.getD k default)).fst).length)*1≤140737488355328 by (simp only[O_];omega))<|.c (show (K_ (row1 .u8) (accM m.l B k)).length+(K_ (row1 .u8) (blockR (m.l.getD k default)).fst).length≤9223372036854775807 by (simp only[O_];omega))<|.c (i6n ((↑k:Int)+1) (by omega))<|.c (wS_ k)<|.c (show BlkW (Blk.slc 5 1 (K_ (row1 .u8) (accM m.l B k)++K_ (row1 .u8) (blockR (m.l.getD k default)).fst)) (Blk.slc 5 1 (K_ (row1 .u8) (accM m.l B (k+1)))) from (AE_ (e:=5) (z:=1) (rows_to (row1 .u8) (r:=K_ (row1 .u8) (accM m.l B k)++K_ (row1 .u8) (blockR (m.l.getD k default)).fst) (l:=accM m.l B k++(blockR (m.l.getD k default)).fst) (m:=accM m.l B (k+1)) (by first|(simp only[Y_,C_,AO_,AP_,U_,AL_,AM_];done)|rfl|(simp only[Y_,C_,AO_,AP_,U_,AL_,AM_];rfl)) (show (accM m.l B k++(blockR (m.l.getD k default)).fst)=(accM m.l B (k+1)) from (by rfl)))))<|.n)
theorem pmod_y_e (m:Mdl) (B:List Int) (fw:m.Fw) (hB:B.length≤10) (h:∀ k,k<m.l.length→(blockR (m.l.getD k default)).2=0):VT M_ (fnC Tryz.f54 [1,1,1,1,1,0,1,0,0]) (pmod_y_I m B (m.l.length)) (.exit 0) (pmod_y_Z m B):=by
 exact VT.run (W:=[r_,d_]) (G:=[.any [25],.sort]) (by kernel_rfl) (.c (decide_eq_false (p:=((m.l.length:Int)<(m.l.length:Int))) (by omega))<|.n)
theorem pmod_y (m:Mdl) (B:List Int) (fw:m.Fw) (hB:B.length≤10) (h:∀ k,k<m.l.length→(blockR (m.l.getD k default)).2=0):VT M_ (fnC Tryz.f54 [1,1,1,1,1,0,1,0]) (pmod_y_I m B 0) (.exit 0) (pmod_y_Z m B) :=
 VT.loop (fun k=>pmod_y_I m B k) (m.l.length) (fun k hk=>pmod_y_s m B fw hB h k hk) (pmod_y_e m B fw hB h) (by intro h;cases h)
noncomputable def pmod_n_I (m:Mdl) (B:List Int) (j:Nat) (k:Nat):VS:=stt 50 [(1,.ptr 1 0 0),(4,.ptr 15 0 0),(22,.sl 5 (m.l.map blcC)),(23,i64 m.l.length),(24,i64 k)] [(1,.var (mdlC m)),(15,.var [.own 900]),(900,.slc 5 1 ((accM m.l B k).map (row1 .u8)))]
noncomputable def pmod_n_Z (m:Mdl) (B:List Int) (j:Nat):VS:=stt 50 [(2,nilv),(3,i64 (blockR (m.l.getD j default)).2)] []
theorem pmod_n_s (m:Mdl) (B:List Int) (j:Nat) (fw:m.Fw) (hB:B.length≤10) (hj:j<m.l.length) (hf:(blockR (m.l.getD j default)).2≠0) (h:∀ k,k<j→(blockR (m.l.getD k default)).2=0) (k:Nat) (hk:k<j):VT M_ (fnC Tryz.f54 [1,1,1,1,1,0,1,0,0]) (pmod_n_I m B j k) .normal (pmod_n_I m B j (k+1)):=by
 have q:=h k hk
 have q0:k<m.l.length:=by omega
 have q1:=getD_in fw.b q0
 have q2:=q1.ok
 have q3:=q1.n3
 have q4:=accM_le fw B (CH_ q0)
 have q5:=blockR_few q1
 have q6:=fw.l
 have oz2:=(map_at (blcC) (default) (l:=m.l) (i:=k) q0)
 have oz3:=@pblock_v (m.l.getD k default) q2 q3
 exact VT.run (W:=[r_,b_,.r [] [.row (sO oz2)],.r [] [.callr (rO oz3)],r_,d_,r_,.r [] [.n ((↑k:Int)+1)]]) (G:=[.any (rg [(7,3),(25,10),(36,10)]),.drop [7],.ren 42 900,.weak 24 (i64 (↑(k+1):Int)),.blk 900 (Blk.slc 5 1 (K_ (row1 .u8) (accM m.l B (k+1)))),.sort]) (by kernel_rfl) (.c (decide_eq_true (p:=((↑k:Int)<(m.l.length:Int))) (by omega))<|.c (show 0≤(↑k:Int) by omega)<|.c oz2<|.c oz3<|.c (show ((blockR (m.l.getD k default)).snd != 0)=false by (simp at *;omega))<|.c (show ((K_ (row1 .u8) (accM m.l B k)).length+(K_ (row1 .u8) (blockR (m.l.getD k default)).fst).length)*1≤140737488355328 by (simp only[O_];omega))<|.c (show (K_ (row1 .u8) (accM m.l B k)).length+(K_ (row1 .u8) (blockR (m.l.getD k default)).fst).length≤9223372036854775807 by (simp only[O_];omega))<|.c (i6n ((↑k:Int)+1) (by omega))<|.c (wS_ k)<|.c (show BlkW (Blk.slc 5 1 (K_ (row1 .u8) (accM m.l B k)++K_ (row1 .u8) (blockR (m.l.getD k default)).fst)) (Blk.slc 5 1 (K_ (row1 .u8) (accM m.l B (k+1)))) from (AE_ (e:=5) (z:=1) (rows_to (row1 .u8) (r:=K_ (row1 .u8) (accM m.l B k)++K_ (row1 .u8) (blockR (m.l.getD k default)).fst) (l:=accM m.l B k++(blockR (m.l.getD k default)).fst) (m:=accM m.l B (k+1)) (by first|(simp only[Y_,C_,AO_,AP_,U_,AL_,AM_];done)|rfl|(simp only[Y_,C_,AO_,AP_,U_,AL_,AM_];rfl)) (show (accM m.l B k++(blockR (m.l.getD k default)).fst)=(accM m.l B (k+1)) from (by rfl)))))<|.n)
theorem pmod_n_e (m:Mdl) (B:List Int) (j:Nat) (fw:m.Fw) (hB:B.length≤10) (hj:j<m.l.length) (hf:(blockR (m.l.getD j default)).2≠0) (h:∀ k,k<j→(blockR (m.l.getD k default)).2=0):VT M_ (fnC Tryz.f54 [1,1,1,1,1,0,1,0,0]) (pmod_n_I m B j (j)) (.ret) (pmod_n_Z m B j):=by
 have q1:=getD_in fw.b hj
 have q2:=q1.ok
 have q3:=q1.n3
 have oz2:=(map_at (blcC) (default) (l:=m.l) (i:=j) hj)
 have oz3:=@pblock_v (m.l.getD j default) q2 q3
 exact VT.run (W:=[r_,b_,.r [] [.row (sO oz2)],.r [] [.callr (rO oz3)],r_,b_,r_]) (G:=[.any (rg [(1,1),(4,1),(7,3),(22,14)]),.drop [1,15,900,7],.sort]) (by kernel_rfl) (.c (decide_eq_true (p:=((↑j:Int)<(m.l.length:Int))) (by omega))<|.c (show 0≤(↑j:Int) by omega)<|.c oz2<|.c oz3<|.c (show ((blockR (m.l.getD j default)).snd != 0)=true by (simp at *;omega))<|.n)
theorem pmod_n (m:Mdl) (B:List Int) (j:Nat) (fw:m.Fw) (hB:B.length≤10) (hj:j<m.l.length) (hf:(blockR (m.l.getD j default)).2≠0) (h:∀ k,k<j→(blockR (m.l.getD k default)).2=0):VT M_ (fnC Tryz.f54 [1,1,1,1,1,0,1,0]) (pmod_n_I m B j 0) (.ret) (pmod_n_Z m B j) :=
 VT.loop (fun k=>pmod_n_I m B j k) (j) (fun k hk=>pmod_n_s m B j fw hB hj hf h k hk) (pmod_n_e m B j fw hB hj hf h) (by intro h;cases h)
noncomputable def rmod_y_I (m:Mdl) (B:List Int) (k:Nat):VS:=stt 39 [(1,.ptr 1 0 0),(4,.own 900),(5,i64 k)] [(1,.var (mdlC m)),(900,.slc 5 1 ((accM m.l B k).map (row1 .u8)))]
noncomputable def rmod_y_Z (m:Mdl) (B:List Int):VS:=rmod_y_I m B (m.l.length)
theorem rmod_y_s (m:Mdl) (B:List Int) (fw:m.Fw) (hB:B.length≤10) (h:∀ k,k<m.l.length→(blockR (m.l.getD k default)).2=0) (k:Nat) (hk:k<m.l.length):VT M_ (fnC Tryz.f56 [1,1,1,0,1,0,0]) (rmod_y_I m B k) .normal (rmod_y_I m B (k+1)):=by
 have q:=h k hk
 have q1:=getD_in fw.b hk
 have q2:=q1.ok
 have q3:=q1.n3
 have q4:=accM_le fw B (CH_ hk)
 have q5:=blockR_few q1
 have q6:=fw.l
 have oz2:=(map_at (blcC) (default) (l:=m.l) (i:=k) hk)
 have oz3:=@rblock_v (m.l.getD k default) q2 q3
 exact VT.run (W:=[r_,b_,.r [] [.row (sO oz2),.callr (rO oz3)],r_,d_,r_,.r [] [.n ((↑k:Int)+1)]]) (G:=[.any (rg [(6,2),(16,18),(35,3)]),.ren 37 900,.weak 5 (i64 (↑(k+1):Int)),.blk 900 (Blk.slc 5 1 (K_ (row1 .u8) (accM m.l B (k+1)))),.sort]) (by kernel_rfl) (.c (show decide ((↑k:Int)<((K_ blcC m.l).length:Int))=true by (simp;omega))<|.c (show 0≤(↑k:Int) by omega)<|.c oz2<|.c oz3<|.c (show ((blockR (m.l.getD k default)).snd != 0)=false by (simp at *;omega))<|.c (show ((K_ (row1 .u8) (accM m.l B k)).length+(K_ (row1 .u8) (blockR (m.l.getD k default)).fst).length)*1≤140737488355328 by (simp only[O_];omega))<|.c (show (K_ (row1 .u8) (accM m.l B k)).length+(K_ (row1 .u8) (blockR (m.l.getD k default)).fst).length≤9223372036854775807 by (simp only[O_];omega))<|.c (i6n ((↑k:Int)+1) (by omega))<|.c (wS_ k)<|.c (show BlkW (Blk.slc 5 1 (K_ (row1 .u8) (accM m.l B k)++K_ (row1 .u8) (blockR (m.l.getD k default)).fst)) (Blk.slc 5 1 (K_ (row1 .u8) (accM m.l B (k+1)))) from (AE_ (e:=5) (z:=1) (rows_to (row1 .u8) (r:=K_ (row1 .u8) (accM m.l B k)++K_ (row1 .u8) (blockR (m.l.getD k default)).fst) (l:=accM m.l B k++(blockR (m.l.getD k default)).fst) (m:=accM m.l B (k+1)) (by first|(simp only[Y_,C_,AO_,AP_,U_,AL_,AM_];done)|rfl|(simp only[Y_,C_,AO_,AP_,U_,AL_,AM_];rfl)) (show (accM m.l B k++(blockR (m.l.getD k default)).fst)=(accM m.l B (k+1)) from (by rfl)))))<|.n)
theorem rmod_y_e (m:Mdl) (B:List Int) (fw:m.Fw) (hB:B.length≤10) (h:∀ k,k<m.l.length→(blockR (m.l.getD k default)).2=0):VT M_ (fnC Tryz.f56 [1,1,1,0,1,0,0]) (rmod_y_I m B (m.l.length)) (.exit 0) (rmod_y_Z m B):=by
 exact VT.run (W:=[r_,d_]) (G:=[.any (rg [(16,5)]),.sort]) (by kernel_rfl) (.c (show decide ((m.l.length:Int)<((K_ blcC m.l).length:Int))=false by (simp;done))<|.n)
theorem rmod_y (m:Mdl) (B:List Int) (fw:m.Fw) (hB:B.length≤10) (h:∀ k,k<m.l.length→(blockR (m.l.getD k default)).2=0):VT M_ (fnC Tryz.f56 [1,1,1,0,1,0]) (rmod_y_I m B 0) (.exit 0) (rmod_y_Z m B) :=
 VT.loop (fun k=>rmod_y_I m B k) (m.l.length) (fun k hk=>rmod_y_s m B fw hB h k hk) (rmod_y_e m B fw hB h) (by intro h;cases h)
noncomputable def rmod_n_I (m:Mdl) (B:List Int) (j:Nat) (k:Nat):VS:=stt 39 [(1,.ptr 1 0 0),(4,.own 900),(5,i64 k)] [(1,.var (mdlC m)),(900,.slc 5 1 ((accM m.l B k).map (row1 .u8)))]
noncomputable def rmod_n_Z (m:Mdl) (B:List Int) (j:Nat):VS:=stt 39 [(2,nilv),(3,i64 (blockR (m.l.getD j default)).2)] []
theorem rmod_n_s (m:Mdl) (B:List Int) (j:Nat) (fw:m.Fw) (hB:B.length≤10) (hj:j<m.l.length) (hf:(blockR (m.l.getD j default)).2≠0) (h:∀ k,k<j→(blockR (m.l.getD k default)).2=0) (k:Nat) (hk:k<j):VT M_ (fnC Tryz.f56 [1,1,1,0,1,0,0]) (rmod_n_I m B j k) .normal (rmod_n_I m B j (k+1)):=by
 have q:=h k hk
 have q0:k<m.l.length:=by omega
 have q1:=getD_in fw.b q0
 have q2:=q1.ok
 have q3:=q1.n3
 have q4:=accM_le fw B (CH_ q0)
 have q5:=blockR_few q1
 have q6:=fw.l
 have oz2:=(map_at (blcC) (default) (l:=m.l) (i:=k) q0)
 have oz3:=@rblock_v (m.l.getD k default) q2 q3
 exact VT.run (W:=[r_,b_,.r [] [.row (sO oz2),.callr (rO oz3)],r_,d_,r_,.r [] [.n ((↑k:Int)+1)]]) (G:=[.any (rg [(6,2),(16,18),(35,3)]),.ren 37 900,.weak 5 (i64 (↑(k+1):Int)),.blk 900 (Blk.slc 5 1 (K_ (row1 .u8) (accM m.l B (k+1)))),.sort]) (by kernel_rfl) (.c (show decide ((↑k:Int)<((K_ blcC m.l).length:Int))=true by (simp;omega))<|.c (show 0≤(↑k:Int) by omega)<|.c oz2<|.c oz3<|.c (show ((blockR (m.l.getD k default)).snd != 0)=false by (simp at *;omega))<|.c (show ((K_ (row1 .u8) (accM m.l B k)).length+(K_ (row1 .u8) (blockR (m.l.getD k default)).fst).length)*1≤140737488355328 by (simp only[O_];omega))<|.c (show (K_ (row1 .u8) (accM m.l B k)).length+(K_ (row1 .u8) (blockR (m.l.getD k default)).fst).length≤9223372036854775807 by (simp only[O_];omega))<|.c (i6n ((↑k:Int)+1) (by omega))<|.c (wS_ k)<|.c (show BlkW (Blk.slc 5 1 (K_ (row1 .u8) (accM m.l B k)++K_ (row1 .u8) (blockR (m.l.getD k default)).fst)) (Blk.slc 5 1 (K_ (row1 .u8) (accM m.l B (k+1)))) from (AE_ (e:=5) (z:=1) (rows_to (row1 .u8) (r:=K_ (row1 .u8) (accM m.l B k)++K_ (row1 .u8) (blockR (m.l.getD k default)).fst) (l:=accM m.l B k++(blockR (m.l.getD k default)).fst) (m:=accM m.l B (k+1)) (by first|(simp only[Y_,C_,AO_,AP_,U_,AL_,AM_];done)|rfl|(simp only[Y_,C_,AO_,AP_,U_,AL_,AM_];rfl)) (show (accM m.l B k++(blockR (m.l.getD k default)).fst)=(accM m.l B (k+1)) from (by rfl)))))<|.n)
theorem rmod_n_e (m:Mdl) (B:List Int) (j:Nat) (fw:m.Fw) (hB:B.length≤10) (hj:j<m.l.length) (hf:(blockR (m.l.getD j default)).2≠0) (h:∀ k,k<j→(blockR (m.l.getD k default)).2=0):VT M_ (fnC Tryz.f56 [1,1,1,0,1,0,0]) (rmod_n_I m B j (j)) (.ret) (rmod_n_Z m B j):=by
 have q1:=getD_in fw.b hj
 have q2:=q1.ok
 have q3:=q1.n3
 have oz2:=(map_at (blcC) (default) (l:=m.l) (i:=j) hj)
 have oz3:=@rblock_v (m.l.getD j default) q2 q3
 exact VT.run (W:=[r_,b_,.r [] [.row (sO oz2),.callr (rO oz3)],r_,b_,r_]) (G:=[.any (rg [(1,1),(4,4),(16,5),(23,12)]),.drop [1,900],.sort]) (by kernel_rfl) (.c (show decide ((↑j:Int)<((K_ blcC m.l).length:Int))=true by (simp;omega))<|.c (show 0≤(↑j:Int) by omega)<|.c oz2<|.c oz3<|.c (show ((blockR (m.l.getD j default)).snd != 0)=true by (simp at *;omega))<|.n)
theorem rmod_n (m:Mdl) (B:List Int) (j:Nat) (fw:m.Fw) (hB:B.length≤10) (hj:j<m.l.length) (hf:(blockR (m.l.getD j default)).2≠0) (h:∀ k,k<j→(blockR (m.l.getD k default)).2=0):VT M_ (fnC Tryz.f56 [1,1,1,0,1,0]) (rmod_n_I m B j 0) (.ret) (rmod_n_Z m B j) :=
 VT.loop (fun k=>rmod_n_I m B j k) (j) (fun k hk=>rmod_n_s m B j fw hB hj hf h k hk) (rmod_n_e m B j fw hB hj hf h) (by intro h;cases h)
theorem pmodel_f (m:Mdl) (h:6<m.l.length):VC M_ 54 ([.agg (mdlC m)]) (.tup [.sl 1 (([]:List Int).map (row1 .u8)),i64 4]):=by
 exact (VC.run (fn:=Tryz.f54) (W:=[r_,r_,b_,r_]) (r:=AV.tup [AV.lit (AY_ none 0 0),i64 4]) Tryz.func54 (by kernel_rfl) (.c (show decide (((K_ blcC m.l).length:Int)>6)=true by (simp;omega))<|.n)).weak (D_ _) (AB_ (.cons (BQ_ _) (.cons (.refl _) .nil)))
theorem pmodel_n (L:Int→List Int) (m:Mdl) (j:Nat) (hL:Puts L) (fw:m.Fw) (hl:m.l.length≤6) (hj:j<m.l.length) (hf:(blockR (m.l.getD j default)).2≠0) (h:∀ k,k<j→(blockR (m.l.getD k default)).2=0):VC M_ 54 ([.agg (mdlC m)]) (.tup [.sl 1 (([]:List Int).map (row1 .u8)),i64 (blockR (m.l.getD j default)).2]):=by
 have hB:([]++L (m.l.length:Int)).length≤10:=hL.l _
 have oz1:=@VM.pre _ _ ([AV.ptr 100000 0 0,AV.ptr 100001 0 0,i64 6]) _ ([(100000,Blk.var [AV.lit (AY_ none 0 0)]),(100001,Blk.var [i64 ((K_ blcC m.l).length:Int)])]) _ _ _ ([GI.nilc 950 5 1 100000 0,GI.sort]) _ (@lnum_1 ([]) (L) (((K_ blcC m.l).length:Int)) (6) (by (simp;done)) hL) (by kernel_rfl) (.n)
 have oz5:=@pmod_n (Mdl.mk m.l) ([]++L ((K_ blcC m.l).length:Int)) (j) fw (by (simp only[O_] at *;omega)) hj hf h
 exact (VC.run (fn:=Tryz.f54) (W:=[r_,r_,d_,r_,r_,.r [] [.callm [(15,100000),(5,100001)] [(951,20000)] (rM oz1) (oM oz1)],r_,.code [.any (rg [(0,1),(2,2),(5,1),(10,12)]),.drop [5],.ren 20000 900,.weak 23 (i64 (m.l.length:Int)),.weak 24 (i64 (↑0:Int)),.blk 900 (Blk.slc 5 1 (K_ (row1 .u8) (accM m.l ([]++L ((K_ blcC m.l).length:Int)) 0))),.sort] (Exit.ret) (zO oz5)]) (r:=AV.tup [AV.lit (AY_ none 0 0),i64 (blockR (m.l.getD j default)).snd]) Tryz.func54 (by kernel_rfl) (.c (show decide (((K_ blcC m.l).length:Int)>6)=false by (simp;omega))<|.c oz1<|.c (R_ (k:=.i64) (show ((((K_ blcC m.l).length:Int)):Int)=((m.l.length:Int)) from (by (simp;done))))<|.c w0_<|.c (show BlkW (Blk.slc 5 1 (K_ (row1 .u8) ([]++L ((K_ blcC m.l).length:Int)))) (Blk.slc 5 1 (K_ (row1 .u8) (accM m.l ([]++L ((K_ blcC m.l).length:Int)) 0))) from (AE_ (e:=5) (z:=1) (rows_to (row1 .u8) (r:=K_ (row1 .u8) ([]++L ((K_ blcC m.l).length:Int))) (l:=[]++L ((K_ blcC m.l).length:Int)) (m:=accM m.l ([]++L ((K_ blcC m.l).length:Int)) 0) rfl (show ([]++L ((K_ blcC m.l).length:Int))=(accM m.l ([]++L ((K_ blcC m.l).length:Int)) 0) from (by rfl)))))<|.c oz5<|.n)).weak (D_ _) (AB_ (.cons (BQ_ _) (.cons (.refl _) .nil)))
theorem pmodel_y (L:Int→List Int) (m:Mdl) (hL:Puts L) (fw:m.Fw) (hl:m.l.length≤6) (h:∀ k,k<m.l.length→(blockR (m.l.getD k default)).2=0):VC M_ 54 ([.agg (mdlC m)]) (.tup [.sl 1 ((accM m.l ([]++L (m.l.length:Int)) m.l.length).map (row1 .u8)),i64 0]):=by
 have hB:([]++L (m.l.length:Int)).length≤10:=hL.l _
 have oz1:=@VM.pre _ _ ([AV.ptr 100000 0 0,AV.ptr 100001 0 0,i64 6]) _ ([(100000,Blk.var [AV.lit (AY_ none 0 0)]),(100001,Blk.var [i64 ((K_ blcC m.l).length:Int)])]) _ _ _ ([GI.nilc 950 5 1 100000 0,GI.sort]) _ (@lnum_1 ([]) (L) (((K_ blcC m.l).length:Int)) (6) (by (simp;done)) hL) (by kernel_rfl) (.n)
 have oz5:=@pmod_y (Mdl.mk m.l) ([]++L ((K_ blcC m.l).length:Int)) fw (by (simp only[O_] at *;omega)) h
 exact (VC.run (fn:=Tryz.f54) (W:=[r_,r_,d_,r_,r_,.r [] [.callm [(15,100000),(5,100001)] [(951,20000)] (rM oz1) (oM oz1)],r_,.code [.any (rg [(0,1),(2,2),(5,1),(10,12)]),.drop [5],.ren 20000 900,.weak 23 (i64 (m.l.length:Int)),.weak 24 (i64 (↑0:Int)),.blk 900 (Blk.slc 5 1 (K_ (row1 .u8) (accM m.l ([]++L ((K_ blcC m.l).length:Int)) 0))),.sort] (AF_ 0) (zO oz5),r_]) (r:=AV.tup [AV.sl 1 (K_ (row1 .u8) (accM m.l ([]++L ((K_ blcC m.l).length:Int)) m.l.length)),i64 0]) Tryz.func54 (by kernel_rfl) (.c (show decide (((K_ blcC m.l).length:Int)>6)=false by (simp;omega))<|.c oz1<|.c (R_ (k:=.i64) (show ((((K_ blcC m.l).length:Int)):Int)=((m.l.length:Int)) from (by (simp;done))))<|.c w0_<|.c (show BlkW (Blk.slc 5 1 (K_ (row1 .u8) ([]++L ((K_ blcC m.l).length:Int)))) (Blk.slc 5 1 (K_ (row1 .u8) (accM m.l ([]++L ((K_ blcC m.l).length:Int)) 0))) from (AE_ (e:=5) (z:=1) (rows_to (row1 .u8) (r:=K_ (row1 .u8) ([]++L ((K_ blcC m.l).length:Int))) (l:=[]++L ((K_ blcC m.l).length:Int)) (m:=accM m.l ([]++L ((K_ blcC m.l).length:Int)) 0) rfl (show ([]++L ((K_ blcC m.l).length:Int))=(accM m.l ([]++L ((K_ blcC m.l).length:Int)) 0) from (by rfl)))))<|.c oz5<|.n)).weak (D_ _) (AB_ (.cons (BE_ (rows_to (row1 .u8) (r:=K_ (row1 .u8) (accM m.l ([]++L ((K_ blcC m.l).length:Int)) m.l.length)) (l:=accM m.l ([]++L ((K_ blcC m.l).length:Int)) m.l.length) (m:=accM m.l ([]++L (m.l.length:Int)) m.l.length) rfl (show (accM m.l ([]++L ((K_ blcC m.l).length:Int)) m.l.length)=(accM m.l ([]++L (m.l.length:Int)) m.l.length) from (by (simp;done))))) (.cons (.refl _) .nil)))
theorem rmodel_f (m:Mdl) (h:6<m.l.length):VC M_ 56 ([.agg (mdlC m)]) (.tup [.sl 1 (([]:List Int).map (row1 .u8)),i64 4]):=by
 exact (VC.run (fn:=Tryz.f56) (W:=[r_,r_,b_,r_]) (r:=AV.tup [AV.lit (AY_ none 0 0),i64 4]) Tryz.func56 (by kernel_rfl) (.c (show decide (((K_ blcC m.l).length:Int)>6)=true by (simp;omega))<|.n)).weak (D_ _) (AB_ (.cons (BQ_ _) (.cons (.refl _) .nil)))
theorem rmodel_n (L:Int→List Int) (m:Mdl) (j:Nat) (hL:RPuts L) (fw:m.Fw) (hl:m.l.length≤6) (hj:j<m.l.length) (hf:(blockR (m.l.getD j default)).2≠0) (h:∀ k,k<j→(blockR (m.l.getD k default)).2=0):VC M_ 56 ([.agg (mdlC m)]) (.tup [.sl 1 (([]:List Int).map (row1 .u8)),i64 (blockR (m.l.getD j default)).2]):=by
 have hB:([]++L (m.l.length:Int)).length≤10:=hL.l _
 have oz1:=@VM.pre _ _ ([AV.lit (AY_ none 0 0),i64 ((K_ blcC m.l).length:Int)]) _ ([]) _ _ _ ([GI.nils 0 950 5 1,GI.sort]) _ (@rput_1 ([]) (L) (((K_ blcC m.l).length:Int)) (by (simp;done)) hL) (by kernel_rfl) (.n)
 have oz4:=@rmod_n (Mdl.mk m.l) ([]++L ((K_ blcC m.l).length:Int)) (j) fw (by (simp only[O_] at *;omega)) hj hf h
 exact (VC.run (fn:=Tryz.f56) (W:=[r_,r_,d_,.r [] [.callm [] [(951,20000)] (rM oz1) (oM oz1)],r_,.code [.any (rg [(0,1),(2,2),(8,8)]),.ren 20000 900,.weak 5 (i64 (↑0:Int)),.blk 900 (Blk.slc 5 1 (K_ (row1 .u8) (accM m.l ([]++L ((K_ blcC m.l).length:Int)) 0))),.sort] (Exit.ret) (zO oz4)]) (r:=AV.tup [AV.lit (AY_ none 0 0),i64 (blockR (m.l.getD j default)).snd]) Tryz.func56 (by kernel_rfl) (.c (show decide (((K_ blcC m.l).length:Int)>6)=false by (simp;omega))<|.c oz1<|.c w0_<|.c (show BlkW (Blk.slc 5 1 (K_ (row1 .u8) ([]++L ((K_ blcC m.l).length:Int)))) (Blk.slc 5 1 (K_ (row1 .u8) (accM m.l ([]++L ((K_ blcC m.l).length:Int)) 0))) from (AE_ (e:=5) (z:=1) (rows_to (row1 .u8) (r:=K_ (row1 .u8) ([]++L ((K_ blcC m.l).length:Int))) (l:=[]++L ((K_ blcC m.l).length:Int)) (m:=accM m.l ([]++L ((K_ blcC m.l).length:Int)) 0) rfl (show ([]++L ((K_ blcC m.l).length:Int))=(accM m.l ([]++L ((K_ blcC m.l).length:Int)) 0) from (by rfl)))))<|.c oz4<|.n)).weak (D_ _) (AB_ (.cons (BQ_ _) (.cons (.refl _) .nil)))
theorem rmodel_y (L:Int→List Int) (m:Mdl) (hL:RPuts L) (fw:m.Fw) (hl:m.l.length≤6) (h:∀ k,k<m.l.length→(blockR (m.l.getD k default)).2=0):VC M_ 56 ([.agg (mdlC m)]) (.tup [.sl 1 ((accM m.l ([]++L (m.l.length:Int)) m.l.length).map (row1 .u8)),i64 0]):=by
 have hB:([]++L (m.l.length:Int)).length≤10:=hL.l _
 have oz1:=@VM.pre _ _ ([AV.lit (AY_ none 0 0),i64 ((K_ blcC m.l).length:Int)]) _ ([]) _ _ _ ([GI.nils 0 950 5 1,GI.sort]) _ (@rput_1 ([]) (L) (((K_ blcC m.l).length:Int)) (by (simp;done)) hL) (by kernel_rfl) (.n)
 have oz4:=@rmod_y (Mdl.mk m.l) ([]++L ((K_ blcC m.l).length:Int)) fw (by (simp only[O_] at *;omega)) h
 exact (VC.run (fn:=Tryz.f56) (W:=[r_,r_,d_,.r [] [.callm [] [(951,20000)] (rM oz1) (oM oz1)],r_,.code [.any (rg [(0,1),(2,2),(8,8)]),.ren 20000 900,.weak 5 (i64 (↑0:Int)),.blk 900 (Blk.slc 5 1 (K_ (row1 .u8) (accM m.l ([]++L ((K_ blcC m.l).length:Int)) 0))),.sort] (AF_ 0) (zO oz4),r_]) (r:=AV.tup [AV.sl 1 (K_ (row1 .u8) (accM m.l ([]++L ((K_ blcC m.l).length:Int)) m.l.length)),i64 0]) Tryz.func56 (by kernel_rfl) (.c (show decide (((K_ blcC m.l).length:Int)>6)=false by (simp;omega))<|.c oz1<|.c w0_<|.c (show BlkW (Blk.slc 5 1 (K_ (row1 .u8) ([]++L ((K_ blcC m.l).length:Int)))) (Blk.slc 5 1 (K_ (row1 .u8) (accM m.l ([]++L ((K_ blcC m.l).length:Int)) 0))) from (AE_ (e:=5) (z:=1) (rows_to (row1 .u8) (r:=K_ (row1 .u8) ([]++L ((K_ blcC m.l).length:Int))) (l:=[]++L ((K_ blcC m.l).length:Int)) (m:=accM m.l ([]++L ((K_ blcC m.l).length:Int)) 0) rfl (show ([]++L ((K_ blcC m.l).length:Int))=(accM m.l ([]++L ((K_ blcC m.l).length:Int)) 0) from (by rfl)))))<|.c oz4<|.n)).weak (D_ _) (AB_ (.cons (BE_ (rows_to (row1 .u8) (r:=K_ (row1 .u8) (accM m.l ([]++L ((K_ blcC m.l).length:Int)) m.l.length)) (l:=accM m.l ([]++L ((K_ blcC m.l).length:Int)) m.l.length) (m:=accM m.l ([]++L (m.l.length:Int)) m.l.length) rfl (show (accM m.l ([]++L ((K_ blcC m.l).length:Int)) m.l.length)=(accM m.l ([]++L (m.l.length:Int)) m.l.length) from (by (simp;done))))) (.cons (.refl _) .nil)))
theorem pmodel_v (m:Mdl) (fw:m.Fw):VC M_ 54 [.agg (mdlC m)] (.tup [.sl 1 ((modelR m).1.map (row1 .u8)),i64 (modelR m).2]):=by
 by_cases h1:6<m.l.length
 ·rw[show modelR m=([],4) from by unfold modelR;rw[i_ h1]];exact pmodel_f m h1
 rcases first_of (n:=m.l.length) (p:=fun k=>(blockR (m.l.getD k default)).2=0) with h|⟨j,hj,hf,h⟩
 ·have hE:=blocksE_y h
  rw[show modelR m=(accM m.l (putN (m.l.length:Int)) m.l.length,0) from by unfold modelR;rw[j_ h1,j_ (by simpa using hE)]]
  exact pmodel_y putN m puts fw (by omega) h
 ·have hE:=blocksE_n hj hf h
  rw[show modelR m=([],(blockR (m.l.getD j default)).2) from by unfold modelR;rw[j_ h1,hE,i_ hf]]
  exact pmodel_n putN m j puts fw (by omega) hj hf h
theorem rmodel_v (m:Mdl) (fw:m.Fw):VC M_ 56 [.agg (mdlC m)] (.tup [.sl 1 ((modelR m).1.map (row1 .u8)),i64 (modelR m).2]):=by
 by_cases h1:6<m.l.length
 ·rw[show modelR m=([],4) from by unfold modelR;rw[i_ h1]];exact rmodel_f m h1
 rcases first_of (n:=m.l.length) (p:=fun k=>(blockR (m.l.getD k default)).2=0) with h|⟨j,hj,hf,h⟩
 ·have hE:=blocksE_y h
  rw[show modelR m=(accM m.l (putN (m.l.length:Int)) m.l.length,0) from by unfold modelR;rw[j_ h1,j_ (by simpa using hE)]]
  exact rmodel_y putN m rputs fw (by omega) h
 ·have hE:=blocksE_n hj hf h
  rw[show modelR m=([],(blockR (m.l.getD j default)).2) from by unfold modelR;rw[j_ h1,hE,i_ hf]]
  exact rmodel_n putN m j rputs fw (by omega) hj hf h
theorem bun0_sm:Bun.Sm ⟨0,0,0,0,[]⟩:=⟨by simp,fun d hd=>by cases hd⟩
theorem right_models {u:Bun} (h:(bunE u).w=0):wholeE u=0∧∀ j,j<u.m.length→mE u j=⟨0,0,0,0⟩:=by
 rcases bunE_cases u with g|g|⟨w,m,h1,h2,h3⟩
 ·have e:bunE u=⟨wholeE u,-1,-1,-1⟩:=i_ g
  rw[e] at h;exact absurd h g
 ·exact g
 ·rw[bunE_m w h1 h2 h3] at h;exact absurd h h2
def hdK (L:Int→List Int) (q:List Int):Nat→List Int
 | 0=>[83,84,87,49]
 | k+1=>hdK L q k++L (q.getD k default)
theorem hdK_len {L:Int→List Int} (hL:∀ x,(L x).length≤10) (q:List Int) (k:Nat):(hdK L q k).length≤4+10*k:=by
 induction k with
 | zero=>exact AX_ _
 | succ k ih=>have:=hL (q.getD k default);rw[hdK,N_];omega
structure Hds (L:Int→List Int) (H:Int→Int→Int→Int→Int→List Int):Prop where
 e:∀ h x c cl m,H h x c cl m=hdK L [h,x,c,cl,m] 5
theorem Hds.len {L:Int→List Int} {H:Int→Int→Int→Int→Int→List Int} (hH:Hds L H) (hL:∀ x,(L x).length≤10) (h x c cl m:Int):(H h x c cl m).length≤54:=by rw[hH.e];exact hdK_len hL _ 5
def hdF (L:Int→List Int) (h x c cl m:Int):List Int:=hdK L [h,x,c,cl,m] 5
theorem hds (L:Int→List Int):Hds L (hdF L):=⟨fun _ _ _ _ _=>rfl⟩
def accU (l:List Mdl) (B:List Int):Nat→List Int
 | 0=>B
 | k+1=>accU l B k++(modelR (l.getD k default)).1
def PkMV (m:Mdl):Prop:=VC M_ 54 [.agg (mdlC m)] (.tup [.sl 1 ((modelR m).1.map (row1 .u8)),i64 (modelR m).2])
def RkMV (m:Mdl):Prop:=VC M_ 56 [.agg (mdlC m)] (.tup [.sl 1 ((modelR m).1.map (row1 .u8)),i64 (modelR m).2])
structure Mdl.Pk (m:Mdl):Prop where
 v:PkMV m
 r:RkMV m
 l:(modelR m).1.length≤1000000
theorem mdlPk_v (m:Mdl) (h:m.Pk):VC M_ 54 [.agg (mdlC m)] (.tup [.sl 1 ((modelR m).1.map (row1 .u8)),i64 (modelR m).2]):=h.v
theorem Mdl.Fw.pk {m:Mdl} (h:m.Fw) (hl:(modelR m).1.length≤1000000):m.Pk:=⟨pmodel_v m h,rmodel_v m h,hl⟩
theorem accU_len {l:List Mdl} (h:∀ m∈l,m.Pk) (B:List Int) {k:Nat} (hk:k≤l.length):(accU l B k).length≤B.length+1000000*k:=by
 induction k with
 | zero=>exact AX_ _
 | succ k ih =>
  have a:=ih (by omega)
  have b:=(getD_in h (show k<l.length by omega)).l
  rw[accU,N_];omega
noncomputable def penc_h_I (u:Bun) (L:Int→List Int) (q:List Int) (k:Nat):VS:=stt 74 [(1,.ptr 1 0 0),(5,.sl 1 ((hdK L q k).map (row1 .u8))),(35,.sl 1 (q.map (row1 .i64))),(36,i64 q.length),(37,i64 k)] [(1,.var (bunC u))]
noncomputable def penc_h_Z (u:Bun) (L:Int→List Int) (q:List Int):VS:=penc_h_I u L q (q.length)
theorem penc_h_s (u:Bun) (L:Int→List Int) (q:List Int) (hL:Puts L) (hq:q.length≤10) (k:Nat) (hk:k<q.length):VT M_ (fnC Tryz.f22 [1,1,1,0,1,0,0]) (penc_h_I u L q k) .normal (penc_h_I u L q (k+1)):=by
 have q1:=hdK_len hL.l q k
 have q2:=hL.l (q.getD k default)
 have oz3:=@puts_v (L) hL (q.getD k 0)
 have oz4:=@joined_v (hdK L q k) (L (q.getD k 0)) (by (simp at *;omega))
 exact VT.run (W:=[r_,b_,.r [] [.row [i64 (q.getD k 0)]],.r [] [.w,.callr (rO oz3),.frz 0,.callr (rO oz4)],.r [] [.n ((↑k:Int)+1)]]) (G:=[.any (rg [(7,1),(38,10)]),.weak 5 (AV.sl 1 (K_ (row1 .u8) (hdK L q (k+1)))),.weak 37 (i64 (↑(k+1):Int)),.sort]) (by kernel_rfl) (.c (decide_eq_true (p:=((↑k:Int)<(q.length:Int))) (by omega))<|.c (show 0≤(↑k:Int) by omega)<|.c (map_at (row1 .i64) (0) (l:=q) (i:=k) hk)<|.c oz3<|.c oz4<|.c (i6n ((↑k:Int)+1) (by omega))<|.c (show Weak (AV.sl 1 (K_ (row1 .u8) (hdK L q k++L (q.getD k 0)))) (AV.sl 1 (K_ (row1 .u8) (hdK L q (k+1)))) from (BE_ (rows_to (row1 .u8) (r:=K_ (row1 .u8) (hdK L q k++L (q.getD k 0))) (l:=hdK L q k++L (q.getD k 0)) (m:=hdK L q (k+1)) rfl (show (hdK L q k++L (q.getD k 0))=(hdK L q (k+1)) from (by rfl)))))<|.c (wS_ k)<|.n)
theorem penc_h_e (u:Bun) (L:Int→List Int) (q:List Int) (hL:Puts L) (hq:q.length≤10):VT M_ (fnC Tryz.f22 [1,1,1,0,1,0,0]) (penc_h_I u L q (q.length)) (.exit 0) (penc_h_Z u L q):=by
 exact VT.run (W:=[r_,d_]) (G:=[.any [38],.sort]) (by kernel_rfl) (.c (decide_eq_false (p:=((q.length:Int)<(q.length:Int))) (by omega))<|.n)
theorem penc_h (u:Bun) (L:Int→List Int) (q:List Int) (hL:Puts L) (hq:q.length≤10):VT M_ (fnC Tryz.f22 [1,1,1,0,1,0]) (penc_h_I u L q 0) (.exit 0) (penc_h_Z u L q) :=
 VT.loop (fun k=>penc_h_I u L q k) (q.length) (fun k hk=>penc_h_s u L q hL hq k hk) (penc_h_e u L q hL hq) (by intro h;cases h)
theorem penc_h5 (u:Bun) (L:Int→List Int) (H:Int→Int→Int→Int→Int→List Int) (h x c cl m:Int) (hL:Puts L) (hH:Hds L H):VT M_ (fnC Tryz.f22 [1,1,1,0,1,0]) (stt 74 [(1,.ptr 1 0 0),(5,.sl 1 ((hdK L [h,x,c,cl,m] 0).map (row1 .u8))),(35,.sl 1 [[i64 h],[i64 x],[i64 c],[i64 cl],[i64 m]]),(36,i64 ((5:Nat):Int)),(37,i64 ((0:Nat):Int))] [(1,.var (bunC u))]) (.exit 0) (stt 74 [(1,.ptr 1 0 0),(5,.sl 1 ((H h x c cl m).map (row1 .u8))),(35,.sl 1 [[i64 h],[i64 x],[i64 c],[i64 cl],[i64 m]]),(36,i64 ((5:Nat):Int)),(37,i64 ((5:Nat):Int))] [(1,.var (bunC u))]) :=
 by rw[hH.e];exact penc_h u L [h,x,c,cl,m] hL (by simp)
noncomputable def penc_m_I (u:Bun) (B:List Int) (k:Nat):VS:=stt 74 [(1,.ptr 1 0 0),(5,.sl 1 ((accU u.m B k).map (row1 .u8))),(49,.sl 1 (u.m.map mdlC)),(50,i64 u.m.length),(51,i64 k)] [(1,.var (bunC u))]
noncomputable def penc_m_Z (u:Bun) (B:List Int):VS:=penc_m_I u B (u.m.length)
theorem penc_m_s (u:Bun) (B:List Int) (fw:∀ m∈u.m,m.Pk) (hl:u.m.length≤4) (hB:B.length≤100) (h:∀ k,k<u.m.length→(modelR (u.m.getD k default)).2=0) (k:Nat) (hk:k<u.m.length):VT M_ (fnC Tryz.f22 [1,1,1,1,0,1,0,0]) (penc_m_I u B k) .normal (penc_m_I u B (k+1)):=by
 have q:=h k hk
 have q1:=getD_in fw hk
 have q2:(modelR (Mdl.mk (u.m.getD k default).l)).1.length≤1000000:=q1.l
 have q3:=accU_len fw B (CH_ hk)
 have oz2:=(map_at (mdlC) (default) (l:=u.m) (i:=k) hk)
 have oz3:=@mdlPk_v (Mdl.mk (u.m.getD k default).l) q1
 have oz5:=@joined_v (accU u.m B k) ((modelR (Mdl.mk (u.m.getD k default).l)).fst) (by (try dsimp only)<;>omega)
 exact VT.run (W:=[r_,b_,.r [] [.row (sO oz2)],.r [] [.callr (rO oz3)],r_,d_,.r [] [.frz 0,.callr (rO oz5)],.r [] [.n ((↑k:Int)+1)]]) (G:=[.any (rg [(9,3),(52,10),(63,5)]),.drop [9],.weak 5 (AV.sl 1 (K_ (row1 .u8) (accU u.m B (k+1)))),.weak 51 (i64 (↑(k+1):Int)),.sort]) (by kernel_rfl) (.c (decide_eq_true (p:=((↑k:Int)<(u.m.length:Int))) (by (try dsimp only)<;>omega))<|.c (show 0≤(↑k:Int) by omega)<|.c oz2<|.c oz3<|.c (show ((modelR (Mdl.mk (u.m.getD k default).l)).snd != 0)=false by (simp at *;omega))<|.c oz5<|.c (i6n ((↑k:Int)+1) (by (try dsimp only)<;>omega))<|.c (show Weak (AV.sl 1 (K_ (row1 .u8) (accU u.m B k++(modelR (Mdl.mk (u.m.getD k default).l)).fst))) (AV.sl 1 (K_ (row1 .u8) (accU u.m B (k+1)))) from (BE_ (rows_to (row1 .u8) (r:=K_ (row1 .u8) (accU u.m B k++(modelR (Mdl.mk (u.m.getD k default).l)).fst)) (l:=accU u.m B k++(modelR (Mdl.mk (u.m.getD k default).l)).fst) (m:=accU u.m B (k+1)) rfl (show (accU u.m B k++(modelR (Mdl.mk (u.m.getD k default).l)).fst)=(accU u.m B (k+1)) from (by rfl)))))<|.c (R_ (k:=.i64) (show (((↑k:Int)+1):Int)=((↑(k+1):Int)) from (by (try dsimp only)<;>omega)))<|.n)
theorem penc_m_e (u:Bun) (B:List Int) (fw:∀ m∈u.m,m.Pk) (hl:u.m.length≤4) (hB:B.length≤100) (h:∀ k,k<u.m.length→(modelR (u.m.getD k default)).2=0):VT M_ (fnC Tryz.f22 [1,1,1,1,0,1,0,0]) (penc_m_I u B (u.m.length)) (.exit 2) (penc_m_Z u B):=by
 exact VT.run (W:=[r_,d_]) (G:=[.any [52],.sort]) (by kernel_rfl) (.c (decide_eq_false (p:=((u.m.length:Int)<(u.m.length:Int))) (by omega))<|.n)
theorem penc_m (u:Bun) (B:List Int) (fw:∀ m∈u.m,m.Pk) (hl:u.m.length≤4) (hB:B.length≤100) (h:∀ k,k<u.m.length→(modelR (u.m.getD k default)).2=0):VT M_ (fnC Tryz.f22 [1,1,1,1,0,1,0]) (penc_m_I u B 0) (.exit 2) (penc_m_Z u B) :=
 VT.loop (fun k=>penc_m_I u B k) (u.m.length) (fun k hk=>penc_m_s u B fw hl hB h k hk) (penc_m_e u B fw hl hB h) (by intro h;cases h)
theorem steps_in {n k s p:Int} (h:(stepsE n k s p).2=0):1≤k∧k≤5∧1≤s∧s≤4∧0≤p∧p≤4:=by
 unfold stepsE at h
 split at h
 ·cases h
 ·omega
theorem slide_in {t:Shp} {k s p o:Int} (h:(slideE t k s p o).2=0):0<elems t.h t.x t.c∧(1≤k∧k≤5∧1≤s∧s≤4∧0≤p∧p≤4)∧1≤o∧o≤1024:=by
 unfold slideE at h
 split at h
 ·cases h
 ·rename_i h1
  split at h
  ·rename_i h2;exact absurd h h2
  ·rename_i h2
   split at h
   ·rename_i h3;exact absurd h h3
   ·split at h
    ·cases h
    ·rename_i h4
     have q:=elems_ok (Classical.not_not.1 h4)
     exact ⟨Classical.not_not.1 h1,steps_in (Classical.not_not.1 h2),q.2.2.2.2.1,q.2.2.2.2.2.1⟩
theorem check_0 {n:Nod} (h:checkE n=0):(1≤n.kd∧n.kd≤9)∧moreE n=false:=by
 unfold checkE at h
 split at h
 ·cases h
 ·rename_i h1
  split at h
  ·cases h
  ·rename_i h2;exact ⟨by omega,by simpa using h2⟩
theorem more_0 {n:Nod} (h:moreE n=false):(¬ (n.kd=1∨n.kd=2∨n.kd=3)→n.w.length=0∧n.b.length=0)∧(¬ (n.kd=1∨n.kd=3)→n.no=0)∧(¬ (n.kd=1∨n.kd=2∨n.kd=4∨n.kd=5)→n.nk=0∧n.ns=0)∧(¬ (n.kd=1∨n.kd=2∨n.kd=4∨n.kd=5∨n.kd=8)→n.np=0)∧(n.kd≠6→n.nb=0):=by
 unfold moreE at h
 simp only[T_,S_,W_,AK_,I_,F_,G_] at h
 obtain ⟨⟨⟨⟨⟨h1,h2⟩,h3,h4⟩,h5,_⟩,_⟩,_⟩:=h
 refine ⟨fun q=>?_,fun q=>?_,fun q=>?_,fun q=>?_,fun q=>?_⟩
 ·rcases h1 with h1|⟨h1,h1'⟩
  ·exact absurd (by omega) q
  ·omega
 ·omega
 ·rcases h3 with h3|h3
  ·exact absurd (by omega) q
  ·exact h3
 ·rcases h4 with (h4|h4)|h4
  ·exact absurd (by omega) q
  ·exact absurd (by omega) q
  ·exact h4
 ·rcases h5 with h5|h5
  ·exact absurd h5 q
  ·exact h5.1.1.1
theorem six_in {n:Nod} (h:∀ v∈six n,0≤v∧v≤1024):(six n).all okI=true:=by
 rw[CE_]
 intro v hv
 have:=h v hv
 simp only[okI,P_,E_];exact this
theorem next_lay {n:Nod} {L:List Shp} (hL:L.length≤20) (h:(nextE n L).2=0):(nodeP n).2=0:=by
 unfold nextE at h
 split at h
 ·rename_i h1;exact absurd h h1
 rename_i h1
 have h1:=Classical.not_not.1 h1
 split at h
 ·rename_i h2
  rw[there_iff] at h2
  obtain ⟨⟨k1,k9⟩,hm⟩:=check_0 h1
  obtain ⟨m1,m2,m3,m4,m5⟩:=more_0 hm
  have key:(∀ v∈six n,0≤v∧v≤1024)∧n.w.length≤16384∧n.b.length≤16384:=by
   have hna:0≤n.na∧n.na≤1024:=by omega
   have hnb:0≤n.nb∧n.nb≤1024:=by
    by_cases e:n.kd=6
    ·have:secN n=n.nb:=by unfold secN;rw[i_ e]
     omega
    ·rw[m5 e];omega
   have fin:(0≤n.nk∧n.nk≤1024)→(0≤n.ns∧n.ns≤1024)→(0≤n.np∧n.np≤1024)→(0≤n.no∧n.no≤1024)→∀ v∈six n,0≤v∧v≤1024:=by
    intro a b c d v hv
    simp only[six,List.mem_cons,List.not_mem_nil,or_false] at hv
    rcases hv with rfl|rfl|rfl|rfl|rfl|rfl<;>assumption
   unfold shapeE at h
   split at h
   ·rename_i e
    unfold convE at h
    split at h
    ·rename_i q;exact absurd h q
    ·rename_i q
     have s:=slide_in (Classical.not_not.1 q)
     split at h
     ·cases h
     ·rename_i q2
      exact ⟨fin (by omega) (by omega) (by omega) (by omega),by omega,by omega⟩
   ·rename_i e1
    split at h
    ·rename_i e
     have n0:=m2 (by omega)
     unfold depthE at h
     split at h
     ·rename_i q;exact absurd h q
     ·rename_i q
      have s:=slide_in (Classical.not_not.1 q)
      split at h
      ·cases h
      ·rename_i q2
       exact ⟨fin (by omega) (by omega) (by omega) (by omega),by omega,by omega⟩
    ·rename_i e2
     split at h
     ·rename_i e
      have n1:=m3 (by omega)
      have n2:=m4 (by omega)
      unfold denseE at h
      split at h
      ·cases h
      ·rename_i q
       have q:0<elems 1 1 n.no:=by have:=elems_in 1 1 n.no;omega
       have s:=elems_ok q
       split at h
       ·cases h
       ·rename_i q2
        exact ⟨fin (by omega) (by omega) (by omega) (by omega),by omega,by omega⟩
     ·rename_i e3
      have n0:=m1 (by omega)
      have n1:=m2 (by omega)
      split at h
      ·rename_i e
       have s:=slide_in h
       exact ⟨fin (by omega) (by omega) (by omega) (by omega),by omega,by omega⟩
      ·rename_i e4
       have n3:=m3 (by omega)
       split at h
       ·cases h
       ·split at h
        ·cases h
        ·split at h
         ·rename_i e
          have n4:=m4 (by omega)
          exact ⟨fin (by omega) (by omega) (by omega) (by omega),by omega,by omega⟩
         ·split at h
          ·rename_i e
           unfold aroundE at h
           split at h
           ·cases h
           ·exact ⟨fin (by omega) (by omega) (by omega) (by omega),by omega,by omega⟩
          ·have n4:=m4 (by omega)
           exact ⟨fin (by omega) (by omega) (by omega) (by omega),by omega,by omega⟩
  unfold nodeP
  rw[j_ (by rw[h1];simp),j_ (by rw[six_in key.1];simp),j_ (by omega)]
 ·cases h
theorem valid_lay {x:Blc} {a:Shp} {cl:Int} {last:Bool} (h:(validE x a cl last).2=0):(blockR x).2=0:=by
 have s:=validE_ok h
 have n0:nodesE x.n=0:=nodesE_y fun n hn=>by
  obtain ⟨i,hi,e⟩:=List.mem_iff_getElem.1 hn
  have q:=s.k i hi
  unfold errL at q
  rw[AT_,B_ hi,BR_,e] at q
  exact next_lay (by rw[growL_len];have:=s.f;omega) q
 have hx:headX x=0:=by
  by_cases g:FOK x.n fullR
  ·rw[validE_y s g] at h
   split at h
   ·rename_i q;exact absurd h q
   ·rename_i q
    have q:=Classical.not_not.1 q
    unfold exitE at q
    split at q
    ·cases q
    ·rename_i q1
     split at q
     ·rename_i q2
      unfold headX
      rw[j_ (by rintro ⟨_,h3⟩;exact q1 ⟨q2,.inr (by omega)⟩)]
      have:x.w.length=0∧x.b.length=0∧x.nd=0:=by
       by_cases z:x.w.length=0∧x.b.length=0∧x.nd=0
       ·exact z
       ·exact absurd ⟨q2,.inr z⟩ q1
      rw[j_ (by omega)]
     ·rename_i q2
      have v0:verdE (lastS x.n a) x.w x.b x.nd cl=0:=by
       split at q
       ·rename_i q3;exact absurd q q3
       ·rename_i q3;exact Classical.not_not.1 q3
      unfold verdE at v0
      split at v0
      ·cases v0
      ·split at v0
       ·cases v0
       ·split at v0
        ·cases v0
        ·split at v0
         ·cases v0
         ·unfold headX
          rw[j_ (fun h=>q2 h.1),j_ (by omega)]
  ·rw[validE_f s g] at h;exact absurd h (flowE_n g)
 unfold blockR
 rw[j_ (by have:=s.f;omega),j_ (by simpa using n0),j_ (by simpa using hx)]
theorem bun_lay {u:Bun} (h:(bunE u).w=0):∀ m∈u.m,(modelR m).2=0:=by
 obtain ⟨w,hm⟩:=right_models h
 intro m hmm
 obtain ⟨j,hj,e⟩:=List.mem_iff_getElem.1 hmm
 have q:=hm j hj
 have q:=modelE_ok q
 have eg:u.m.getD j default=m:=by rw[AT_,B_ hj,BR_,e]
 rw[eg] at q
 obtain ⟨_,l6,hb⟩:=q
 have e0:blocksE m.l=0:=blocksE_y fun k hk=>valid_lay (hb k hk)
 unfold modelR
 rw[j_ (by omega),j_ (by simpa using e0)]
theorem cap_t {X:List Int} (h:1048572<X.length) (h2:X.length≤10000000):decide (IntKind.i64.wrap (((X.map (row1 .u8)).length:Int)+4)>1048576)=true:=by
 rw[O_,IntKind.wrap_i64];exact decide_eq_true (by omega)
theorem cap_f {X:List Int} (h:X.length≤1048572):decide (IntKind.i64.wrap (((X.map (row1 .u8)).length:Int)+4)>1048576)=false:=by
 rw[O_,IntKind.wrap_i64];exact decide_eq_false (by omega)
theorem penc_x (u:Bun) (ok:u.Ok) (sm:u.Sm) (h:¬ (bunE u).w=0):VC M_ 22 ([bun u]) (.tup [.sl 1 (([]:List Int).map (row1 .u8)),i64 (bunE u).w]):=by
 have oz0:=@vbundle_v (u) ok sm
 exact (VC.run (fn:=Tryz.f22) (W:=[r_,.r [] [.callr (rO oz0)],r_,b_,r_]) (r:=AV.tup [AV.lit (AY_ none 0 0),i64 (bunE u).w]) Tryz.func22 (by kernel_rfl) (.c oz0<|.c (show ((bunE u).w != 0)=true by (simp;omega))<|.n)).weak (D_ _) (AB_ (.cons (BQ_ _) (.cons (.refl _) .nil)))
theorem penc_l (u:Bun) (L:Int→List Int) (H:Int→Int→Int→Int→Int→List Int) (ok:u.Ok) (sm:u.Sm) (hL:Puts L) (hH:Hds L H) (h:(bunE u).w=0) (fw:∀ m∈u.m,m.Pk) (hl:u.m.length≤4) (hm:∀ k,k<u.m.length→(modelR (u.m.getD k default)).2=0) (hlen:1048572<(accU u.m (H u.h u.x u.c u.cl ((u.m.map mdlC).length:Int)) u.m.length).length):VC M_ 22 ([bun u]) (.tup [.sl 1 (([]:List Int).map (row1 .u8)),i64 25]):=by
 have q1:(H u.h u.x u.c u.cl ((u.m.map mdlC).length:Int)).length≤100:=by have:=hH.len hL.l u.h u.x u.c u.cl ((u.m.map mdlC).length:Int);omega
 have q2:=accU_len fw (H u.h u.x u.c u.cl ((u.m.map mdlC).length:Int)) (AX_ _)
 have z:=cap_t hlen (by omega)
 have oz0:=@vbundle_v (u) ok sm
 have oz3:=w0_
 have oz4:=@penc_h5 (u) (L) (H) (u.h) (u.x) (u.c) (u.cl) (((K_ mdlC u.m).length:Int)) hL hH
 have oz8:=@penc_m (u) (H u.h u.x u.c u.cl ((K_ mdlC u.m).length:Int)) fw hl q1 hm
 exact (VC.run (fn:=Tryz.f22) (W:=[r_,.r [] [.callr (rO oz0)],r_,d_,r_,r_,.code [.frz 35,.any (rg [(0,1),(2,3),(12,5),(19,16)]),.drop [4],.weak 36 (i64 (↑5:Int)),.weak 37 (wO oz3),.sort] (AF_ 0) (zO oz4),r_,.code [.any [35,36,37,48],.weak 5 (AV.sl 1 (K_ (row1 .u8) (accU u.m (H u.h u.x u.c u.cl ((K_ mdlC u.m).length:Int)) 0))),.weak 50 (i64 (u.m.length:Int)),.weak 51 (wO oz3),.sort] (AF_ 2) (zO oz8),.r [] [.w],b_,r_]) (r:=AV.tup [AV.lit (AY_ none 0 0),i64 25]) Tryz.func22 (by kernel_rfl) (.c oz0<|.c (show ((bunE u).w != 0)=false by (simp;omega))<|.c (R_ (k:=.i64) (show (((↑5:Int)):Int)=((↑5:Int)) from (by (simp;done))))<|.c oz3<|.c oz4<|.c (show Weak (AV.sl 1 (K_ (row1 .u8) (H u.h u.x u.c u.cl ((K_ mdlC u.m).length:Int)))) (AV.sl 1 (K_ (row1 .u8) (accU u.m (H u.h u.x u.c u.cl ((K_ mdlC u.m).length:Int)) 0))) from (BE_ (rows_to (row1 .u8) (r:=K_ (row1 .u8) (H u.h u.x u.c u.cl ((K_ mdlC u.m).length:Int))) (l:=H u.h u.x u.c u.cl ((K_ mdlC u.m).length:Int)) (m:=accU u.m (H u.h u.x u.c u.cl ((K_ mdlC u.m).length:Int)) 0) rfl (show (H u.h u.x u.c u.cl ((K_ mdlC u.m).length:Int))=(accU u.m (H u.h u.x u.c u.cl ((K_ mdlC u.m).length:Int)) 0) from (by rfl)))))<|.c (R_ (k:=.i64) (show ((((K_ mdlC u.m).length:Int)):Int)=((u.m.length:Int)) from (by (simp;done))))<|.c oz3<|.c oz8<|.c z<|.n)).weak (D_ _) (AB_ (.cons (BQ_ _) (.cons (.refl _) .nil)))
theorem penc_y (u:Bun) (L:Int→List Int) (H:Int→Int→Int→Int→Int→List Int) (G:List Int→List Int) (ok:u.Ok) (sm:u.Sm) (hL:Puts L) (hH:Hds L H) (hG:Seals G) (h:(bunE u).w=0) (fw:∀ m∈u.m,m.Pk) (hl:u.m.length≤4) (hm:∀ k,k<u.m.length→(modelR (u.m.getD k default)).2=0) (hlen:(accU u.m (H u.h u.x u.c u.cl ((u.m.map mdlC).length:Int)) u.m.length).length≤1048572) (hx:∀ x∈accU u.m (H u.h u.x u.c u.cl ((u.m.map mdlC).length:Int)) u.m.length,0≤x∧x≤255):VC M_ 22 ([bun u]) (.tup [.sl 1 ((G (accU u.m (H u.h u.x u.c u.cl ((u.m.map mdlC).length:Int)) u.m.length)).map (row1 .u8)),i64 0]):=by
 have q1:(H u.h u.x u.c u.cl ((u.m.map mdlC).length:Int)).length≤100:=by have:=hH.len hL.l u.h u.x u.c u.cl ((u.m.map mdlC).length:Int);omega
 have q2:=accU_len fw (H u.h u.x u.c u.cl ((u.m.map mdlC).length:Int)) (AX_ _)
 have z:=cap_f hlen
 have oz0:=@vbundle_v (u) ok sm
 have oz3:=w0_
 have oz4:=@penc_h5 (u) (L) (H) (u.h) (u.x) (u.c) (u.cl) (((K_ mdlC u.m).length:Int)) hL hH
 have oz8:=@penc_m (u) (H u.h u.x u.c u.cl ((K_ mdlC u.m).length:Int)) fw hl q1 hm
 have oz10:=@seal_v (G) hG (accU u.m (H u.h u.x u.c u.cl ((K_ mdlC u.m).length:Int)) u.m.length) hx (by omega)
 exact VC.run (fn:=Tryz.f22) (W:=[r_,.r [] [.callr (rO oz0)],r_,d_,r_,r_,.code [.frz 35,.any (rg [(0,1),(2,3),(12,5),(19,16)]),.drop [4],.weak 36 (i64 (↑5:Int)),.weak 37 (wO oz3),.sort] (AF_ 0) (zO oz4),r_,.code [.any [35,36,37,48],.weak 5 (AV.sl 1 (K_ (row1 .u8) (accU u.m (H u.h u.x u.c u.cl ((K_ mdlC u.m).length:Int)) 0))),.weak 50 (i64 (u.m.length:Int)),.weak 51 (wO oz3),.sort] (AF_ 2) (zO oz8),.r [] [.w],d_,.r [] [.callr (rO oz10)]]) Tryz.func22 (by kernel_rfl) (.c oz0<|.c (show ((bunE u).w != 0)=false by (simp;omega))<|.c (R_ (k:=.i64) (show (((↑5:Int)):Int)=((↑5:Int)) from (by (simp;done))))<|.c oz3<|.c oz4<|.c (show Weak (AV.sl 1 (K_ (row1 .u8) (H u.h u.x u.c u.cl ((K_ mdlC u.m).length:Int)))) (AV.sl 1 (K_ (row1 .u8) (accU u.m (H u.h u.x u.c u.cl ((K_ mdlC u.m).length:Int)) 0))) from (BE_ (rows_to (row1 .u8) (r:=K_ (row1 .u8) (H u.h u.x u.c u.cl ((K_ mdlC u.m).length:Int))) (l:=H u.h u.x u.c u.cl ((K_ mdlC u.m).length:Int)) (m:=accU u.m (H u.h u.x u.c u.cl ((K_ mdlC u.m).length:Int)) 0) rfl (show (H u.h u.x u.c u.cl ((K_ mdlC u.m).length:Int))=(accU u.m (H u.h u.x u.c u.cl ((K_ mdlC u.m).length:Int)) 0) from (by rfl)))))<|.c (R_ (k:=.i64) (show ((((K_ mdlC u.m).length:Int)):Int)=((u.m.length:Int)) from (by (simp;done))))<|.c oz3<|.c oz8<|.c z<|.c oz10<|.n)
def zipAll {α:Type} [Inhabited α] (p:α→α→Bool) (l m:List α):Bool:=decide (l.length=m.length)&&(List.range l.length).all fun k=>p (l.getD k default) (m.getD k default)
theorem zip_cases {α:Type} [Inhabited α] (p:α→α→Bool) (l m:List α):(l.length≠m.length∧zipAll p l m=false)∨(l.length=m.length∧(∀ k,k<l.length→p (l.getD k default) (m.getD k default)=true)∧zipAll p l m=true) ∨
  (l.length=m.length∧∃ i,i<l.length∧p (l.getD i default) (m.getD i default)=false∧(∀ k,k<i→p (l.getD k default) (m.getD k default)=true)∧zipAll p l m=false):=by
 unfold zipAll
 by_cases hl:l.length=m.length
 ·rcases all_or (fun k=>p (l.getD k default) (m.getD k default)) l.length with h|⟨i,h1,h2,h3⟩
  ·refine .inr (.inl ⟨hl,h,?_⟩)
   rw[decide_eq_true hl,BW_,CE_]
   exact fun k hk=>h k (by simpa using hk)
  ·refine .inr (.inr ⟨hl,i,h1,h2,h3,?_⟩)
   rw[decide_eq_true hl,BW_,Bool.eq_false_iff]
   intro h
   rw[CE_] at h
   have:=h i (by simpa using h1)
   rw[h2] at this;cases this
 ·exact .inl ⟨hl,by rw[decide_eq_false hl,BK_]⟩
structure Blc.Sz (x:Blc):Prop where
 l:x.n.length≤1000
 n:∀ n∈x.n,n.w.length≤100000∧n.b.length≤100000
 w:x.w.length≤100000
 b:x.b.length≤100000
def blcEq (x y:Blc):Bool:=decide (x.w=y.w)&&decide (x.b=y.b)&&(x.nd==y.nd)&&(x.ex==y.ex)&&zipAll nodEq x.n y.n
structure Mdl.Sz (m:Mdl):Prop where
 l:m.l.length≤1000
 b:∀ x∈m.l,x.Sz
def mdlEq (a b:Mdl):Bool:=zipAll blcEq a.l b.l
structure Bun.Sz (u:Bun):Prop where
 l:u.m.length≤1000
 b:∀ x∈u.m,x.Sz
def bunEq (a b:Bun):Bool:=a.h==b.h&&a.x==b.x&&a.c==b.c&&a.cl==b.cl&&zipAll mdlEq a.m b.m
noncomputable def lbk_ly_I (x y:Blc) (k:Nat):VS:=stt 68 [(2,.ptr 2 0 0),(3,.ptr 3 0 0),(5,i64 k)] [(2,.var (blcC x)),(3,.var (blcC y))]
noncomputable def lbk_ly_Z (x y:Blc):VS:=lbk_ly_I x y (x.n.length)
theorem lbk_ly_s (x y:Blc) (sz:x.Sz) (hl:x.n.length=y.n.length) (h:∀ k,k<x.n.length→nodEq (x.n.getD k default) (y.n.getD k default)=true) (k:Nat) (hk:k<x.n.length):VT M_ (fnC Tryz.f76 [1,1,0,1,0,0]) (lbk_ly_I x y k) .normal (lbk_ly_I x y (k+1)):=by
 have q:=h k hk
 have qz:=id sz
 have qm:=getD_in qz.n hk
 obtain ⟨qn1,qn2⟩:=qm
 have qb:=qz.l
 have oz1:=(show 0≤(↑k:Int) by omega)
 have oz2:=(map_at (nodC) (default) (l:=x.n) (i:=k) hk)
 have oz4:=(map_at (nodC) (default) (l:=y.n) (i:=k) (by omega))
 have oz5:=@refSame_v (x.n.getD k default) (y.n.getD k default) qn1 qn2
 exact VT.run (W:=[r_,b_,.r [] [.row (sO oz2),.row (sO oz4),.callr (rO oz5)],d_,.r [] [.n ((↑k:Int)+1)]]) (G:=[.any (rg [(49,19)]),.weak 5 (i64 (↑(k+1):Int)),.sort]) (by kernel_rfl) (.c (show decide ((↑k:Int)<((K_ nodC x.n).length:Int))=true by (simp;omega))<|.c oz1<|.c oz2<|.c oz1<|.c oz4<|.c oz5<|.c (show (!nodEq (x.n.getD k default) (y.n.getD k default))=false by (simp at *;omega))<|.c (i6n ((↑k:Int)+1) (by omega))<|.c (wS_ k)<|.n)
theorem lbk_ly_e (x y:Blc) (sz:x.Sz) (hl:x.n.length=y.n.length) (h:∀ k,k<x.n.length→nodEq (x.n.getD k default) (y.n.getD k default)=true):VT M_ (fnC Tryz.f76 [1,1,0,1,0,0]) (lbk_ly_I x y (x.n.length)) (.exit 0) (lbk_ly_Z x y):=by
 exact VT.run (W:=[r_,d_]) (G:=[.any (rg [(49,5)]),.sort]) (by kernel_rfl) (.c (show decide ((x.n.length:Int)<((K_ nodC x.n).length:Int))=false by (simp;done))<|.n)
theorem lbk_ly (x y:Blc) (sz:x.Sz) (hl:x.n.length=y.n.length) (h:∀ k,k<x.n.length→nodEq (x.n.getD k default) (y.n.getD k default)=true):VT M_ (fnC Tryz.f76 [1,1,0,1,0]) (lbk_ly_I x y 0) (.exit 0) (lbk_ly_Z x y) :=
 VT.loop (fun k=>lbk_ly_I x y k) (x.n.length) (fun k hk=>lbk_ly_s x y sz hl h k hk) (lbk_ly_e x y sz hl h) (by intro h;cases h)
noncomputable def lbk_ln_I (x y:Blc) (i:Nat) (k:Nat):VS:=stt 68 [(2,.ptr 2 0 0),(3,.ptr 3 0 0),(5,i64 k)] [(2,.var (blcC x)),(3,.var (blcC y))]
noncomputable def lbk_ln_Z (x y:Blc) (i:Nat):VS:=stt 68 [(4,bv false)] []
theorem lbk_ln_s (x y:Blc) (i:Nat) (sz:x.Sz) (hl:x.n.length=y.n.length) (hi:i<x.n.length) (hf:nodEq (x.n.getD i default) (y.n.getD i default)=false) (h:∀ k,k<i→nodEq (x.n.getD k default) (y.n.getD k default)=true) (k:Nat) (hk:k<i):VT M_ (fnC Tryz.f76 [1,1,0,1,0,0]) (lbk_ln_I x y i k) .normal (lbk_ln_I x y i (k+1)):=by
 have q:=h k hk
 have qz:=id sz
 have qm:=getD_in qz.n (show k<x.n.length by omega)
 obtain ⟨qn1,qn2⟩:=qm
 have qb:=qz.l
 have oz1:=(show 0≤(↑k:Int) by omega)
 have oz2:=(map_at (nodC) (default) (l:=x.n) (i:=k) (by omega))
 have oz4:=(map_at (nodC) (default) (l:=y.n) (i:=k) (by omega))
 have oz5:=@refSame_v (x.n.getD k default) (y.n.getD k default) qn1 qn2
 exact VT.run (W:=[r_,b_,.r [] [.row (sO oz2),.row (sO oz4),.callr (rO oz5)],d_,.r [] [.n ((↑k:Int)+1)]]) (G:=[.any (rg [(49,19)]),.weak 5 (i64 (↑(k+1):Int)),.sort]) (by kernel_rfl) (.c (show decide ((↑k:Int)<((K_ nodC x.n).length:Int))=true by (simp;omega))<|.c oz1<|.c oz2<|.c oz1<|.c oz4<|.c oz5<|.c (show (!nodEq (x.n.getD k default) (y.n.getD k default))=false by (simp at *;omega))<|.c (i6n ((↑k:Int)+1) (by omega))<|.c (wS_ k)<|.n)
theorem lbk_ln_e (x y:Blc) (i:Nat) (sz:x.Sz) (hl:x.n.length=y.n.length) (hi:i<x.n.length) (hf:nodEq (x.n.getD i default) (y.n.getD i default)=false) (h:∀ k,k<i→nodEq (x.n.getD k default) (y.n.getD k default)=true):VT M_ (fnC Tryz.f76 [1,1,0,1,0,0]) (lbk_ln_I x y i (i)) (.ret) (lbk_ln_Z x y i):=by
 have qz:=id sz
 have qm:=getD_in qz.n hi
 obtain ⟨qn1,qn2⟩:=qm
 have qb:=qz.l
 have oz1:=(show 0≤(↑i:Int) by omega)
 have oz2:=(map_at (nodC) (default) (l:=x.n) (i:=i) hi)
 have oz4:=(map_at (nodC) (default) (l:=y.n) (i:=i) (by omega))
 have oz5:=@refSame_v (x.n.getD i default) (y.n.getD i default) qn1 qn2
 exact VT.run (W:=[r_,b_,.r [] [.row (sO oz2),.row (sO oz4),.callr (rO oz5)],b_,r_]) (G:=[.any (rg [(2,2),(5,1),(49,5),(56,12)]),.drop [2,3],.sort]) (by kernel_rfl) (.c (show decide ((↑i:Int)<((K_ nodC x.n).length:Int))=true by (simp;omega))<|.c oz1<|.c oz2<|.c oz1<|.c oz4<|.c oz5<|.c (show (!nodEq (x.n.getD i default) (y.n.getD i default))=true by (simp at *;omega))<|.n)
theorem lbk_ln (x y:Blc) (i:Nat) (sz:x.Sz) (hl:x.n.length=y.n.length) (hi:i<x.n.length) (hf:nodEq (x.n.getD i default) (y.n.getD i default)=false) (h:∀ k,k<i→nodEq (x.n.getD k default) (y.n.getD k default)=true):VT M_ (fnC Tryz.f76 [1,1,0,1,0]) (lbk_ln_I x y i 0) (.ret) (lbk_ln_Z x y i) :=
 VT.loop (fun k=>lbk_ln_I x y i k) (i) (fun k hk=>lbk_ln_s x y i sz hl hi hf h k hk) (lbk_ln_e x y i sz hl hi hf h) (by intro h;cases h)
theorem lbk_d (x y:Blc) (sz:x.Sz) (hl:x.n.length≠y.n.length):VC M_ 76 ([blc x,blc y]) (bv false):=by
 have hz:zipAll nodEq x.n y.n=false:=by unfold zipAll;rw[decide_eq_false hl,BK_]
 obtain ⟨qa,qb,qc,qd⟩:=id sz
 have oz0:=@rsame8_v (x.w) (y.w) (by omega)
 have oz1:=@rsame32_v (x.b) (y.b) (by omega)
 exact VC.run (fn:=Tryz.f76) (W:=[r_,.r [] [o_,o_,o_,o_,o_,.sel 1,o_,o_,o_,o_,o_,o_,o_,.sel 1,o_,o_,o_,o_,o_,o_,o_,.callr (rO oz0),o_,.sel 1,o_,o_,o_,o_,o_,o_,o_,.callr (rO oz1),o_,.sel 1],b_,r_]) Tryz.func76 (by kernel_rfl) (.c oz0<|.c oz1<|.c (show (((K_ nodC x.n).length:Int) != ((K_ nodC y.n).length:Int) || !x.ex==y.ex || x.nd != y.nd || !decide (x.w=y.w) || !decide (x.b=y.b))=true by (simp;omega))<|.n)
theorem lbk_y (x y:Blc) (sz:x.Sz) (hl:x.n.length=y.n.length) (h:∀ k,k<x.n.length→nodEq (x.n.getD k default) (y.n.getD k default)=true) (hz:zipAll nodEq x.n y.n=true):VC M_ 76 ([blc x,blc y]) (bv (blcEq x y)):=by
 obtain ⟨qa,qb,qc,qd⟩:=id sz
 have oz0:=@rsame8_v (x.w) (y.w) (by omega)
 have oz1:=@rsame32_v (x.b) (y.b) (by omega)
 rcases bft (((K_ nodC x.n).length:Int) != ((K_ nodC y.n).length:Int) || !x.ex==y.ex || x.nd != y.nd || !decide (x.w=y.w) || !decide (x.b=y.b)) with hc0|hc0
 ·have gc0:(((¬((K_ nodC x.n).length:Int)=((K_ nodC y.n).length:Int)∨¬(x.ex=true↔y.ex=true))∨¬x.nd=y.nd)∨¬x.w=y.w)∨¬x.b=y.b:=by first|(simp only[AK_,T_,P_,S_,X_,W_,E_,F_,I_,J_,ne_eq,H_,G_,eqNums,AN_] at hc0;first|exact hc0|omega)|simpa using hc0|(simp at hc0 ⊢;omega)|(apply cbc;intro hn;simp_all[eqNums];done)|(apply cbc;intro hn;simp[eqNums] at hc0 hn;omega)
  exact (VC.run (fn:=Tryz.f76) (W:=[r_,.r [] [o_,o_,o_,o_,o_,.sel 1,o_,o_,o_,o_,o_,o_,o_,.sel 1,o_,o_,o_,o_,o_,o_,o_,.callr (rO oz0),o_,.sel 1,o_,o_,o_,o_,o_,o_,o_,.callr (rO oz1),o_,.sel 1],b_,r_]) (r:=bv false) Tryz.func76 (by kernel_rfl) (.c oz0<|.c oz1<|.c hc0<|.n)).weak (D_ _) (AZ_ (by (simp[blcEq,hz,eqNums] at *;intros;simp_all;done)))
 ·have gc0:(((((K_ nodC x.n).length:Int)=((K_ nodC y.n).length:Int)∧(x.ex=true↔y.ex=true))∧x.nd=y.nd)∧x.w=y.w)∧x.b=y.b:=by first|(simp only[AK_,T_,P_,S_,X_,W_,E_,F_,I_,J_,ne_eq,H_,G_,eqNums,AN_] at hc0;first|exact hc0|omega)|simpa using hc0|(simp at hc0 ⊢;omega)|(apply cbc;intro hn;simp_all[eqNums];done)|(apply cbc;intro hn;simp[eqNums] at hc0 hn;omega)
  have oz4:=@lbk_ly (x) (y) sz hl h
  exact (VC.run (fn:=Tryz.f76) (W:=[r_,.r [] [o_,o_,o_,o_,o_,.sel 1,o_,o_,o_,o_,o_,o_,o_,.sel 1,o_,o_,o_,o_,o_,o_,o_,.callr (rO oz0),o_,.sel 1,o_,o_,o_,o_,o_,o_,o_,.callr (rO oz1),o_,.sel 1],d_,r_,.code [.any [0,1,4,6,7,8,9,10,11,12,13,19,20,28,29,38,39,48],.weak 5 (i64 (↑0:Int)),.sort] (AF_ 0) (zO oz4),r_]) (r:=bv true) Tryz.func76 (by kernel_rfl) (.c oz0<|.c oz1<|.c hc0<|.c w0_<|.c oz4<|.n)).weak (D_ _) (AZ_ (by (rw[Bool.eq_iff_iff];simp[blcEq,hz,eqNums] at *;simp_all;done)))
theorem lbk_n (x y:Blc) (i:Nat) (sz:x.Sz) (hl:x.n.length=y.n.length) (hi:i<x.n.length) (hf:nodEq (x.n.getD i default) (y.n.getD i default)=false) (h:∀ k,k<i→nodEq (x.n.getD k default) (y.n.getD k default)=true):VC M_ 76 ([blc x,blc y]) (bv false):=by
 obtain ⟨qa,qb,qc,qd⟩:=id sz
 have oz0:=@rsame8_v (x.w) (y.w) (by omega)
 have oz1:=@rsame32_v (x.b) (y.b) (by omega)
 rcases bft (((K_ nodC x.n).length:Int) != ((K_ nodC y.n).length:Int) || !x.ex==y.ex || x.nd != y.nd || !decide (x.w=y.w) || !decide (x.b=y.b)) with hc0|hc0
 ·have gc0:(((¬((K_ nodC x.n).length:Int)=((K_ nodC y.n).length:Int)∨¬(x.ex=true↔y.ex=true))∨¬x.nd=y.nd)∨¬x.w=y.w)∨¬x.b=y.b:=by first|(simp only[AK_,T_,P_,S_,X_,W_,E_,F_,I_,J_,ne_eq,H_,G_,eqNums,AN_] at hc0;first|exact hc0|omega)|simpa using hc0|(simp at hc0 ⊢;omega)|(apply cbc;intro hn;simp_all[eqNums];done)|(apply cbc;intro hn;simp[eqNums] at hc0 hn;omega)
  exact VC.run (fn:=Tryz.f76) (W:=[r_,.r [] [o_,o_,o_,o_,o_,.sel 1,o_,o_,o_,o_,o_,o_,o_,.sel 1,o_,o_,o_,o_,o_,o_,o_,.callr (rO oz0),o_,.sel 1,o_,o_,o_,o_,o_,o_,o_,.callr (rO oz1),o_,.sel 1],b_,r_]) Tryz.func76 (by kernel_rfl) (.c oz0<|.c oz1<|.c hc0<|.n)
 ·have gc0:(((((K_ nodC x.n).length:Int)=((K_ nodC y.n).length:Int)∧(x.ex=true↔y.ex=true))∧x.nd=y.nd)∧x.w=y.w)∧x.b=y.b:=by first|(simp only[AK_,T_,P_,S_,X_,W_,E_,F_,I_,J_,ne_eq,H_,G_,eqNums,AN_] at hc0;first|exact hc0|omega)|simpa using hc0|(simp at hc0 ⊢;omega)|(apply cbc;intro hn;simp_all[eqNums];done)|(apply cbc;intro hn;simp[eqNums] at hc0 hn;omega)
  have oz4:=@lbk_ln (x) (y) (i) sz hl hi hf h
  exact VC.run (fn:=Tryz.f76) (W:=[r_,.r [] [o_,o_,o_,o_,o_,.sel 1,o_,o_,o_,o_,o_,o_,o_,.sel 1,o_,o_,o_,o_,o_,o_,o_,.callr (rO oz0),o_,.sel 1,o_,o_,o_,o_,o_,o_,o_,.callr (rO oz1),o_,.sel 1],d_,r_,.code [.any [0,1,4,6,7,8,9,10,11,12,13,19,20,28,29,38,39,48],.weak 5 (i64 (↑0:Int)),.sort] (Exit.ret) (zO oz4)]) Tryz.func76 (by kernel_rfl) (.c oz0<|.c oz1<|.c hc0<|.c w0_<|.c oz4<|.n)
theorem lbk_v (x y:Blc) (sz:x.Sz):VC M_ 76 [blc x,blc y] (bv (blcEq x y)):=by
 rcases zip_cases nodEq x.n y.n with ⟨h,e⟩|⟨h,q,e⟩|⟨h,i,hi,hf,q,e⟩
 ·rw[show blcEq x y=false by simp[blcEq,e]];exact lbk_d x y sz h
 ·exact lbk_y x y sz h q e
 ·rw[show blcEq x y=false by simp[blcEq,e]];exact lbk_n x y i sz h hi hf q
noncomputable def lmd_ly_I (x y:Mdl) (k:Nat):VS:=stt 32 [(2,.ptr 2 0 0),(3,.ptr 3 0 0),(5,i64 k)] [(2,.var (mdlC x)),(3,.var (mdlC y))]
noncomputable def lmd_ly_Z (x y:Mdl):VS:=lmd_ly_I x y (x.l.length)
theorem lmd_ly_s (x y:Mdl) (sz:x.Sz) (hl:x.l.length=y.l.length) (h:∀ k,k<x.l.length→blcEq (x.l.getD k default) (y.l.getD k default)=true) (k:Nat) (hk:k<x.l.length):VT M_ (fnC Tryz.f36 [1,1,0,1,0,0]) (lmd_ly_I x y k) .normal (lmd_ly_I x y (k+1)):=by
 have q:=h k hk
 have qz:=id sz
 have qm:=getD_in qz.b hk
 have qb:=qz.l
 have oz1:=(show 0≤(↑k:Int) by omega)
 have oz2:=(map_at (blcC) (default) (l:=x.l) (i:=k) hk)
 have oz4:=(map_at (blcC) (default) (l:=y.l) (i:=k) (by omega))
 have oz5:=@lbk_v (x.l.getD k default) (y.l.getD k default) qm
 exact VT.run (W:=[r_,b_,.r [] [.row (sO oz2),.row (sO oz4),.callr (rO oz5)],d_,.r [] [.n ((↑k:Int)+1)]]) (G:=[.any (rg [(13,19)]),.weak 5 (i64 (↑(k+1):Int)),.sort]) (by kernel_rfl) (.c (show decide ((↑k:Int)<((K_ blcC x.l).length:Int))=true by (simp;omega))<|.c oz1<|.c oz2<|.c oz1<|.c oz4<|.c oz5<|.c (show (!blcEq (x.l.getD k default) (y.l.getD k default))=false by (simp at *;omega))<|.c (i6n ((↑k:Int)+1) (by omega))<|.c (wS_ k)<|.n)
theorem lmd_ly_e (x y:Mdl) (sz:x.Sz) (hl:x.l.length=y.l.length) (h:∀ k,k<x.l.length→blcEq (x.l.getD k default) (y.l.getD k default)=true):VT M_ (fnC Tryz.f36 [1,1,0,1,0,0]) (lmd_ly_I x y (x.l.length)) (.exit 0) (lmd_ly_Z x y):=by
 exact VT.run (W:=[r_,d_]) (G:=[.any (rg [(13,5)]),.sort]) (by kernel_rfl) (.c (show decide ((x.l.length:Int)<((K_ blcC x.l).length:Int))=false by (simp;done))<|.n)
theorem lmd_ly (x y:Mdl) (sz:x.Sz) (hl:x.l.length=y.l.length) (h:∀ k,k<x.l.length→blcEq (x.l.getD k default) (y.l.getD k default)=true):VT M_ (fnC Tryz.f36 [1,1,0,1,0]) (lmd_ly_I x y 0) (.exit 0) (lmd_ly_Z x y) :=
 VT.loop (fun k=>lmd_ly_I x y k) (x.l.length) (fun k hk=>lmd_ly_s x y sz hl h k hk) (lmd_ly_e x y sz hl h) (by intro h;cases h)
noncomputable def lmd_ln_I (x y:Mdl) (i:Nat) (k:Nat):VS:=stt 32 [(2,.ptr 2 0 0),(3,.ptr 3 0 0),(5,i64 k)] [(2,.var (mdlC x)),(3,.var (mdlC y))]
noncomputable def lmd_ln_Z (x y:Mdl) (i:Nat):VS:=stt 32 [(4,bv false)] []
theorem lmd_ln_s (x y:Mdl) (i:Nat) (sz:x.Sz) (hl:x.l.length=y.l.length) (hi:i<x.l.length) (hf:blcEq (x.l.getD i default) (y.l.getD i default)=false) (h:∀ k,k<i→blcEq (x.l.getD k default) (y.l.getD k default)=true) (k:Nat) (hk:k<i):VT M_ (fnC Tryz.f36 [1,1,0,1,0,0]) (lmd_ln_I x y i k) .normal (lmd_ln_I x y i (k+1)):=by
 have q:=h k hk
 have qz:=id sz
 have qm:=getD_in qz.b (show k<x.l.length by omega)
 have qb:=qz.l
 have oz1:=(show 0≤(↑k:Int) by omega)
 have oz2:=(map_at (blcC) (default) (l:=x.l) (i:=k) (by omega))
 have oz4:=(map_at (blcC) (default) (l:=y.l) (i:=k) (by omega))
 have oz5:=@lbk_v (x.l.getD k default) (y.l.getD k default) qm
 exact VT.run (W:=[r_,b_,.r [] [.row (sO oz2),.row (sO oz4),.callr (rO oz5)],d_,.r [] [.n ((↑k:Int)+1)]]) (G:=[.any (rg [(13,19)]),.weak 5 (i64 (↑(k+1):Int)),.sort]) (by kernel_rfl) (.c (show decide ((↑k:Int)<((K_ blcC x.l).length:Int))=true by (simp;omega))<|.c oz1<|.c oz2<|.c oz1<|.c oz4<|.c oz5<|.c (show (!blcEq (x.l.getD k default) (y.l.getD k default))=false by (simp at *;omega))<|.c (i6n ((↑k:Int)+1) (by omega))<|.c (wS_ k)<|.n)
theorem lmd_ln_e (x y:Mdl) (i:Nat) (sz:x.Sz) (hl:x.l.length=y.l.length) (hi:i<x.l.length) (hf:blcEq (x.l.getD i default) (y.l.getD i default)=false) (h:∀ k,k<i→blcEq (x.l.getD k default) (y.l.getD k default)=true):VT M_ (fnC Tryz.f36 [1,1,0,1,0,0]) (lmd_ln_I x y i (i)) (.ret) (lmd_ln_Z x y i):=by
 have qz:=id sz
 have qm:=getD_in qz.b hi
 have qb:=qz.l
 have oz1:=(show 0≤(↑i:Int) by omega)
 have oz2:=(map_at (blcC) (default) (l:=x.l) (i:=i) hi)
 have oz4:=(map_at (blcC) (default) (l:=y.l) (i:=i) (by omega))
 have oz5:=@lbk_v (x.l.getD i default) (y.l.getD i default) qm
 exact VT.run (W:=[r_,b_,.r [] [.row (sO oz2),.row (sO oz4),.callr (rO oz5)],b_,r_]) (G:=[.any (rg [(2,2),(5,1),(13,5),(20,12)]),.drop [2,3],.sort]) (by kernel_rfl) (.c (show decide ((↑i:Int)<((K_ blcC x.l).length:Int))=true by (simp;omega))<|.c oz1<|.c oz2<|.c oz1<|.c oz4<|.c oz5<|.c (show (!blcEq (x.l.getD i default) (y.l.getD i default))=true by (simp at *;omega))<|.n)
theorem lmd_ln (x y:Mdl) (i:Nat) (sz:x.Sz) (hl:x.l.length=y.l.length) (hi:i<x.l.length) (hf:blcEq (x.l.getD i default) (y.l.getD i default)=false) (h:∀ k,k<i→blcEq (x.l.getD k default) (y.l.getD k default)=true):VT M_ (fnC Tryz.f36 [1,1,0,1,0]) (lmd_ln_I x y i 0) (.ret) (lmd_ln_Z x y i) :=
 VT.loop (fun k=>lmd_ln_I x y i k) (i) (fun k hk=>lmd_ln_s x y i sz hl hi hf h k hk) (lmd_ln_e x y i sz hl hi hf h) (by intro h;cases h)
theorem lmd_d (x y:Mdl) (sz:x.Sz) (hl:x.l.length≠y.l.length):VC M_ 36 ([.agg (mdlC x),.agg (mdlC y)]) (bv false):=by
 have hz:zipAll blcEq x.l y.l=false:=by unfold zipAll;rw[decide_eq_false hl,BK_]
 obtain ⟨qa,qb⟩:=id sz
 exact VC.run (fn:=Tryz.f36) (W:=[r_,r_,b_,r_]) Tryz.func36 (by kernel_rfl) (.c (show (((K_ blcC x.l).length:Int) != ((K_ blcC y.l).length:Int))=true by (simp;omega))<|.n)
theorem lmd_y (x y:Mdl) (sz:x.Sz) (hl:x.l.length=y.l.length) (h:∀ k,k<x.l.length→blcEq (x.l.getD k default) (y.l.getD k default)=true) (hz:zipAll blcEq x.l y.l=true):VC M_ 36 ([.agg (mdlC x),.agg (mdlC y)]) (bv (mdlEq x y)):=by
 obtain ⟨qa,qb⟩:=id sz
 have oz2:=@lmd_ly (Mdl.mk x.l) (Mdl.mk y.l) sz hl h
 exact (VC.run (fn:=Tryz.f36) (W:=[r_,r_,d_,r_,.code [.any (rg [(0,2),(4,1),(6,7)]),.weak 5 (i64 (↑0:Int)),.sort] (AF_ 0) (zO oz2),r_]) (r:=bv true) Tryz.func36 (by kernel_rfl) (.c (show (((K_ blcC x.l).length:Int) != ((K_ blcC y.l).length:Int))=false by (simp;omega))<|.c w0_<|.c oz2<|.n)).weak (D_ _) (AZ_ (by (exact hz.symm)))
theorem lmd_n (x y:Mdl) (i:Nat) (sz:x.Sz) (hl:x.l.length=y.l.length) (hi:i<x.l.length) (hf:blcEq (x.l.getD i default) (y.l.getD i default)=false) (h:∀ k,k<i→blcEq (x.l.getD k default) (y.l.getD k default)=true):VC M_ 36 ([.agg (mdlC x),.agg (mdlC y)]) (bv false):=by
 obtain ⟨qa,qb⟩:=id sz
 have oz2:=@lmd_ln (Mdl.mk x.l) (Mdl.mk y.l) (i) sz hl hi hf h
 exact VC.run (fn:=Tryz.f36) (W:=[r_,r_,d_,r_,.code [.any (rg [(0,2),(4,1),(6,7)]),.weak 5 (i64 (↑0:Int)),.sort] (Exit.ret) (zO oz2)]) Tryz.func36 (by kernel_rfl) (.c (show (((K_ blcC x.l).length:Int) != ((K_ blcC y.l).length:Int))=false by (simp;omega))<|.c w0_<|.c oz2<|.n)
theorem lmd_v (x y:Mdl) (sz:x.Sz):VC M_ 36 [.agg (mdlC x),.agg (mdlC y)] (bv (mdlEq x y)):=by
 rcases zip_cases blcEq x.l y.l with ⟨h,e⟩|⟨h,q,e⟩|⟨h,i,hi,hf,q,e⟩
 ·rw[show mdlEq x y=false by simp[mdlEq,e]];exact lmd_d x y sz h
 ·exact lmd_y x y sz h q e
 ·rw[show mdlEq x y=false by simp[mdlEq,e]];exact lmd_n x y i sz h hi hf q
noncomputable def lbn_ly_I (x y:Bun) (k:Nat):VS:=stt 46 [(2,.ptr 2 0 0),(3,.ptr 3 0 0),(5,i64 k)] [(2,.var (bunC x)),(3,.var (bunC y))]
noncomputable def lbn_ly_Z (x y:Bun):VS:=lbn_ly_I x y (x.m.length)
theorem lbn_ly_s (x y:Bun) (sz:x.Sz) (hl:x.m.length=y.m.length) (h:∀ k,k<x.m.length→mdlEq (x.m.getD k default) (y.m.getD k default)=true) (k:Nat) (hk:k<x.m.length):VT M_ (fnC Tryz.f13 [1,1,0,1,0,0]) (lbn_ly_I x y k) .normal (lbn_ly_I x y (k+1)):=by
 have q:=h k hk
 have qz:=id sz
 have qm:=getD_in qz.b hk
 have qb:=qz.l
 have oz1:=(show 0≤(↑k:Int) by omega)
 have oz2:=(map_at (mdlC) (default) (l:=x.m) (i:=k) hk)
 have oz4:=(map_at (mdlC) (default) (l:=y.m) (i:=k) (by omega))
 have oz5:=@lmd_v (Mdl.mk (x.m.getD k default).l) (Mdl.mk (y.m.getD k default).l) qm
 exact VT.run (W:=[r_,b_,.r [] [.row (sO oz2),.row (sO oz4),.callr (rO oz5)],d_,.r [] [.n ((↑k:Int)+1)]]) (G:=[.any (rg [(27,19)]),.weak 5 (i64 (↑(k+1):Int)),.sort]) (by kernel_rfl) (.c (show decide ((↑k:Int)<((K_ mdlC x.m).length:Int))=true by (simp;omega))<|.c oz1<|.c oz2<|.c oz1<|.c oz4<|.c oz5<|.c (show (!mdlEq (Mdl.mk (x.m.getD k default).l) (Mdl.mk (y.m.getD k default).l))=false by (simp at *;omega))<|.c (i6n ((↑k:Int)+1) (by (try dsimp only);omega))<|.c (R_ (k:=.i64) (show (((↑k:Int)+1):Int)=((↑(k+1):Int)) from (by (try dsimp only);omega)))<|.n)
theorem lbn_ly_e (x y:Bun) (sz:x.Sz) (hl:x.m.length=y.m.length) (h:∀ k,k<x.m.length→mdlEq (x.m.getD k default) (y.m.getD k default)=true):VT M_ (fnC Tryz.f13 [1,1,0,1,0,0]) (lbn_ly_I x y (x.m.length)) (.exit 0) (lbn_ly_Z x y):=by
 exact VT.run (W:=[r_,d_]) (G:=[.any (rg [(27,5)]),.sort]) (by kernel_rfl) (.c (show decide ((x.m.length:Int)<((K_ mdlC x.m).length:Int))=false by (simp;done))<|.n)
theorem lbn_ly (x y:Bun) (sz:x.Sz) (hl:x.m.length=y.m.length) (h:∀ k,k<x.m.length→mdlEq (x.m.getD k default) (y.m.getD k default)=true):VT M_ (fnC Tryz.f13 [1,1,0,1,0]) (lbn_ly_I x y 0) (.exit 0) (lbn_ly_Z x y) :=
 VT.loop (fun k=>lbn_ly_I x y k) (x.m.length) (fun k hk=>lbn_ly_s x y sz hl h k hk) (lbn_ly_e x y sz hl h) (by intro h;cases h)
noncomputable def lbn_ln_I (x y:Bun) (i:Nat) (k:Nat):VS:=stt 46 [(2,.ptr 2 0 0),(3,.ptr 3 0 0),(5,i64 k)] [(2,.var (bunC x)),(3,.var (bunC y))]
noncomputable def lbn_ln_Z (x y:Bun) (i:Nat):VS:=stt 46 [(4,bv false)] []
theorem lbn_ln_s (x y:Bun) (i:Nat) (sz:x.Sz) (hl:x.m.length=y.m.length) (hi:i<x.m.length) (hf:mdlEq (x.m.getD i default) (y.m.getD i default)=false) (h:∀ k,k<i→mdlEq (x.m.getD k default) (y.m.getD k default)=true) (k:Nat) (hk:k<i):VT M_ (fnC Tryz.f13 [1,1,0,1,0,0]) (lbn_ln_I x y i k) .normal (lbn_ln_I x y i (k+1)):=by
 have q:=h k hk
 have qz:=id sz
 have qm:=getD_in qz.b (show k<x.m.length by omega)
 have qb:=qz.l
 have oz1:=(show 0≤(↑k:Int) by omega)
 have oz2:=(map_at (mdlC) (default) (l:=x.m) (i:=k) (by omega))
 have oz4:=(map_at (mdlC) (default) (l:=y.m) (i:=k) (by omega))
 have oz5:=@lmd_v (Mdl.mk (x.m.getD k default).l) (Mdl.mk (y.m.getD k default).l) qm
 exact VT.run (W:=[r_,b_,.r [] [.row (sO oz2),.row (sO oz4),.callr (rO oz5)],d_,.r [] [.n ((↑k:Int)+1)]]) (G:=[.any (rg [(27,19)]),.weak 5 (i64 (↑(k+1):Int)),.sort]) (by kernel_rfl) (.c (show decide ((↑k:Int)<((K_ mdlC x.m).length:Int))=true by (simp;omega))<|.c oz1<|.c oz2<|.c oz1<|.c oz4<|.c oz5<|.c (show (!mdlEq (Mdl.mk (x.m.getD k default).l) (Mdl.mk (y.m.getD k default).l))=false by (simp at *;omega))<|.c (i6n ((↑k:Int)+1) (by (try dsimp only);omega))<|.c (R_ (k:=.i64) (show (((↑k:Int)+1):Int)=((↑(k+1):Int)) from (by (try dsimp only);omega)))<|.n)
theorem lbn_ln_e (x y:Bun) (i:Nat) (sz:x.Sz) (hl:x.m.length=y.m.length) (hi:i<x.m.length) (hf:mdlEq (x.m.getD i default) (y.m.getD i default)=false) (h:∀ k,k<i→mdlEq (x.m.getD k default) (y.m.getD k default)=true):VT M_ (fnC Tryz.f13 [1,1,0,1,0,0]) (lbn_ln_I x y i (i)) (.ret) (lbn_ln_Z x y i):=by
 have qz:=id sz
 have qm:=getD_in qz.b hi
 have qb:=qz.l
 have oz1:=(show 0≤(↑i:Int) by omega)
 have oz2:=(map_at (mdlC) (default) (l:=x.m) (i:=i) hi)
 have oz4:=(map_at (mdlC) (default) (l:=y.m) (i:=i) (by omega))
 have oz5:=@lmd_v (Mdl.mk (x.m.getD i default).l) (Mdl.mk (y.m.getD i default).l) qm
 exact VT.run (W:=[r_,b_,.r [] [.row (sO oz2),.row (sO oz4),.callr (rO oz5)],b_,r_]) (G:=[.any (rg [(2,2),(5,1),(27,5),(34,12)]),.drop [2,3],.sort]) (by kernel_rfl) (.c (show decide ((↑i:Int)<((K_ mdlC x.m).length:Int))=true by (simp;omega))<|.c oz1<|.c oz2<|.c oz1<|.c oz4<|.c oz5<|.c (show (!mdlEq (Mdl.mk (x.m.getD i default).l) (Mdl.mk (y.m.getD i default).l))=true by (simp at *;omega))<|.n)
theorem lbn_ln (x y:Bun) (i:Nat) (sz:x.Sz) (hl:x.m.length=y.m.length) (hi:i<x.m.length) (hf:mdlEq (x.m.getD i default) (y.m.getD i default)=false) (h:∀ k,k<i→mdlEq (x.m.getD k default) (y.m.getD k default)=true):VT M_ (fnC Tryz.f13 [1,1,0,1,0]) (lbn_ln_I x y i 0) (.ret) (lbn_ln_Z x y i) :=
 VT.loop (fun k=>lbn_ln_I x y i k) (i) (fun k hk=>lbn_ln_s x y i sz hl hi hf h k hk) (lbn_ln_e x y i sz hl hi hf h) (by intro h;cases h)
theorem lbn_d (x y:Bun) (sz:x.Sz) (hl:x.m.length≠y.m.length):VC M_ 13 ([bun x,bun y]) (bv false):=by
 have hz:zipAll mdlEq x.m y.m=false:=by unfold zipAll;rw[decide_eq_false hl,BK_]
 obtain ⟨qa,qb⟩:=id sz
 exact VC.run (fn:=Tryz.f13) (W:=[r_,.r [] [.v (BA_ !eqNums [(Q_,x.h,y.h),(Q_,x.x,y.x),(Q_,x.c,y.c)]),o_,o_,o_,o_,o_,.sel 1,o_,o_,o_,o_,o_,o_,o_,.sel 1],b_,r_]) Tryz.func13 (by kernel_rfl) (.c (show BinTo M_ BinOp.neq 23 (Operand.tmp 7) (Operand.tmp 9) (CS_ #[AR_ Q_ x.h,AR_ Q_ x.x,AR_ Q_ x.c]) (CS_ #[AR_ Q_ y.h,AR_ Q_ y.x,AR_ Q_ y.c]) (BA_ !eqNums [(Q_,x.h,y.h),(Q_,x.x,y.x),(Q_,x.c,y.c)]) from ((bin_nums (l:=[(Q_,x.h,y.h),(Q_,x.x,y.x),(Q_,x.c,y.c)]) (by kernel_rfl) (by kernel_rfl) (by kernel_rfl) (by kernel_rfl) _ _).2))<|.c (show (!eqNums [(Q_,x.h,y.h),(Q_,x.x,y.x),(Q_,x.c,y.c)] || x.cl != y.cl || ((K_ mdlC x.m).length:Int) != ((K_ mdlC y.m).length:Int))=true by (simp;omega))<|.n)
theorem lbn_y (x y:Bun) (sz:x.Sz) (hl:x.m.length=y.m.length) (h:∀ k,k<x.m.length→mdlEq (x.m.getD k default) (y.m.getD k default)=true) (hz:zipAll mdlEq x.m y.m=true):VC M_ 13 ([bun x,bun y]) (bv (bunEq x y)):=by
 obtain ⟨qa,qb⟩:=id sz
 have oz0:=(show BinTo M_ BinOp.neq 23 (Operand.tmp 7) (Operand.tmp 9) (CS_ #[AR_ Q_ x.h,AR_ Q_ x.x,AR_ Q_ x.c]) (CS_ #[AR_ Q_ y.h,AR_ Q_ y.x,AR_ Q_ y.c]) (BA_ !eqNums [(Q_,x.h,y.h),(Q_,x.x,y.x),(Q_,x.c,y.c)]) from ((bin_nums (l:=[(Q_,x.h,y.h),(Q_,x.x,y.x),(Q_,x.c,y.c)]) (by kernel_rfl) (by kernel_rfl) (by kernel_rfl) (by kernel_rfl) _ _).2))
 rcases bft (!eqNums [(Q_,x.h,y.h),(Q_,x.x,y.x),(Q_,x.c,y.c)] || x.cl != y.cl || ((K_ mdlC x.m).length:Int) != ((K_ mdlC y.m).length:Int)) with hc0|hc0
 ·have gc0:(¬(x.h=y.h∧x.x=y.x∧x.c=y.c)∨¬x.cl=y.cl)∨¬((K_ mdlC x.m).length:Int)=((K_ mdlC y.m).length:Int):=by simp only[AK_,T_,P_,S_,X_,W_,E_,F_,I_,J_,ne_eq,H_,G_,eqNums,AN_] at hc0;first|exact hc0|omega
  exact (VC.run (fn:=Tryz.f13) (W:=[r_,.r [] [.v (BA_ !eqNums [(Q_,x.h,y.h),(Q_,x.x,y.x),(Q_,x.c,y.c)]),o_,o_,o_,o_,o_,.sel 1,o_,o_,o_,o_,o_,o_,o_,.sel 1],b_,r_]) (r:=bv false) Tryz.func13 (by kernel_rfl) (.c oz0<|.c hc0<|.n)).weak (D_ _) (AZ_ (by (simp[bunEq,hz,eqNums] at *;intros;simp_all;done)))
 ·have gc0:((x.h=y.h∧x.x=y.x∧x.c=y.c)∧x.cl=y.cl)∧((K_ mdlC x.m).length:Int)=((K_ mdlC y.m).length:Int):=by simp only[AK_,T_,P_,S_,X_,W_,E_,F_,I_,J_,ne_eq,H_,G_,eqNums,AN_] at hc0;first|exact hc0|omega
  have oz3:=@lbn_ly (x) (y) sz hl h
  exact (VC.run (fn:=Tryz.f13) (W:=[r_,.r [] [.v (BA_ !eqNums [(Q_,x.h,y.h),(Q_,x.x,y.x),(Q_,x.c,y.c)]),o_,o_,o_,o_,o_,.sel 1,o_,o_,o_,o_,o_,o_,o_,.sel 1],d_,r_,.code [.any [0,1,4,6,7,8,9,10,11,17,18,26],.weak 5 (i64 (↑0:Int)),.sort] (AF_ 0) (zO oz3),r_]) (r:=bv true) Tryz.func13 (by kernel_rfl) (.c oz0<|.c hc0<|.c w0_<|.c oz3<|.n)).weak (D_ _) (AZ_ (by (rw[Bool.eq_iff_iff];simp[bunEq,hz,eqNums] at *;simp_all;done)))
theorem lbn_n (x y:Bun) (i:Nat) (sz:x.Sz) (hl:x.m.length=y.m.length) (hi:i<x.m.length) (hf:mdlEq (x.m.getD i default) (y.m.getD i default)=false) (h:∀ k,k<i→mdlEq (x.m.getD k default) (y.m.getD k default)=true):VC M_ 13 ([bun x,bun y]) (bv false):=by
 obtain ⟨qa,qb⟩:=id sz
 have oz0:=(show BinTo M_ BinOp.neq 23 (Operand.tmp 7) (Operand.tmp 9) (CS_ #[AR_ Q_ x.h,AR_ Q_ x.x,AR_ Q_ x.c]) (CS_ #[AR_ Q_ y.h,AR_ Q_ y.x,AR_ Q_ y.c]) (BA_ !eqNums [(Q_,x.h,y.h),(Q_,x.x,y.x),(Q_,x.c,y.c)]) from ((bin_nums (l:=[(Q_,x.h,y.h),(Q_,x.x,y.x),(Q_,x.c,y.c)]) (by kernel_rfl) (by kernel_rfl) (by kernel_rfl) (by kernel_rfl) _ _).2))
 rcases bft (!eqNums [(Q_,x.h,y.h),(Q_,x.x,y.x),(Q_,x.c,y.c)] || x.cl != y.cl || ((K_ mdlC x.m).length:Int) != ((K_ mdlC y.m).length:Int)) with hc0|hc0
 ·have gc0:(¬(x.h=y.h∧x.x=y.x∧x.c=y.c)∨¬x.cl=y.cl)∨¬((K_ mdlC x.m).length:Int)=((K_ mdlC y.m).length:Int):=by simp only[AK_,T_,P_,S_,X_,W_,E_,F_,I_,J_,ne_eq,H_,G_,eqNums,AN_] at hc0;first|exact hc0|omega
  exact VC.run (fn:=Tryz.f13) (W:=[r_,.r [] [.v (BA_ !eqNums [(Q_,x.h,y.h),(Q_,x.x,y.x),(Q_,x.c,y.c)]),o_,o_,o_,o_,o_,.sel 1,o_,o_,o_,o_,o_,o_,o_,.sel 1],b_,r_]) Tryz.func13 (by kernel_rfl) (.c oz0<|.c hc0<|.n)
 ·have gc0:((x.h=y.h∧x.x=y.x∧x.c=y.c)∧x.cl=y.cl)∧((K_ mdlC x.m).length:Int)=((K_ mdlC y.m).length:Int):=by simp only[AK_,T_,P_,S_,X_,W_,E_,F_,I_,J_,ne_eq,H_,G_,eqNums,AN_] at hc0;first|exact hc0|omega
  have oz3:=@lbn_ln (x) (y) (i) sz hl hi hf h
  exact VC.run (fn:=Tryz.f13) (W:=[r_,.r [] [.v (BA_ !eqNums [(Q_,x.h,y.h),(Q_,x.x,y.x),(Q_,x.c,y.c)]),o_,o_,o_,o_,o_,.sel 1,o_,o_,o_,o_,o_,o_,o_,.sel 1],d_,r_,.code [.any [0,1,4,6,7,8,9,10,11,17,18,26],.weak 5 (i64 (↑0:Int)),.sort] (Exit.ret) (zO oz3)]) Tryz.func13 (by kernel_rfl) (.c oz0<|.c hc0<|.c w0_<|.c oz3<|.n)
theorem lbn_v (x y:Bun) (sz:x.Sz):VC M_ 13 [bun x,bun y] (bv (bunEq x y)):=by
 rcases zip_cases mdlEq x.m y.m with ⟨h,e⟩|⟨h,q,e⟩|⟨h,i,hi,hf,q,e⟩
 ·rw[show bunEq x y=false by simp[bunEq,e]];exact lbn_d x y sz h
 ·exact lbn_y x y sz h q e
 ·rw[show bunEq x y=false by simp[bunEq,e]];exact lbn_n x y i sz h hi hf q
theorem accM_rng (l:List Blc) {B:List Int} (h:ByR B) (k:Nat):ByR (accM l B k):=by
 induction k with
 | zero=>exact h
 | succ k ih=>exact ih.app (blockR_rng _)
theorem modelR_rng (m:Mdl):ByR (modelR m).1:=by
 unfold modelR
 split
 ·exact ByR.nil
 ·split
  ·exact ByR.nil
  ·exact accM_rng _ (ByR.put _) _
theorem hdK_rng (q:List Int) (k:Nat):ByR (hdK putN q k):=by
 induction k with
 | zero=>intro x hx;simp only[hdK,List.mem_cons,List.not_mem_nil,or_false] at hx;omega
 | succ k ih=>exact ih.app (ByR.put _)
theorem accU_rng (l:List Mdl) {B:List Int} (h:ByR B) (k:Nat):ByR (accU l B k):=by
 induction k with
 | zero=>exact h
 | succ k ih=>exact ih.app (modelR_rng _)
def bodyL (u:Bun):List Int:=accU u.m (hdF putN u.h u.x u.c u.cl ((u.m.map mdlC).length:Int)) u.m.length
theorem bodyL_rng (u:Bun):ByR (bodyL u):=accU_rng _ (hdK_rng _ _) _
def encR (u:Bun):List Int×Int:=if (bunE u).w≠0 then ([],(bunE u).w) else if 1048572<(bodyL u).length then ([],25) else (sealL (bodyL u),0)
theorem lay_k {u:Bun} (h:(bunE u).w=0):∀ k,k<u.m.length→(modelR (u.m.getD k default)).2=0:=fun k hk=>getD_in (bun_lay h) hk
theorem encR_x {u:Bun} (h:¬ (bunE u).w=0):encR u=([],(bunE u).w):=i_ h
theorem encR_l {u:Bun} (h:(bunE u).w=0) (g:1048572<(bodyL u).length):encR u=([],25):=by unfold encR;rw[j_ (by simpa using h),i_ g]
theorem encR_y {u:Bun} (h:(bunE u).w=0) (g:(bodyL u).length≤1048572):encR u=(sealL (bodyL u),0):=by unfold encR;rw[j_ (by simpa using h),j_ (by omega)]
theorem penc_v (u:Bun) (ok:u.Ok) (sm:u.Sm) (fw:∀ m∈u.m,m.Pk) (hl:u.m.length≤4):VC M_ 22 [bun u] (.tup [ints .u8 (encR u).1,i64 (encR u).2]):=by
 by_cases h:(bunE u).w=0
 ·by_cases g:1048572<(bodyL u).length
  ·rw[encR_l h g];exact penc_l u putN (hdF putN) ok sm puts (hds putN) h fw hl (lay_k h) g
  ·rw[encR_y h (by omega)];exact penc_y u putN (hdF putN) sealL ok sm puts (hds putN) seals h fw hl (lay_k h) (show (bodyL u).length≤_ by omega) (bodyL_rng u)
 ·rw[encR_x h];exact penc_x u ok sm h
theorem modelR_few {m:Mdl} (h:m.Fw):(modelR m).1.length≤1000000:=by
 have a:=accM_le h (putN (m.l.length:Int)) (AX_ _)
 have b:=putN_len (m.l.length:Int)
 have c:=h.l
 unfold modelR
 split
 ·exact CG_ _
 ·split
  ·exact CG_ _
  ·dsimp only;omega
theorem known35:VC M_ 17 [] (bv true) :=
 known35_v (sealL [1]) (sealL_len [1]) (seal_f p32L [1] p4 (by simp) (by simp)) (dec_o [] 20 (by decide) (open_s [] (by decide)))
structure Bun.Fw (u:Bun):Prop where
 sm:u.Sm
 l:u.m.length≤4
 m:∀ m∈u.m,m.Fw
theorem Bun.fw {u:Bun} (ok:u.Ok) (h:bunS u=true):u.Fw:=by
 have sm:=Bun.sm h
 unfold bunS at h
 simp only[P_,E_,CE_] at h
 refine ⟨sm,h.1,fun m hm=>?_⟩
 have q:=h.2 m hm
 unfold mdlS at q
 simp only[P_,E_,CE_] at q
 exact ⟨fun x hx=>Blc.fw ((ok.m m hm).l x hx) (q.2 x hx),q.1⟩
theorem Bun.Fw.pk {u:Bun} (h:u.Fw):∀ m∈u.m,m.Pk:=fun m hm=>(h.m m hm).pk (modelR_few (h.m m hm))
theorem Blc.Sm.sz {x:Blc} (h:x.Sm):x.Sz:=⟨by have:=h.l;omega,h.s,h.w,h.b⟩
theorem Bun.Sm.sz {u:Bun} (h:u.Sm) (hl:u.m.length≤1000):u.Sz:=⟨hl,fun m hm=>⟨by have:=(h.m m hm).1;omega,fun x hx=>((h.m m hm).2 x hx).sz⟩⟩
abbrev bun0:Bun:=⟨0,0,0,0,[]⟩
def openE (l:List Int):Int:=if 1048576<l.length then 25 else if l.length<8 then 20 else if l.take 4≠[83,84,87,49] then 22 else if sealL (l.take (l.length-4))≠l then 23 else 0
theorem zw {P:Program} {f:Nat} {a:List AV} {e:Int} (h:VC P f a (.tup [.agg [i64 0,i64 0,i64 0,i64 0,nilv],i64 e])):VC P f a (.tup [bun bun0,i64 e]) :=
 h.weak (D_ _) (AB_ (.cons (AG_ (.cons (.refl _) (.cons (.refl _) (.cons (.refl _) (.cons (.refl _) (.cons (BQ_ _) .nil)))))) (.cons (.refl _) .nil)))
theorem seal_drop {l:List Int} (h:4≤l.length):sealL (l.take (l.length-4))=l↔p32L (crcL (l.take (l.length-4)))=l.drop (l.length-4):=by
 unfold sealL
 constructor
 ·intro e
  have q:l.take (l.length-4)++p32L (crcL (l.take (l.length-4)))=l.take (l.length-4)++l.drop (l.length-4):=by rw[e,List.take_append_drop]
  exact List.append_cancel_left q
 ·intro e;rw[e,List.take_append_drop]
theorem p32L_rng {n:Int} (h:0≤n∧n≤4294967295):ByR (p32L n):=fun x hx=>by
 simp only[p32L,List.mem_cons,List.not_mem_nil,or_false] at hx
 rcases hx with rfl|rfl|rfl|rfl
 ·rw[IntKind.wrap_u8];omega
 ·rw[IntKind.wrap_u8];omega
 ·rw[IntKind.wrap_u8];omega
 ·omega
theorem sealL_rng {l:List Int} (h:∀ x∈l,0≤x∧x≤255):ByR (sealL l):=ByR.app h (p32L_rng (crcL_bd l))
theorem bun_sz {u:Bun} (h:u.Sm):u.Sz:=h.sz (by have:=h.l;omega)
theorem bun0_sz:bun0.Sz:=bun_sz bun0_sm
theorem catO (ls:List (List Int)) (hl:ls.length≤1000) (hs:szK ls ls.length≤20000000) (h0:0<szK ls ls.length):VM M_ 91 ([.sl 1 (ls.map catR)]) ([]) (.own 951) ([(951,.slc 5 1 ((catK ls ls.length).map (row1 .u8)))]):=by
 have q3:=catK_len ls ls.length
 have oz1:=(R_ (k:=.i64) (show ((((K_ catR ls).length:Int)):Int)=((ls.length:Int)) from (by (simp;done))))
 have oz2:=w0_
 have oz3:=@cat_l1 (ls) hl hs
 have oz4:=@grow_v (szK ls ls.length) h0 hs
 have oz7:=@cat_l2 (ls) hl hs
 exact VM.run (fn:=Tryz.f91) (W:=[r_,r_,r_,.code [.any [2],.weak 3 (i64 (↑(szK ls 0):Int)),.weak 10 (wO oz1),.weak 11 (wO oz2),.sort] (AF_ 0) (zO oz3),.r [] [.callm [] [(951,20000)] (rM oz4) (oM oz4)],r_,.code [.any [0,3,9,10,11,23,24],.ren 20000 900,.weak 26 (wO oz1),.weak 27 (wO oz2),.sort] (AF_ 2) (zO oz7),r_]) (G:=[.ren 900 951,.sort]) Tryz.func91 (by kernel_rfl) (.c (R_ (k:=.i64) (show ((0):Int)=((↑(szK ls 0):Int)) from (by rfl)))<|.c oz1<|.c oz2<|.c oz3<|.c oz4<|.c oz1<|.c oz2<|.c oz7<|.n)
theorem catO2 (a b:List Int) (h:a.length+b.length≤20000000) (h0:0<b.length):VM M_ 91 [.sl 1 [[.sl 1 (a.map (row1 .u8))],[.sl 1 (b.map (row1 .u8))]]] [] (.own 951) [(951,.slc 5 1 ((a++b).map (row1 .u8)))] :=
 catO [a,b] (by simp) (by simp[szK];omega) (by simp[szK];omega)
theorem joinedO (a b:List Int) (h:a.length+b.length≤20000000) (h0:0<b.length):VM M_ 52 ([.sl 1 [[.sl 1 (a.map (row1 .u8))],[.sl 1 (b.map (row1 .u8))]]]) ([]) (.own 951) ([(951,.slc 5 1 ((a++b).map (row1 .u8)))]):=by
 have oz0:=@catO2 (a) (b) h h0
 exact VM.run (fn:=Tryz.f52) (W:=[r_,.r [] [.callm [] [(951,20000)] (rM oz0) (oM oz0)]]) (G:=[.ren 20000 951,.sort]) Tryz.func52 (by kernel_rfl) (.c oz0<|.n)
theorem sealO (F:Int→List Int) (l:List Int) (hF:P4 F) (hx:∀ x∈l,0≤x∧x≤255) (hl:l.length≤10000000):VM M_ 26 ([ints .u8 l]) ([]) (.own 951) ([(951,.slc 5 1 ((l++F (crcL l)).map (row1 .u8)))]):=by
 have q:=crcL_bd l
 have q4:=hF.l (crcL l)
 have oz0:=@crc_v (l) hx (by omega)
 have oz1:=@p4_v (F) hF (crcL l) (by omega) (by omega)
 have oz2:=@joinedO (l) (F (crcL l)) (by omega) (by omega)
 exact VM.run (fn:=Tryz.f26) (W:=[r_,.r [] [.callr (rO oz0),.callr (rO oz1),.frz 0,.callm [] [(951,20000)] (rM oz2) (oM oz2)]]) (G:=[.ren 20000 951,.sort]) Tryz.func26 (by kernel_rfl) (.c oz0<|.c oz1<|.c oz2<|.n)
theorem pencO (u:Bun) (L:Int→List Int) (H:Int→Int→Int→Int→Int→List Int) (X:List Int) (ok:u.Ok) (sm:u.Sm) (hL:Puts L) (hH:Hds L H) (h:(bunE u).w=0) (fw:∀ m∈u.m,m.Pk) (hl:u.m.length≤4) (hm:∀ k,k<u.m.length→(modelR (u.m.getD k default)).2=0) (hlen:(accU u.m (H u.h u.x u.c u.cl ((u.m.map mdlC).length:Int)) u.m.length).length≤1048572) (hS:VM M_ 26 [ints .u8 (accU u.m (H u.h u.x u.c u.cl ((u.m.map mdlC).length:Int)) u.m.length)] [] (.own 951) [(951,.slc 5 1 (X.map (row1 .u8)))]):VM M_ 22 ([bun u]) ([]) (.tup [.own 951,i64 0]) ([(951,.slc 5 1 (X.map (row1 .u8)))]):=by
 have q1:(H u.h u.x u.c u.cl ((u.m.map mdlC).length:Int)).length≤100:=by have:=hH.len hL.l u.h u.x u.c u.cl ((u.m.map mdlC).length:Int);omega
 have q2:=accU_len fw (H u.h u.x u.c u.cl ((u.m.map mdlC).length:Int)) (AX_ _)
 have z:=cap_f hlen
 have oz0:=@vbundle_v (u) ok sm
 have oz3:=w0_
 have oz4:=@penc_h5 (u) (L) (H) (u.h) (u.x) (u.c) (u.cl) (((K_ mdlC u.m).length:Int)) hL hH
 have oz8:=@penc_m (u) (H u.h u.x u.c u.cl ((K_ mdlC u.m).length:Int)) fw hl q1 hm
 have oz10:=@hS
 exact VM.run (fn:=Tryz.f22) (W:=[r_,.r [] [.callr (rO oz0)],r_,d_,r_,r_,.code [.frz 35,.any (rg [(0,1),(2,3),(12,5),(19,16)]),.drop [4],.weak 36 (i64 (↑5:Int)),.weak 37 (wO oz3),.sort] (AF_ 0) (zO oz4),r_,.code [.any [35,36,37,48],.weak 5 (AV.sl 1 (K_ (row1 .u8) (accU u.m (H u.h u.x u.c u.cl ((K_ mdlC u.m).length:Int)) 0))),.weak 50 (i64 (u.m.length:Int)),.weak 51 (wO oz3),.sort] (AF_ 2) (zO oz8),.r [] [.w],d_,.r [] [.callm [] [(951,20000)] (rM oz10) (oM oz10)]]) (G:=[.drop [1],.ren 20000 951,.sort]) Tryz.func22 (by kernel_rfl) (.c oz0<|.c (show ((bunE u).w != 0)=false by (simp;omega))<|.c (R_ (k:=.i64) (show (((↑5:Int)):Int)=((↑5:Int)) from (by (simp;done))))<|.c oz3<|.c oz4<|.c (show Weak (AV.sl 1 (K_ (row1 .u8) (H u.h u.x u.c u.cl ((K_ mdlC u.m).length:Int)))) (AV.sl 1 (K_ (row1 .u8) (accU u.m (H u.h u.x u.c u.cl ((K_ mdlC u.m).length:Int)) 0))) from (BE_ (rows_to (row1 .u8) (r:=K_ (row1 .u8) (H u.h u.x u.c u.cl ((K_ mdlC u.m).length:Int))) (l:=H u.h u.x u.c u.cl ((K_ mdlC u.m).length:Int)) (m:=accU u.m (H u.h u.x u.c u.cl ((K_ mdlC u.m).length:Int)) 0) rfl (show (H u.h u.x u.c u.cl ((K_ mdlC u.m).length:Int))=(accU u.m (H u.h u.x u.c u.cl ((K_ mdlC u.m).length:Int)) 0) from (by rfl)))))<|.c (R_ (k:=.i64) (show ((((K_ mdlC u.m).length:Int)):Int)=((u.m.length:Int)) from (by (simp;done))))<|.c oz3<|.c oz8<|.c z<|.c oz10<|.n)
theorem bundleTells_n (u:Bun) (at' by':Int) (h:bunS u=false∨by'=0) (hk:VC M_ 17 [] (bv true)):VC M_ 7 ([bun u,.lit (.int .u16 at'),u8 by']) (bv true):=by
 have q:(!bunS u || by'==0)=true:=by
  rcases h with h|h
  ·rw[h];rfl
  ·rw[h];simp
 have oz0:=@few31_v (u)
 have oz2:=@hk
 exact VC.run (fn:=Tryz.f7) (W:=[r_,.r [] [.callr (rO oz0),o_,o_,.sel 1],b_,.r [] [.callr (rO oz2)]]) Tryz.func7 (by kernel_rfl) (.c oz0<|.c q<|.c oz2<|.n)
theorem bundleTells_x (u:Bun) (at' by' e:Int) (hu:bunS u=true) (hb:by'≠0) (he:e≠0) (h1:VC M_ 22 [bun u] (.tup [ints .u8 [],i64 e])) (hk:VC M_ 17 [] (bv true)):VC M_ 7 ([bun u,.lit (.int .u16 at'),u8 by']) (bv true):=by
 have q:(!bunS u || by'==0)=false:=by rw[hu];simpa using hb
 have q2:(e != 0)=true:=by simpa using he
 have oz0:=@few31_v (u)
 have oz2:=@h1
 have oz3:=(show (e != 0) = !false by (simp;omega))
 have oz7:=(show true=true by with_reducible rfl)
 have oz9:=@hk
 exact VC.run (fn:=Tryz.f7) (W:=[r_,.r [] [.callr (rO oz0),o_,o_,.sel 1],d_,.r [] [.callr (rO oz2)],.r [] [f_,f_,f_,e_],b_,.r [] [e_,.callr (rO oz9),e_]]) Tryz.func7 (by kernel_rfl) (.c oz0<|.c q<|.c oz2<|.c oz3<|.c oz3<|.c oz3<|.c q2<|.c oz7<|.c oz7<|.c oz9<|.c oz7<|.n)
theorem sum_tells' (a b:List Int) (c d:Int) (hc:0≤c∧c≤255) (hd:0≤d∧d≤255) (h:c≠d):sumOf (a++c::b)≠sumOf (a++d::b):=by
 intro he
 unfold sumOf at he
 exact tells (BitVec.allOnes 32) a b c d hc hd h (by have:=congrArg (fun x => ~~~ x) he;simpa using this)
theorem set_tells' (l:List Int) (i:Nat) (hi:i<l.length) (d:Int) (hc:∀ x∈l,0≤x∧x≤255) (hd:0≤d∧d≤255) (h:d≠l[i]):crcL (l.set i d)≠crcL l:=by
 intro he
 unfold crcL at he
 have e1:l.set i d=l.take i++d::l.drop (i+1):=List.set_eq_take_append_cons_drop▸by rw[i_ hi]
 have e2:l=l.take i++l[i]::l.drop (i+1):=by rw[List.getElem_cons_drop,List.take_append_drop]
 have e3:sumOf (l.set i d)=sumOf l:=by
  have:=congrArg (BitVec.ofInt 32) he
  rwa [uv_ofInt,uv_ofInt] at this
 rw[e1] at e3
 conv at e3=>rhs;rw[e2]
 exact sum_tells' _ _ _ _ hd (hc _ (CO_ hi)) h e3
theorem p32L_inj {n m:Int} (hn:0≤n∧n≤4294967295) (hm:0≤m∧m≤4294967295) (h:p32L n=p32L m):n=m:=by
 simp only[p32L,List.cons.injEq,and_true,IntKind.wrap_u8] at h
 omega
theorem xor_ne {x b:Int} (hx:0≤x∧x≤255) (hb:0≤b∧b≤255) (h:b≠0):IntKind.u8.wrap (((BitVec.ofInt IntKind.u8.bits x ^^^ BitVec.ofInt IntKind.u8.bits b).toNat:Nat):Int)≠x:=by
 show IntKind.u8.wrap (((BitVec.ofInt 8 x ^^^ BitVec.ofInt 8 b).toNat:Nat):Int)≠x
 rw[IntKind.wrap_u8]
 intro e
 have lt:=(BitVec.ofInt 8 x ^^^ BitVec.ofInt 8 b).isLt
 have tx:(BitVec.ofInt 8 x).toNat=x.toNat:=by rw[BitVec.toNat_ofInt];omega
 have tb:(BitVec.ofInt 8 b).toNat=b.toNat:=by rw[BitVec.toNat_ofInt];omega
 have e4:BitVec.ofInt 8 x ^^^ BitVec.ofInt 8 b=BitVec.ofInt 8 x:=BitVec.eq_of_toNat_eq (by omega)
 have e5:BitVec.ofInt 8 b=0#8:=by
  have:=congrArg (fun y=>BitVec.ofInt 8 x ^^^ y) e4
  simpa [←BitVec.xor_assoc] using this
 rw[e5] at tb
 have:(0#8).toNat=0:=rfl
 omega
theorem pdec_o (l:List Int) (hx:∀ x∈l,0≤x∧x≤255) (hl:l.length≤20000000) (h:openE l≠0):VC M_ 18 [ints .u8 l] (.tup [bun bun0,i64 (openE l)]):=by
 by_cases hb:1048576<l.length
 ·have e:openE l=25:=by unfold openE;rw[i_ hb]
  rw[e];exact zw (dec_o l 25 (by decide) (open_l l hb hl))
 by_cases h8:l.length<8
 ·have e:openE l=20:=by unfold openE;rw[j_ hb,i_ h8]
  rw[e];exact zw (dec_o l 20 (by decide) (open_s l h8))
 by_cases hm:l.take 4=[83,84,87,49]
 ·by_cases hs:sealL (l.take (l.length-4))=l
  ·have e:openE l=0:=by unfold openE;rw[j_ hb,j_ h8,j_ (by simpa using hm),j_ (by simpa using hs)]
   exact absurd e h
  ·have e:openE l=23:=by unfold openE;rw[j_ hb,j_ h8,j_ (by simpa using hm),i_ hs]
   rw[e];exact zw (dec_o l 23 (by decide) (open_u sealL l seals hx (by omega) (by omega) hm hs))
 ·have e:openE l=22:=by unfold openE;rw[j_ hb,j_ h8,i_ hm]
  rw[e];exact zw (dec_o l 22 (by decide) (open_m l hx (by omega) (by omega) hm))
theorem one_byte {B:List Int} (hx:∀ x∈B,0≤x∧x≤255) (h4:4≤B.length) (hl:B.length≤1048572) {i:Nat} (hi:i<(sealL B).length) {y:Int} (hy:0≤y∧y≤255) (hne:y≠(sealL B).getD i 0):openE ((sealL B).set i y)=22∨openE ((sealL B).set i y)=23:=by
 have ln:((sealL B).set i y).length=B.length+4:=by rw[BF_,sealL_len]
 unfold openE
 rw[j_ (by omega),j_ (by omega)]
 by_cases hm:((sealL B).set i y).take 4=[83,84,87,49]
 ·rw[j_ (by simpa using hm)]
  rw[i_]
  ·exact .inr rfl
  ·intro e
   rw[seal_drop (by omega),ln,show B.length+4-4=B.length by omega] at e
   rw[sealL_len] at hi
   by_cases hb:i<B.length
   ·have es:(sealL B).set i y=B.set i y++p32L (crcL B):=by unfold sealL;rw[List.set_append_left _ _ hb]
    rw[es,List.take_left' (by rw[BF_]),List.drop_left' (by rw[BF_])] at e
    have:=p32L_inj (crcL_bd _) (crcL_bd _) e
    refine set_tells' B i hb y hx hy ?_ this
    have:(sealL B).getD i 0=B[i]:=by unfold sealL;rw[AT_,CL_ hb,B_ hb];rfl
    rw[←this];exact hne
   ·have es:(sealL B).set i y=B++(p32L (crcL B)).set (i-B.length) y:=by unfold sealL;rw[List.set_append_right _ _ (by omega)]
    rw[es,List.take_left' rfl,List.drop_left' rfl] at e
    apply hne
    have hj:i-B.length<(p32L (crcL B)).length:=by show _<4;omega
    have g1:(sealL B).getD i 0=(p32L (crcL B)).getD (i-B.length) 0:=by unfold sealL;rw[AT_,CU_ (by omega),AT_]
    rw[g1,e,AT_,List.getElem?_set_self hj];rfl
 ·rw[i_ hm];exact .inl rfl
theorem bundleTells_y (u:Bun) (at' by' f:Int) (X:List Int) (hu:bunS u=true) (hb:by'≠0) (ha:0≤at'∧at'≤65535) (hX:8≤X.length∧X.length≤1048576) (hf:f=22∨f=23) (h1:VM M_ 22 [bun u] [] (.tup [.own 951,i64 0]) [(951,.slc 5 1 (X.map (row1 .u8)))]) (h2:VC M_ 18 [ints .u8 (X.set (at' % ((X.map (row1 .u8)).length:Int)).toNat (IntKind.u8.wrap (((BitVec.ofInt IntKind.u8.bits (X.getD (at' % ((X.map (row1 .u8)).length:Int)).toNat 0) ^^^ BitVec.ofInt IntKind.u8.bits by').toNat:Nat):Int)))] (.tup [bun bun0,i64 f])) (hk:VC M_ 17 [] (bv true)):VC M_ 7 ([bun u,.lit (.int .u16 at'),u8 by']) (bv true):=by
 have q:(!bunS u || by'==0)=false:=by rw[hu];simpa using hb
 have q3:(X.map (row1 .u8)).length=X.length:=O_ _
 have i1:0≤at' % ((X.map (row1 .u8)).length:Int):=Int.emod_nonneg _ (by omega)
 have i2:at' % ((X.map (row1 .u8)).length:Int)<((X.map (row1 .u8)).length:Int):=Int.emod_lt_of_pos _ (by omega)
 have z0:(Bun.mk 0 0 0 0 []).Sz:=bun0_sz
 have z1:(f==22 || f==23 || false || false)=true:=by rcases hf with rfl|rfl<;>rfl
 have oz0:=@few31_v (u)
 have oz2:=@h1
 have oz3:=(show false=false by with_reducible rfl)
 have oz13:=(map_at (row1 .u8) (0) (l:=X) (i:=(at' % ((K_ (row1 .u8) X).length:Int)).toNat) (by omega))
 have oz18:=@h2
 have oz20:=@lbn_v (Bun.mk bun0.h bun0.x bun0.c bun0.cl []) (Bun.mk 0 0 0 0 []) z0
 have oz21:=@hk
 exact (VC.run (fn:=Tryz.f7) (W:=[r_,.r [] [.callr (rO oz0),o_,o_,.sel 1],d_,.r [] [.callm [] [(951,20000)] (rM oz2) (oM oz2)],.r [] [e_,e_,e_,f_],d_,.r [] [.n at',.n (at' % ((K_ (row1 .u8) X).length:Int)),.row (sO oz13),.nat 0],.r [.frz 20000] [.call (aO oz18) (rO oz18)],.r [] [o_,o_,.sel 1,o_,o_,o_,.call (aO oz20) (rO oz20),.sel 1,o_,.callr (rO oz21),.sel 1]]) (r:=bv (f==22 || f==23 || false || false)) Tryz.func7 (by kernel_rfl) (.c oz0<|.c q<|.c oz2<|.c oz3<|.c oz3<|.c oz3<|.c oz3<|.c (show (((K_ (row1 .u8) X).length:Int)==0)=false by (refine decide_eq_false ?_;omega))<|.c (i6n at' (by (try dsimp only)<;>omega))<|.c (show ((K_ (row1 .u8) X).length:Int)≠0 by omega)<|.c (show at'.tmod ((K_ (row1 .u8) X).length:Int)=at' % ((K_ (row1 .u8) X).length:Int) from (Int.tmod_eq_emod_of_nonneg (by (try dsimp only)<;>omega)))<|.c i1<|.c i2<|.c oz13<|.c i1<|.c i2<|.c (show (at' % ((K_ (row1 .u8) X).length:Int)).toNat<(K_ (row1 .u8) X).length by omega)<|.c (show WeakL [AV.sl 1 ((K_ (row1 .u8) X).set (at' % ((K_ (row1 .u8) X).length:Int)).toNat [u8 (IntKind.u8.wrap (↑(BitVec.ofInt IntKind.u8.bits (X.getD (at' % ((K_ (row1 .u8) X).length:Int)).toNat 0) ^^^ BitVec.ofInt IntKind.u8.bits by').toNat:Int))])] [AV.sl 1 (K_ (row1 .u8) (X.set (at' % ((K_ (row1 .u8) X).length:Int)).toNat (IntKind.u8.wrap (↑(BitVec.ofInt IntKind.u8.bits (X.getD (at' % ((K_ (row1 .u8) X).length:Int)).toNat 0) ^^^ BitVec.ofInt IntKind.u8.bits by').toNat:Int))))] from (.cons (BE_ (rows_to (row1 .u8) (r:=(K_ (row1 .u8) X).set (at' % ((K_ (row1 .u8) X).length:Int)).toNat [u8 (IntKind.u8.wrap (↑(BitVec.ofInt IntKind.u8.bits (X.getD (at' % ((K_ (row1 .u8) X).length:Int)).toNat 0) ^^^ BitVec.ofInt IntKind.u8.bits by').toNat:Int))]) (l:=X.set (at' % ((K_ (row1 .u8) X).length:Int)).toNat (IntKind.u8.wrap (↑(BitVec.ofInt IntKind.u8.bits (X.getD (at' % ((K_ (row1 .u8) X).length:Int)).toNat 0) ^^^ BitVec.ofInt IntKind.u8.bits by').toNat:Int))) (m:=X.set (at' % ((K_ (row1 .u8) X).length:Int)).toNat (IntKind.u8.wrap (↑(BitVec.ofInt IntKind.u8.bits (X.getD (at' % ((K_ (row1 .u8) X).length:Int)).toNat 0) ^^^ BitVec.ofInt IntKind.u8.bits by').toNat:Int))) (by first|(simp only[Y_,C_,AO_,AP_,U_,AL_,AM_];done)|rfl|(simp only[Y_,C_,AO_,AP_,U_,AL_,AM_];rfl)) rfl)) .nil))<|.c oz18<|.c (show WeakL [AV.agg [i64 bun0.h,i64 bun0.x,i64 bun0.c,i64 bun0.cl,AV.sl 1 []],AV.agg [i64 0,i64 0,i64 0,i64 0,AV.lit (AY_ none 0 0)]] [AV.agg [i64 (Bun.mk bun0.h bun0.x bun0.c bun0.cl []).h,i64 (Bun.mk bun0.h bun0.x bun0.c bun0.cl []).x,i64 (Bun.mk bun0.h bun0.x bun0.c bun0.cl []).c,i64 (Bun.mk bun0.h bun0.x bun0.c bun0.cl []).cl,AV.sl 1 []],AV.agg [i64 (Bun.mk 0 0 0 0 []).h,i64 (Bun.mk 0 0 0 0 []).x,i64 (Bun.mk 0 0 0 0 []).c,i64 (Bun.mk 0 0 0 0 []).cl,AV.sl 1 []]] from (.cons (.refl _) (.cons (AG_ (.cons (.refl _) (.cons (.refl _) (.cons (.refl _) (.cons (.refl _) (.cons (BQ_ _) .nil)))))) .nil)))<|.c oz20<|.c oz21<|.n)).weak (D_ _) (AZ_ (z1))
theorem bodyL_4 (u:Bun):4≤(bodyL u).length:=by
 have a:∀ (l:List Mdl) (B:List Int) (k:Nat),B.length≤(accU l B k).length:=fun l B k=>by
  induction k with
  | zero=>exact AX_ _
  | succ k ih=>rw[accU,N_];omega
 have b:4≤(hdF putN u.h u.x u.c u.cl ((u.m.map mdlC).length:Int)).length:=by
  show 4≤(hdK putN _ 5).length
  simp only[hdK,N_,AJ_];omega
 exact A_ b (a _ _ _)
theorem bundleTells_v (u:Bun) (at' by':Int) (ok:u.Ok) (ha:0≤at'∧at'≤65535) (hb:0≤by'∧by'≤255):VC M_ 7 [bun u,.lit (.int .u16 at'),u8 by'] (bv true):=by
 by_cases h:bunS u=false∨by'=0
 ·exact bundleTells_n u at' by' h known35
 ·have hu:bunS u=true:=by cases q:bunS u;exact absurd (.inl q) h;rfl
  have hne:by'≠0:=fun q=>h (.inr q)
  have fu:=Bun.fw ok hu
  by_cases hw:(bunE u).w=0
  ·by_cases g:(bodyL u).length≤1048572
   ·have lX:(sealL (bodyL u)).length=(bodyL u).length+4:=sealL_len _
    have l4:=bodyL_4 u
    have q3:((sealL (bodyL u)).map (row1 .u8)).length=(sealL (bodyL u)).length:=O_ _
    have rb:=bodyL_rng u
    have rX:ByR (sealL (bodyL u)):=sealL_rng rb
    have hi:(at' % (((sealL (bodyL u)).map (row1 .u8)).length:Int)).toNat<(sealL (bodyL u)).length:=by
     have:=Int.emod_lt_of_pos at' (show (0:Int)<(((sealL (bodyL u)).map (row1 .u8)).length:Int) by omega)
     have:=Int.emod_nonneg at' (show (((sealL (bodyL u)).map (row1 .u8)).length:Int)≠0 by omega)
     omega
    have gx:0≤(sealL (bodyL u)).getD (at' % (((sealL (bodyL u)).map (row1 .u8)).length:Int)).toNat 0∧(sealL (bodyL u)).getD (at' % (((sealL (bodyL u)).map (row1 .u8)).length:Int)).toNat 0≤255:=by
     rw[AT_,B_ hi];exact rX _ (CO_ hi)
    have ny:=xor_ne gx hb hne
    have ry:∀ z:Int,0≤IntKind.u8.wrap z∧IntKind.u8.wrap z≤255:=fun z=>by rw[IntKind.wrap_u8];omega
    have ho:=one_byte rb l4 g hi (ry _) ny
    have h1:=pencO u putN (hdF putN) (sealL (bodyL u)) ok fu.sm puts (hds putN) hw fu.pk fu.l (lay_k hw) (show (bodyL u).length≤_ by omega) (sealO p32L (bodyL u) p4 rb (by omega))
    refine bundleTells_y u at' by' _ (sealL (bodyL u)) hu hne ha (by omega) ho h1 (pdec_o _ (fun x hx=>?_) (by rw[BF_];omega) (by omega)) known35
    rcases List.mem_or_eq_of_mem_set hx with q|q
    ·exact rX x q
    ·rw[q];exact ry _
   ·refine bundleTells_x u at' by' 25 hu hne (by decide) ?_ known35
    have:=penc_v u ok fu.sm fu.pk fu.l
    rwa [encR_l hw (by omega)] at this
  ·refine bundleTells_x u at' by' _ hu hne hw ?_ known35
   have:=penc_v u ok fu.sm fu.pk fu.l
   rwa [encR_x hw] at this
end Go.Proofs.YtgimdjfbnbkpgaaGreat
