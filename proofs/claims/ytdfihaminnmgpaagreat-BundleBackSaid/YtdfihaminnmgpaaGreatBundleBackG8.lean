/- A part of this claim. No condition. -/
import Derived.Test.YtdfihaminnmgpaaGreatBundleBackG7
set_option maxRecDepth 100000
set_option maxHeartbeats 2000000
set_option linter.unusedVariables false
set_option linter.unusedSimpArgs false
set_option linter.unnecessarySimpa false
namespace Go.Proofs.YtdfihaminnmgpaaGreat
open Go.RowKit
open BlkW renaming rows→BU_
open Bool renaming and_eq_true→N_,and_eq_false_iff→T_,or_eq_false_iff→U_,not_eq_false'→X_,not_eq_true'→A_,or_eq_true→D_,and_true→AN_,false_and→BP_,true_and→BY_
open Exit renaming exit→BO_
open Int renaming toNat_natCast→AJ_
open IntKind renaming i64→O_
open List renaming map→K_,length_append→P_,length_map→R_,map_replicate→W_,getElem?_eq_getElem→Z_,map_append→B_,map_cons→C_,map_take→AK_,map_drop→AL_,map_nil→AO_,map_set→AP_,getD_eq_getElem?_getD→AU_,append_assoc→AZ_,eq_nil_of_length_eq_zero→AC_,length_cons→AE_,mem_append→BH_,getElem_mem→CW_,all_eq_true→CF_
open Nat renaming le_trans→Y_,le_refl→AX_,zero_le→AD_
open Option renaming getD_some→BW_
open Tryz renaming prog→L_
open Value renaming slice→AQ_,int→AS_,bool→BD_,agg→CT_
open Weak renaming int→Q_,bool→AF_,nil→AG_,tup→AI_,agg→BL_,rows→BQ_,any→BG_
open WeakL renaming refl→AM_
def tkS (s:Rst):Nat→Rst
 | 0=>s
 | k+1=>takeS (tkS s k)
def tkL (s:Rst):Nat→List Nod
 | 0=>[]
 | k+1=>tkL s k++[(takeR (tkS s k)).1]
theorem tkS_fit {s:Rst} (h:s.Fit) (k:Nat):(tkS s k).Fit:=by
 induction k with
 | zero=>exact h
 | succ k ih=>exact takeS_fit ih
theorem tkL_len (s:Rst) (k:Nat):(tkL s k).length=k:=by
 induction k with
 | zero=>rfl
 | succ k ih=>rw[tkL,P_,ih];rfl
def stB (s:Rst):Rst:=tkS (cntS s 8) (cntV s 8).toNat
def exS (s:Rst):Rst:=if cntV s 1=1 then cntS (lstS (cntS s 1)) 2147483647 else cntS s 1
noncomputable def ptkb_y_I (s:Rst) (k:Nat):VS:=stt 47 [(0,.ptr 100000 0 0),(2,.ptr 2 0 0),(4,.ptr 4 0 0),(5,.ptr 5 0 0),(18,i64 (cntV s 8)),(19,i64 k)] [(2,.var [.any,.any,.any,.any,.any]),(4,.var [.ptr 100000 0 0]),(5,.var [.own 900,bv false,ints .i8 [],ints .i32 [],i32 0]),(900,.slc 56 19 ((tkL (cntS s 8) k).map nodC)),(100000,.var (rdC (tkS (cntS s 8) k)))]
noncomputable def ptkb_y_Z (s:Rst):VS:=ptkb_y_I s ((cntV s 8).toNat)
theorem ptkb_y_s (s:Rst) (h:s.Fit) (hh:∀ k,k<(cntV s 8).toNat→(takeR (tkS (cntS s 8) k)).2=0) (k:Nat) (hk:k<(cntV s 8).toNat):VT L_ (fnC Tryz.f98 [1,1,1,1,1,0,1,0,0]) (ptkb_y_I s k) .normal (ptkb_y_I s (k+1)):=by
 have q:=cntV_rng (m:=8) h.i (by decide)
 have q0:=tkS_fit (cnt_fit h 8) k
 have q1:=tkL_len (cntS s 8) k
 have q2:=hh k hk
 have oz1:=@take_v (tkS (cntS s 8) k) q0
 exact tR_ [r_,b_,.r [] [cm oz1],r_,d_,r_,.r [] [.n ((↑k:Int)+1)]] [.any (rg [(7,2),(20,8),(30,7)]),.drop [7,33],.ren 34 900,.weak 19 (i64 (↑(k+1):Int)),.blk 900 (Blk.slc 56 19 (K_ nodC (tkL (cntS s 8) (k+1)))),.blk 100000 (Blk.var [AV.sl 1 (K_ (row1 .u8) (tkS (cntS s 8) (k+1)).fst),i64 (tkS (cntS s 8) (k+1)).snd]),.sort] (.c8 (decide_eq_true (p:=((↑k:Int)<cntV s 8)) (by omega)) oz1 (show ((takeR (tkS (cntS s 8) k)).snd != 0)=false by (simp;omega)) (show ((K_ nodC (tkL (cntS s 8) k)).length+1)*168≤140737488355328 by (simp;omega)) (show (K_ nodC (tkL (cntS s 8) k)).length+1≤9223372036854775807 by (simp;omega)) (i6n ((↑k:Int)+1) (by omega)) (wS_ k) (show BlkW (Blk.slc 56 19 (K_ nodC (tkL (cntS s 8) k)++[[i64 (takeR (tkS (cntS s 8) k)).fst.kd,i64 (takeR (tkS (cntS s 8) k)).fst.na,i64 (takeR (tkS (cntS s 8) k)).fst.nb,i64 (takeR (tkS (cntS s 8) k)).fst.nk,i64 (takeR (tkS (cntS s 8) k)).fst.ns,i64 (takeR (tkS (cntS s 8) k)).fst.np,i64 (takeR (tkS (cntS s 8) k)).fst.no,i8 (takeR (tkS (cntS s 8) k)).fst.za,i8 (takeR (tkS (cntS s 8) k)).fst.zb,AV.sl 1 (K_ (row1 .i8) (takeR (tkS (cntS s 8) k)).fst.w),AV.sl 1 (K_ (row1 .i32) (takeR (tkS (cntS s 8) k)).fst.b),i32 (takeR (tkS (cntS s 8) k)).fst.qm,i64 (takeR (tkS (cntS s 8) k)).fst.qs,i8 (takeR (tkS (cntS s 8) k)).fst.qz,i32 (takeR (tkS (cntS s 8) k)).fst.rm,i64 (takeR (tkS (cntS s 8) k)).fst.rs,i8 (takeR (tkS (cntS s 8) k)).fst.rz,i8 (takeR (tkS (cntS s 8) k)).fst.lo,i8 (takeR (tkS (cntS s 8) k)).fst.hi]])) (Blk.slc 56 19 (K_ nodC (tkL (cntS s 8) (k+1)))) from (BU_ (e:=56) (z:=19) (rows_to (nodC) (r:=K_ nodC (tkL (cntS s 8) k)++[[i64 (takeR (tkS (cntS s 8) k)).fst.kd,i64 (takeR (tkS (cntS s 8) k)).fst.na,i64 (takeR (tkS (cntS s 8) k)).fst.nb,i64 (takeR (tkS (cntS s 8) k)).fst.nk,i64 (takeR (tkS (cntS s 8) k)).fst.ns,i64 (takeR (tkS (cntS s 8) k)).fst.np,i64 (takeR (tkS (cntS s 8) k)).fst.no,i8 (takeR (tkS (cntS s 8) k)).fst.za,i8 (takeR (tkS (cntS s 8) k)).fst.zb,AV.sl 1 (K_ (row1 .i8) (takeR (tkS (cntS s 8) k)).fst.w),AV.sl 1 (K_ (row1 .i32) (takeR (tkS (cntS s 8) k)).fst.b),i32 (takeR (tkS (cntS s 8) k)).fst.qm,i64 (takeR (tkS (cntS s 8) k)).fst.qs,i8 (takeR (tkS (cntS s 8) k)).fst.qz,i32 (takeR (tkS (cntS s 8) k)).fst.rm,i64 (takeR (tkS (cntS s 8) k)).fst.rs,i8 (takeR (tkS (cntS s 8) k)).fst.rz,i8 (takeR (tkS (cntS s 8) k)).fst.lo,i8 (takeR (tkS (cntS s 8) k)).fst.hi]]) (l:=tkL (cntS s 8) k++[Nod.mk (takeR (tkS (cntS s 8) k)).fst.kd (takeR (tkS (cntS s 8) k)).fst.na (takeR (tkS (cntS s 8) k)).fst.nb (takeR (tkS (cntS s 8) k)).fst.nk (takeR (tkS (cntS s 8) k)).fst.ns (takeR (tkS (cntS s 8) k)).fst.np (takeR (tkS (cntS s 8) k)).fst.no (takeR (tkS (cntS s 8) k)).fst.za (takeR (tkS (cntS s 8) k)).fst.zb (takeR (tkS (cntS s 8) k)).fst.w (takeR (tkS (cntS s 8) k)).fst.b (takeR (tkS (cntS s 8) k)).fst.qm (takeR (tkS (cntS s 8) k)).fst.qs (takeR (tkS (cntS s 8) k)).fst.qz (takeR (tkS (cntS s 8) k)).fst.rm (takeR (tkS (cntS s 8) k)).fst.rs (takeR (tkS (cntS s 8) k)).fst.rz (takeR (tkS (cntS s 8) k)).fst.lo (takeR (tkS (cntS s 8) k)).fst.hi]) (m:=tkL (cntS s 8) (k+1)) (by first|(simp only[B_,C_,AO_,AP_,W_,AK_,AL_];done)|rfl|(simp only[B_,C_,AO_,AP_,W_,AK_,AL_];rfl)|(simp only[B_,C_,AO_,AP_,W_,AK_,AL_,nodC,ints];done)) (show (tkL (cntS s 8) k++[Nod.mk (takeR (tkS (cntS s 8) k)).fst.kd (takeR (tkS (cntS s 8) k)).fst.na (takeR (tkS (cntS s 8) k)).fst.nb (takeR (tkS (cntS s 8) k)).fst.nk (takeR (tkS (cntS s 8) k)).fst.ns (takeR (tkS (cntS s 8) k)).fst.np (takeR (tkS (cntS s 8) k)).fst.no (takeR (tkS (cntS s 8) k)).fst.za (takeR (tkS (cntS s 8) k)).fst.zb (takeR (tkS (cntS s 8) k)).fst.w (takeR (tkS (cntS s 8) k)).fst.b (takeR (tkS (cntS s 8) k)).fst.qm (takeR (tkS (cntS s 8) k)).fst.qs (takeR (tkS (cntS s 8) k)).fst.qz (takeR (tkS (cntS s 8) k)).fst.rm (takeR (tkS (cntS s 8) k)).fst.rs (takeR (tkS (cntS s 8) k)).fst.rz (takeR (tkS (cntS s 8) k)).fst.lo (takeR (tkS (cntS s 8) k)).fst.hi])=(tkL (cntS s 8) (k+1)) from (by rfl)))))<|.d (show BlkW (Blk.var [AV.sl 1 (K_ (row1 .u8) (takeS (tkS (cntS s 8) k)).fst),i64 (takeS (tkS (cntS s 8) k)).snd]) (Blk.var [AV.sl 1 (K_ (row1 .u8) (tkS (cntS s 8) (k+1)).fst),i64 (tkS (cntS s 8) (k+1)).snd]) from (BlkW.var (m:=[AV.sl 1 (K_ (row1 .u8) (tkS (cntS s 8) (k+1)).fst),i64 (tkS (cntS s 8) (k+1)).snd]) (.cons (BQ_ (rows_to (row1 .u8) (r:=K_ (row1 .u8) (takeS (tkS (cntS s 8) k)).fst) (l:=(takeS (tkS (cntS s 8) k)).fst) (m:=(tkS (cntS s 8) (k+1)).fst) rfl (show ((takeS (tkS (cntS s 8) k)).fst)=((tkS (cntS s 8) (k+1)).fst) from (by rfl)))) (.cons (Q_ (by rfl)) .nil)))))
theorem ptkb_y_e (s:Rst) (h:s.Fit) (hh:∀ k,k<(cntV s 8).toNat→(takeR (tkS (cntS s 8) k)).2=0):VT L_ (fnC Tryz.f98 [1,1,1,1,1,0,1,0,0]) (ptkb_y_I s ((cntV s 8).toNat)) (.exit 0) (ptkb_y_Z s):=by
 exact tR_ [r_,d_] [.any [20],.sort] (.d (decide_eq_false (p:=((↑(cntV s 8).toNat:Int)<cntV s 8)) (by omega)))
theorem ptkb_y (s:Rst) (h:s.Fit) (hh:∀ k,k<(cntV s 8).toNat→(takeR (tkS (cntS s 8) k)).2=0):VT L_ (fnC Tryz.f98 [1,1,1,1,1,0,1,0]) (ptkb_y_I s 0) (.exit 0) (ptkb_y_Z s) :=
 VT.loop (fun k=>ptkb_y_I s k) ((cntV s 8).toNat) (fun k hk=>ptkb_y_s s h hh k hk) (ptkb_y_e s h hh) (by intro h;cases h)
noncomputable def ptkb_n_I (s:Rst) (m:Nat) (k:Nat):VS:=stt 47 [(0,.ptr 100000 0 0),(2,.ptr 2 0 0),(4,.ptr 4 0 0),(5,.ptr 5 0 0),(18,i64 (cntV s 8)),(19,i64 k)] [(2,.var [.any,.any,.any,.any,.any]),(4,.var [.ptr 100000 0 0]),(5,.var [.own 900,bv false,ints .i8 [],ints .i32 [],i32 0]),(900,.slc 56 19 ((tkL (cntS s 8) k).map nodC)),(100000,.var (rdC (tkS (cntS s 8) k)))]
noncomputable def ptkb_n_Z (s:Rst) (m:Nat):VS:=stt 47 [(2,.ptr 2 0 0),(3,i64 (takeR (tkS (cntS s 8) m)).2)] [(2,.var [nilv,bv false,nilv,nilv,i32 0]),(100000,.var (rdC (tkS (cntS s 8) (m+1))))]
theorem ptkb_n_s (s:Rst) (m:Nat) (h:s.Fit) (hm:m<(cntV s 8).toNat) (hf:(takeR (tkS (cntS s 8) m)).2≠0) (hh:∀ k,k<m→(takeR (tkS (cntS s 8) k)).2=0) (k:Nat) (hk:k<m):VT L_ (fnC Tryz.f98 [1,1,1,1,1,0,1,0,0]) (ptkb_n_I s m k) .normal (ptkb_n_I s m (k+1)):=by
 have q:=cntV_rng (m:=8) h.i (by decide)
 have q0:=tkS_fit (cnt_fit h 8) k
 have q1:=tkL_len (cntS s 8) k
 have q2:=hh k hk
 have oz1:=@take_v (tkS (cntS s 8) k) q0
 exact tR_ [r_,b_,.r [] [cm oz1],r_,d_,r_,.r [] [.n ((↑k:Int)+1)]] [.any (rg [(7,2),(20,8),(30,7)]),.drop [7,33],.ren 34 900,.weak 19 (i64 (↑(k+1):Int)),.blk 900 (Blk.slc 56 19 (K_ nodC (tkL (cntS s 8) (k+1)))),.blk 100000 (Blk.var [AV.sl 1 (K_ (row1 .u8) (tkS (cntS s 8) (k+1)).fst),i64 (tkS (cntS s 8) (k+1)).snd]),.sort] (.c8 (decide_eq_true (p:=((↑k:Int)<cntV s 8)) (by omega)) oz1 (show ((takeR (tkS (cntS s 8) k)).snd != 0)=false by (simp;omega)) (show ((K_ nodC (tkL (cntS s 8) k)).length+1)*168≤140737488355328 by (simp;omega)) (show (K_ nodC (tkL (cntS s 8) k)).length+1≤9223372036854775807 by (simp;omega)) (i6n ((↑k:Int)+1) (by omega)) (wS_ k) (show BlkW (Blk.slc 56 19 (K_ nodC (tkL (cntS s 8) k)++[[i64 (takeR (tkS (cntS s 8) k)).fst.kd,i64 (takeR (tkS (cntS s 8) k)).fst.na,i64 (takeR (tkS (cntS s 8) k)).fst.nb,i64 (takeR (tkS (cntS s 8) k)).fst.nk,i64 (takeR (tkS (cntS s 8) k)).fst.ns,i64 (takeR (tkS (cntS s 8) k)).fst.np,i64 (takeR (tkS (cntS s 8) k)).fst.no,i8 (takeR (tkS (cntS s 8) k)).fst.za,i8 (takeR (tkS (cntS s 8) k)).fst.zb,AV.sl 1 (K_ (row1 .i8) (takeR (tkS (cntS s 8) k)).fst.w),AV.sl 1 (K_ (row1 .i32) (takeR (tkS (cntS s 8) k)).fst.b),i32 (takeR (tkS (cntS s 8) k)).fst.qm,i64 (takeR (tkS (cntS s 8) k)).fst.qs,i8 (takeR (tkS (cntS s 8) k)).fst.qz,i32 (takeR (tkS (cntS s 8) k)).fst.rm,i64 (takeR (tkS (cntS s 8) k)).fst.rs,i8 (takeR (tkS (cntS s 8) k)).fst.rz,i8 (takeR (tkS (cntS s 8) k)).fst.lo,i8 (takeR (tkS (cntS s 8) k)).fst.hi]])) (Blk.slc 56 19 (K_ nodC (tkL (cntS s 8) (k+1)))) from (BU_ (e:=56) (z:=19) (rows_to (nodC) (r:=K_ nodC (tkL (cntS s 8) k)++[[i64 (takeR (tkS (cntS s 8) k)).fst.kd,i64 (takeR (tkS (cntS s 8) k)).fst.na,i64 (takeR (tkS (cntS s 8) k)).fst.nb,i64 (takeR (tkS (cntS s 8) k)).fst.nk,i64 (takeR (tkS (cntS s 8) k)).fst.ns,i64 (takeR (tkS (cntS s 8) k)).fst.np,i64 (takeR (tkS (cntS s 8) k)).fst.no,i8 (takeR (tkS (cntS s 8) k)).fst.za,i8 (takeR (tkS (cntS s 8) k)).fst.zb,AV.sl 1 (K_ (row1 .i8) (takeR (tkS (cntS s 8) k)).fst.w),AV.sl 1 (K_ (row1 .i32) (takeR (tkS (cntS s 8) k)).fst.b),i32 (takeR (tkS (cntS s 8) k)).fst.qm,i64 (takeR (tkS (cntS s 8) k)).fst.qs,i8 (takeR (tkS (cntS s 8) k)).fst.qz,i32 (takeR (tkS (cntS s 8) k)).fst.rm,i64 (takeR (tkS (cntS s 8) k)).fst.rs,i8 (takeR (tkS (cntS s 8) k)).fst.rz,i8 (takeR (tkS (cntS s 8) k)).fst.lo,i8 (takeR (tkS (cntS s 8) k)).fst.hi]]) (l:=tkL (cntS s 8) k++[Nod.mk (takeR (tkS (cntS s 8) k)).fst.kd (takeR (tkS (cntS s 8) k)).fst.na (takeR (tkS (cntS s 8) k)).fst.nb (takeR (tkS (cntS s 8) k)).fst.nk (takeR (tkS (cntS s 8) k)).fst.ns (takeR (tkS (cntS s 8) k)).fst.np (takeR (tkS (cntS s 8) k)).fst.no (takeR (tkS (cntS s 8) k)).fst.za (takeR (tkS (cntS s 8) k)).fst.zb (takeR (tkS (cntS s 8) k)).fst.w (takeR (tkS (cntS s 8) k)).fst.b (takeR (tkS (cntS s 8) k)).fst.qm (takeR (tkS (cntS s 8) k)).fst.qs (takeR (tkS (cntS s 8) k)).fst.qz (takeR (tkS (cntS s 8) k)).fst.rm (takeR (tkS (cntS s 8) k)).fst.rs (takeR (tkS (cntS s 8) k)).fst.rz (takeR (tkS (cntS s 8) k)).fst.lo (takeR (tkS (cntS s 8) k)).fst.hi]) (m:=tkL (cntS s 8) (k+1)) (by first|(simp only[B_,C_,AO_,AP_,W_,AK_,AL_];done)|rfl|(simp only[B_,C_,AO_,AP_,W_,AK_,AL_];rfl)|(simp only[B_,C_,AO_,AP_,W_,AK_,AL_,nodC,ints];done)) (show (tkL (cntS s 8) k++[Nod.mk (takeR (tkS (cntS s 8) k)).fst.kd (takeR (tkS (cntS s 8) k)).fst.na (takeR (tkS (cntS s 8) k)).fst.nb (takeR (tkS (cntS s 8) k)).fst.nk (takeR (tkS (cntS s 8) k)).fst.ns (takeR (tkS (cntS s 8) k)).fst.np (takeR (tkS (cntS s 8) k)).fst.no (takeR (tkS (cntS s 8) k)).fst.za (takeR (tkS (cntS s 8) k)).fst.zb (takeR (tkS (cntS s 8) k)).fst.w (takeR (tkS (cntS s 8) k)).fst.b (takeR (tkS (cntS s 8) k)).fst.qm (takeR (tkS (cntS s 8) k)).fst.qs (takeR (tkS (cntS s 8) k)).fst.qz (takeR (tkS (cntS s 8) k)).fst.rm (takeR (tkS (cntS s 8) k)).fst.rs (takeR (tkS (cntS s 8) k)).fst.rz (takeR (tkS (cntS s 8) k)).fst.lo (takeR (tkS (cntS s 8) k)).fst.hi])=(tkL (cntS s 8) (k+1)) from (by rfl)))))<|.d (show BlkW (Blk.var [AV.sl 1 (K_ (row1 .u8) (takeS (tkS (cntS s 8) k)).fst),i64 (takeS (tkS (cntS s 8) k)).snd]) (Blk.var [AV.sl 1 (K_ (row1 .u8) (tkS (cntS s 8) (k+1)).fst),i64 (tkS (cntS s 8) (k+1)).snd]) from (BlkW.var (m:=[AV.sl 1 (K_ (row1 .u8) (tkS (cntS s 8) (k+1)).fst),i64 (tkS (cntS s 8) (k+1)).snd]) (.cons (BQ_ (rows_to (row1 .u8) (r:=K_ (row1 .u8) (takeS (tkS (cntS s 8) k)).fst) (l:=(takeS (tkS (cntS s 8) k)).fst) (m:=(tkS (cntS s 8) (k+1)).fst) rfl (show ((takeS (tkS (cntS s 8) k)).fst)=((tkS (cntS s 8) (k+1)).fst) from (by rfl)))) (.cons (Q_ (by rfl)) .nil)))))
theorem ptkb_n_e (s:Rst) (m:Nat) (h:s.Fit) (hm:m<(cntV s 8).toNat) (hf:(takeR (tkS (cntS s 8) m)).2≠0) (hh:∀ k,k<m→(takeR (tkS (cntS s 8) k)).2=0):VT L_ (fnC Tryz.f98 [1,1,1,1,1,0,1,0,0]) (ptkb_n_I s m (m)) (.ret) (ptkb_n_Z s m):=by
 have q:=cntV_rng (m:=8) h.i (by decide)
 have q0:=tkS_fit (cnt_fit h 8) m
 have q1:=tkL_len (cntS s 8) m
 have oz1:=@take_v (tkS (cntS s 8) m) q0
 exact tR_ [r_,b_,.r [] [cm oz1],r_,b_,r_] [.any (rg [(0,1),(4,2),(7,2),(18,12)]),.drop [4,5,900,7],.blk 100000 (Blk.var [AV.sl 1 (K_ (row1 .u8) (tkS (cntS s 8) (m+1)).fst),i64 (tkS (cntS s 8) (m+1)).snd]),.sort] (.d4 (decide_eq_true (p:=((↑m:Int)<cntV s 8)) (by omega)) oz1 (show ((takeR (tkS (cntS s 8) m)).snd != 0)=true by (simp;omega)) (show BlkW (Blk.var [AV.sl 1 (K_ (row1 .u8) (takeS (tkS (cntS s 8) m)).fst),i64 (takeS (tkS (cntS s 8) m)).snd]) (Blk.var [AV.sl 1 (K_ (row1 .u8) (tkS (cntS s 8) (m+1)).fst),i64 (tkS (cntS s 8) (m+1)).snd]) from (BlkW.var (m:=[AV.sl 1 (K_ (row1 .u8) (tkS (cntS s 8) (m+1)).fst),i64 (tkS (cntS s 8) (m+1)).snd]) (.cons (BQ_ (rows_to (row1 .u8) (r:=K_ (row1 .u8) (takeS (tkS (cntS s 8) m)).fst) (l:=(takeS (tkS (cntS s 8) m)).fst) (m:=(tkS (cntS s 8) (m+1)).fst) rfl (show ((takeS (tkS (cntS s 8) m)).fst)=((tkS (cntS s 8) (m+1)).fst) from (by rfl)))) (.cons (Q_ (by rfl)) .nil)))))
theorem ptkb_n (s:Rst) (m:Nat) (h:s.Fit) (hm:m<(cntV s 8).toNat) (hf:(takeR (tkS (cntS s 8) m)).2≠0) (hh:∀ k,k<m→(takeR (tkS (cntS s 8) k)).2=0):VT L_ (fnC Tryz.f98 [1,1,1,1,1,0,1,0]) (ptkb_n_I s m 0) (.ret) (ptkb_n_Z s m) :=
 VT.loop (fun k=>ptkb_n_I s m k) (m) (fun k hk=>ptkb_n_s s m h hm hf hh k hk) (ptkb_n_e s m h hm hf hh) (by intro h;cases h)
theorem ptake_f (s:Rst) (m:Nat) (h:s.Fit) (hm:m<(cntV s 8).toNat) (hf:(takeR (tkS (cntS s 8) m)).2≠0) (hh:∀ k,k<m→(takeR (tkS (cntS s 8) k)).2=0):VM L_ 98 ([.ptr 100000 0 0]) ([(100000,.var (rdC s))]) (.tup [.agg [.sl 19 [],bv false,.sl 1 [],.sl 1 [],i32 0],i64 (takeR (tkS (cntS s 8) m)).2]) ([(100000,.var (rdC (tkS (cntS s 8) (m+1))))]):=by
 have q:=cntV_rng (m:=8) h.i (by decide)
 have q9:=h.i
 have qa:(tkS (cntS s 8) (cntV s 8).toNat).In:=(tkS_fit (cnt_fit h 8) _).i
 have qc:=tkS_fit (cnt_fit h 8) (cntV s 8).toNat
 have qd:=(cnt_fit qc 1).e
 have qe:=(cnt_fit (lst_fit (cnt_fit qc 1)) 2147483647).e
 have oz1:=@tnum_1 (s) (0) (8) q9 (by omega) (by omega)
 have oz6:=@ptkb_n (s) (m) h hm hf hh
 exact mR_ [r_,r_,d_,r_,r_,.r [] [.callm [(100000,100000),(6,100001)] [] (rM oz1) (oM oz1)],r_,.code [.any [3,6,10,11,13,14,15,16,17],.drop [6],.weak 19 (i64 (↑0:Int)),.nilc 900 56 19 5 0,.blk 2 (Blk.var [AV.any,AV.any,AV.any,AV.any,AV.any]),.blk 5 (Blk.var [AV.own 900,bv false,AV.sl 1 [],AV.sl 1 [],i32 0]),.blk 100000 (Blk.var [AV.sl 1 (K_ (row1 .u8) (tkS (cntS s 8) 0).fst),i64 (tkS (cntS s 8) 0).snd]),.sort] (Exit.ret) (zO oz6)] [.drop [2],.weak 0 (AV.tup [AV.agg [AV.sl 19 [],bv false,AV.sl 1 [],AV.sl 1 [],i32 0],i64 (takeR (tkS (cntS s 8) m)).snd]),.sort] _ Tryz.func98 (.d8 z1_ oz1 w0_ (show BlkW (Blk.var [AV.lit (AQ_ none (0:Nat) (0:Nat)),bv false,AV.lit (AQ_ none (0:Nat) (0:Nat)),AV.lit (AQ_ none (0:Nat) (0:Nat)),i32 (0:Int)]) (Blk.var [AV.any,AV.any,AV.any,AV.any,AV.any]) from (BlkW.var (m:=[AV.any,AV.any,AV.any,AV.any,AV.any]) (.cons (BG_ _) (.cons (BG_ _) (.cons (BG_ _) (.cons (BG_ _) (.cons (BG_ _) .nil))))))) (show BlkW (Blk.var [AV.own (900:Nat),bv false,AV.lit (AQ_ none (0:Nat) (0:Nat)),AV.lit (AQ_ none (0:Nat) (0:Nat)),i32 (0:Int)]) (Blk.var [AV.own (900:Nat),bv false,AV.sl (1:Nat) [],AV.sl (1:Nat) [],i32 (0:Int)]) from (BlkW.var (m:=[AV.own 900,bv false,AV.sl 1 [],AV.sl 1 [],i32 0]) (.cons (.refl _) (.cons (.refl _) (.cons (AG_ _) (.cons (AG_ _) (.cons (.refl _) .nil))))))) (show BlkW (Blk.var [AV.sl 1 (K_ (row1 .u8) (cntS s 8).fst),i64 (cntS s 8).snd]) (Blk.var [AV.sl 1 (K_ (row1 .u8) (tkS (cntS s 8) 0).fst),i64 (tkS (cntS s 8) 0).snd]) from (BlkW.var (m:=[AV.sl 1 (K_ (row1 .u8) (tkS (cntS s 8) 0).fst),i64 (tkS (cntS s 8) 0).snd]) (.cons (BQ_ (rows_to (row1 .u8) (r:=K_ (row1 .u8) (cntS s 8).fst) (l:=(cntS s 8).fst) (m:=(tkS (cntS s 8) 0).fst) rfl (show ((cntS s 8).fst)=((tkS (cntS s 8) 0).fst) from (by rfl)))) (.cons (Q_ (by rfl)) .nil)))) oz6 (show Weak (AV.tup [AV.agg [AV.lit (AQ_ none 0 0),bv false,AV.lit (AQ_ none 0 0),AV.lit (AQ_ none 0 0),i32 0],i64 (takeR (tkS (cntS s 8) m)).snd]) (AV.tup [AV.agg [AV.sl 19 [],bv false,AV.sl 1 [],AV.sl 1 [],i32 0],i64 (takeR (tkS (cntS s 8) m)).snd]) from (AI_ (.cons (BL_ (.cons (AG_ _) (.cons (.refl _) (.cons (AG_ _) (.cons (AG_ _) (.cons (.refl _) .nil)))))) (.cons (.refl _) .nil)))))
theorem ptake_nb (s:Rst) (h:s.Fit) (hh:∀ k,k<(cntV s 8).toNat→(takeR (tkS (cntS s 8) k)).2=0) (hx:cntV (tkS (cntS s 8) (cntV s 8).toNat) 1≠1) (hb:(cntS (tkS (cntS s 8) (cntV s 8).toNat) 1).2≠0):VM L_ 98 ([.ptr 100000 0 0]) ([(100000,.var (rdC s))]) (.tup [.agg [.sl 19 [],bv false,.sl 1 [],.sl 1 [],i32 0],i64 (cntS (tkS (cntS s 8) (cntV s 8).toNat) 1).2]) ([(100000,.var (rdC (cntS (tkS (cntS s 8) (cntV s 8).toNat) 1)))]):=by
 have q:=cntV_rng (m:=8) h.i (by decide)
 have q9:=h.i
 have qa:(tkS (cntS s 8) (cntV s 8).toNat).In:=(tkS_fit (cnt_fit h 8) _).i
 have qc:=tkS_fit (cnt_fit h 8) (cntV s 8).toNat
 have qd:=(cnt_fit qc 1).e
 have qe:=(cnt_fit (lst_fit (cnt_fit qc 1)) 2147483647).e
 have oz1:=@tnum_1 (s) (0) (8) q9 (by omega) (by omega)
 have oz6:=@ptkb_y (s) h hh
 have oz7:=@VM.pre _ _ ([AV.ifc 183 (AV.agg [AV.ptr 100000 0 0]),AV.ptr 100001 0 0]) _ ([(950,Blk.slc 56 19 (K_ nodC (tkL (cntS s 8) (cntV s 8).toNat))),(100000,Blk.var [AV.sl 1 (K_ (row1 .u8) (tkS (cntS s 8) (cntV s 8).toNat).fst),i64 (tkS (cntS s 8) (cntV s 8).toNat).snd]),(100001,Blk.var [AV.own 950,bv false,AV.sl 1 [],AV.sl 1 [],i32 0])]) _ _ _ ([GI.sort]) _ (@texit_n (tkS (cntS s 8) (cntV s 8).toNat) (tkL (cntS s 8) (cntV s 8).toNat) ([]) ([]) (0) qa hx) (by kernel_rfl) (.n)
 have oz8:=@bad_v (cntS (tkS (cntS s 8) (cntV s 8).toNat) 1) qd
 exact mR_ [r_,r_,d_,r_,r_,.r [] [.callm [(100000,100000),(6,100001)] [] (rM oz1) (oM oz1)],r_,.code [.any [3,6,10,11,13,14,15,16,17],.drop [6],.weak 19 (i64 (↑0:Int)),.nilc 900 56 19 5 0,.blk 2 (Blk.var [AV.any,AV.any,AV.any,AV.any,AV.any]),.blk 5 (Blk.var [AV.own 900,bv false,AV.sl 1 [],AV.sl 1 [],i32 0]),.blk 100000 (Blk.var [AV.sl 1 (K_ (row1 .u8) (tkS (cntS s 8) 0).fst),i64 (tkS (cntS s 8) 0).snd]),.sort] (BO_ 0) (zO oz6),.r [] [.callm [(900,950),(100000,100000),(5,100001)] [(950,20000)] (rM oz7) (oM oz7)],.r [] [cm oz8],r_,b_,r_] [.drop [2,4,20000,5],.weak 0 (AV.tup [AV.agg [AV.sl 19 [],bv false,AV.sl 1 [],AV.sl 1 [],i32 0],i64 (cntS (tkS (cntS s 8) (cntV s 8).toNat) 1).snd]),.sort] _ Tryz.func98 (.c8 z1_ oz1 w0_ (show BlkW (Blk.var [AV.lit (AQ_ none (0:Nat) (0:Nat)),bv false,AV.lit (AQ_ none (0:Nat) (0:Nat)),AV.lit (AQ_ none (0:Nat) (0:Nat)),i32 (0:Int)]) (Blk.var [AV.any,AV.any,AV.any,AV.any,AV.any]) from (BlkW.var (m:=[AV.any,AV.any,AV.any,AV.any,AV.any]) (.cons (BG_ _) (.cons (BG_ _) (.cons (BG_ _) (.cons (BG_ _) (.cons (BG_ _) .nil))))))) (show BlkW (Blk.var [AV.own (900:Nat),bv false,AV.lit (AQ_ none (0:Nat) (0:Nat)),AV.lit (AQ_ none (0:Nat) (0:Nat)),i32 (0:Int)]) (Blk.var [AV.own (900:Nat),bv false,AV.sl (1:Nat) [],AV.sl (1:Nat) [],i32 (0:Int)]) from (BlkW.var (m:=[AV.own 900,bv false,AV.sl 1 [],AV.sl 1 [],i32 0]) (.cons (.refl _) (.cons (.refl _) (.cons (AG_ _) (.cons (AG_ _) (.cons (.refl _) .nil))))))) (show BlkW (Blk.var [AV.sl 1 (K_ (row1 .u8) (cntS s 8).fst),i64 (cntS s 8).snd]) (Blk.var [AV.sl 1 (K_ (row1 .u8) (tkS (cntS s 8) 0).fst),i64 (tkS (cntS s 8) 0).snd]) from (BlkW.var (m:=[AV.sl 1 (K_ (row1 .u8) (tkS (cntS s 8) 0).fst),i64 (tkS (cntS s 8) 0).snd]) (.cons (BQ_ (rows_to (row1 .u8) (r:=K_ (row1 .u8) (cntS s 8).fst) (l:=(cntS s 8).fst) (m:=(tkS (cntS s 8) 0).fst) rfl (show ((cntS s 8).fst)=((tkS (cntS s 8) 0).fst) from (by rfl)))) (.cons (Q_ (by rfl)) .nil)))) oz6 oz7<|.d3 oz8 (show ((cntS (tkS (cntS s 8) (cntV s 8).toNat) 1).snd != 0)=true by (simp;omega)) (show Weak (AV.tup [AV.agg [AV.lit (AQ_ none 0 0),bv false,AV.lit (AQ_ none 0 0),AV.lit (AQ_ none 0 0),i32 0],i64 (cntS (tkS (cntS s 8) (cntV s 8).toNat) 1).snd]) (AV.tup [AV.agg [AV.sl 19 [],bv false,AV.sl 1 [],AV.sl 1 [],i32 0],i64 (cntS (tkS (cntS s 8) (cntV s 8).toNat) 1).snd]) from (AI_ (.cons (BL_ (.cons (AG_ _) (.cons (.refl _) (.cons (AG_ _) (.cons (AG_ _) (.cons (.refl _) .nil)))))) (.cons (.refl _) .nil)))))
theorem ptake_ny (s:Rst) (h:s.Fit) (hh:∀ k,k<(cntV s 8).toNat→(takeR (tkS (cntS s 8) k)).2=0) (hx:cntV (tkS (cntS s 8) (cntV s 8).toNat) 1≠1) (hb:(cntS (tkS (cntS s 8) (cntV s 8).toNat) 1).2=0):VM L_ 98 ([.ptr 100000 0 0]) ([(100000,.var (rdC s))]) (.tup [.agg [.sl 19 ((tkL (cntS s 8) (cntV s 8).toNat).map nodC),bv false,ints .i8 [],ints .i32 [],i32 0],i64 0]) ([(100000,.var (rdC (cntS (tkS (cntS s 8) (cntV s 8).toNat) 1)))]):=by
 have q:=cntV_rng (m:=8) h.i (by decide)
 have q9:=h.i
 have qa:(tkS (cntS s 8) (cntV s 8).toNat).In:=(tkS_fit (cnt_fit h 8) _).i
 have qc:=tkS_fit (cnt_fit h 8) (cntV s 8).toNat
 have qd:=(cnt_fit qc 1).e
 have qe:=(cnt_fit (lst_fit (cnt_fit qc 1)) 2147483647).e
 have oz1:=@tnum_1 (s) (0) (8) q9 (by omega) (by omega)
 have oz6:=@ptkb_y (s) h hh
 have oz7:=@VM.pre _ _ ([AV.ifc 183 (AV.agg [AV.ptr 100000 0 0]),AV.ptr 100001 0 0]) _ ([(950,Blk.slc 56 19 (K_ nodC (tkL (cntS s 8) (cntV s 8).toNat))),(100000,Blk.var [AV.sl 1 (K_ (row1 .u8) (tkS (cntS s 8) (cntV s 8).toNat).fst),i64 (tkS (cntS s 8) (cntV s 8).toNat).snd]),(100001,Blk.var [AV.own 950,bv false,AV.sl 1 [],AV.sl 1 [],i32 0])]) _ _ _ ([GI.sort]) _ (@texit_n (tkS (cntS s 8) (cntV s 8).toNat) (tkL (cntS s 8) (cntV s 8).toNat) ([]) ([]) (0) qa hx) (by kernel_rfl) (.n)
 have oz8:=@bad_v (cntS (tkS (cntS s 8) (cntV s 8).toNat) 1) qd
 exact mR_ [r_,r_,d_,r_,r_,.r [] [.callm [(100000,100000),(6,100001)] [] (rM oz1) (oM oz1)],r_,.code [.any [3,6,10,11,13,14,15,16,17],.drop [6],.weak 19 (i64 (↑0:Int)),.nilc 900 56 19 5 0,.blk 2 (Blk.var [AV.any,AV.any,AV.any,AV.any,AV.any]),.blk 5 (Blk.var [AV.own 900,bv false,AV.sl 1 [],AV.sl 1 [],i32 0]),.blk 100000 (Blk.var [AV.sl 1 (K_ (row1 .u8) (tkS (cntS s 8) 0).fst),i64 (tkS (cntS s 8) 0).snd]),.sort] (BO_ 0) (zO oz6),.r [] [.callm [(900,950),(100000,100000),(5,100001)] [(950,20000)] (rM oz7) (oM oz7)],.r [] [cm oz8],r_,d_,r_] [.frz 20000,.drop [2,4,5],.sort] _ Tryz.func98 (.c8 z1_ oz1 w0_ (show BlkW (Blk.var [AV.lit (AQ_ none (0:Nat) (0:Nat)),bv false,AV.lit (AQ_ none (0:Nat) (0:Nat)),AV.lit (AQ_ none (0:Nat) (0:Nat)),i32 (0:Int)]) (Blk.var [AV.any,AV.any,AV.any,AV.any,AV.any]) from (BlkW.var (m:=[AV.any,AV.any,AV.any,AV.any,AV.any]) (.cons (BG_ _) (.cons (BG_ _) (.cons (BG_ _) (.cons (BG_ _) (.cons (BG_ _) .nil))))))) (show BlkW (Blk.var [AV.own (900:Nat),bv false,AV.lit (AQ_ none (0:Nat) (0:Nat)),AV.lit (AQ_ none (0:Nat) (0:Nat)),i32 (0:Int)]) (Blk.var [AV.own (900:Nat),bv false,AV.sl (1:Nat) [],AV.sl (1:Nat) [],i32 (0:Int)]) from (BlkW.var (m:=[AV.own 900,bv false,AV.sl 1 [],AV.sl 1 [],i32 0]) (.cons (.refl _) (.cons (.refl _) (.cons (AG_ _) (.cons (AG_ _) (.cons (.refl _) .nil))))))) (show BlkW (Blk.var [AV.sl 1 (K_ (row1 .u8) (cntS s 8).fst),i64 (cntS s 8).snd]) (Blk.var [AV.sl 1 (K_ (row1 .u8) (tkS (cntS s 8) 0).fst),i64 (tkS (cntS s 8) 0).snd]) from (BlkW.var (m:=[AV.sl 1 (K_ (row1 .u8) (tkS (cntS s 8) 0).fst),i64 (tkS (cntS s 8) 0).snd]) (.cons (BQ_ (rows_to (row1 .u8) (r:=K_ (row1 .u8) (cntS s 8).fst) (l:=(cntS s 8).fst) (m:=(tkS (cntS s 8) 0).fst) rfl (show ((cntS s 8).fst)=((tkS (cntS s 8) 0).fst) from (by rfl)))) (.cons (Q_ (by rfl)) .nil)))) oz6 oz7<|.d2 oz8 (show ((cntS (tkS (cntS s 8) (cntV s 8).toNat) 1).snd != 0)=false by (simp;omega)))
theorem ptake_yb (s:Rst) (h:s.Fit) (hh:∀ k,k<(cntV s 8).toNat→(takeR (tkS (cntS s 8) k)).2=0) (hx:cntV (tkS (cntS s 8) (cntV s 8).toNat) 1=1) (hb:(cntS (lstS (cntS (tkS (cntS s 8) (cntV s 8).toNat) 1)) 2147483647).2≠0):VM L_ 98 ([.ptr 100000 0 0]) ([(100000,.var (rdC s))]) (.tup [.agg [.sl 19 [],bv false,.sl 1 [],.sl 1 [],i32 0],i64 (cntS (lstS (cntS (tkS (cntS s 8) (cntV s 8).toNat) 1)) 2147483647).2]) ([(100000,.var (rdC (cntS (lstS (cntS (tkS (cntS s 8) (cntV s 8).toNat) 1)) 2147483647)))]):=by
 have q:=cntV_rng (m:=8) h.i (by decide)
 have q9:=h.i
 have qa:(tkS (cntS s 8) (cntV s 8).toNat).In:=(tkS_fit (cnt_fit h 8) _).i
 have qc:=tkS_fit (cnt_fit h 8) (cntV s 8).toNat
 have qd:=(cnt_fit qc 1).e
 have qe:=(cnt_fit (lst_fit (cnt_fit qc 1)) 2147483647).e
 have oz1:=@tnum_1 (s) (0) (8) q9 (by omega) (by omega)
 have oz6:=@ptkb_y (s) h hh
 have oz7:=@VM.pre _ _ ([AV.ifc 183 (AV.agg [AV.ptr 100000 0 0]),AV.ptr 100001 0 0]) _ ([(950,Blk.slc 56 19 (K_ nodC (tkL (cntS s 8) (cntV s 8).toNat))),(100000,Blk.var [AV.sl 1 (K_ (row1 .u8) (tkS (cntS s 8) (cntV s 8).toNat).fst),i64 (tkS (cntS s 8) (cntV s 8).toNat).snd]),(100001,Blk.var [AV.own 950,bv false,AV.sl 1 [],AV.sl 1 [],i32 0])]) _ _ _ ([GI.sort]) _ (@texit_y (tkS (cntS s 8) (cntV s 8).toNat) (tkL (cntS s 8) (cntV s 8).toNat) ([]) ([]) (0) qa hx) (by kernel_rfl) (.n)
 have oz8:=@bad_v (cntS (lstS (cntS (tkS (cntS s 8) (cntV s 8).toNat) 1)) 2147483647) qe
 exact mR_ [r_,r_,d_,r_,r_,.r [] [.callm [(100000,100000),(6,100001)] [] (rM oz1) (oM oz1)],r_,.code [.any [3,6,10,11,13,14,15,16,17],.drop [6],.weak 19 (i64 (↑0:Int)),.nilc 900 56 19 5 0,.blk 2 (Blk.var [AV.any,AV.any,AV.any,AV.any,AV.any]),.blk 5 (Blk.var [AV.own 900,bv false,AV.sl 1 [],AV.sl 1 [],i32 0]),.blk 100000 (Blk.var [AV.sl 1 (K_ (row1 .u8) (tkS (cntS s 8) 0).fst),i64 (tkS (cntS s 8) 0).snd]),.sort] (BO_ 0) (zO oz6),.r [] [.callm [(900,950),(100000,100000),(5,100001)] [(950,20000)] (rM oz7) (oM oz7)],.r [] [cm oz8],r_,b_,r_] [.drop [2,4,20000,5],.weak 0 (AV.tup [AV.agg [AV.sl 19 [],bv false,AV.sl 1 [],AV.sl 1 [],i32 0],i64 (cntS (lstS (cntS (tkS (cntS s 8) (cntV s 8).toNat) 1)) 2147483647).snd]),.sort] _ Tryz.func98 (.c8 z1_ oz1 w0_ (show BlkW (Blk.var [AV.lit (AQ_ none (0:Nat) (0:Nat)),bv false,AV.lit (AQ_ none (0:Nat) (0:Nat)),AV.lit (AQ_ none (0:Nat) (0:Nat)),i32 (0:Int)]) (Blk.var [AV.any,AV.any,AV.any,AV.any,AV.any]) from (BlkW.var (m:=[AV.any,AV.any,AV.any,AV.any,AV.any]) (.cons (BG_ _) (.cons (BG_ _) (.cons (BG_ _) (.cons (BG_ _) (.cons (BG_ _) .nil))))))) (show BlkW (Blk.var [AV.own (900:Nat),bv false,AV.lit (AQ_ none (0:Nat) (0:Nat)),AV.lit (AQ_ none (0:Nat) (0:Nat)),i32 (0:Int)]) (Blk.var [AV.own (900:Nat),bv false,AV.sl (1:Nat) [],AV.sl (1:Nat) [],i32 (0:Int)]) from (BlkW.var (m:=[AV.own 900,bv false,AV.sl 1 [],AV.sl 1 [],i32 0]) (.cons (.refl _) (.cons (.refl _) (.cons (AG_ _) (.cons (AG_ _) (.cons (.refl _) .nil))))))) (show BlkW (Blk.var [AV.sl 1 (K_ (row1 .u8) (cntS s 8).fst),i64 (cntS s 8).snd]) (Blk.var [AV.sl 1 (K_ (row1 .u8) (tkS (cntS s 8) 0).fst),i64 (tkS (cntS s 8) 0).snd]) from (BlkW.var (m:=[AV.sl 1 (K_ (row1 .u8) (tkS (cntS s 8) 0).fst),i64 (tkS (cntS s 8) 0).snd]) (.cons (BQ_ (rows_to (row1 .u8) (r:=K_ (row1 .u8) (cntS s 8).fst) (l:=(cntS s 8).fst) (m:=(tkS (cntS s 8) 0).fst) rfl (show ((cntS s 8).fst)=((tkS (cntS s 8) 0).fst) from (by rfl)))) (.cons (Q_ (by rfl)) .nil)))) oz6 oz7<|.d3 oz8 (show ((cntS (lstS (cntS (tkS (cntS s 8) (cntV s 8).toNat) 1)) 2147483647).snd != 0)=true by (simp;omega)) (show Weak (AV.tup [AV.agg [AV.lit (AQ_ none 0 0),bv false,AV.lit (AQ_ none 0 0),AV.lit (AQ_ none 0 0),i32 0],i64 (cntS (lstS (cntS (tkS (cntS s 8) (cntV s 8).toNat) 1)) 2147483647).snd]) (AV.tup [AV.agg [AV.sl 19 [],bv false,AV.sl 1 [],AV.sl 1 [],i32 0],i64 (cntS (lstS (cntS (tkS (cntS s 8) (cntV s 8).toNat) 1)) 2147483647).snd]) from (AI_ (.cons (BL_ (.cons (AG_ _) (.cons (.refl _) (.cons (AG_ _) (.cons (AG_ _) (.cons (.refl _) .nil)))))) (.cons (.refl _) .nil)))))
theorem ptake_yy (s:Rst) (h:s.Fit) (hh:∀ k,k<(cntV s 8).toNat→(takeR (tkS (cntS s 8) k)).2=0) (hx:cntV (tkS (cntS s 8) (cntV s 8).toNat) 1=1) (hb:(cntS (lstS (cntS (tkS (cntS s 8) (cntV s 8).toNat) 1)) 2147483647).2=0):VM L_ 98 ([.ptr 100000 0 0]) ([(100000,.var (rdC s))]) (.tup [.agg [.sl 19 ((tkL (cntS s 8) (cntV s 8).toNat).map nodC),bv true,ints .i8 (lstW (cntS (tkS (cntS s 8) (cntV s 8).toNat) 1)),ints .i32 (lstB (cntS (tkS (cntS s 8) (cntV s 8).toNat) 1)),i32 (cntV (lstS (cntS (tkS (cntS s 8) (cntV s 8).toNat) 1)) 2147483647)],i64 0]) ([(100000,.var (rdC (cntS (lstS (cntS (tkS (cntS s 8) (cntV s 8).toNat) 1)) 2147483647)))]):=by
 have q:=cntV_rng (m:=8) h.i (by decide)
 have q9:=h.i
 have qa:(tkS (cntS s 8) (cntV s 8).toNat).In:=(tkS_fit (cnt_fit h 8) _).i
 have qc:=tkS_fit (cnt_fit h 8) (cntV s 8).toNat
 have qd:=(cnt_fit qc 1).e
 have qe:=(cnt_fit (lst_fit (cnt_fit qc 1)) 2147483647).e
 have oz1:=@tnum_1 (s) (0) (8) q9 (by omega) (by omega)
 have oz6:=@ptkb_y (s) h hh
 have oz7:=@VM.pre _ _ ([AV.ifc 183 (AV.agg [AV.ptr 100000 0 0]),AV.ptr 100001 0 0]) _ ([(950,Blk.slc 56 19 (K_ nodC (tkL (cntS s 8) (cntV s 8).toNat))),(100000,Blk.var [AV.sl 1 (K_ (row1 .u8) (tkS (cntS s 8) (cntV s 8).toNat).fst),i64 (tkS (cntS s 8) (cntV s 8).toNat).snd]),(100001,Blk.var [AV.own 950,bv false,AV.sl 1 [],AV.sl 1 [],i32 0])]) _ _ _ ([GI.sort]) _ (@texit_y (tkS (cntS s 8) (cntV s 8).toNat) (tkL (cntS s 8) (cntV s 8).toNat) ([]) ([]) (0) qa hx) (by kernel_rfl) (.n)
 have oz8:=@bad_v (cntS (lstS (cntS (tkS (cntS s 8) (cntV s 8).toNat) 1)) 2147483647) qe
 exact mR_ [r_,r_,d_,r_,r_,.r [] [.callm [(100000,100000),(6,100001)] [] (rM oz1) (oM oz1)],r_,.code [.any [3,6,10,11,13,14,15,16,17],.drop [6],.weak 19 (i64 (↑0:Int)),.nilc 900 56 19 5 0,.blk 2 (Blk.var [AV.any,AV.any,AV.any,AV.any,AV.any]),.blk 5 (Blk.var [AV.own 900,bv false,AV.sl 1 [],AV.sl 1 [],i32 0]),.blk 100000 (Blk.var [AV.sl 1 (K_ (row1 .u8) (tkS (cntS s 8) 0).fst),i64 (tkS (cntS s 8) 0).snd]),.sort] (BO_ 0) (zO oz6),.r [] [.callm [(900,950),(100000,100000),(5,100001)] [(950,20000)] (rM oz7) (oM oz7)],.r [] [cm oz8],r_,d_,r_] [.frz 20000,.drop [2,4,5],.sort] _ Tryz.func98 (.c8 z1_ oz1 w0_ (show BlkW (Blk.var [AV.lit (AQ_ none (0:Nat) (0:Nat)),bv false,AV.lit (AQ_ none (0:Nat) (0:Nat)),AV.lit (AQ_ none (0:Nat) (0:Nat)),i32 (0:Int)]) (Blk.var [AV.any,AV.any,AV.any,AV.any,AV.any]) from (BlkW.var (m:=[AV.any,AV.any,AV.any,AV.any,AV.any]) (.cons (BG_ _) (.cons (BG_ _) (.cons (BG_ _) (.cons (BG_ _) (.cons (BG_ _) .nil))))))) (show BlkW (Blk.var [AV.own (900:Nat),bv false,AV.lit (AQ_ none (0:Nat) (0:Nat)),AV.lit (AQ_ none (0:Nat) (0:Nat)),i32 (0:Int)]) (Blk.var [AV.own (900:Nat),bv false,AV.sl (1:Nat) [],AV.sl (1:Nat) [],i32 (0:Int)]) from (BlkW.var (m:=[AV.own 900,bv false,AV.sl 1 [],AV.sl 1 [],i32 0]) (.cons (.refl _) (.cons (.refl _) (.cons (AG_ _) (.cons (AG_ _) (.cons (.refl _) .nil))))))) (show BlkW (Blk.var [AV.sl 1 (K_ (row1 .u8) (cntS s 8).fst),i64 (cntS s 8).snd]) (Blk.var [AV.sl 1 (K_ (row1 .u8) (tkS (cntS s 8) 0).fst),i64 (tkS (cntS s 8) 0).snd]) from (BlkW.var (m:=[AV.sl 1 (K_ (row1 .u8) (tkS (cntS s 8) 0).fst),i64 (tkS (cntS s 8) 0).snd]) (.cons (BQ_ (rows_to (row1 .u8) (r:=K_ (row1 .u8) (cntS s 8).fst) (l:=(cntS s 8).fst) (m:=(tkS (cntS s 8) 0).fst) rfl (show ((cntS s 8).fst)=((tkS (cntS s 8) 0).fst) from (by rfl)))) (.cons (Q_ (by rfl)) .nil)))) oz6 oz7<|.d2 oz8 (show ((cntS (lstS (cntS (tkS (cntS s 8) (cntV s 8).toNat) 1)) 2147483647).snd != 0)=false by (simp;omega)))
theorem tkS_succ (s:Rst) (k:Nat):tkS s (k+1)=tkS (takeS s) k:=by
 induction k with
 | zero=>rfl
 | succ k ih=>rw[tkS,ih];rfl
def takeB:Nat→Rst→Int×Rst
 | 0,s=>(0,s)
 | n+1,s=>if (takeR s).2≠0 then ((takeR s).2,takeS s) else takeB n (takeS s)
theorem takeB_y {n:Nat}:∀ {s:Rst},(∀ k,k<n→(takeR (tkS s k)).2=0)→takeB n s=(0,tkS s n):=by
 induction n with
 | zero=>intro s _;rfl
 | succ n ih =>
  intro s h
  have h0:(takeR s).2=0:=h 0 (by omega)
  rw[takeB,j_ (by simpa using h0),tkS_succ]
  refine ih fun k hk=>?_
  rw[←tkS_succ];exact h (k+1) (by omega)
theorem takeB_n {n:Nat}:∀ {s:Rst} {m:Nat},m<n→(takeR (tkS s m)).2≠0→(∀ k,k<m→(takeR (tkS s k)).2=0)→takeB n s=((takeR (tkS s m)).2,tkS s (m+1)):=by
 induction n with
 | zero=>intro s m hm;omega
 | succ n ih =>
  intro s m hm hf h
  cases m with
  | zero=>rw[takeB,i_ (by exact hf)];rfl
  | succ m =>
   have h0:(takeR s).2=0:=h 0 (by omega)
   rw[takeB,j_ (by simpa using h0),tkS_succ s m,tkS_succ s (m+1)]
   rw[tkS_succ] at hf
   refine ih (by omega) hf fun k hk=>?_
   rw[←tkS_succ];exact h (k+1) (by omega)
theorem first_of {n:Nat} {p:Nat→Prop}:(∀ k,k<n→p k)∨∃ m,m<n∧¬ p m∧∀ k,k<m→p k:=by
 induction n with
 | zero=>exact .inl fun k hk=>by omega
 | succ n ih =>
  rcases ih with h|⟨m,hm,hf,h⟩
  ·by_cases hp:p n
   ·exact .inl fun k hk=>by
     by_cases hk2:k<n
     ·exact h k hk2
     ·rw[show k=n by omega];exact hp
   ·exact .inr ⟨n,by omega,hp,h⟩
  ·exact .inr ⟨m,by omega,hf,h⟩
def blc0:Blc:=⟨[],false,[],[],0⟩
def exN (s:Rst) (l:List Nod):Blc:=if cntV s 1=1 then ⟨l,true,lstW (cntS s 1),lstB (cntS s 1),cntV (lstS (cntS s 1)) 2147483647⟩ else ⟨l,false,[],[],0⟩
def nodesT (s:Rst):List Nod:=tkL (cntS s 8) (cntV s 8).toNat
def blkT (s:Rst):(Blc×Int)×Rst :=
 if (takeB (cntV s 8).toNat (cntS s 8)).1≠0 then ((blc0,(takeB (cntV s 8).toNat (cntS s 8)).1),(takeB (cntV s 8).toNat (cntS s 8)).2)
 else if (exS (stB s)).2≠0 then ((blc0,(exS (stB s)).2),exS (stB s)) else ((exN (stB s) (nodesT s),0),exS (stB s))
theorem blkT_f {s:Rst} {m:Nat} (hm:m<(cntV s 8).toNat) (hf:(takeR (tkS (cntS s 8) m)).2≠0) (h:∀ k,k<m→(takeR (tkS (cntS s 8) k)).2=0):blkT s=((blc0,(takeR (tkS (cntS s 8) m)).2),tkS (cntS s 8) (m+1)):=by
 unfold blkT;rw[takeB_n hm hf h,i_ (by exact hf)]
theorem blkT_b {s:Rst} (h:∀ k,k<(cntV s 8).toNat→(takeR (tkS (cntS s 8) k)).2=0) (hb:(exS (stB s)).2≠0):blkT s=((blc0,(exS (stB s)).2),exS (stB s)):=by
 unfold blkT;rw[takeB_y h,j_ (by simp),i_ hb]
theorem blkT_y {s:Rst} (h:∀ k,k<(cntV s 8).toNat→(takeR (tkS (cntS s 8) k)).2=0) (hb:(exS (stB s)).2=0):blkT s=((exN (stB s) (nodesT s),0),exS (stB s)):=by
 unfold blkT;rw[takeB_y h,j_ (by simp),j_ (by simpa using hb)]
theorem blkT_cases (s:Rst):(∃ m,m<(cntV s 8).toNat∧(takeR (tkS (cntS s 8) m)).2≠0∧∀ k,k<m→(takeR (tkS (cntS s 8) k)).2=0)∨((∀ k,k<(cntV s 8).toNat→(takeR (tkS (cntS s 8) k)).2=0)∧(exS (stB s)).2≠0)∨((∀ k,k<(cntV s 8).toNat→(takeR (tkS (cntS s 8) k)).2=0)∧(exS (stB s)).2=0):=by
 rcases first_of (n:=(cntV s 8).toNat) (p:=fun k=>(takeR (tkS (cntS s 8) k)).2=0) with h|h
 ·by_cases hb:(exS (stB s)).2=0
  ·exact .inr (.inr ⟨h,hb⟩)
  ·exact .inr (.inl ⟨h,hb⟩)
 ·exact .inl h
theorem exS_fit {s:Rst} (h:s.Fit):(exS s).Fit:=by
 unfold exS
 split
 ·exact cnt_fit (lst_fit (cnt_fit h 1)) _
 ·exact cnt_fit h 1
theorem blkT_fit {s:Rst} (h:s.Fit):(blkT s).2.Fit:=by
 rcases blkT_cases s with ⟨m,hm,hf,hh⟩|⟨hh,hb⟩|⟨hh,hb⟩
 ·rw[blkT_f hm hf hh];exact tkS_fit (cnt_fit h 8) _
 ·rw[blkT_b hh hb];exact exS_fit (tkS_fit (cnt_fit h 8) _)
 ·rw[blkT_y hh hb];exact exS_fit (tkS_fit (cnt_fit h 8) _)
theorem ptake_v (s:Rst) (h:s.Fit):VM L_ 98 [.ptr 100000 0 0] [(100000,.var (rdC s))] (.tup [blc (blkT s).1.1,i64 (blkT s).1.2]) [(100000,.var (rdC (blkT s).2))]:=by
 rcases blkT_cases s with ⟨m,hm,hf,hh⟩|⟨hh,hb⟩|⟨hh,hb⟩
 ·rw[blkT_f hm hf hh];exact ptake_f s m h hm hf hh
 ·rw[blkT_b hh hb]
  unfold exS stB at hb ⊢
  by_cases hx:cntV (tkS (cntS s 8) (cntV s 8).toNat) 1=1
  ·rw[i_ hx] at hb ⊢;exact ptake_yb s h hh hx hb
  ·rw[j_ hx] at hb ⊢;exact ptake_nb s h hh hx hb
 ·rw[blkT_y hh hb]
  unfold exS at hb ⊢
  unfold stB at hb ⊢
  unfold exN
  by_cases hx:cntV (tkS (cntS s 8) (cntV s 8).toNat) 1=1
  ·rw[i_ hx] at hb ⊢;rw[i_ hx];exact ptake_yy s h hh hx hb
  ·rw[j_ hx] at hb ⊢;rw[j_ hx];exact ptake_ny s h hh hx hb
def headX (x:Blc):Int:=if x.ex=false∧(0<x.w.length∨0<x.b.length∨x.nd≠0) then 11 else if x.nd<0∨16384<x.w.length∨16384<x.b.length then 3 else 0
def nodesE:List Nod→Int
 | []=>0
 | n::l=>if (nodeP n).2≠0 then (nodeP n).2 else nodesE l
theorem nodesE_y {l:List Nod}:(∀ n∈l,(nodeP n).2=0)→nodesE l=0:=by
 induction l with
 | nil=>intro _;rfl
 | cons n l ih =>
  intro h
  rw[nodesE,j_ (by simpa using h n (by simp))]
  exact ih fun y hy=>h y (by simp[hy])
theorem nodesE_0 {l:List Nod}:nodesE l=0→∀ n∈l,(nodeP n).2=0:=by
 induction l with
 | nil=>intro _ n hn;cases hn
 | cons n l ih =>
  intro h y hy
  by_cases q:(nodeP n).2=0
  ·rw[nodesE,j_ (by simpa using q)] at h
   rcases List.mem_cons.1 hy with e|hy
   ·rw[e];exact q
   ·exact ih h y hy
  ·rw[nodesE,i_ q] at h;exact absurd h q
theorem nodesE_n {l:List Nod}:∀ {m:Nat},m<l.length→(nodeP (l.getD m default)).2≠0→(∀ k,k<m→(nodeP (l.getD k default)).2=0)→nodesE l=(nodeP (l.getD m default)).2:=by
 induction l with
 | nil=>intro m hm;simp at hm
 | cons n l ih =>
  intro m hm hf h
  cases m with
  | zero=>rw[nodesE,i_ (by exact hf)];rfl
  | succ m =>
   have h0:(nodeP n).2=0:=h 0 (by omega)
   rw[nodesE,j_ (by simpa using h0)]
   exact ih (by simpa using hm) hf fun k hk=>h (k+1) (by omega)
def exitL (B:List Int) (x:Blc):List Int:=if x.ex=true then B++putN 1++putN (x.w.length:Int)++smallL x.w++putN (x.b.length:Int)++wideL x.b++putN x.nd else B++putN 0
def blockR (x:Blc):List Int×Int:=if 8<x.n.length then ([],4) else if nodesE x.n≠0 then ([],nodesE x.n) else if headX x≠0 then ([],headX x) else (exitL (accB x.n (putN (x.n.length:Int)) x.n.length) x,0)
def catB:List Nod→List Int
 | []=>[]
 | n::l=>(nodeP n).1++catB l
theorem accB_cons (n:Nod) (l:List Nod) (B:List Int) (k:Nat):accB (n::l) B (k+1)=accB l (B++(nodeP n).1) k:=by
 induction k with
 | zero=>rfl
 | succ k ih=>rw[accB,ih];rfl
theorem accB_cat (l:List Nod):∀ B,accB l B l.length=B++catB l:=by
 induction l with
 | nil=>intro B;simp[accB,catB]
 | cons n l ih=>intro B;rw[AE_,accB_cons,ih,catB,AZ_]
theorem exitL_app (B C:List Int) (x:Blc):exitL (B++C) x=B++exitL C x:=by
 unfold exitL;split<;>simp only[AZ_]
theorem tkL_succ (s:Rst) (k:Nat):tkL s (k+1)=(takeR s).1::tkL (takeS s) k:=by
 induction k with
 | zero=>rfl
 | succ k ih=>rw[tkL,ih,tkS_succ];rfl
theorem tk_there (l:List Nod):(∀ n∈l,n.Ok∧(nodeP n).2=0)→∀ r,(∀ k,k<l.length→(takeR (tkS (catB l++r,0) k)).2=0)∧tkS (catB l++r,0) l.length=(r,0)∧tkL (catB l++r,0) l.length=l:=by
 induction l with
 | nil=>intro _ r;exact ⟨fun k hk=>by simp at hk,rfl,rfl⟩
 | cons n l ih =>
  intro h r
  obtain ⟨ok,e⟩:=h n (by simp)
  obtain ⟨a1,a2⟩:=take_there ok e (catB l++r)
  obtain ⟨b1,b2,b3⟩:=ih (fun y hy=>h y (by simp[hy])) r
  rw[catB,AZ_,AE_,tkS_succ,tkL_succ,a1,a2,b2,b3]
  refine ⟨fun k hk=>?_,rfl,rfl⟩
  cases k with
  | zero=>exact congrArg Prod.snd a2
  | succ k=>rw[tkS_succ,a1];exact b1 k (by omega)
theorem tk_back {n:Nat}:∀ {s:Rst},s.In→(∀ k,k<n→(takeR (tkS s k)).2=0)→s.1=catB (tkL s n)++(tkS s n).1∧∀ y∈tkL s n,y.Ok∧(nodeP y).2=0:=by
 induction n with
 | zero=>intro s _ _;exact ⟨rfl,fun y hy=>by cases hy⟩
 | succ n ih =>
  intro s h hh
  have h0:(takeR s).2=0:=hh 0 (by omega)
  obtain ⟨a,b⟩:=take_back h h0
  have i2:(takeS s).In:=by
   have hb:=h.b;have hl:=h.l
   rw[b] at hb hl
   exact ⟨fun x hx=>hb x (by simp[hx]),by rw[P_] at hl;omega⟩
  obtain ⟨c,d⟩:=ih i2 fun k hk=>by rw[←tkS_succ];exact hh (k+1) (by omega)
  rw[tkL_succ,tkS_succ,catB,a,AZ_,←c]
  refine ⟨b,fun y hy=>?_⟩
  rcases List.mem_cons.1 hy with e|hy
  ·rw[e];exact ⟨takeR_ok s h,by rw[a]⟩
  ·exact d y hy
theorem ex_there {x:Blc} (ok:x.Ok) (h:headX x=0) (l:List Nod) (b:List Int):exS (exitL [] x++b,0)=(b,0)∧exN (exitL [] x++b,0) l=⟨l,x.ex,x.w,x.b,x.nd⟩:=by
 obtain ⟨ln,ex,w,bb,nd⟩:=x
 unfold headX at h
 dsimp only at h
 cases ex with
 | false =>
  have e:w=[]∧bb=[]∧nd=0:=by
   by_cases q:0<w.length∨0<bb.length∨nd≠0
   ·rw[i_ ⟨rfl,q⟩] at h;cases h
   ·exact ⟨List.length_eq_zero_iff.1 (by omega),List.length_eq_zero_iff.1 (by omega),by omega⟩
  obtain ⟨rfl,rfl,rfl⟩:=e
  have a:=cnt_there (v:=0) (m:=1) (by decide) (by decide) (by decide) b
  have hx:exitL [] ⟨ln,false,[],[],0⟩=putN 0:=rfl
  rw[hx]
  unfold exS exN
  rw[a.2,a.1,j_ (by decide),j_ (by decide)]
  exact ⟨rfl,rfl⟩
 | true =>
  rw[j_ (by simp)] at h
  have e:0≤nd∧w.length≤16384∧bb.length≤16384:=by
   by_cases q:nd<0∨16384<w.length∨16384<bb.length
   ·rw[i_ q] at h;cases h
   ·omega
  have hn:=ok.nd
  have a1:=cntS_there (v:=1) (m:=1) (by decide) (by decide)
  have a2:=cntV_there (v:=1) (m:=1) (by decide) (by decide)
  have b1:=cntS_there (v:=nd) (m:=2147483647) ⟨e.1,hn.2⟩ (by decide)
  have b2:=cntV_there (v:=nd) (m:=2147483647) ⟨e.1,hn.2⟩ (by decide)
  have l0:=lst_there e.2.1 e.2.2 ok.w ok.b
  have l1:=fun b=>(l0 b).1
  have l2:=fun b=>(l0 b).2.1
  have l3:=fun b=>(l0 b).2.2
  unfold exitL exS exN
  simp only[if_true,List.nil_append,AZ_,a1,a2,l1,l2,l3,b1,b2,and_self]
theorem ex_back {s:Rst} (h:s.In) (hs:(exS s).2=0) (l:List Nod):s.1=exitL [] (exN s l)++(exS s).1∧headX (exN s l)=0:=by
 unfold exS exN at *
 by_cases hx:cntV s 1=1
 ·rw[i_ hx] at hs
  rw[i_ hx,i_ hx]
  have i1:=cnt_in h 1
  have i2:=cnt_in i1 16384
  have i3:(lst1 (cntS s 1)).In:=sml_in i2 _
  have i4:=cnt_in i3 16384
  have i5:=lst_in i1
  have h5:=cnt_ok hs
  have h4:(cntS (lst1 (cntS s 1)) 16384).2=0:=wid_ok h5
  have h3:=cnt_ok h4
  have h2:(cntS (cntS s 1) 16384).2=0:=sml_ok h3
  have h1:=cnt_ok h2
  have r1:=cntV_rng (m:=16384) i1 (by decide)
  have r2:=cntV_rng (m:=16384) i3 (by decide)
  have r3:=cntV_rng (m:=2147483647) i5 (by decide)
  obtain ⟨c1,d1⟩:=sml_back i2 h3 r1.1
  obtain ⟨c2,d2⟩:=wid_back i4 h5 r2.1
  have e0:s.1=putN 1++(cntS s 1).1:=by have:=cnt_back h h1;rw[hx] at this;exact this
  have e1:(cntS s 1).1=putN ((lstW (cntS s 1)).length:Int)++(cntS (cntS s 1) 16384).1:=by
   rw[show ((lstW (cntS s 1)).length:Int)=cntV (cntS s 1) 16384 from d1];exact cnt_back i1 h2
  have e2:(cntS (cntS s 1) 16384).1=smallL (lstW (cntS s 1))++(lst1 (cntS s 1)).1:=c1
  have e3:(lst1 (cntS s 1)).1=putN ((lstB (cntS s 1)).length:Int)++(cntS (lst1 (cntS s 1)) 16384).1:=by
   rw[show ((lstB (cntS s 1)).length:Int)=cntV (lst1 (cntS s 1)) 16384 from d2];exact cnt_back i3 h4
  have e4:(cntS (lst1 (cntS s 1)) 16384).1=wideL (lstB (cntS s 1))++(lstS (cntS s 1)).1:=c2
  have e5:=cnt_back i5 hs
  have k1:(lstW (cntS s 1)).length≤16384:=by
   have:((lstW (cntS s 1)).length:Int)=cntV (cntS s 1) 16384:=d1
   omega
  have k2:(lstB (cntS s 1)).length≤16384:=by
   have:((lstB (cntS s 1)).length:Int)=cntV (lst1 (cntS s 1)) 16384:=d2
   omega
  refine ⟨?_,?_⟩
  ·unfold exitL
   simp only[if_true,List.nil_append,AZ_]
   exact e0.trans (congrArg (putN 1 ++ ·) (e1.trans (congrArg (putN ((lstW (cntS s 1)).length:Int) ++ ·) (e2.trans (congrArg (smallL (lstW (cntS s 1)) ++ ·) (e3.trans (congrArg (putN ((lstB (cntS s 1)).length:Int) ++ ·) (e4.trans (congrArg (wideL (lstB (cntS s 1)) ++ ·) e5)))))))))
  ·unfold headX
   dsimp only
   rw[j_ (by simp),j_ (by omega)]
 ·rw[j_ hx] at hs
  rw[j_ hx,j_ hx]
  have r:=cntV_rng (m:=1) h (by decide)
  have e:=cnt_back h hs
  rw[show cntV s 1=0 from by omega] at e
  refine ⟨?_,?_⟩
  ·unfold exitL
   rw[j_ (by simp),List.nil_append];exact e
  ·unfold headX
   dsimp only
   rw[j_ (by simp),j_ (by simp)]
theorem tkS_ok {s:Rst} {n:Nat} (h:(tkS s n).2=0):s.2=0:=by
 induction n with
 | zero=>exact h
 | succ n ih=>exact ih (takeS_ok h)
theorem exS_ok {s:Rst} (h:(exS s).2=0):s.2=0:=by
 unfold exS at h
 split at h
 ·exact cnt_ok (cnt_ok (sml_ok (cnt_ok (wid_ok (cnt_ok h)))))
 ·exact cnt_ok h
theorem blk_there {x:Blc} (ok:x.Ok) (h:(blockR x).2=0) (b:List Int):blkT ((blockR x).1++b,0)=((x,0),(b,0)):=by
 unfold blockR at h ⊢
 by_cases h1:8<x.n.length
 ·rw[i_ h1] at h;cases h
 rw[j_ h1] at h ⊢
 by_cases h2:nodesE x.n≠0
 ·rw[i_ h2] at h;exact absurd h h2
 rw[j_ h2] at h ⊢
 by_cases h3:headX x≠0
 ·rw[i_ h3] at h;exact absurd h h3
 rw[j_ h3]
 have h3:headX x=0:=Classical.not_not.1 h3
 have hn:=nodesE_0 (Classical.not_not.1 h2)
 obtain ⟨t1,t2,t3⟩:=tk_there x.n (fun n hn'=>⟨ok.n n hn',hn n hn'⟩) (exitL [] x++b)
 obtain ⟨x1,x2⟩:=ex_there ok h3 x.n b
 have c:=cnt_there (v:=(x.n.length:Int)) (m:=8) (by omega) (by omega) (by decide) (catB x.n++(exitL [] x++b))
 dsimp only
 rw[accB_cat,show putN (x.n.length:Int)++catB x.n=(putN (x.n.length:Int)++catB x.n)++[] from (List.append_nil _).symm,exitL_app,AZ_,AZ_]
 have hs:stB (putN (x.n.length:Int)++(catB x.n++(exitL [] x++b)),0)=(exitL [] x++b,0):=by
  unfold stB;rw[c.1,c.2,AJ_,t2]
 rw[blkT_y (by rw[c.1,c.2,AJ_];exact t1) (by rw[hs,x1])]
 have hl:nodesT (putN (x.n.length:Int)++(catB x.n++(exitL [] x++b)),0)=x.n:=by
  unfold nodesT;rw[c.1,c.2,AJ_,t3]
 rw[hs,hl,x1,x2]
theorem blk_back {s:Rst} (h:s.In) (he:(blkT s).1.2=0):(blockR (blkT s).1.1).2=0∧s.1=(blockR (blkT s).1.1).1++(blkT s).2.1∧(blkT s).2.2=0∧(blkT s).1.1.Ok∧(blkT s).1.1.n.length≤8∧headX (blkT s).1.1=0:=by
 rcases blkT_cases s with ⟨m,hm,hf,hh⟩|⟨hh,hb⟩|⟨hh,hb⟩
 ·rw[blkT_f hm hf hh] at he;exact absurd he hf
 ·rw[blkT_b hh hb] at he;exact absurd he hb
 ·rw[blkT_y hh hb]
  have i1:=cnt_in h 8
  obtain ⟨a1,a2⟩:=tk_back i1 hh
  have hst:(stB s).2=0:=exS_ok hb
  have hc:(cntS s 8).2=0:=tkS_ok hst
  have r:=cntV_rng (m:=8) h (by decide)
  have ist:(stB s).In:=by
   have hb:=i1.b;have hl:=i1.l
   rw[a1] at hb hl
   exact ⟨fun x hx=>hb x (List.mem_append.2 (.inr hx)),by rw[P_] at hl;unfold stB;omega⟩
  obtain ⟨x1,x2⟩:=ex_back ist hb (nodesT s)
  have ln:(nodesT s).length=(cntV s 8).toNat:=tkL_len _ _
  have en:(exN (stB s) (nodesT s)).n=nodesT s:=by unfold exN;split<;>rfl
  have hN:nodesE (nodesT s)=0:=nodesE_y fun n hn=>(a2 n hn).2
  have hB:blockR (exN (stB s) (nodesT s))=(exitL (accB (nodesT s) (putN ((nodesT s).length:Int)) (nodesT s).length) (exN (stB s) (nodesT s)),0):=by
   unfold blockR
   rw[en,j_ (by omega),j_ (by simpa using hN),j_ (by simpa using x2)]
  have hok:(exN (stB s) (nodesT s)).Ok:=by
   have on:∀ n∈nodesT s,n.Ok:=fun n hn=>(a2 n hn).1
   unfold exN
   split
   ·exact ⟨on,smlV8 _ _,widV32 _ _,cntV32 (lst_in (cnt_in ist _)) (by decide) (by decide)⟩
   ·exact ⟨on,nil8,nil32,z32⟩
  refine ⟨by rw[hB],?_,hb,hok,by rw[en,ln];omega,x2⟩
  rw[hB]
  dsimp only
  rw[accB_cat,show putN ((nodesT s).length:Int)++catB (nodesT s)=(putN ((nodesT s).length:Int)++catB (nodesT s))++[] from (List.append_nil _).symm,exitL_app,AZ_,←x1,AZ_,show ((nodesT s).length:Int)=cntV s 8 from by rw[ln];omega]
  rw[cnt_back h hc]
  exact congrArg (putN (cntV s 8) ++ ·) a1
theorem headMay_a (x:Blc) (h:x.ex=false) (h2:0<x.w.length∨0<x.b.length∨x.nd≠0):VC L_ 92 ([blc x]) (i64 11):=by
 rcases bft (!x.ex&&(decide (((K_ (row1 .i8) x.w).length:Int)>0) || decide (((K_ (row1 .i32) x.b).length:Int)>0) || x.nd != 0)) with hc0|hc0
 ·have gc0:x.ex=false∧((((K_ (row1 .i8) x.w).length:Int)>0∨((K_ (row1 .i32) x.b).length:Int)>0)∨¬x.nd=0):=gc0_ hc0
  exact cR_ [r_,r_,.r [] [o_,o_,o_,o_,o_,o_,o_,o_,o_,o_,.sel 1,o_,o_,o_,o_,o_,.sel 1,.sel 2],b_,r_] _ Tryz.func92 (.d hc0)
 ·have gc0:x.ex=true∨(¬((K_ (row1 .i8) x.w).length:Int)>0∧¬((K_ (row1 .i32) x.b).length:Int)>0)∧x.nd=0:=gc0_ hc0
  rcases bft (decide (x.nd<0) || decide (((K_ (row1 .i8) x.w).length:Int)>16384) || decide (((K_ (row1 .i32) x.b).length:Int)>16384)) with hc1|hc1
  ·have gc1:(x.nd<0∨((K_ (row1 .i8) x.w).length:Int)>16384)∨((K_ (row1 .i32) x.b).length:Int)>16384:=gc0_ hc1
   exact (cR_ [r_,r_,.r [] [o_,o_,o_,o_,o_,o_,o_,o_,o_,o_,.sel 1,o_,o_,o_,o_,o_,.sel 1,.sel 2],d_,.r [] [o_,o_,o_,o_,.sel 1,o_,o_,o_,o_,.sel 1],b_,r_] (i64 3) Tryz.func92 (.d2 hc0 hc1)).weak (AM_ _) (Q_ (by (simp_all;done)))
  ·have gc1:(¬x.nd<0∧¬((K_ (row1 .i8) x.w).length:Int)>16384)∧¬((K_ (row1 .i32) x.b).length:Int)>16384:=gc0_ hc1
   exact (cR_ [r_,r_,.r [] [o_,o_,o_,o_,o_,o_,o_,o_,o_,o_,.sel 1,o_,o_,o_,o_,o_,.sel 1,.sel 2],d_,.r [] [o_,o_,o_,o_,.sel 1,o_,o_,o_,o_,.sel 1],d_,r_] (i64 0) Tryz.func92 (.d2 hc0 hc1)).weak (AM_ _) (Q_ (by (simp_all;done)))
theorem headMay_b (x:Blc) (h:¬ (x.ex=false∧(0<x.w.length∨0<x.b.length∨x.nd≠0))) (h2:x.nd<0∨16384<x.w.length∨16384<x.b.length):VC L_ 92 ([blc x]) (i64 3):=by
 rcases bft (!x.ex&&(decide (((K_ (row1 .i8) x.w).length:Int)>0) || decide (((K_ (row1 .i32) x.b).length:Int)>0) || x.nd != 0)) with hc0|hc0
 ·have gc0:x.ex=false∧((((K_ (row1 .i8) x.w).length:Int)>0∨((K_ (row1 .i32) x.b).length:Int)>0)∨¬x.nd=0):=gc0_ hc0
  exact (cR_ [r_,r_,.r [] [o_,o_,o_,o_,o_,o_,o_,o_,o_,o_,.sel 1,o_,o_,o_,o_,o_,.sel 1,.sel 2],b_,r_] (i64 11) Tryz.func92 (.d hc0)).weak (AM_ _) (Q_ (by (simp_all;done)))
 ·have gc0:x.ex=true∨(¬((K_ (row1 .i8) x.w).length:Int)>0∧¬((K_ (row1 .i32) x.b).length:Int)>0)∧x.nd=0:=gc0_ hc0
  exact cR_ [r_,r_,.r [] [o_,o_,o_,o_,o_,o_,o_,o_,o_,o_,.sel 1,o_,o_,o_,o_,o_,.sel 1,.sel 2],d_,.r [] [o_,o_,o_,o_,.sel 1,o_,o_,o_,o_,.sel 1],b_,r_] _ Tryz.func92 (.d2 hc0 (show (decide (x.nd<0) || decide (((K_ (row1 .i8) x.w).length:Int)>16384) || decide (((K_ (row1 .i32) x.b).length:Int)>16384))=true by (simp;omega)))
theorem headMay_c (x:Blc) (h:¬ (x.ex=false∧(0<x.w.length∨0<x.b.length∨x.nd≠0))) (h2:¬ (x.nd<0∨16384<x.w.length∨16384<x.b.length)):VC L_ 92 ([blc x]) (i64 0):=by
 rcases bft (!x.ex&&(decide (((K_ (row1 .i8) x.w).length:Int)>0) || decide (((K_ (row1 .i32) x.b).length:Int)>0) || x.nd != 0)) with hc0|hc0
 ·have gc0:x.ex=false∧((((K_ (row1 .i8) x.w).length:Int)>0∨((K_ (row1 .i32) x.b).length:Int)>0)∨¬x.nd=0):=gc0_ hc0
  exact (cR_ [r_,r_,.r [] [o_,o_,o_,o_,o_,o_,o_,o_,o_,o_,.sel 1,o_,o_,o_,o_,o_,.sel 1,.sel 2],b_,r_] (i64 11) Tryz.func92 (.d hc0)).weak (AM_ _) (Q_ (by (simp_all;done)))
 ·have gc0:x.ex=true∨(¬((K_ (row1 .i8) x.w).length:Int)>0∧¬((K_ (row1 .i32) x.b).length:Int)>0)∧x.nd=0:=gc0_ hc0
  have oz1:=(decide_eq_false (p:=(x.nd<0)) (by omega))
  exact cR_ [r_,r_,.r [] [o_,o_,o_,o_,o_,o_,o_,o_,o_,o_,.sel 1,o_,o_,o_,o_,o_,.sel 1,.sel 2],d_,.r [] [e_,e_,e_,e_,f_,o_,o_,o_,o_,.sel 1],d_,r_] _ Tryz.func92 (.d7 hc0 oz1 oz1 oz1 oz1 oz1 (show (decide (((K_ (row1 .i8) x.w).length:Int)>16384) || decide (((K_ (row1 .i32) x.b).length:Int)>16384))=false by (simp;omega)))
theorem headMay_v (x:Blc):VC L_ 92 [blc x] (i64 (headX x)):=by
 unfold headX
 split
 ·rename_i h;exact headMay_a x h.1 h.2
 ·rename_i h
  split
  ·rename_i h2;exact headMay_b x h h2
  ·rename_i h2;exact headMay_c x h h2
noncomputable def pblk_y_I (x:Blc) (B:List Int) (k:Nat):VS:=stt 59 [(1,.ptr 1 0 0),(4,.ptr 16 0 0),(23,.sl 19 (x.n.map nodC)),(24,i64 x.n.length),(25,i64 k)] [(1,.var (blcC x)),(16,.var [.own 900]),(900,.slc 5 1 ((accB x.n B k).map (row1 .u8)))]
noncomputable def pblk_y_Z (x:Blc) (B:List Int):VS:=pblk_y_I x B (x.n.length)
theorem pblk_y_s (x:Blc) (B:List Int) (hn:Nods x.n) (hl:x.n.length≤8) (hB:B.length≤10) (h:∀ k,k<x.n.length→(nodeP (x.n.getD k default)).2=0) (k:Nat) (hk:k<x.n.length):VT L_ (fnC Tryz.f57 [1,1,1,1,1,0,1,0,0]) (pblk_y_I x B k) .normal (pblk_y_I x B (k+1)):=by
 have q:=h k hk
 have q1:=getD_in hn.ok hk
 obtain ⟨q2,q3⟩:=getD_in hn.w hk
 have q4:=accB_le hn B (Nat.le_of_lt hk)
 have q5:=nodeR_le _ q1
 have q6:(x.n.getD k default).w.length≤100000:=by omega
 have q7:(x.n.getD k default).b.length≤100000:=by omega
 have oz2:=(map_at (nodC) (default) (l:=x.n) (i:=k) hk)
 have oz3:=@pnode_v (x.n.getD k default) q1 q6 q7
 exact tR_ [r_,b_,.r [] [.row (sO oz2)],.r [] [cr oz3],r_,d_,r_,.r [] [.n ((↑k:Int)+1)]] [.any (rg [(7,3),(26,10),(37,10)]),.drop [7],.ren 43 900,.weak 25 (i64 (↑(k+1):Int)),.blk 900 (Blk.slc 5 1 (K_ (row1 .u8) (accB x.n B (k+1)))),.sort] (.c8 (decide_eq_true (p:=((↑k:Int)<(x.n.length:Int))) (by omega)) (s_ (0≤(↑k:Int))) oz2 oz3 (show ((nodeP (x.n.getD k default)).snd != 0)=false by (simp at *;omega)) (show ((K_ (row1 .u8) (accB x.n B k)).length+(K_ (row1 .u8) (nodeP (x.n.getD k default)).fst).length)*1≤140737488355328 by (simp only[R_];omega)) (show (K_ (row1 .u8) (accB x.n B k)).length+(K_ (row1 .u8) (nodeP (x.n.getD k default)).fst).length≤9223372036854775807 by (simp only[R_];omega)) (i6n ((↑k:Int)+1) (by omega))<|.d2 (wS_ k) (show BlkW (Blk.slc 5 1 (K_ (row1 .u8) (accB x.n B k)++K_ (row1 .u8) (nodeP (x.n.getD k default)).fst)) (Blk.slc 5 1 (K_ (row1 .u8) (accB x.n B (k+1)))) from (BU_ (e:=5) (z:=1) (rows_to (row1 .u8) (r:=K_ (row1 .u8) (accB x.n B k)++K_ (row1 .u8) (nodeP (x.n.getD k default)).fst) (l:=accB x.n B k++(nodeP (x.n.getD k default)).fst) (m:=accB x.n B (k+1)) (by first|(simp only[B_,C_,AO_,AP_,W_,AK_,AL_];done)|rfl|(simp only[B_,C_,AO_,AP_,W_,AK_,AL_];rfl)) (show (accB x.n B k++(nodeP (x.n.getD k default)).fst)=(accB x.n B (k+1)) from (by rfl))))))
theorem pblk_y_e (x:Blc) (B:List Int) (hn:Nods x.n) (hl:x.n.length≤8) (hB:B.length≤10) (h:∀ k,k<x.n.length→(nodeP (x.n.getD k default)).2=0):VT L_ (fnC Tryz.f57 [1,1,1,1,1,0,1,0,0]) (pblk_y_I x B (x.n.length)) (.exit 0) (pblk_y_Z x B):=by
 exact tR_ [r_,d_] [.any [26],.sort] (.d (decide_eq_false (p:=((x.n.length:Int)<(x.n.length:Int))) (by omega)))
theorem pblk_y (x:Blc) (B:List Int) (hn:Nods x.n) (hl:x.n.length≤8) (hB:B.length≤10) (h:∀ k,k<x.n.length→(nodeP (x.n.getD k default)).2=0):VT L_ (fnC Tryz.f57 [1,1,1,1,1,0,1,0]) (pblk_y_I x B 0) (.exit 0) (pblk_y_Z x B) :=
 VT.loop (fun k=>pblk_y_I x B k) (x.n.length) (fun k hk=>pblk_y_s x B hn hl hB h k hk) (pblk_y_e x B hn hl hB h) (by intro h;cases h)
noncomputable def pblk_n_I (x:Blc) (B:List Int) (m:Nat) (k:Nat):VS:=stt 59 [(1,.ptr 1 0 0),(4,.ptr 16 0 0),(23,.sl 19 (x.n.map nodC)),(24,i64 x.n.length),(25,i64 k)] [(1,.var (blcC x)),(16,.var [.own 900]),(900,.slc 5 1 ((accB x.n B k).map (row1 .u8)))]
noncomputable def pblk_n_Z (x:Blc) (B:List Int) (m:Nat):VS:=stt 59 [(2,nilv),(3,i64 (nodeP (x.n.getD m default)).2)] []
theorem pblk_n_s (x:Blc) (B:List Int) (m:Nat) (hn:Nods x.n) (hl:x.n.length≤8) (hB:B.length≤10) (hm:m<x.n.length) (hf:(nodeP (x.n.getD m default)).2≠0) (h:∀ k,k<m→(nodeP (x.n.getD k default)).2=0) (k:Nat) (hk:k<m):VT L_ (fnC Tryz.f57 [1,1,1,1,1,0,1,0,0]) (pblk_n_I x B m k) .normal (pblk_n_I x B m (k+1)):=by
 have q:=h k hk
 have q0:k<x.n.length:=by omega
 have q1:=getD_in hn.ok q0
 obtain ⟨q2,q3⟩:=getD_in hn.w q0
 have q4:=accB_le hn B (Nat.le_of_lt q0)
 have q5:=nodeR_le _ q1
 have q6:(x.n.getD k default).w.length≤100000:=by omega
 have q7:(x.n.getD k default).b.length≤100000:=by omega
 have oz2:=(map_at (nodC) (default) (l:=x.n) (i:=k) q0)
 have oz3:=@pnode_v (x.n.getD k default) q1 q6 q7
 exact tR_ [r_,b_,.r [] [.row (sO oz2)],.r [] [cr oz3],r_,d_,r_,.r [] [.n ((↑k:Int)+1)]] [.any (rg [(7,3),(26,10),(37,10)]),.drop [7],.ren 43 900,.weak 25 (i64 (↑(k+1):Int)),.blk 900 (Blk.slc 5 1 (K_ (row1 .u8) (accB x.n B (k+1)))),.sort] (.c8 (decide_eq_true (p:=((↑k:Int)<(x.n.length:Int))) (by omega)) (s_ (0≤(↑k:Int))) oz2 oz3 (show ((nodeP (x.n.getD k default)).snd != 0)=false by (simp at *;omega)) (show ((K_ (row1 .u8) (accB x.n B k)).length+(K_ (row1 .u8) (nodeP (x.n.getD k default)).fst).length)*1≤140737488355328 by (simp only[R_];omega)) (show (K_ (row1 .u8) (accB x.n B k)).length+(K_ (row1 .u8) (nodeP (x.n.getD k default)).fst).length≤9223372036854775807 by (simp only[R_];omega)) (i6n ((↑k:Int)+1) (by omega))<|.d2 (wS_ k) (show BlkW (Blk.slc 5 1 (K_ (row1 .u8) (accB x.n B k)++K_ (row1 .u8) (nodeP (x.n.getD k default)).fst)) (Blk.slc 5 1 (K_ (row1 .u8) (accB x.n B (k+1)))) from (BU_ (e:=5) (z:=1) (rows_to (row1 .u8) (r:=K_ (row1 .u8) (accB x.n B k)++K_ (row1 .u8) (nodeP (x.n.getD k default)).fst) (l:=accB x.n B k++(nodeP (x.n.getD k default)).fst) (m:=accB x.n B (k+1)) (by first|(simp only[B_,C_,AO_,AP_,W_,AK_,AL_];done)|rfl|(simp only[B_,C_,AO_,AP_,W_,AK_,AL_];rfl)) (show (accB x.n B k++(nodeP (x.n.getD k default)).fst)=(accB x.n B (k+1)) from (by rfl))))))
theorem pblk_n_e (x:Blc) (B:List Int) (m:Nat) (hn:Nods x.n) (hl:x.n.length≤8) (hB:B.length≤10) (hm:m<x.n.length) (hf:(nodeP (x.n.getD m default)).2≠0) (h:∀ k,k<m→(nodeP (x.n.getD k default)).2=0):VT L_ (fnC Tryz.f57 [1,1,1,1,1,0,1,0,0]) (pblk_n_I x B m (m)) (.ret) (pblk_n_Z x B m):=by
 have q1:=getD_in hn.ok hm
 obtain ⟨q2,q3⟩:=getD_in hn.w hm
 have q6:(x.n.getD m default).w.length≤100000:=by omega
 have q7:(x.n.getD m default).b.length≤100000:=by omega
 have oz2:=(map_at (nodC) (default) (l:=x.n) (i:=m) hm)
 have oz3:=@pnode_v (x.n.getD m default) q1 q6 q7
 exact tR_ [r_,b_,.r [] [.row (sO oz2)],.r [] [cr oz3],r_,b_,r_] [.any (rg [(1,1),(4,1),(7,3),(23,14)]),.drop [1,16,900,7],.sort] (.d5 (decide_eq_true (p:=((↑m:Int)<(x.n.length:Int))) (by omega)) (s_ (0≤(↑m:Int))) oz2 oz3 (show ((nodeP (x.n.getD m default)).snd != 0)=true by (simp at *;omega)))
theorem pblk_n (x:Blc) (B:List Int) (m:Nat) (hn:Nods x.n) (hl:x.n.length≤8) (hB:B.length≤10) (hm:m<x.n.length) (hf:(nodeP (x.n.getD m default)).2≠0) (h:∀ k,k<m→(nodeP (x.n.getD k default)).2=0):VT L_ (fnC Tryz.f57 [1,1,1,1,1,0,1,0]) (pblk_n_I x B m 0) (.ret) (pblk_n_Z x B m) :=
 VT.loop (fun k=>pblk_n_I x B m k) (m) (fun k hk=>pblk_n_s x B m hn hl hB hm hf h k hk) (pblk_n_e x B m hn hl hB hm hf h) (by intro h;cases h)
theorem pblock_f (x:Blc) (h:8<x.n.length):VC L_ 57 ([blc x]) (.tup [.sl 1 (([]:List Int).map (row1 .u8)),i64 4]):=by
 exact (cR_ [r_,r_,b_,r_] (AV.tup [AV.lit (AQ_ none 0 0),i64 4]) Tryz.func57 (.d (show decide (((K_ nodC x.n).length:Int)>8)=true by (simp;omega)))).weak (AM_ _) (AI_ (.cons (AG_ _) (.cons (.refl _) .nil)))
theorem pblock_n (L:Int→List Int) (x:Blc) (m:Nat) (hL:Puts L) (hn:Nods x.n) (hl:x.n.length≤8) (hm:m<x.n.length) (hf:(nodeP (x.n.getD m default)).2≠0) (h:∀ k,k<m→(nodeP (x.n.getD k default)).2=0):VC L_ 57 ([blc x]) (.tup [.sl 1 (([]:List Int).map (row1 .u8)),i64 (nodeP (x.n.getD m default)).2]):=by
 have hB:([]++L (x.n.length:Int)).length≤10:=hL.l _
 have oz1:=@VM.pre _ _ ([AV.ptr 100000 0 0,AV.ptr 100001 0 0,i64 8]) _ ([(100000,Blk.var [AV.lit (AQ_ none 0 0)]),(100001,Blk.var [i64 ((K_ nodC x.n).length:Int)])]) _ _ _ ([GI.nilc 950 5 1 100000 0,GI.sort]) _ (@lnum_1 ([]) (L) (((K_ nodC x.n).length:Int)) (8) (by (simp;done)) hL) (by kernel_rfl) (.n)
 have oz5:=@pblk_n (x) ([]++L ((K_ nodC x.n).length:Int)) (m) hn hl (by (simp only[R_] at *;omega)) hm hf h
 exact (cR_ [r_,r_,d_,r_,r_,.r [] [.callm [(16,100000),(5,100001)] [(951,20000)] (rM oz1) (oM oz1)],r_,.code [.any (rg [(0,1),(2,2),(5,1),(11,12)]),.drop [5],.ren 20000 900,.weak 24 (i64 (x.n.length:Int)),.weak 25 (i64 (↑0:Int)),.blk 900 (Blk.slc 5 1 (K_ (row1 .u8) (accB x.n ([]++L ((K_ nodC x.n).length:Int)) 0))),.sort] (Exit.ret) (zO oz5)] (AV.tup [AV.lit (AQ_ none 0 0),i64 (nodeP (x.n.getD m default)).snd]) Tryz.func57 (.d6 (show decide (((K_ nodC x.n).length:Int)>8)=false by (simp;omega)) oz1 (Q_ (k:=.i64) (show ((((K_ nodC x.n).length:Int)):Int)=((x.n.length:Int)) from (by (simp;done)))) w0_ (show BlkW (Blk.slc 5 1 (K_ (row1 .u8) ([]++L ((K_ nodC x.n).length:Int)))) (Blk.slc 5 1 (K_ (row1 .u8) (accB x.n ([]++L ((K_ nodC x.n).length:Int)) 0))) from (BU_ (e:=5) (z:=1) (rows_to (row1 .u8) (r:=K_ (row1 .u8) ([]++L ((K_ nodC x.n).length:Int))) (l:=[]++L ((K_ nodC x.n).length:Int)) (m:=accB x.n ([]++L ((K_ nodC x.n).length:Int)) 0) rfl (show ([]++L ((K_ nodC x.n).length:Int))=(accB x.n ([]++L ((K_ nodC x.n).length:Int)) 0) from (by rfl))))) oz5)).weak (AM_ _) (AI_ (.cons (AG_ _) (.cons (.refl _) .nil)))
theorem pblock_h (L:Int→List Int) (x:Blc) (hL:Puts L) (hn:Nods x.n) (hl:x.n.length≤8) (h:∀ k,k<x.n.length→(nodeP (x.n.getD k default)).2=0) (hx:headX x≠0):VC L_ 57 ([blc x]) (.tup [.sl 1 (([]:List Int).map (row1 .u8)),i64 (headX x)]):=by
 have hB:([]++L (x.n.length:Int)).length≤10:=hL.l _
 have oz1:=@VM.pre _ _ ([AV.ptr 100000 0 0,AV.ptr 100001 0 0,i64 8]) _ ([(100000,Blk.var [AV.lit (AQ_ none 0 0)]),(100001,Blk.var [i64 ((K_ nodC x.n).length:Int)])]) _ _ _ ([GI.nilc 950 5 1 100000 0,GI.sort]) _ (@lnum_1 ([]) (L) (((K_ nodC x.n).length:Int)) (8) (by (simp;done)) hL) (by kernel_rfl) (.n)
 have oz5:=@pblk_y (x) ([]++L ((K_ nodC x.n).length:Int)) hn hl (by (simp only[R_] at *;omega)) h
 have oz6:=@headMay_v (x)
 exact (cR_ [r_,r_,d_,r_,r_,.r [] [.callm [(16,100000),(5,100001)] [(951,20000)] (rM oz1) (oM oz1)],r_,.code [.any (rg [(0,1),(2,2),(5,1),(11,12)]),.drop [5],.ren 20000 900,.weak 24 (i64 (x.n.length:Int)),.weak 25 (i64 (↑0:Int)),.blk 900 (Blk.slc 5 1 (K_ (row1 .u8) (accB x.n ([]++L ((K_ nodC x.n).length:Int)) 0))),.sort] (BO_ 0) (zO oz5),.r [] [cr oz6],r_,b_,r_] (AV.tup [AV.lit (AQ_ none 0 0),i64 (headX x)]) Tryz.func57 (.d8 (show decide (((K_ nodC x.n).length:Int)>8)=false by (simp;omega)) oz1 (Q_ (k:=.i64) (show ((((K_ nodC x.n).length:Int)):Int)=((x.n.length:Int)) from (by (simp;done)))) w0_ (show BlkW (Blk.slc 5 1 (K_ (row1 .u8) ([]++L ((K_ nodC x.n).length:Int)))) (Blk.slc 5 1 (K_ (row1 .u8) (accB x.n ([]++L ((K_ nodC x.n).length:Int)) 0))) from (BU_ (e:=5) (z:=1) (rows_to (row1 .u8) (r:=K_ (row1 .u8) ([]++L ((K_ nodC x.n).length:Int))) (l:=[]++L ((K_ nodC x.n).length:Int)) (m:=accB x.n ([]++L ((K_ nodC x.n).length:Int)) 0) rfl (show ([]++L ((K_ nodC x.n).length:Int))=(accB x.n ([]++L ((K_ nodC x.n).length:Int)) 0) from (by rfl))))) oz5 oz6 (show (headX x != 0)=true by (simp;omega)))).weak (AM_ _) (AI_ (.cons (AG_ _) (.cons (.refl _) .nil)))
theorem pblock_xn (L:Int→List Int) (x:Blc) (hL:Puts L) (hn:Nods x.n) (hl:x.n.length≤8) (h:∀ k,k<x.n.length→(nodeP (x.n.getD k default)).2=0) (hx:headX x=0) (he:x.ex=false):VC L_ 57 ([blc x]) (.tup [.sl 1 ((accB x.n ([]++L (x.n.length:Int)) x.n.length++L 0).map (row1 .u8)),i64 0]):=by
 have hB:([]++L (x.n.length:Int)).length≤10:=hL.l _
 have hA:(accB x.n ([]++L (x.n.length:Int)) x.n.length).length≤400000:=by
  have:=accB_le hn ([]++L (x.n.length:Int)) (AX_ _)
  omega
 have oz1:=@VM.pre _ _ ([AV.ptr 100000 0 0,AV.ptr 100001 0 0,i64 8]) _ ([(100000,Blk.var [AV.lit (AQ_ none 0 0)]),(100001,Blk.var [i64 ((K_ nodC x.n).length:Int)])]) _ _ _ ([GI.nilc 950 5 1 100000 0,GI.sort]) _ (@lnum_1 ([]) (L) (((K_ nodC x.n).length:Int)) (8) (by (simp;done)) hL) (by kernel_rfl) (.n)
 have oz5:=@pblk_y (x) ([]++L ((K_ nodC x.n).length:Int)) hn hl (by (simp only[R_] at *;omega)) h
 have oz6:=@headMay_v (x)
 have oz8:=@lexit_n (accB x.n ([]++L ((K_ nodC x.n).length:Int)) x.n.length) (L) (x) (by (simp only[R_] at *;omega)) hL he
 exact (cR_ [r_,r_,d_,r_,r_,.r [] [.callm [(16,100000),(5,100001)] [(951,20000)] (rM oz1) (oM oz1)],r_,.code [.any (rg [(0,1),(2,2),(5,1),(11,12)]),.drop [5],.ren 20000 900,.weak 24 (i64 (x.n.length:Int)),.weak 25 (i64 (↑0:Int)),.blk 900 (Blk.slc 5 1 (K_ (row1 .u8) (accB x.n ([]++L ((K_ nodC x.n).length:Int)) 0))),.sort] (BO_ 0) (zO oz5),.r [] [cr oz6],r_,d_,.r [] [.callm [(900,950),(16,100000),(1,100001)] [(951,20001)] (rM oz8) (oM oz8)],r_] (AV.tup [AV.sl 1 (K_ (row1 .u8) (accB x.n ([]++L ((K_ nodC x.n).length:Int)) x.n.length++L 0)),i64 0]) Tryz.func57 (.c8 (show decide (((K_ nodC x.n).length:Int)>8)=false by (simp;omega)) oz1 (Q_ (k:=.i64) (show ((((K_ nodC x.n).length:Int)):Int)=((x.n.length:Int)) from (by (simp;done)))) w0_ (show BlkW (Blk.slc 5 1 (K_ (row1 .u8) ([]++L ((K_ nodC x.n).length:Int)))) (Blk.slc 5 1 (K_ (row1 .u8) (accB x.n ([]++L ((K_ nodC x.n).length:Int)) 0))) from (BU_ (e:=5) (z:=1) (rows_to (row1 .u8) (r:=K_ (row1 .u8) ([]++L ((K_ nodC x.n).length:Int))) (l:=[]++L ((K_ nodC x.n).length:Int)) (m:=accB x.n ([]++L ((K_ nodC x.n).length:Int)) 0) rfl (show ([]++L ((K_ nodC x.n).length:Int))=(accB x.n ([]++L ((K_ nodC x.n).length:Int)) 0) from (by rfl))))) oz5 oz6 (show (headX x != 0)=false by (simp;omega))<|.d oz8)).weak (AM_ _) (AI_ (.cons (BQ_ (rows_to (row1 .u8) (r:=K_ (row1 .u8) (accB x.n ([]++L ((K_ nodC x.n).length:Int)) x.n.length++L 0)) (l:=accB x.n ([]++L ((K_ nodC x.n).length:Int)) x.n.length++L 0) (m:=accB x.n ([]++L (x.n.length:Int)) x.n.length++L 0) rfl (show (accB x.n ([]++L ((K_ nodC x.n).length:Int)) x.n.length++L 0)=(accB x.n ([]++L (x.n.length:Int)) x.n.length++L 0) from (by (simp;done))))) (.cons (.refl _) .nil)))
theorem pblock_xy (L:Int→List Int) (x:Blc) (hL:Puts L) (ok:x.Ok) (hn:Nods x.n) (hl:x.n.length≤8) (h:∀ k,k<x.n.length→(nodeP (x.n.getD k default)).2=0) (hx:headX x=0) (he:x.ex=true) (hw:x.w.length≤16384) (hb:x.b.length≤16384):VC L_ 57 ([blc x]) (.tup [.sl 1 ((accB x.n ([]++L (x.n.length:Int)) x.n.length++L 1++L (x.w.length:Int)++smallL x.w++L (x.b.length:Int)++wideL x.b++L x.nd).map (row1 .u8)),i64 0]):=by
 have hB:([]++L (x.n.length:Int)).length≤10:=hL.l _
 have hA:(accB x.n ([]++L (x.n.length:Int)) x.n.length).length≤400000:=by
  have:=accB_le hn ([]++L (x.n.length:Int)) (AX_ _)
  omega
 have h32:=ok.b
 have hnd:=ok.nd
 have oz1:=@VM.pre _ _ ([AV.ptr 100000 0 0,AV.ptr 100001 0 0,i64 8]) _ ([(100000,Blk.var [AV.lit (AQ_ none 0 0)]),(100001,Blk.var [i64 ((K_ nodC x.n).length:Int)])]) _ _ _ ([GI.nilc 950 5 1 100000 0,GI.sort]) _ (@lnum_1 ([]) (L) (((K_ nodC x.n).length:Int)) (8) (by (simp;done)) hL) (by kernel_rfl) (.n)
 have oz5:=@pblk_y (x) ([]++L ((K_ nodC x.n).length:Int)) hn hl (by (simp only[R_] at *;omega)) h
 have oz6:=@headMay_v (x)
 have oz8:=@lexit_y (accB x.n ([]++L ((K_ nodC x.n).length:Int)) x.n.length) (L) (x) (by (simp only[R_] at *;omega)) hL he hw hb h32 hnd
 exact (cR_ [r_,r_,d_,r_,r_,.r [] [.callm [(16,100000),(5,100001)] [(951,20000)] (rM oz1) (oM oz1)],r_,.code [.any (rg [(0,1),(2,2),(5,1),(11,12)]),.drop [5],.ren 20000 900,.weak 24 (i64 (x.n.length:Int)),.weak 25 (i64 (↑0:Int)),.blk 900 (Blk.slc 5 1 (K_ (row1 .u8) (accB x.n ([]++L ((K_ nodC x.n).length:Int)) 0))),.sort] (BO_ 0) (zO oz5),.r [] [cr oz6],r_,d_,.r [] [.callm [(900,950),(16,100000),(1,100001)] [(951,20001)] (rM oz8) (oM oz8)],r_] (AV.tup [AV.sl 1 (K_ (row1 .u8) (accB x.n ([]++L ((K_ nodC x.n).length:Int)) x.n.length++L 1++L (x.w.length:Int)++smallL x.w++L (x.b.length:Int)++wideL x.b++L x.nd)),i64 0]) Tryz.func57 (.c8 (show decide (((K_ nodC x.n).length:Int)>8)=false by (simp;omega)) oz1 (Q_ (k:=.i64) (show ((((K_ nodC x.n).length:Int)):Int)=((x.n.length:Int)) from (by (simp;done)))) w0_ (show BlkW (Blk.slc 5 1 (K_ (row1 .u8) ([]++L ((K_ nodC x.n).length:Int)))) (Blk.slc 5 1 (K_ (row1 .u8) (accB x.n ([]++L ((K_ nodC x.n).length:Int)) 0))) from (BU_ (e:=5) (z:=1) (rows_to (row1 .u8) (r:=K_ (row1 .u8) ([]++L ((K_ nodC x.n).length:Int))) (l:=[]++L ((K_ nodC x.n).length:Int)) (m:=accB x.n ([]++L ((K_ nodC x.n).length:Int)) 0) rfl (show ([]++L ((K_ nodC x.n).length:Int))=(accB x.n ([]++L ((K_ nodC x.n).length:Int)) 0) from (by rfl))))) oz5 oz6 (show (headX x != 0)=false by (simp;omega))<|.d oz8)).weak (AM_ _) (AI_ (.cons (BQ_ (rows_to (row1 .u8) (r:=K_ (row1 .u8) (accB x.n ([]++L ((K_ nodC x.n).length:Int)) x.n.length++L 1++L (x.w.length:Int)++smallL x.w++L (x.b.length:Int)++wideL x.b++L x.nd)) (l:=accB x.n ([]++L ((K_ nodC x.n).length:Int)) x.n.length++L 1++L (x.w.length:Int)++smallL x.w++L (x.b.length:Int)++wideL x.b++L x.nd) (m:=accB x.n ([]++L (x.n.length:Int)) x.n.length++L 1++L (x.w.length:Int)++smallL x.w++L (x.b.length:Int)++wideL x.b++L x.nd) rfl (show (accB x.n ([]++L ((K_ nodC x.n).length:Int)) x.n.length++L 1++L (x.w.length:Int)++smallL x.w++L (x.b.length:Int)++wideL x.b++L x.nd)=(accB x.n ([]++L (x.n.length:Int)) x.n.length++L 1++L (x.w.length:Int)++smallL x.w++L (x.b.length:Int)++wideL x.b++L x.nd) from (by (simp;done))))) (.cons (.refl _) .nil)))
theorem nodes_first (l:List Nod):(∀ k,k<l.length→(nodeP (l.getD k default)).2=0)∨∃ m,m<l.length∧¬ (nodeP (l.getD m default)).2=0∧∀ k,k<m→(nodeP (l.getD k default)).2=0:=first_of
theorem mem_of_getD {l:List Nod} {p:Nod→Prop} (h:∀ k,k<l.length→p (l.getD k default)):∀ n∈l,p n:=by
 intro n hn
 obtain ⟨k,hk,e⟩:=List.mem_iff_getElem.1 hn
 have:=h k hk
 rwa [AU_,Z_ hk,BW_,e] at this
theorem headX_ex {x:Blc} (h:headX x=0) (he:x.ex=true):0≤x.nd∧x.w.length≤16384∧x.b.length≤16384:=by
 unfold headX at h
 rw[j_ (by rw[he];simp)] at h
 by_cases q:x.nd<0∨16384<x.w.length∨16384<x.b.length
 ·rw[i_ q] at h;cases h
 ·omega
theorem pblock_v (x:Blc) (ok:x.Ok) (hw:∀ n∈x.n,n.w.length≤4100∧n.b.length≤4100):VC L_ 57 [blc x] (.tup [.sl 1 ((blockR x).1.map (row1 .u8)),i64 (blockR x).2]):=by
 have hn:Nods x.n:=⟨ok.n,hw⟩
 by_cases h1:8<x.n.length
 ·rw[show blockR x=([],4) from by unfold blockR;rw[i_ h1]];exact pblock_f x h1
 rcases nodes_first x.n with h|⟨m,hm,hf,h⟩
 ·have hE:=nodesE_y (mem_of_getD h)
  by_cases h3:headX x=0
  ·rw[show blockR x=(exitL (accB x.n (putN (x.n.length:Int)) x.n.length) x,0) from by unfold blockR;rw[j_ h1,j_ (by simpa using hE),j_ (by simpa using h3)]]
   unfold exitL
   cases he:x.ex with
   | true =>
    rw[i_ rfl]
    have q:=headX_ex h3 he
    exact pblock_xy putN x puts ok hn (by omega) h h3 he q.2.1 q.2.2
   | false =>
    rw[j_ (by simp)]
    exact pblock_xn putN x puts hn (by omega) h h3 he
  ·rw[show blockR x=([],headX x) from by unfold blockR;rw[j_ h1,j_ (by simpa using hE),i_ h3]]
   exact pblock_h putN x puts hn (by omega) h h3
 ·have hE:=nodesE_n hm hf h
  rw[show blockR x=([],(nodeP (x.n.getD m default)).2) from by unfold blockR;rw[j_ h1,hE,i_ hf]]
  exact pblock_n putN x m puts hn (by omega) hm hf h
theorem lst_le {s:Rst} {k:Nat} (h:s.1.length≤k):(lstS s).1.length≤k:=wid_le (cnt_le (sml_le (cnt_le h _) _) _) _
theorem scl_le {s:Rst} {k:Nat} (h:s.1.length≤k):(sclS s).1.length≤k:=cnt_le (cnt_le h _) _
theorem lstW_sm {s:Rst} {k:Nat} (h:s.1.length≤k):(lstW s).length≤k:=Y_ (smlV_len _ _) (cnt_le h _)
theorem lstB_sm {s:Rst} {k:Nat} (h:s.1.length≤k):(lstB s).length≤k:=Y_ (widV_len _ _) (cnt_le (sml_le (cnt_le h _) _) _)
theorem takeS_sm {s:Rst} {k:Nat} (h:s.1.length≤k):(takeS s).1.length≤k:=by
 unfold takeS
 repeat' split
 all_goals (first|unfold ts_1|unfold ts_2|unfold ts_3|unfold ts_4|unfold ts_6|unfold ts_7|unfold ts_8|unfold ts_9)
 all_goals (repeat first|exact h|apply cnt_le|apply sml_le|apply lst_le|apply scl_le)
theorem takeN_sm {s:Rst} {k:Nat} (h:s.1.length≤k):(takeN s).w.length≤k∧(takeN s).b.length≤k:=by
 unfold takeN
 repeat' split
 all_goals (first|unfold tn_1|unfold tn_2|unfold tn_3|unfold tn_4|unfold tn_6|unfold tn_7|unfold tn_8|unfold tn_9)
 all_goals (constructor<;>first|exact AD_ _|(apply lstW_sm;repeat first|exact h|apply cnt_le|apply sml_le|apply lst_le|apply scl_le)|(apply lstB_sm;repeat first|exact h|apply cnt_le|apply sml_le|apply lst_le|apply scl_le))
theorem takeR_sm {s:Rst} {k:Nat} (h:s.1.length≤k):(takeR s).1.w.length≤k∧(takeR s).1.b.length≤k:=by
 unfold takeR
 split
 ·exact ⟨AD_ _,AD_ _⟩
 ·split
  ·exact ⟨AD_ _,AD_ _⟩
  ·exact takeN_sm h
theorem tkS_sm {s:Rst} {k:Nat} (h:s.1.length≤k) (n:Nat):(tkS s n).1.length≤k:=by
 induction n with
 | zero=>exact h
 | succ n ih=>exact takeS_sm ih
theorem tkL_sm {s:Rst} {k:Nat} (h:s.1.length≤k) (n:Nat):∀ y∈tkL s n,y.w.length≤k∧y.b.length≤k:=by
 induction n with
 | zero=>intro y hy;cases hy
 | succ n ih =>
  intro y hy
  rw[tkL,BH_] at hy
  rcases hy with hy|hy
  ·exact ih y hy
  ·rw[List.mem_singleton] at hy;subst hy;exact takeR_sm (tkS_sm h n)
theorem blkT_sm {s:Rst} {k:Nat} (h:s.1.length≤k):∀ y∈(blkT s).1.1.n,y.w.length≤k∧y.b.length≤k:=by
 rcases blkT_cases s with ⟨m,hm,hf,hh⟩|⟨hh,hb⟩|⟨hh,hb⟩
 ·rw[blkT_f hm hf hh];intro y hy;cases hy
 ·rw[blkT_b hh hb];intro y hy;cases hy
 ·rw[blkT_y hh hb]
  have:(exN (stB s) (nodesT s)).n=nodesT s:=by unfold exN;split<;>rfl
  rw[this]
  exact tkL_sm (cnt_le h 8) _
theorem exS_sm {s:Rst} {k:Nat} (h:s.1.length≤k):(exS s).1.length≤k:=by
 unfold exS
 split
 ·exact cnt_le (lst_le (cnt_le h _)) _
 ·exact cnt_le h _
theorem blkS_sm {s:Rst} {k:Nat} (h:s.1.length≤k):(blkT s).2.1.length≤k:=by
 rcases blkT_cases s with ⟨m,hm,hf,hh⟩|⟨hh,hb⟩|⟨hh,hb⟩
 ·rw[blkT_f hm hf hh];exact tkS_sm (cnt_le h 8) _
 ·rw[blkT_b hh hb];exact exS_sm (tkS_sm (cnt_le h 8) _)
 ·rw[blkT_y hh hb];exact exS_sm (tkS_sm (cnt_le h 8) _)
theorem read_v (d:List Int) (hd:d.length≤1000000):VM L_ 29 ([.sl 1 (d.map (row1 .u8))]) ([]) (.ptr 950 0 0) ([(950,.var (rdC (d,0)))]):=by
 exact mR_ [r_,r_] [.frz 4,.ren 6 950,.sort] _ Tryz.func29 (.d2 (show (K_ (row1 .u8) d).length*1≤140737488355328 by (simp only[R_];omega)) (show (K_ (row1 .u8) d).length≤9223372036854775807 by (simp only[R_];omega)))
def ByR (l:List Int):Prop:=∀ x∈l,0≤x∧x≤255
theorem ByR.app {a b:List Int} (h:ByR a) (g:ByR b):ByR (a++b):=fun x hx=>by
 rcases List.mem_append.1 hx with q|q
 ·exact h x q
 ·exact g x q
theorem ByR.nil:ByR []:=fun x hx=>by cases hx
theorem ByR.put (x:Int):ByR (putN x):=putL_rng _
theorem ByR.sml (l:List Int):ByR (smallL l):=fun x hx=>by
 obtain ⟨y,_,rfl⟩:=List.mem_map.1 hx;omega
theorem ByR.wid (l:List Int):ByR (wideL l):=wideL_rng l
theorem ByR.one (x:Int):ByR [IntKind.u8.wrap x]:=by rw[←small1];exact ByR.sml _
theorem nodeL_rng (n:Nod):ByR (nodeL putN n):=by
 unfold nodeL
 repeat' split
 all_goals (first|unfold lb_1|unfold lb_2|unfold lb_3|unfold lb_4|unfold lb_6|unfold lb_7|unfold lb_8|unfold lb_9)
 all_goals (repeat first|with_reducible exact ByR.put _|with_reducible exact ByR.sml _|with_reducible exact ByR.wid _|with_reducible exact ByR.one _|with_reducible apply ByR.app)
theorem nodeR_rng (n:Nod):ByR (nodeP n).1:=by
 unfold nodeP
 split
 ·exact ByR.nil
 ·split
  ·exact ByR.nil
  ·split
   ·exact ByR.nil
   ·exact nodeL_rng n
theorem accB_rng (l:List Nod) {B:List Int} (h:ByR B) (k:Nat):ByR (accB l B k):=by
 induction k with
 | zero=>exact h
 | succ k ih=>exact ih.app (nodeR_rng _)
theorem exitL_rng {B:List Int} (h:ByR B) (x:Blc):ByR (exitL B x):=by
 unfold exitL
 split<;>(repeat first|with_reducible exact h|with_reducible exact ByR.put _|with_reducible exact ByR.sml _|with_reducible exact ByR.wid _|with_reducible apply ByR.app)
theorem blockR_rng (x:Blc):ByR (blockR x).1:=by
 unfold blockR
 split
 ·exact ByR.nil
 ·split
  ·exact ByR.nil
  ·split
   ·exact ByR.nil
   ·exact exitL_rng (accB_rng _ (ByR.put _) _) x
structure Blc.Fw (x:Blc):Prop where
 ok:x.Ok
 n:∀ n∈x.n,n.w.length≤1000∧n.b.length≤100
 l:x.n.length≤12
 w:x.w.length≤4000
 b:x.b.length≤100
theorem Blc.fw {x:Blc} (ok:x.Ok) (h:blcS x=true):x.Fw:=by
 obtain ⟨a,b,c⟩:=blcS_iff.1 h
 obtain ⟨d,_,e⟩:=few_facts a
 exact ⟨ok,e,d,b,c⟩
theorem accB_few {x:Blc} (h:x.Fw) (B:List Int) {k:Nat} (hk:k≤x.n.length):(accB x.n B k).length≤B.length+2200*k:=by
 induction k with
 | zero=>exact AX_ _
 | succ k ih =>
  have a:=ih (by omega)
  have b:=nodeR_le _ (getD_in h.ok.n (s_ (k<x.n.length)))
  have c:=getD_in h.n (s_ (k<x.n.length))
  rw[accB,P_];omega
theorem blockR_few {x:Blc} (h:x.Fw):(blockR x).1.length≤50000:=by
 unfold blockR
 split
 ·exact AD_ _
 ·split
  ·exact AD_ _
  ·split
   ·exact AD_ _
   ·have a:=accB_few h (putN (x.n.length:Int)) (AX_ _)
    have p:=putN_len
    have p1:=p (x.n.length:Int);have p2:=p 1;have p3:=p (x.w.length:Int);have p4:=p (x.b.length:Int);have p5:=p x.nd;have p6:=p 0
    have w:=wideL_len x.b h.ok.b
    have s:(smallL x.w).length=x.w.length:=R_ _
    have h1:=h.l;have h2:=h.w;have h3:=h.b
    dsimp only
    unfold exitL
    split<;>simp only[P_]<;>omega
def blocksE:List Blc→Int
 | []=>0
 | x::l=>if (blockR x).2≠0 then (blockR x).2 else blocksE l
theorem blocksE_y {l:List Blc}:(∀ k,k<l.length→(blockR (l.getD k default)).2=0)→blocksE l=0:=by
 induction l with
 | nil=>intro _;rfl
 | cons n l ih =>
  intro h
  have h0:(blockR n).2=0:=h 0 (by simp)
  rw[blocksE,j_ (by simpa using h0)]
  exact ih fun k hk=>h (k+1) (by simpa using hk)
theorem blocksE_n {l:List Blc}:∀ {m:Nat},m<l.length→(blockR (l.getD m default)).2≠0→(∀ k,k<m→(blockR (l.getD k default)).2=0)→blocksE l=(blockR (l.getD m default)).2:=by
 induction l with
 | nil=>intro m hm;simp at hm
 | cons n l ih =>
  intro m hm hf h
  cases m with
  | zero=>rw[blocksE,i_ (by exact hf)];rfl
  | succ m =>
   have h0:(blockR n).2=0:=h 0 (by omega)
   rw[blocksE,j_ (by simpa using h0)]
   exact ih (by simpa using hm) hf fun k hk=>h (k+1) (by omega)
def accM (l:List Blc) (B:List Int):Nat→List Int
 | 0=>B
 | k+1=>accM l B k++(blockR (l.getD k default)).1
structure Blc.Fz (x:Blc):Prop where
 ok:x.Ok
 n3:∀ n∈x.n,n.w.length≤4100∧n.b.length≤4100
 s:(blockR x).1.length≤50000
theorem Blc.Fw.fz {x:Blc} (h:x.Fw):x.Fz:=⟨h.ok,fun n hn=>by have:=h.n n hn;omega,blockR_few h⟩
structure Mdl.Fw (m:Mdl):Prop where
 b:∀ x∈m.l,Blc.Fz x
 l:m.l.length≤8
theorem accM_le {m:Mdl} (h:m.Fw) (B:List Int) {k:Nat} (hk:k≤m.l.length):(accM m.l B k).length≤B.length+50000*k:=by
 induction k with
 | zero=>exact AX_ _
 | succ k ih =>
  have a:=ih (by omega)
  have b:=(getD_in h.b (s_ (k<m.l.length))).s
  rw[accM,P_];omega
def modelR (m:Mdl):List Int×Int:=if 6<m.l.length then ([],4) else if blocksE m.l≠0 then ([],blocksE m.l) else (accM m.l (putN (m.l.length:Int)) m.l.length,0)
noncomputable def pmod_y_I (m:Mdl) (B:List Int) (k:Nat):VS:=stt 50 [(1,.ptr 1 0 0),(4,.ptr 15 0 0),(22,.sl 5 (m.l.map blcC)),(23,i64 m.l.length),(24,i64 k)] [(1,.var (mdlC m)),(15,.var [.own 900]),(900,.slc 5 1 ((accM m.l B k).map (row1 .u8)))]
noncomputable def pmod_y_Z (m:Mdl) (B:List Int):VS:=pmod_y_I m B (m.l.length)
theorem pmod_y_s (m:Mdl) (B:List Int) (fw:m.Fw) (hB:B.length≤10) (h:∀ k,k<m.l.length→(blockR (m.l.getD k default)).2=0) (k:Nat) (hk:k<m.l.length):VT L_ (fnC Tryz.f26 [1,1,1,1,1,0,1,0,0]) (pmod_y_I m B k) .normal (pmod_y_I m B (k+1)):=by
 have q:=h k hk
 have q1:=getD_in fw.b hk
 have q2:=q1.ok
 have q3:=q1.n3
 have q4:=accM_le fw B (Nat.le_of_lt hk)
 have q5:=q1.s
 have q6:=fw.l
 have oz2:=(map_at (blcC) (default) (l:=m.l) (i:=k) hk)
 have oz3:=@pblock_v (m.l.getD k default) q2 q3
 exact tR_ [r_,b_,.r [] [.row (sO oz2)],.r [] [cr oz3],r_,d_,r_,.r [] [.n ((↑k:Int)+1)]] [.any (rg [(7,3),(25,10),(36,10)]),.drop [7],.ren 42 900,.weak 24 (i64 (↑(k+1):Int)),.blk 900 (Blk.slc 5 1 (K_ (row1 .u8) (accM m.l B (k+1)))),.sort] (.c8 (decide_eq_true (p:=((↑k:Int)<(m.l.length:Int))) (by omega)) (s_ (0≤(↑k:Int))) oz2 oz3 (show ((blockR (m.l.getD k default)).snd != 0)=false by (simp at *;omega)) (show ((K_ (row1 .u8) (accM m.l B k)).length+(K_ (row1 .u8) (blockR (m.l.getD k default)).fst).length)*1≤140737488355328 by (simp only[R_];omega)) (show (K_ (row1 .u8) (accM m.l B k)).length+(K_ (row1 .u8) (blockR (m.l.getD k default)).fst).length≤9223372036854775807 by (simp only[R_];omega)) (i6n ((↑k:Int)+1) (by omega))<|.d2 (wS_ k) (show BlkW (Blk.slc 5 1 (K_ (row1 .u8) (accM m.l B k)++K_ (row1 .u8) (blockR (m.l.getD k default)).fst)) (Blk.slc 5 1 (K_ (row1 .u8) (accM m.l B (k+1)))) from (BU_ (e:=5) (z:=1) (rows_to (row1 .u8) (r:=K_ (row1 .u8) (accM m.l B k)++K_ (row1 .u8) (blockR (m.l.getD k default)).fst) (l:=accM m.l B k++(blockR (m.l.getD k default)).fst) (m:=accM m.l B (k+1)) (by first|(simp only[B_,C_,AO_,AP_,W_,AK_,AL_];done)|rfl|(simp only[B_,C_,AO_,AP_,W_,AK_,AL_];rfl)) (show (accM m.l B k++(blockR (m.l.getD k default)).fst)=(accM m.l B (k+1)) from (by rfl))))))
theorem pmod_y_e (m:Mdl) (B:List Int) (fw:m.Fw) (hB:B.length≤10) (h:∀ k,k<m.l.length→(blockR (m.l.getD k default)).2=0):VT L_ (fnC Tryz.f26 [1,1,1,1,1,0,1,0,0]) (pmod_y_I m B (m.l.length)) (.exit 0) (pmod_y_Z m B):=by
 exact tR_ [r_,d_] [.any [25],.sort] (.d (decide_eq_false (p:=((m.l.length:Int)<(m.l.length:Int))) (by omega)))
theorem pmod_y (m:Mdl) (B:List Int) (fw:m.Fw) (hB:B.length≤10) (h:∀ k,k<m.l.length→(blockR (m.l.getD k default)).2=0):VT L_ (fnC Tryz.f26 [1,1,1,1,1,0,1,0]) (pmod_y_I m B 0) (.exit 0) (pmod_y_Z m B) :=
 VT.loop (fun k=>pmod_y_I m B k) (m.l.length) (fun k hk=>pmod_y_s m B fw hB h k hk) (pmod_y_e m B fw hB h) (by intro h;cases h)
noncomputable def pmod_n_I (m:Mdl) (B:List Int) (j:Nat) (k:Nat):VS:=stt 50 [(1,.ptr 1 0 0),(4,.ptr 15 0 0),(22,.sl 5 (m.l.map blcC)),(23,i64 m.l.length),(24,i64 k)] [(1,.var (mdlC m)),(15,.var [.own 900]),(900,.slc 5 1 ((accM m.l B k).map (row1 .u8)))]
noncomputable def pmod_n_Z (m:Mdl) (B:List Int) (j:Nat):VS:=stt 50 [(2,nilv),(3,i64 (blockR (m.l.getD j default)).2)] []
theorem pmod_n_s (m:Mdl) (B:List Int) (j:Nat) (fw:m.Fw) (hB:B.length≤10) (hj:j<m.l.length) (hf:(blockR (m.l.getD j default)).2≠0) (h:∀ k,k<j→(blockR (m.l.getD k default)).2=0) (k:Nat) (hk:k<j):VT L_ (fnC Tryz.f26 [1,1,1,1,1,0,1,0,0]) (pmod_n_I m B j k) .normal (pmod_n_I m B j (k+1)):=by
 have q:=h k hk
 have q0:k<m.l.length:=by omega
 have q1:=getD_in fw.b q0
 have q2:=q1.ok
 have q3:=q1.n3
 have q4:=accM_le fw B (Nat.le_of_lt q0)
 have q5:=q1.s
 have q6:=fw.l
 have oz2:=(map_at (blcC) (default) (l:=m.l) (i:=k) q0)
 have oz3:=@pblock_v (m.l.getD k default) q2 q3
 exact tR_ [r_,b_,.r [] [.row (sO oz2)],.r [] [cr oz3],r_,d_,r_,.r [] [.n ((↑k:Int)+1)]] [.any (rg [(7,3),(25,10),(36,10)]),.drop [7],.ren 42 900,.weak 24 (i64 (↑(k+1):Int)),.blk 900 (Blk.slc 5 1 (K_ (row1 .u8) (accM m.l B (k+1)))),.sort] (.c8 (decide_eq_true (p:=((↑k:Int)<(m.l.length:Int))) (by omega)) (s_ (0≤(↑k:Int))) oz2 oz3 (show ((blockR (m.l.getD k default)).snd != 0)=false by (simp at *;omega)) (show ((K_ (row1 .u8) (accM m.l B k)).length+(K_ (row1 .u8) (blockR (m.l.getD k default)).fst).length)*1≤140737488355328 by (simp only[R_];omega)) (show (K_ (row1 .u8) (accM m.l B k)).length+(K_ (row1 .u8) (blockR (m.l.getD k default)).fst).length≤9223372036854775807 by (simp only[R_];omega)) (i6n ((↑k:Int)+1) (by omega))<|.d2 (wS_ k) (show BlkW (Blk.slc 5 1 (K_ (row1 .u8) (accM m.l B k)++K_ (row1 .u8) (blockR (m.l.getD k default)).fst)) (Blk.slc 5 1 (K_ (row1 .u8) (accM m.l B (k+1)))) from (BU_ (e:=5) (z:=1) (rows_to (row1 .u8) (r:=K_ (row1 .u8) (accM m.l B k)++K_ (row1 .u8) (blockR (m.l.getD k default)).fst) (l:=accM m.l B k++(blockR (m.l.getD k default)).fst) (m:=accM m.l B (k+1)) (by first|(simp only[B_,C_,AO_,AP_,W_,AK_,AL_];done)|rfl|(simp only[B_,C_,AO_,AP_,W_,AK_,AL_];rfl)) (show (accM m.l B k++(blockR (m.l.getD k default)).fst)=(accM m.l B (k+1)) from (by rfl))))))
theorem pmod_n_e (m:Mdl) (B:List Int) (j:Nat) (fw:m.Fw) (hB:B.length≤10) (hj:j<m.l.length) (hf:(blockR (m.l.getD j default)).2≠0) (h:∀ k,k<j→(blockR (m.l.getD k default)).2=0):VT L_ (fnC Tryz.f26 [1,1,1,1,1,0,1,0,0]) (pmod_n_I m B j (j)) (.ret) (pmod_n_Z m B j):=by
 have q1:=getD_in fw.b hj
 have q2:=q1.ok
 have q3:=q1.n3
 have oz2:=(map_at (blcC) (default) (l:=m.l) (i:=j) hj)
 have oz3:=@pblock_v (m.l.getD j default) q2 q3
 exact tR_ [r_,b_,.r [] [.row (sO oz2)],.r [] [cr oz3],r_,b_,r_] [.any (rg [(1,1),(4,1),(7,3),(22,14)]),.drop [1,15,900,7],.sort] (.d5 (decide_eq_true (p:=((↑j:Int)<(m.l.length:Int))) (by omega)) (s_ (0≤(↑j:Int))) oz2 oz3 (show ((blockR (m.l.getD j default)).snd != 0)=true by (simp at *;omega)))
theorem pmod_n (m:Mdl) (B:List Int) (j:Nat) (fw:m.Fw) (hB:B.length≤10) (hj:j<m.l.length) (hf:(blockR (m.l.getD j default)).2≠0) (h:∀ k,k<j→(blockR (m.l.getD k default)).2=0):VT L_ (fnC Tryz.f26 [1,1,1,1,1,0,1,0]) (pmod_n_I m B j 0) (.ret) (pmod_n_Z m B j) :=
 VT.loop (fun k=>pmod_n_I m B j k) (j) (fun k hk=>pmod_n_s m B j fw hB hj hf h k hk) (pmod_n_e m B j fw hB hj hf h) (by intro h;cases h)
theorem pmodel_f (m:Mdl) (h:6<m.l.length):VC L_ 26 ([.agg (mdlC m)]) (.tup [.sl 1 (([]:List Int).map (row1 .u8)),i64 4]):=by
 exact (cR_ [r_,r_,b_,r_] (AV.tup [AV.lit (AQ_ none 0 0),i64 4]) Tryz.func26 (.d (show decide (((K_ blcC m.l).length:Int)>6)=true by (simp;omega)))).weak (AM_ _) (AI_ (.cons (AG_ _) (.cons (.refl _) .nil)))
theorem pmodel_n (L:Int→List Int) (m:Mdl) (j:Nat) (hL:Puts L) (fw:m.Fw) (hl:m.l.length≤6) (hj:j<m.l.length) (hf:(blockR (m.l.getD j default)).2≠0) (h:∀ k,k<j→(blockR (m.l.getD k default)).2=0):VC L_ 26 ([.agg (mdlC m)]) (.tup [.sl 1 (([]:List Int).map (row1 .u8)),i64 (blockR (m.l.getD j default)).2]):=by
 have hB:([]++L (m.l.length:Int)).length≤10:=hL.l _
 have oz1:=@VM.pre _ _ ([AV.ptr 100000 0 0,AV.ptr 100001 0 0,i64 6]) _ ([(100000,Blk.var [AV.lit (AQ_ none 0 0)]),(100001,Blk.var [i64 ((K_ blcC m.l).length:Int)])]) _ _ _ ([GI.nilc 950 5 1 100000 0,GI.sort]) _ (@lnum_1 ([]) (L) (((K_ blcC m.l).length:Int)) (6) (by (simp;done)) hL) (by kernel_rfl) (.n)
 have oz5:=@pmod_n (Mdl.mk m.l) ([]++L ((K_ blcC m.l).length:Int)) (j) fw (by (simp only[R_] at *;omega)) hj hf h
 exact (cR_ [r_,r_,d_,r_,r_,.r [] [.callm [(15,100000),(5,100001)] [(951,20000)] (rM oz1) (oM oz1)],r_,.code [.any (rg [(0,1),(2,2),(5,1),(10,12)]),.drop [5],.ren 20000 900,.weak 23 (i64 (m.l.length:Int)),.weak 24 (i64 (↑0:Int)),.blk 900 (Blk.slc 5 1 (K_ (row1 .u8) (accM m.l ([]++L ((K_ blcC m.l).length:Int)) 0))),.sort] (Exit.ret) (zO oz5)] (AV.tup [AV.lit (AQ_ none 0 0),i64 (blockR (m.l.getD j default)).snd]) Tryz.func26 (.d6 (show decide (((K_ blcC m.l).length:Int)>6)=false by (simp;omega)) oz1 (Q_ (k:=.i64) (show ((((K_ blcC m.l).length:Int)):Int)=((m.l.length:Int)) from (by (simp;done)))) w0_ (show BlkW (Blk.slc 5 1 (K_ (row1 .u8) ([]++L ((K_ blcC m.l).length:Int)))) (Blk.slc 5 1 (K_ (row1 .u8) (accM m.l ([]++L ((K_ blcC m.l).length:Int)) 0))) from (BU_ (e:=5) (z:=1) (rows_to (row1 .u8) (r:=K_ (row1 .u8) ([]++L ((K_ blcC m.l).length:Int))) (l:=[]++L ((K_ blcC m.l).length:Int)) (m:=accM m.l ([]++L ((K_ blcC m.l).length:Int)) 0) rfl (show ([]++L ((K_ blcC m.l).length:Int))=(accM m.l ([]++L ((K_ blcC m.l).length:Int)) 0) from (by rfl))))) oz5)).weak (AM_ _) (AI_ (.cons (AG_ _) (.cons (.refl _) .nil)))
theorem pmodel_y (L:Int→List Int) (m:Mdl) (hL:Puts L) (fw:m.Fw) (hl:m.l.length≤6) (h:∀ k,k<m.l.length→(blockR (m.l.getD k default)).2=0):VC L_ 26 ([.agg (mdlC m)]) (.tup [.sl 1 ((accM m.l ([]++L (m.l.length:Int)) m.l.length).map (row1 .u8)),i64 0]):=by
 have hB:([]++L (m.l.length:Int)).length≤10:=hL.l _
 have oz1:=@VM.pre _ _ ([AV.ptr 100000 0 0,AV.ptr 100001 0 0,i64 6]) _ ([(100000,Blk.var [AV.lit (AQ_ none 0 0)]),(100001,Blk.var [i64 ((K_ blcC m.l).length:Int)])]) _ _ _ ([GI.nilc 950 5 1 100000 0,GI.sort]) _ (@lnum_1 ([]) (L) (((K_ blcC m.l).length:Int)) (6) (by (simp;done)) hL) (by kernel_rfl) (.n)
 have oz5:=@pmod_y (Mdl.mk m.l) ([]++L ((K_ blcC m.l).length:Int)) fw (by (simp only[R_] at *;omega)) h
 exact (cR_ [r_,r_,d_,r_,r_,.r [] [.callm [(15,100000),(5,100001)] [(951,20000)] (rM oz1) (oM oz1)],r_,.code [.any (rg [(0,1),(2,2),(5,1),(10,12)]),.drop [5],.ren 20000 900,.weak 23 (i64 (m.l.length:Int)),.weak 24 (i64 (↑0:Int)),.blk 900 (Blk.slc 5 1 (K_ (row1 .u8) (accM m.l ([]++L ((K_ blcC m.l).length:Int)) 0))),.sort] (BO_ 0) (zO oz5),r_] (AV.tup [AV.sl 1 (K_ (row1 .u8) (accM m.l ([]++L ((K_ blcC m.l).length:Int)) m.l.length)),i64 0]) Tryz.func26 (.d6 (show decide (((K_ blcC m.l).length:Int)>6)=false by (simp;omega)) oz1 (Q_ (k:=.i64) (show ((((K_ blcC m.l).length:Int)):Int)=((m.l.length:Int)) from (by (simp;done)))) w0_ (show BlkW (Blk.slc 5 1 (K_ (row1 .u8) ([]++L ((K_ blcC m.l).length:Int)))) (Blk.slc 5 1 (K_ (row1 .u8) (accM m.l ([]++L ((K_ blcC m.l).length:Int)) 0))) from (BU_ (e:=5) (z:=1) (rows_to (row1 .u8) (r:=K_ (row1 .u8) ([]++L ((K_ blcC m.l).length:Int))) (l:=[]++L ((K_ blcC m.l).length:Int)) (m:=accM m.l ([]++L ((K_ blcC m.l).length:Int)) 0) rfl (show ([]++L ((K_ blcC m.l).length:Int))=(accM m.l ([]++L ((K_ blcC m.l).length:Int)) 0) from (by rfl))))) oz5)).weak (AM_ _) (AI_ (.cons (BQ_ (rows_to (row1 .u8) (r:=K_ (row1 .u8) (accM m.l ([]++L ((K_ blcC m.l).length:Int)) m.l.length)) (l:=accM m.l ([]++L ((K_ blcC m.l).length:Int)) m.l.length) (m:=accM m.l ([]++L (m.l.length:Int)) m.l.length) rfl (show (accM m.l ([]++L ((K_ blcC m.l).length:Int)) m.l.length)=(accM m.l ([]++L (m.l.length:Int)) m.l.length) from (by (simp;done))))) (.cons (.refl _) .nil)))
theorem pmodel_v (m:Mdl) (fw:m.Fw):VC L_ 26 [.agg (mdlC m)] (.tup [.sl 1 ((modelR m).1.map (row1 .u8)),i64 (modelR m).2]):=by
 by_cases h1:6<m.l.length
 ·rw[show modelR m=([],4) from by unfold modelR;rw[i_ h1]];exact pmodel_f m h1
 rcases first_of (n:=m.l.length) (p:=fun k=>(blockR (m.l.getD k default)).2=0) with h|⟨j,hj,hf,h⟩
 ·have hE:=blocksE_y h
  rw[show modelR m=(accM m.l (putN (m.l.length:Int)) m.l.length,0) from by unfold modelR;rw[j_ h1,j_ (by simpa using hE)]]
  exact pmodel_y putN m puts fw (by omega) h
 ·have hE:=blocksE_n hj hf h
  rw[show modelR m=([],(blockR (m.l.getD j default)).2) from by unfold modelR;rw[j_ h1,hE,i_ hf]]
  exact pmodel_n putN m j puts fw (by omega) hj hf h
def mkS (s:Rst):Nat→Rst
 | 0=>s
 | k+1=>(blkT (mkS s k)).2
def mkL (s:Rst):Nat→List Blc
 | 0=>[]
 | k+1=>mkL s k++[(blkT (mkS s k)).1.1]
theorem mkS_fit {s:Rst} (h:s.Fit) (k:Nat):(mkS s k).Fit:=by
 induction k with
 | zero=>exact h
 | succ k ih=>exact blkT_fit ih
theorem mkL_len (s:Rst) (k:Nat):(mkL s k).length=k:=by
 induction k with
 | zero=>rfl
 | succ k ih=>rw[mkL,P_,ih];rfl
noncomputable def ptm_y_I (s:Rst) (k:Nat):VS:=stt 44 [(0,.ptr 100000 0 0),(2,.ptr 2 0 0),(4,.ptr 4 0 0),(5,.ptr 5 0 0),(18,i64 (cntV s 6)),(19,i64 k)] [(2,.var [.any]),(4,.var [.ptr 100000 0 0]),(5,.var [.own 900]),(900,.slc 51 5 ((mkL (cntS s 6) k).map blcC)),(100000,.var (rdC (mkS (cntS s 6) k)))]
noncomputable def ptm_y_Z (s:Rst):VS:=ptm_y_I s ((cntV s 6).toNat)
theorem ptm_y_s (s:Rst) (h:s.Fit) (hh:∀ k,k<(cntV s 6).toNat→(blkT (mkS (cntS s 6) k)).1.2=0) (k:Nat) (hk:k<(cntV s 6).toNat):VT L_ (fnC Tryz.f60 [1,1,1,1,1,0,1,0,0]) (ptm_y_I s k) .normal (ptm_y_I s (k+1)):=by
 have q:=cntV_rng (m:=6) h.i (by decide)
 have q0:=mkS_fit (cnt_fit h 6) k
 have q1:=mkL_len (cntS s 6) k
 have q2:=hh k hk
 have oz1:=@ptake_v (mkS (cntS s 6) k) q0
 exact tR_ [r_,b_,.r [] [cm oz1],r_,d_,r_,.r [] [.n ((↑k:Int)+1)]] [.any (rg [(7,2),(20,8),(30,7)]),.drop [7,33],.ren 34 900,.weak 19 (i64 (↑(k+1):Int)),.blk 900 (Blk.slc 51 5 (K_ blcC (mkL (cntS s 6) (k+1)))),.blk 100000 (Blk.var [AV.sl 1 (K_ (row1 .u8) (mkS (cntS s 6) (k+1)).fst),i64 (mkS (cntS s 6) (k+1)).snd]),.sort] (.c8 (decide_eq_true (p:=((↑k:Int)<cntV s 6)) (by omega)) oz1 (show ((blkT (mkS (cntS s 6) k)).fst.snd != 0)=false by (simp;omega)) (show ((K_ blcC (mkL (cntS s 6) k)).length+1)*88≤140737488355328 by (simp;omega)) (show (K_ blcC (mkL (cntS s 6) k)).length+1≤9223372036854775807 by (simp;omega)) (i6n ((↑k:Int)+1) (by omega)) (wS_ k) (show BlkW (Blk.slc 51 5 (K_ blcC (mkL (cntS s 6) k)++[[AV.sl 19 (K_ nodC (blkT (mkS (cntS s 6) k)).fst.fst.n),bv (blkT (mkS (cntS s 6) k)).fst.fst.ex,AV.sl 1 (K_ (row1 .i8) (blkT (mkS (cntS s 6) k)).fst.fst.w),AV.sl 1 (K_ (row1 .i32) (blkT (mkS (cntS s 6) k)).fst.fst.b),i32 (blkT (mkS (cntS s 6) k)).fst.fst.nd]])) (Blk.slc 51 5 (K_ blcC (mkL (cntS s 6) (k+1)))) from (BU_ (e:=51) (z:=5) (rows_to (blcC) (r:=K_ blcC (mkL (cntS s 6) k)++[[AV.sl 19 (K_ nodC (blkT (mkS (cntS s 6) k)).fst.fst.n),bv (blkT (mkS (cntS s 6) k)).fst.fst.ex,AV.sl 1 (K_ (row1 .i8) (blkT (mkS (cntS s 6) k)).fst.fst.w),AV.sl 1 (K_ (row1 .i32) (blkT (mkS (cntS s 6) k)).fst.fst.b),i32 (blkT (mkS (cntS s 6) k)).fst.fst.nd]]) (l:=mkL (cntS s 6) k++[Blc.mk (blkT (mkS (cntS s 6) k)).fst.fst.n (blkT (mkS (cntS s 6) k)).fst.fst.ex (blkT (mkS (cntS s 6) k)).fst.fst.w (blkT (mkS (cntS s 6) k)).fst.fst.b (blkT (mkS (cntS s 6) k)).fst.fst.nd]) (m:=mkL (cntS s 6) (k+1)) (by first|(simp only[B_,C_,AO_,AP_,W_,AK_,AL_];done)|rfl|(simp only[B_,C_,AO_,AP_,W_,AK_,AL_];rfl)|(simp only[B_,C_,AO_,AP_,W_,AK_,AL_,blcC,ints];done)) (show (mkL (cntS s 6) k++[Blc.mk (blkT (mkS (cntS s 6) k)).fst.fst.n (blkT (mkS (cntS s 6) k)).fst.fst.ex (blkT (mkS (cntS s 6) k)).fst.fst.w (blkT (mkS (cntS s 6) k)).fst.fst.b (blkT (mkS (cntS s 6) k)).fst.fst.nd])=(mkL (cntS s 6) (k+1)) from (by rfl)))))<|.d (show BlkW (Blk.var [AV.sl 1 (K_ (row1 .u8) (blkT (mkS (cntS s 6) k)).snd.fst),i64 (blkT (mkS (cntS s 6) k)).snd.snd]) (Blk.var [AV.sl 1 (K_ (row1 .u8) (mkS (cntS s 6) (k+1)).fst),i64 (mkS (cntS s 6) (k+1)).snd]) from (BlkW.var (m:=[AV.sl 1 (K_ (row1 .u8) (mkS (cntS s 6) (k+1)).fst),i64 (mkS (cntS s 6) (k+1)).snd]) (.cons (BQ_ (rows_to (row1 .u8) (r:=K_ (row1 .u8) (blkT (mkS (cntS s 6) k)).snd.fst) (l:=(blkT (mkS (cntS s 6) k)).snd.fst) (m:=(mkS (cntS s 6) (k+1)).fst) rfl (show ((blkT (mkS (cntS s 6) k)).snd.fst)=((mkS (cntS s 6) (k+1)).fst) from (by rfl)))) (.cons (Q_ (by rfl)) .nil)))))
theorem ptm_y_e (s:Rst) (h:s.Fit) (hh:∀ k,k<(cntV s 6).toNat→(blkT (mkS (cntS s 6) k)).1.2=0):VT L_ (fnC Tryz.f60 [1,1,1,1,1,0,1,0,0]) (ptm_y_I s ((cntV s 6).toNat)) (.exit 0) (ptm_y_Z s):=by
 exact tR_ [r_,d_] [.any [20],.sort] (.d (decide_eq_false (p:=((↑(cntV s 6).toNat:Int)<cntV s 6)) (by omega)))
theorem ptm_y (s:Rst) (h:s.Fit) (hh:∀ k,k<(cntV s 6).toNat→(blkT (mkS (cntS s 6) k)).1.2=0):VT L_ (fnC Tryz.f60 [1,1,1,1,1,0,1,0]) (ptm_y_I s 0) (.exit 0) (ptm_y_Z s) :=
 VT.loop (fun k=>ptm_y_I s k) ((cntV s 6).toNat) (fun k hk=>ptm_y_s s h hh k hk) (ptm_y_e s h hh) (by intro h;cases h)
noncomputable def ptm_n_I (s:Rst) (m:Nat) (k:Nat):VS:=stt 44 [(0,.ptr 100000 0 0),(2,.ptr 2 0 0),(4,.ptr 4 0 0),(5,.ptr 5 0 0),(18,i64 (cntV s 6)),(19,i64 k)] [(2,.var [.any]),(4,.var [.ptr 100000 0 0]),(5,.var [.own 900]),(900,.slc 51 5 ((mkL (cntS s 6) k).map blcC)),(100000,.var (rdC (mkS (cntS s 6) k)))]
noncomputable def ptm_n_Z (s:Rst) (m:Nat):VS:=stt 44 [(2,.ptr 2 0 0),(3,i64 (blkT (mkS (cntS s 6) m)).1.2)] [(2,.var [nilv]),(100000,.var (rdC (mkS (cntS s 6) (m+1))))]
theorem ptm_n_s (s:Rst) (m:Nat) (h:s.Fit) (hm:m<(cntV s 6).toNat) (hf:(blkT (mkS (cntS s 6) m)).1.2≠0) (hh:∀ k,k<m→(blkT (mkS (cntS s 6) k)).1.2=0) (k:Nat) (hk:k<m):VT L_ (fnC Tryz.f60 [1,1,1,1,1,0,1,0,0]) (ptm_n_I s m k) .normal (ptm_n_I s m (k+1)):=by
 have q:=cntV_rng (m:=6) h.i (by decide)
 have q0:=mkS_fit (cnt_fit h 6) k
 have q1:=mkL_len (cntS s 6) k
 have q2:=hh k hk
 have oz1:=@ptake_v (mkS (cntS s 6) k) q0
 exact tR_ [r_,b_,.r [] [cm oz1],r_,d_,r_,.r [] [.n ((↑k:Int)+1)]] [.any (rg [(7,2),(20,8),(30,7)]),.drop [7,33],.ren 34 900,.weak 19 (i64 (↑(k+1):Int)),.blk 900 (Blk.slc 51 5 (K_ blcC (mkL (cntS s 6) (k+1)))),.blk 100000 (Blk.var [AV.sl 1 (K_ (row1 .u8) (mkS (cntS s 6) (k+1)).fst),i64 (mkS (cntS s 6) (k+1)).snd]),.sort] (.c8 (decide_eq_true (p:=((↑k:Int)<cntV s 6)) (by omega)) oz1 (show ((blkT (mkS (cntS s 6) k)).fst.snd != 0)=false by (simp;omega)) (show ((K_ blcC (mkL (cntS s 6) k)).length+1)*88≤140737488355328 by (simp;omega)) (show (K_ blcC (mkL (cntS s 6) k)).length+1≤9223372036854775807 by (simp;omega)) (i6n ((↑k:Int)+1) (by omega)) (wS_ k) (show BlkW (Blk.slc 51 5 (K_ blcC (mkL (cntS s 6) k)++[[AV.sl 19 (K_ nodC (blkT (mkS (cntS s 6) k)).fst.fst.n),bv (blkT (mkS (cntS s 6) k)).fst.fst.ex,AV.sl 1 (K_ (row1 .i8) (blkT (mkS (cntS s 6) k)).fst.fst.w),AV.sl 1 (K_ (row1 .i32) (blkT (mkS (cntS s 6) k)).fst.fst.b),i32 (blkT (mkS (cntS s 6) k)).fst.fst.nd]])) (Blk.slc 51 5 (K_ blcC (mkL (cntS s 6) (k+1)))) from (BU_ (e:=51) (z:=5) (rows_to (blcC) (r:=K_ blcC (mkL (cntS s 6) k)++[[AV.sl 19 (K_ nodC (blkT (mkS (cntS s 6) k)).fst.fst.n),bv (blkT (mkS (cntS s 6) k)).fst.fst.ex,AV.sl 1 (K_ (row1 .i8) (blkT (mkS (cntS s 6) k)).fst.fst.w),AV.sl 1 (K_ (row1 .i32) (blkT (mkS (cntS s 6) k)).fst.fst.b),i32 (blkT (mkS (cntS s 6) k)).fst.fst.nd]]) (l:=mkL (cntS s 6) k++[Blc.mk (blkT (mkS (cntS s 6) k)).fst.fst.n (blkT (mkS (cntS s 6) k)).fst.fst.ex (blkT (mkS (cntS s 6) k)).fst.fst.w (blkT (mkS (cntS s 6) k)).fst.fst.b (blkT (mkS (cntS s 6) k)).fst.fst.nd]) (m:=mkL (cntS s 6) (k+1)) (by first|(simp only[B_,C_,AO_,AP_,W_,AK_,AL_];done)|rfl|(simp only[B_,C_,AO_,AP_,W_,AK_,AL_];rfl)|(simp only[B_,C_,AO_,AP_,W_,AK_,AL_,blcC,ints];done)) (show (mkL (cntS s 6) k++[Blc.mk (blkT (mkS (cntS s 6) k)).fst.fst.n (blkT (mkS (cntS s 6) k)).fst.fst.ex (blkT (mkS (cntS s 6) k)).fst.fst.w (blkT (mkS (cntS s 6) k)).fst.fst.b (blkT (mkS (cntS s 6) k)).fst.fst.nd])=(mkL (cntS s 6) (k+1)) from (by rfl)))))<|.d (show BlkW (Blk.var [AV.sl 1 (K_ (row1 .u8) (blkT (mkS (cntS s 6) k)).snd.fst),i64 (blkT (mkS (cntS s 6) k)).snd.snd]) (Blk.var [AV.sl 1 (K_ (row1 .u8) (mkS (cntS s 6) (k+1)).fst),i64 (mkS (cntS s 6) (k+1)).snd]) from (BlkW.var (m:=[AV.sl 1 (K_ (row1 .u8) (mkS (cntS s 6) (k+1)).fst),i64 (mkS (cntS s 6) (k+1)).snd]) (.cons (BQ_ (rows_to (row1 .u8) (r:=K_ (row1 .u8) (blkT (mkS (cntS s 6) k)).snd.fst) (l:=(blkT (mkS (cntS s 6) k)).snd.fst) (m:=(mkS (cntS s 6) (k+1)).fst) rfl (show ((blkT (mkS (cntS s 6) k)).snd.fst)=((mkS (cntS s 6) (k+1)).fst) from (by rfl)))) (.cons (Q_ (by rfl)) .nil)))))
theorem ptm_n_e (s:Rst) (m:Nat) (h:s.Fit) (hm:m<(cntV s 6).toNat) (hf:(blkT (mkS (cntS s 6) m)).1.2≠0) (hh:∀ k,k<m→(blkT (mkS (cntS s 6) k)).1.2=0):VT L_ (fnC Tryz.f60 [1,1,1,1,1,0,1,0,0]) (ptm_n_I s m (m)) (.ret) (ptm_n_Z s m):=by
 have q:=cntV_rng (m:=6) h.i (by decide)
 have q0:=mkS_fit (cnt_fit h 6) m
 have q1:=mkL_len (cntS s 6) m
 have oz1:=@ptake_v (mkS (cntS s 6) m) q0
 exact tR_ [r_,b_,.r [] [cm oz1],r_,b_,r_] [.any (rg [(0,1),(4,2),(7,2),(18,12)]),.drop [4,5,900,7],.blk 100000 (Blk.var [AV.sl 1 (K_ (row1 .u8) (mkS (cntS s 6) (m+1)).fst),i64 (mkS (cntS s 6) (m+1)).snd]),.sort] (.d4 (decide_eq_true (p:=((↑m:Int)<cntV s 6)) (by omega)) oz1 (show ((blkT (mkS (cntS s 6) m)).fst.snd != 0)=true by (simp;omega)) (show BlkW (Blk.var [AV.sl 1 (K_ (row1 .u8) (blkT (mkS (cntS s 6) m)).snd.fst),i64 (blkT (mkS (cntS s 6) m)).snd.snd]) (Blk.var [AV.sl 1 (K_ (row1 .u8) (mkS (cntS s 6) (m+1)).fst),i64 (mkS (cntS s 6) (m+1)).snd]) from (BlkW.var (m:=[AV.sl 1 (K_ (row1 .u8) (mkS (cntS s 6) (m+1)).fst),i64 (mkS (cntS s 6) (m+1)).snd]) (.cons (BQ_ (rows_to (row1 .u8) (r:=K_ (row1 .u8) (blkT (mkS (cntS s 6) m)).snd.fst) (l:=(blkT (mkS (cntS s 6) m)).snd.fst) (m:=(mkS (cntS s 6) (m+1)).fst) rfl (show ((blkT (mkS (cntS s 6) m)).snd.fst)=((mkS (cntS s 6) (m+1)).fst) from (by rfl)))) (.cons (Q_ (by rfl)) .nil)))))
theorem ptm_n (s:Rst) (m:Nat) (h:s.Fit) (hm:m<(cntV s 6).toNat) (hf:(blkT (mkS (cntS s 6) m)).1.2≠0) (hh:∀ k,k<m→(blkT (mkS (cntS s 6) k)).1.2=0):VT L_ (fnC Tryz.f60 [1,1,1,1,1,0,1,0]) (ptm_n_I s m 0) (.ret) (ptm_n_Z s m) :=
 VT.loop (fun k=>ptm_n_I s m k) (m) (fun k hk=>ptm_n_s s m h hm hf hh k hk) (ptm_n_e s m h hm hf hh) (by intro h;cases h)
theorem ptmod_f (s:Rst) (m:Nat) (h:s.Fit) (hm:m<(cntV s 6).toNat) (hf:(blkT (mkS (cntS s 6) m)).1.2≠0) (hh:∀ k,k<m→(blkT (mkS (cntS s 6) k)).1.2=0):VM L_ 60 ([.ptr 100000 0 0]) ([(100000,.var (rdC s))]) (.tup [.agg [.sl 5 []],i64 (blkT (mkS (cntS s 6) m)).1.2]) ([(100000,.var (rdC (mkS (cntS s 6) (m+1))))]):=by
 have q:=cntV_rng (m:=6) h.i (by decide)
 have q0:=mkS_fit (cnt_fit h 6) (cntV s 6).toNat
 have q1:=mkL_len (cntS s 6) (cntV s 6).toNat
 have qi:=h.i
 have qe:=q0.e
 have oz1:=@tnum_1 (s) (0) (6) qi (by omega) (by omega)
 have oz5:=@ptm_n (s) (m) h hm hf hh
 exact mR_ [r_,r_,d_,r_,r_,.r [] [.callm [(100000,100000),(6,100001)] [] (rM oz1) (oM oz1)],r_,.code [.any [3,6,10,11,13,14,15,16,17],.drop [6],.weak 19 (i64 (↑0:Int)),.nilc 900 51 5 5 0,.blk 2 (Blk.var [AV.any]),.blk 100000 (Blk.var [AV.sl 1 (K_ (row1 .u8) (mkS (cntS s 6) 0).fst),i64 (mkS (cntS s 6) 0).snd]),.sort] (Exit.ret) (zO oz5)] [.drop [2],.weak 0 (AV.tup [AV.agg [AV.sl 5 []],i64 (blkT (mkS (cntS s 6) m)).fst.snd]),.sort] _ Tryz.func60 (.d7 z1_ oz1 w0_ (show BlkW (Blk.var [AV.lit (AQ_ none (0:Nat) (0:Nat))]) (Blk.var [AV.any]) from (BlkW.var (m:=[AV.any]) (.cons (BG_ _) .nil))) (show BlkW (Blk.var [AV.sl 1 (K_ (row1 .u8) (cntS s 6).fst),i64 (cntS s 6).snd]) (Blk.var [AV.sl 1 (K_ (row1 .u8) (mkS (cntS s 6) 0).fst),i64 (mkS (cntS s 6) 0).snd]) from (BlkW.var (m:=[AV.sl 1 (K_ (row1 .u8) (mkS (cntS s 6) 0).fst),i64 (mkS (cntS s 6) 0).snd]) (.cons (BQ_ (rows_to (row1 .u8) (r:=K_ (row1 .u8) (cntS s 6).fst) (l:=(cntS s 6).fst) (m:=(mkS (cntS s 6) 0).fst) rfl (show ((cntS s 6).fst)=((mkS (cntS s 6) 0).fst) from (by rfl)))) (.cons (Q_ (by rfl)) .nil)))) oz5 (show Weak (AV.tup [AV.agg [AV.lit (AQ_ none 0 0)],i64 (blkT (mkS (cntS s 6) m)).fst.snd]) (AV.tup [AV.agg [AV.sl 5 []],i64 (blkT (mkS (cntS s 6) m)).fst.snd]) from (AI_ (.cons (BL_ (.cons (AG_ _) .nil)) (.cons (.refl _) .nil)))))
theorem ptmod_b (s:Rst) (h:s.Fit) (hh:∀ k,k<(cntV s 6).toNat→(blkT (mkS (cntS s 6) k)).1.2=0) (hb:(mkS (cntS s 6) (cntV s 6).toNat).2≠0):VM L_ 60 ([.ptr 100000 0 0]) ([(100000,.var (rdC s))]) (.tup [.agg [.sl 5 []],i64 (mkS (cntS s 6) (cntV s 6).toNat).2]) ([(100000,.var (rdC (mkS (cntS s 6) (cntV s 6).toNat)))]):=by
 have q:=cntV_rng (m:=6) h.i (by decide)
 have q0:=mkS_fit (cnt_fit h 6) (cntV s 6).toNat
 have q1:=mkL_len (cntS s 6) (cntV s 6).toNat
 have qi:=h.i
 have qe:=q0.e
 have oz1:=@tnum_1 (s) (0) (6) qi (by omega) (by omega)
 have oz5:=@ptm_y (s) h hh
 have oz6:=@bad_v (mkS (cntS s 6) (cntV s 6).toNat) qe
 exact mR_ [r_,r_,d_,r_,r_,.r [] [.callm [(100000,100000),(6,100001)] [] (rM oz1) (oM oz1)],r_,.code [.any [3,6,10,11,13,14,15,16,17],.drop [6],.weak 19 (i64 (↑0:Int)),.nilc 900 51 5 5 0,.blk 2 (Blk.var [AV.any]),.blk 100000 (Blk.var [AV.sl 1 (K_ (row1 .u8) (mkS (cntS s 6) 0).fst),i64 (mkS (cntS s 6) 0).snd]),.sort] (BO_ 0) (zO oz5),.r [] [cm oz6],r_,b_,r_] [.drop [2,4,5,900],.weak 0 (AV.tup [AV.agg [AV.sl 5 []],i64 (mkS (cntS s 6) (cntV s 6).toNat).snd]),.sort] _ Tryz.func60 (.c8 z1_ oz1 w0_ (show BlkW (Blk.var [AV.lit (AQ_ none (0:Nat) (0:Nat))]) (Blk.var [AV.any]) from (BlkW.var (m:=[AV.any]) (.cons (BG_ _) .nil))) (show BlkW (Blk.var [AV.sl 1 (K_ (row1 .u8) (cntS s 6).fst),i64 (cntS s 6).snd]) (Blk.var [AV.sl 1 (K_ (row1 .u8) (mkS (cntS s 6) 0).fst),i64 (mkS (cntS s 6) 0).snd]) from (BlkW.var (m:=[AV.sl 1 (K_ (row1 .u8) (mkS (cntS s 6) 0).fst),i64 (mkS (cntS s 6) 0).snd]) (.cons (BQ_ (rows_to (row1 .u8) (r:=K_ (row1 .u8) (cntS s 6).fst) (l:=(cntS s 6).fst) (m:=(mkS (cntS s 6) 0).fst) rfl (show ((cntS s 6).fst)=((mkS (cntS s 6) 0).fst) from (by rfl)))) (.cons (Q_ (by rfl)) .nil)))) oz5 oz6 (show ((mkS (cntS s 6) (cntV s 6).toNat).snd != 0)=true by (simp;omega))<|.d (show Weak (AV.tup [AV.agg [AV.lit (AQ_ none 0 0)],i64 (mkS (cntS s 6) (cntV s 6).toNat).snd]) (AV.tup [AV.agg [AV.sl 5 []],i64 (mkS (cntS s 6) (cntV s 6).toNat).snd]) from (AI_ (.cons (BL_ (.cons (AG_ _) .nil)) (.cons (.refl _) .nil)))))
theorem ptmod_y (s:Rst) (h:s.Fit) (hh:∀ k,k<(cntV s 6).toNat→(blkT (mkS (cntS s 6) k)).1.2=0) (hb:(mkS (cntS s 6) (cntV s 6).toNat).2=0):VM L_ 60 ([.ptr 100000 0 0]) ([(100000,.var (rdC s))]) (.tup [.agg [.sl 5 ((mkL (cntS s 6) (cntV s 6).toNat).map blcC)],i64 0]) ([(100000,.var (rdC (mkS (cntS s 6) (cntV s 6).toNat)))]):=by
 have q:=cntV_rng (m:=6) h.i (by decide)
 have q0:=mkS_fit (cnt_fit h 6) (cntV s 6).toNat
 have q1:=mkL_len (cntS s 6) (cntV s 6).toNat
 have qi:=h.i
 have qe:=q0.e
 have oz1:=@tnum_1 (s) (0) (6) qi (by omega) (by omega)
 have oz5:=@ptm_y (s) h hh
 have oz6:=@bad_v (mkS (cntS s 6) (cntV s 6).toNat) qe
 exact mR_ [r_,r_,d_,r_,r_,.r [] [.callm [(100000,100000),(6,100001)] [] (rM oz1) (oM oz1)],r_,.code [.any [3,6,10,11,13,14,15,16,17],.drop [6],.weak 19 (i64 (↑0:Int)),.nilc 900 51 5 5 0,.blk 2 (Blk.var [AV.any]),.blk 100000 (Blk.var [AV.sl 1 (K_ (row1 .u8) (mkS (cntS s 6) 0).fst),i64 (mkS (cntS s 6) 0).snd]),.sort] (BO_ 0) (zO oz5),.r [] [cm oz6],r_,d_,r_] [.frz 900,.drop [2,4,5],.sort] _ Tryz.func60 (.d8 z1_ oz1 w0_ (show BlkW (Blk.var [AV.lit (AQ_ none (0:Nat) (0:Nat))]) (Blk.var [AV.any]) from (BlkW.var (m:=[AV.any]) (.cons (BG_ _) .nil))) (show BlkW (Blk.var [AV.sl 1 (K_ (row1 .u8) (cntS s 6).fst),i64 (cntS s 6).snd]) (Blk.var [AV.sl 1 (K_ (row1 .u8) (mkS (cntS s 6) 0).fst),i64 (mkS (cntS s 6) 0).snd]) from (BlkW.var (m:=[AV.sl 1 (K_ (row1 .u8) (mkS (cntS s 6) 0).fst),i64 (mkS (cntS s 6) 0).snd]) (.cons (BQ_ (rows_to (row1 .u8) (r:=K_ (row1 .u8) (cntS s 6).fst) (l:=(cntS s 6).fst) (m:=(mkS (cntS s 6) 0).fst) rfl (show ((cntS s 6).fst)=((mkS (cntS s 6) 0).fst) from (by rfl)))) (.cons (Q_ (by rfl)) .nil)))) oz5 oz6 (show ((mkS (cntS s 6) (cntV s 6).toNat).snd != 0)=false by (simp;omega)))
def takeM:Nat→Rst→Int×Rst
 | 0,s=>(0,s)
 | n+1,s=>if (blkT s).1.2≠0 then ((blkT s).1.2,(blkT s).2) else takeM n (blkT s).2
theorem mkS_succ (s:Rst) (k:Nat):mkS s (k+1)=mkS (blkT s).2 k:=by
 induction k with
 | zero=>rfl
 | succ k ih=>rw[mkS,ih];rfl
theorem takeM_y {n:Nat}:∀ {s:Rst},(∀ k,k<n→(blkT (mkS s k)).1.2=0)→takeM n s=(0,mkS s n):=by
 induction n with
 | zero=>intro s _;rfl
 | succ n ih =>
  intro s h
  have h0:(blkT s).1.2=0:=h 0 (by omega)
  rw[takeM,j_ (by simpa using h0),mkS_succ]
  refine ih fun k hk=>?_
  rw[←mkS_succ];exact h (k+1) (by omega)
theorem takeM_n {n:Nat}:∀ {s:Rst} {m:Nat},m<n→(blkT (mkS s m)).1.2≠0→(∀ k,k<m→(blkT (mkS s k)).1.2=0)→takeM n s=((blkT (mkS s m)).1.2,mkS s (m+1)):=by
 induction n with
 | zero=>intro s m hm;omega
 | succ n ih =>
  intro s m hm hf h
  cases m with
  | zero=>rw[takeM,i_ (by exact hf)];rfl
  | succ m =>
   have h0:(blkT s).1.2=0:=h 0 (by omega)
   rw[takeM,j_ (by simpa using h0),mkS_succ s m,mkS_succ s (m+1)]
   rw[mkS_succ] at hf
   refine ih (by omega) hf fun k hk=>?_
   rw[←mkS_succ];exact h (k+1) (by omega)
def mdlT (s:Rst):(List Blc×Int)×Rst :=
 if (takeM (cntV s 6).toNat (cntS s 6)).1≠0 then (([],(takeM (cntV s 6).toNat (cntS s 6)).1),(takeM (cntV s 6).toNat (cntS s 6)).2)
 else if (mkS (cntS s 6) (cntV s 6).toNat).2≠0 then (([],(mkS (cntS s 6) (cntV s 6).toNat).2),mkS (cntS s 6) (cntV s 6).toNat) else ((mkL (cntS s 6) (cntV s 6).toNat,0),mkS (cntS s 6) (cntV s 6).toNat)
theorem ptmod_v (s:Rst) (h:s.Fit):VM L_ 60 [.ptr 100000 0 0] [(100000,.var (rdC s))] (.tup [.agg [.sl 5 ((mdlT s).1.1.map blcC)],i64 (mdlT s).1.2]) [(100000,.var (rdC (mdlT s).2))]:=by
 unfold mdlT
 rcases first_of (n:=(cntV s 6).toNat) (p:=fun k=>(blkT (mkS (cntS s 6) k)).1.2=0) with hh|⟨m,hm,hf,hh⟩
 ·rw[takeM_y hh,j_ (by simp)]
  by_cases hb:(mkS (cntS s 6) (cntV s 6).toNat).2=0
  ·rw[j_ (by simpa using hb)];exact ptmod_y s h hh hb
  ·rw[i_ hb];exact ptmod_b s h hh hb
 ·rw[takeM_n hm hf hh,i_ (by exact hf)];exact ptmod_f s m h hm hf hh
structure SB (x:Blc):Prop where
 l:x.n.length≤100
 n:∀ n∈x.n,n.w.length≤100000∧n.b.length≤100000
 w:x.w.length≤100000
 b:x.b.length≤100000
theorem tkL_le {s:Rst} (h:s.Fit) (n:Nat):∀ y∈tkL s n,y.w.length≤100000∧y.b.length≤100000:=by
 induction n with
 | zero=>intro y hy;cases hy
 | succ n ih =>
  intro y hy
  rw[tkL,BH_] at hy
  rcases hy with hy|hy
  ·exact ih y hy
  ·rw[List.mem_singleton.1 hy]
   have q:=takeN_le (tkS_fit h n)
   unfold takeR
   split
   ·exact ⟨AD_ _,AD_ _⟩
   ·split
    ·exact ⟨AD_ _,AD_ _⟩
    ·exact q
theorem blkT_SB {s:Rst} (h:s.Fit):SB (blkT s).1.1:=by
 have q:=cntV_rng (m:=8) h.i (by decide)
 rcases blkT_cases s with ⟨m,hm,hf,hh⟩|⟨hh,hb⟩|⟨hh,hb⟩
 ·rw[blkT_f hm hf hh];exact ⟨AD_ _,fun y hy=>(List.not_mem_nil hy).elim,AD_ _,AD_ _⟩
 ·rw[blkT_b hh hb];exact ⟨AD_ _,fun y hy=>(List.not_mem_nil hy).elim,AD_ _,AD_ _⟩
 ·have sm:=tkL_le (cnt_fit h 8) (cntV s 8).toNat
  rw[blkT_y hh hb]
  have en:(exN (stB s) (nodesT s)).n=nodesT s:=by unfold exN;split<;>rfl
  have ln:(nodesT s).length=(cntV s 8).toNat:=tkL_len _ _
  have st:=(tkS_fit (cnt_fit h 8) (cntV s 8).toNat)
  refine ⟨by rw[en,ln];omega,by rw[en];exact sm,?_,?_⟩
  ·unfold exN
   split
   ·exact lstW_le (cnt_fit st 1)
   ·exact AD_ _
  ·unfold exN
   split
   ·exact lstB_le (cnt_fit st 1)
   ·exact AD_ _
theorem takeM_fit {n:Nat}:∀ {s:Rst},s.Fit→(takeM n s).2.Fit:=by
 induction n with
 | zero=>intro s h;exact h
 | succ n ih =>
  intro s h
  rw[takeM]
  split
  ·exact blkT_fit h
  ·exact ih (blkT_fit h)
theorem mdlT_fit {s:Rst} (h:s.Fit):(mdlT s).2.Fit:=by
 unfold mdlT
 split
 ·exact takeM_fit (cnt_fit h 6)
 ·split
  ·exact mkS_fit (cnt_fit h 6) _
  ·exact mkS_fit (cnt_fit h 6) _
def muS (s:Rst):Nat→Rst
 | 0=>s
 | k+1=>(mdlT (muS s k)).2
def muL (s:Rst):Nat→List Mdl
 | 0=>[]
 | k+1=>muL s k++[⟨(mdlT (muS s k)).1.1⟩]
theorem muS_fit {s:Rst} (h:s.Fit) (k:Nat):(muS s k).Fit:=by
 induction k with
 | zero=>exact h
 | succ k ih=>exact mdlT_fit ih
theorem muL_len (s:Rst) (k:Nat):(muL s k).length=k:=by
 induction k with
 | zero=>rfl
 | succ k ih=>rw[muL,P_,ih];rfl
def endE (s:Rst):Int:=if s.2≠0 then s.2 else if 0<s.1.length then 24 else 0
theorem end_v (s:Rst):hDo_ 61 s (endE s) s:=by
 unfold endE
 split
 ·rename_i h;exact end_e s h
 ·rename_i h
  have h:s.2=0:=Classical.not_not.1 h
  obtain ⟨l,e⟩:=s
  subst h
  split
  ·rename_i g;exact end_m l g
  ·rename_i g
   have:l=[]:=AC_ (by dsimp only at g;omega)
   subst this;exact end_z
noncomputable def ptk_y_I (A B C D N:Int) (s:Rst) (k:Nat):VS:=stt 40 [(0,.ptr 100000 0 0),(2,.ptr 2 0 0),(4,.ptr 4 0 0),(18,i64 N),(19,i64 k)] [(2,.var [.any,.any,.any,.any,.any]),(4,.var [i64 A,i64 B,i64 C,i64 D,.own 900]),(900,.slc 44 1 ((muL s k).map mdlC)),(100000,.var (rdC (muS s k)))]
noncomputable def ptk_y_Z (A B C D N:Int) (s:Rst):VS:=ptk_y_I A B C D N s (N.toNat)
theorem ptk_y_s (A B C D N:Int) (s:Rst) (h:s.Fit) (hN:0≤N∧N≤3) (hh:∀ k,k<N.toNat→(mdlT (muS s k)).1.2=0) (k:Nat) (hk:k<N.toNat):VT L_ (fnC Tryz.f28 [1,1,0,1,0,0]) (ptk_y_I A B C D N s k) .normal (ptk_y_I A B C D N s (k+1)):=by
 have q0:=muS_fit h k
 have q1:=muL_len s k
 have q2:=hh k hk
 have oz1:=@ptmod_v (muS s k) q0
 exact tR_ [r_,b_,.r [] [cm oz1],r_,d_,r_,.r [] [.n ((↑k:Int)+1)]] [.any (rg [(5,2),(20,8),(30,7)]),.drop [5,33],.ren 34 900,.weak 19 (i64 (↑(k+1):Int)),.blk 900 (Blk.slc 44 1 (K_ mdlC (muL s (k+1)))),.blk 100000 (Blk.var [AV.sl 1 (K_ (row1 .u8) (muS s (k+1)).fst),i64 (muS s (k+1)).snd]),.sort] (.c8 (decide_eq_true (p:=((↑k:Int)<N)) (by omega)) oz1 (show ((mdlT (muS s k)).fst.snd != 0)=false by (simp;omega)) (show ((K_ mdlC (muL s k)).length+1)*24≤140737488355328 by (simp;omega)) (show (K_ mdlC (muL s k)).length+1≤9223372036854775807 by (simp;omega)) (i6n ((↑k:Int)+1) (by omega)) (wS_ k) (show BlkW (Blk.slc 44 1 (K_ mdlC (muL s k)++[[AV.sl 5 (K_ blcC (mdlT (muS s k)).fst.fst)]])) (Blk.slc 44 1 (K_ mdlC (muL s (k+1)))) from (BU_ (e:=44) (z:=1) (rows_to (mdlC) (r:=K_ mdlC (muL s k)++[[AV.sl 5 (K_ blcC (mdlT (muS s k)).fst.fst)]]) (l:=muL s k++[Mdl.mk (mdlT (muS s k)).fst.fst]) (m:=muL s (k+1)) (by first|(simp only[B_,C_,AO_,AP_,W_,AK_,AL_];done)|rfl|(simp only[B_,C_,AO_,AP_,W_,AK_,AL_];rfl)|(simp only[B_,C_,AO_,AP_,W_,AK_,AL_,mdlC,ints];done)) (show (muL s k++[Mdl.mk (mdlT (muS s k)).fst.fst])=(muL s (k+1)) from (by rfl)))))<|.d (show BlkW (Blk.var [AV.sl 1 (K_ (row1 .u8) (mdlT (muS s k)).snd.fst),i64 (mdlT (muS s k)).snd.snd]) (Blk.var [AV.sl 1 (K_ (row1 .u8) (muS s (k+1)).fst),i64 (muS s (k+1)).snd]) from (BlkW.var (m:=[AV.sl 1 (K_ (row1 .u8) (muS s (k+1)).fst),i64 (muS s (k+1)).snd]) (.cons (BQ_ (rows_to (row1 .u8) (r:=K_ (row1 .u8) (mdlT (muS s k)).snd.fst) (l:=(mdlT (muS s k)).snd.fst) (m:=(muS s (k+1)).fst) rfl (show ((mdlT (muS s k)).snd.fst)=((muS s (k+1)).fst) from (by rfl)))) (.cons (Q_ (by rfl)) .nil)))))
theorem ptk_y_e (A B C D N:Int) (s:Rst) (h:s.Fit) (hN:0≤N∧N≤3) (hh:∀ k,k<N.toNat→(mdlT (muS s k)).1.2=0):VT L_ (fnC Tryz.f28 [1,1,0,1,0,0]) (ptk_y_I A B C D N s (N.toNat)) (.exit 0) (ptk_y_Z A B C D N s):=by
 exact tR_ [r_,d_] [.any [20],.sort] (.d (decide_eq_false (p:=((↑N.toNat:Int)<N)) (by omega)))
theorem ptk_y (A B C D N:Int) (s:Rst) (h:s.Fit) (hN:0≤N∧N≤3) (hh:∀ k,k<N.toNat→(mdlT (muS s k)).1.2=0):VT L_ (fnC Tryz.f28 [1,1,0,1,0]) (ptk_y_I A B C D N s 0) (.exit 0) (ptk_y_Z A B C D N s) :=
 VT.loop (fun k=>ptk_y_I A B C D N s k) (N.toNat) (fun k hk=>ptk_y_s A B C D N s h hN hh k hk) (ptk_y_e A B C D N s h hN hh) (by intro h;cases h)
noncomputable def ptk_n_I (A B C D N:Int) (s:Rst) (m:Nat) (k:Nat):VS:=stt 40 [(0,.ptr 100000 0 0),(2,.ptr 2 0 0),(4,.ptr 4 0 0),(18,i64 N),(19,i64 k)] [(2,.var [.any,.any,.any,.any,.any]),(4,.var [i64 A,i64 B,i64 C,i64 D,.own 900]),(900,.slc 44 1 ((muL s k).map mdlC)),(100000,.var (rdC (muS s k)))]
noncomputable def ptk_n_Z (A B C D N:Int) (s:Rst) (m:Nat):VS:=stt 40 [(2,.ptr 2 0 0),(3,i64 (mdlT (muS s m)).1.2)] [(2,.var [i64 0,i64 0,i64 0,i64 0,nilv]),(100000,.var (rdC (muS s (m+1))))]
theorem ptk_n_s (A B C D N:Int) (s:Rst) (m:Nat) (h:s.Fit) (hN:0≤N∧N≤3) (hm:m<N.toNat) (hf:(mdlT (muS s m)).1.2≠0) (hh:∀ k,k<m→(mdlT (muS s k)).1.2=0) (k:Nat) (hk:k<m):VT L_ (fnC Tryz.f28 [1,1,0,1,0,0]) (ptk_n_I A B C D N s m k) .normal (ptk_n_I A B C D N s m (k+1)):=by
 have q0:=muS_fit h k
 have q1:=muL_len s k
 have q2:=hh k hk
 have oz1:=@ptmod_v (muS s k) q0
 exact tR_ [r_,b_,.r [] [cm oz1],r_,d_,r_,.r [] [.n ((↑k:Int)+1)]] [.any (rg [(5,2),(20,8),(30,7)]),.drop [5,33],.ren 34 900,.weak 19 (i64 (↑(k+1):Int)),.blk 900 (Blk.slc 44 1 (K_ mdlC (muL s (k+1)))),.blk 100000 (Blk.var [AV.sl 1 (K_ (row1 .u8) (muS s (k+1)).fst),i64 (muS s (k+1)).snd]),.sort] (.c8 (decide_eq_true (p:=((↑k:Int)<N)) (by omega)) oz1 (show ((mdlT (muS s k)).fst.snd != 0)=false by (simp;omega)) (show ((K_ mdlC (muL s k)).length+1)*24≤140737488355328 by (simp;omega)) (show (K_ mdlC (muL s k)).length+1≤9223372036854775807 by (simp;omega)) (i6n ((↑k:Int)+1) (by omega)) (wS_ k) (show BlkW (Blk.slc 44 1 (K_ mdlC (muL s k)++[[AV.sl 5 (K_ blcC (mdlT (muS s k)).fst.fst)]])) (Blk.slc 44 1 (K_ mdlC (muL s (k+1)))) from (BU_ (e:=44) (z:=1) (rows_to (mdlC) (r:=K_ mdlC (muL s k)++[[AV.sl 5 (K_ blcC (mdlT (muS s k)).fst.fst)]]) (l:=muL s k++[Mdl.mk (mdlT (muS s k)).fst.fst]) (m:=muL s (k+1)) (by first|(simp only[B_,C_,AO_,AP_,W_,AK_,AL_];done)|rfl|(simp only[B_,C_,AO_,AP_,W_,AK_,AL_];rfl)|(simp only[B_,C_,AO_,AP_,W_,AK_,AL_,mdlC,ints];done)) (show (muL s k++[Mdl.mk (mdlT (muS s k)).fst.fst])=(muL s (k+1)) from (by rfl)))))<|.d (show BlkW (Blk.var [AV.sl 1 (K_ (row1 .u8) (mdlT (muS s k)).snd.fst),i64 (mdlT (muS s k)).snd.snd]) (Blk.var [AV.sl 1 (K_ (row1 .u8) (muS s (k+1)).fst),i64 (muS s (k+1)).snd]) from (BlkW.var (m:=[AV.sl 1 (K_ (row1 .u8) (muS s (k+1)).fst),i64 (muS s (k+1)).snd]) (.cons (BQ_ (rows_to (row1 .u8) (r:=K_ (row1 .u8) (mdlT (muS s k)).snd.fst) (l:=(mdlT (muS s k)).snd.fst) (m:=(muS s (k+1)).fst) rfl (show ((mdlT (muS s k)).snd.fst)=((muS s (k+1)).fst) from (by rfl)))) (.cons (Q_ (by rfl)) .nil)))))
theorem ptk_n_e (A B C D N:Int) (s:Rst) (m:Nat) (h:s.Fit) (hN:0≤N∧N≤3) (hm:m<N.toNat) (hf:(mdlT (muS s m)).1.2≠0) (hh:∀ k,k<m→(mdlT (muS s k)).1.2=0):VT L_ (fnC Tryz.f28 [1,1,0,1,0,0]) (ptk_n_I A B C D N s m (m)) (.ret) (ptk_n_Z A B C D N s m):=by
 have q0:=muS_fit h m
 have q1:=muL_len s m
 have oz1:=@ptmod_v (muS s m) q0
 exact tR_ [r_,b_,.r [] [cm oz1],r_,b_,r_] [.any (rg [(0,1),(4,3),(18,12)]),.drop [4,900,5],.blk 100000 (Blk.var [AV.sl 1 (K_ (row1 .u8) (muS s (m+1)).fst),i64 (muS s (m+1)).snd]),.sort] (.d4 (decide_eq_true (p:=((↑m:Int)<N)) (by omega)) oz1 (show ((mdlT (muS s m)).fst.snd != 0)=true by (simp;omega)) (show BlkW (Blk.var [AV.sl 1 (K_ (row1 .u8) (mdlT (muS s m)).snd.fst),i64 (mdlT (muS s m)).snd.snd]) (Blk.var [AV.sl 1 (K_ (row1 .u8) (muS s (m+1)).fst),i64 (muS s (m+1)).snd]) from (BlkW.var (m:=[AV.sl 1 (K_ (row1 .u8) (muS s (m+1)).fst),i64 (muS s (m+1)).snd]) (.cons (BQ_ (rows_to (row1 .u8) (r:=K_ (row1 .u8) (mdlT (muS s m)).snd.fst) (l:=(mdlT (muS s m)).snd.fst) (m:=(muS s (m+1)).fst) rfl (show ((mdlT (muS s m)).snd.fst)=((muS s (m+1)).fst) from (by rfl)))) (.cons (Q_ (by rfl)) .nil)))))
theorem ptk_n (A B C D N:Int) (s:Rst) (m:Nat) (h:s.Fit) (hN:0≤N∧N≤3) (hm:m<N.toNat) (hf:(mdlT (muS s m)).1.2≠0) (hh:∀ k,k<m→(mdlT (muS s k)).1.2=0):VT L_ (fnC Tryz.f28 [1,1,0,1,0]) (ptk_n_I A B C D N s m 0) (.ret) (ptk_n_Z A B C D N s m) :=
 VT.loop (fun k=>ptk_n_I A B C D N s m k) (m) (fun k hk=>ptk_n_s A B C D N s m h hN hm hf hh k hk) (ptk_n_e A B C D N s m h hN hm hf hh) (by intro h;cases h)
theorem taken_n (s s1 s2 s3 s4 s5:Rst) (A B C D N:Int) (m:Nat) (c1:hDm_ 59 s 16 A s1) (c2:hDm_ 59 s1 16 B s2) (c3:hDm_ 59 s2 1024 C s3) (c4:hDm_ 59 s3 16 D s4) (c5:hDm_ 59 s4 3 N s5) (h:s5.Fit) (hN:0≤N∧N≤3) (hm:m<N.toNat) (hf:(mdlT (muS s5 m)).1.2≠0) (hh:∀ k,k<m→(mdlT (muS s5 k)).1.2=0):VM L_ 28 ([.ptr 100000 0 0]) ([(100000,.var (rdC s))]) (.tup [bun ⟨0,0,0,0,[]⟩,i64 (mdlT (muS s5 m)).1.2]) ([(100000,.var (rdC (muS s5 (m+1))))]):=by
 have oz0:=@c1
 have oz1:=@c2
 have oz2:=@c3
 have oz3:=@c4
 have oz4:=@c5
 have oz8:=@ptk_n (A) (B) (C) (D) (N) (s5) (m) h hN hm hf hh
 exact mR_ [r_,.r [] [cm oz0,cm oz1,cm oz2,cm oz3],.r [] [cm oz4],.code [.any (rg [(3,1),(7,11)]),.weak 19 (i64 (↑0:Int)),.nilc 900 44 1 4 4,.blk 2 (Blk.var [AV.any,AV.any,AV.any,AV.any,AV.any]),.blk 100000 (Blk.var [AV.sl 1 (K_ (row1 .u8) (muS s5 0).fst),i64 (muS s5 0).snd]),.sort] (Exit.ret) (zO oz8)] [.drop [2],.weak 0 (AV.tup [AV.agg [i64 0,i64 0,i64 0,i64 0,AV.sl 1 []],i64 (mdlT (muS s5 m)).fst.snd]),.sort] _ Tryz.func28 (.c8 oz0 oz1 oz2 oz3 oz4 w0_ (show BlkW (Blk.var [i64 (0:Int),i64 (0:Int),i64 (0:Int),i64 (0:Int),AV.lit (AQ_ none (0:Nat) (0:Nat))]) (Blk.var [AV.any,AV.any,AV.any,AV.any,AV.any]) from (BlkW.var (m:=[AV.any,AV.any,AV.any,AV.any,AV.any]) (.cons (BG_ _) (.cons (BG_ _) (.cons (BG_ _) (.cons (BG_ _) (.cons (BG_ _) .nil))))))) (show BlkW (Blk.var [AV.sl 1 (K_ (row1 .u8) s5.fst),i64 s5.snd]) (Blk.var [AV.sl 1 (K_ (row1 .u8) (muS s5 0).fst),i64 (muS s5 0).snd]) from (BlkW.var (m:=[AV.sl 1 (K_ (row1 .u8) (muS s5 0).fst),i64 (muS s5 0).snd]) (.cons (BQ_ (rows_to (row1 .u8) (r:=K_ (row1 .u8) s5.fst) (l:=s5.fst) (m:=(muS s5 0).fst) rfl (show (s5.fst)=((muS s5 0).fst) from (by rfl)))) (.cons (Q_ (by rfl)) .nil))))<|.d2 oz8 (show Weak (AV.tup [AV.agg [i64 0,i64 0,i64 0,i64 0,AV.lit (AQ_ none 0 0)],i64 (mdlT (muS s5 m)).fst.snd]) (AV.tup [AV.agg [i64 0,i64 0,i64 0,i64 0,AV.sl 1 []],i64 (mdlT (muS s5 m)).fst.snd]) from (AI_ (.cons (BL_ (.cons (.refl _) (.cons (.refl _) (.cons (.refl _) (.cons (.refl _) (.cons (AG_ _) .nil)))))) (.cons (.refl _) .nil)))))
theorem taken_y (s s1 s2 s3 s4 s5:Rst) (A B C D N:Int) (c1:hDm_ 59 s 16 A s1) (c2:hDm_ 59 s1 16 B s2) (c3:hDm_ 59 s2 1024 C s3) (c4:hDm_ 59 s3 16 D s4) (c5:hDm_ 59 s4 3 N s5) (h:s5.Fit) (hN:0≤N∧N≤3) (hh:∀ k,k<N.toNat→(mdlT (muS s5 k)).1.2=0):VM L_ 28 ([.ptr 100000 0 0]) ([(100000,.var (rdC s))]) (.tup [bun ⟨A,B,C,D,muL s5 N.toNat⟩,i64 (endE (muS s5 N.toNat))]) ([(100000,.var (rdC (muS s5 N.toNat)))]):=by
 have oz0:=@c1
 have oz1:=@c2
 have oz2:=@c3
 have oz3:=@c4
 have oz4:=@c5
 have oz8:=@ptk_y (A) (B) (C) (D) (N) (s5) h hN hh
 have oz9:=@end_v (muS s5 N.toNat)
 exact mR_ [r_,.r [] [cm oz0,cm oz1,cm oz2,cm oz3],.r [] [cm oz4],.code [.any (rg [(3,1),(7,11)]),.weak 19 (i64 (↑0:Int)),.nilc 900 44 1 4 4,.blk 2 (Blk.var [AV.any,AV.any,AV.any,AV.any,AV.any]),.blk 100000 (Blk.var [AV.sl 1 (K_ (row1 .u8) (muS s5 0).fst),i64 (muS s5 0).snd]),.sort] (BO_ 0) (zO oz8),.r [] [cm oz9]] [.frz 900,.drop [2,4],.sort] _ Tryz.func28 (.c8 oz0 oz1 oz2 oz3 oz4 w0_ (show BlkW (Blk.var [i64 (0:Int),i64 (0:Int),i64 (0:Int),i64 (0:Int),AV.lit (AQ_ none (0:Nat) (0:Nat))]) (Blk.var [AV.any,AV.any,AV.any,AV.any,AV.any]) from (BlkW.var (m:=[AV.any,AV.any,AV.any,AV.any,AV.any]) (.cons (BG_ _) (.cons (BG_ _) (.cons (BG_ _) (.cons (BG_ _) (.cons (BG_ _) .nil))))))) (show BlkW (Blk.var [AV.sl 1 (K_ (row1 .u8) s5.fst),i64 s5.snd]) (Blk.var [AV.sl 1 (K_ (row1 .u8) (muS s5 0).fst),i64 (muS s5 0).snd]) from (BlkW.var (m:=[AV.sl 1 (K_ (row1 .u8) (muS s5 0).fst),i64 (muS s5 0).snd]) (.cons (BQ_ (rows_to (row1 .u8) (r:=K_ (row1 .u8) s5.fst) (l:=s5.fst) (m:=(muS s5 0).fst) rfl (show (s5.fst)=((muS s5 0).fst) from (by rfl)))) (.cons (Q_ (by rfl)) .nil))))<|.d2 oz8 oz9)
theorem bun0_ok:Bun.Ok ⟨0,0,0,0,[]⟩:=by
 constructor<;>first|exact ⟨by decide,by decide⟩|(intro d hd;cases hd)
theorem bun0_sm:Bun.Sm ⟨0,0,0,0,[]⟩:=⟨by simp,fun d hd=>by cases hd⟩
theorem right_models {u:Bun} (h:(bunE u).w=0):wholeE u=0∧∀ j,j<u.m.length→mE u j=⟨0,0,0,0⟩:=by
 rcases bunE_cases u with g|g|⟨w,m,h1,h2,h3⟩
 ·have e:bunE u=⟨wholeE u,-1,-1,-1⟩:=i_ g
  rw[e] at h;exact absurd h g
 ·exact g
 ·rw[bunE_m w h1 h2 h3] at h;exact absurd h h2
def takeU:Nat→Rst→Int
 | 0,_=>0
 | n+1,s=>if (mdlT s).1.2≠0 then (mdlT s).1.2 else takeU n (mdlT s).2
theorem muS_succ (s:Rst) (k:Nat):muS s (k+1)=muS (mdlT s).2 k:=by
 induction k with
 | zero=>rfl
 | succ k ih=>rw[muS,ih];rfl
theorem takeU_y {n:Nat}:∀ {s:Rst},(∀ k,k<n→(mdlT (muS s k)).1.2=0)→takeU n s=0:=by
 induction n with
 | zero=>intro s _;rfl
 | succ n ih =>
  intro s h
  have h0:(mdlT s).1.2=0:=h 0 (by omega)
  rw[takeU,j_ (by simpa using h0)]
  refine ih fun k hk=>?_
  rw[←muS_succ];exact h (k+1) (by omega)
theorem takeU_n {n:Nat}:∀ {s:Rst} {m:Nat},m<n→(mdlT (muS s m)).1.2≠0→(∀ k,k<m→(mdlT (muS s k)).1.2=0)→takeU n s=(mdlT (muS s m)).1.2:=by
 induction n with
 | zero=>intro s m hm;omega
 | succ n ih =>
  intro s m hm hf h
  cases m with
  | zero=>rw[takeU,i_ (by exact hf)];rfl
  | succ m =>
   have h0:(mdlT s).1.2=0:=h 0 (by omega)
   rw[takeU,j_ (by simpa using h0),muS_succ s m]
   rw[muS_succ] at hf
   refine ih (by omega) hf fun k hk=>?_
   rw[←muS_succ];exact h (k+1) (by omega)
def hS4 (s:Rst):Rst:=cntS (cntS (cntS (cntS s 16) 16) 1024) 16
def hS5 (s:Rst):Rst:=cntS (hS4 s) 3
def hN (s:Rst):Int:=cntV (hS4 s) 3
def bunU (s:Rst):Bun:=⟨cntV s 16,cntV (cntS s 16) 16,cntV (cntS (cntS s 16) 16) 1024,cntV (cntS (cntS (cntS s 16) 16) 1024) 16,muL (hS5 s) (hN s).toNat⟩
def bunT (s:Rst):Bun×Int :=
 if takeU (hN s).toNat (hS5 s)≠0 then (⟨0,0,0,0,[]⟩,takeU (hN s).toNat (hS5 s)) else (bunU s,endE (muS (hS5 s) (hN s).toNat))
theorem taken_v (s:Rst) (h:s.Fit):∃ z,VM L_ 28 [.ptr 100000 0 0] [(100000,.var (rdC s))] (.tup [bun (bunT s).1,i64 (bunT s).2]) [(100000,.var (rdC z))]:=by
 have f1:=cnt_fit h 16
 have f2:=cnt_fit f1 16
 have f3:=cnt_fit f2 1024
 have f4:=cnt_fit f3 16
 have f5:=cnt_fit f4 3
 have q:=cntV_rng (m:=3) f4.i (by decide)
 have c1:=cnt_v s 16 h.i (by decide) (by decide)
 have c2:=cnt_v _ 16 f1.i (by decide) (by decide)
 have c3:=cnt_v _ 1024 f2.i (by decide) (by decide)
 have c4:=cnt_v _ 16 f3.i (by decide) (by decide)
 have c5:=cnt_v _ 3 f4.i (by decide) (by decide)
 unfold bunT
 rcases first_of (n:=(hN s).toNat) (p:=fun k=>(mdlT (muS (hS5 s) k)).1.2=0) with hh|⟨m,hm,hf,hh⟩
 ·rw[takeU_y hh,j_ (by simp)]
  exact ⟨_,taken_y _ _ _ _ _ _ _ _ _ _ _ c1 c2 c3 c4 c5 f5 q hh⟩
 ·rw[takeU_n hm hf hh,i_ hf]
  exact ⟨_,taken_n _ _ _ _ _ _ _ _ _ _ _ m c1 c2 c3 c4 c5 f5 q hm hf hh⟩
theorem dec_t (l d:List Int) (u:Bun) (e:Int) (z:Rst) (hd:d.length≤1000000) (ho:VC L_ 27 [ints .u8 l] (.tup [ints .u8 d,i64 0])) (ht:VM L_ 28 [.ptr 100000 0 0] [(100000,.var (rdC (d,0)))] (.tup [bun u,i64 e]) [(100000,.var (rdC z))]) (he:e≠0):VC L_ 10 ([ints .u8 l]) (.tup [.agg [i64 0,i64 0,i64 0,i64 0,nilv],i64 e]):=by
 have oz0:=@ho
 have oz2:=@read_v (d) hd
 have oz3:=@ht
 exact cR_ [r_,.r [] [cr oz0],r_,d_,.r [] [.callm [] [(950,20000)] (rM oz2) (oM oz2),.callm [(20000,100000)] [] (rM oz3) (oM oz3)],r_,b_,r_] _ Tryz.func10 (.d5 oz0 z1_ oz2 oz3 (show (e != 0)=true by (simp;omega)))
theorem dec_w (l d:List Int) (u:Bun) (z:Rst) (hd:d.length≤1000000) (ho:VC L_ 27 [ints .u8 l] (.tup [ints .u8 d,i64 0])) (ht:VM L_ 28 [.ptr 100000 0 0] [(100000,.var (rdC (d,0)))] (.tup [bun u,i64 0]) [(100000,.var (rdC z))]) (ok:u.Ok) (sm:u.Sm) (he:(bunE u).w≠0):VC L_ 10 ([ints .u8 l]) (.tup [.agg [i64 0,i64 0,i64 0,i64 0,nilv],i64 (bunE u).w]):=by
 have oz0:=@ho
 have oz1:=z1_
 have oz2:=@read_v (d) hd
 have oz3:=@ht
 have oz5:=@vbundle_v (u) ok sm
 exact cR_ [r_,.r [] [cr oz0],r_,d_,.r [] [.callm [] [(950,20000)] (rM oz2) (oM oz2),.callm [(20000,100000)] [] (rM oz3) (oM oz3)],r_,d_,.r [] [cr oz5],r_,b_,r_] _ Tryz.func10 (.d7 oz0 oz1 oz2 oz3 oz1 oz5 (show ((bunE u).w != 0)=true by (simp;omega)))
theorem dec_y (l d:List Int) (u:Bun) (z:Rst) (hd:d.length≤1000000) (ho:VC L_ 27 [ints .u8 l] (.tup [ints .u8 d,i64 0])) (ht:VM L_ 28 [.ptr 100000 0 0] [(100000,.var (rdC (d,0)))] (.tup [bun u,i64 0]) [(100000,.var (rdC z))]) (ok:u.Ok) (sm:u.Sm) (he:(bunE u).w=0):VC L_ 10 ([ints .u8 l]) (.tup [bun u,i64 0]):=by
 have oz0:=@ho
 have oz1:=z1_
 have oz2:=@read_v (d) hd
 have oz3:=@ht
 have oz5:=@vbundle_v (u) ok sm
 exact cR_ [r_,.r [] [cr oz0],r_,d_,.r [] [.callm [] [(950,20000)] (rM oz2) (oM oz2),.callm [(20000,100000)] [] (rM oz3) (oM oz3)],r_,d_,.r [] [cr oz5],r_,d_,r_] _ Tryz.func10 (.d7 oz0 oz1 oz2 oz3 oz1 oz5 (show ((bunE u).w != 0)=false by (simp;omega)))
def hdK (L:Int→List Int) (q:List Int):Nat→List Int
 | 0=>[83,84,87,49]
 | k+1=>hdK L q k++L (q.getD k default)
theorem hdK_len {L:Int→List Int} (hL:∀ x,(L x).length≤10) (q:List Int) (k:Nat):(hdK L q k).length≤4+10*k:=by
 induction k with
 | zero=>exact AX_ _
 | succ k ih=>have:=hL (q.getD k default);rw[hdK,P_];omega
structure Hds (L:Int→List Int) (H:Int→Int→Int→Int→Int→List Int):Prop where
 e:∀ h x c cl m,H h x c cl m=hdK L [h,x,c,cl,m] 5
theorem Hds.len {L:Int→List Int} {H:Int→Int→Int→Int→Int→List Int} (hH:Hds L H) (hL:∀ x,(L x).length≤10) (h x c cl m:Int):(H h x c cl m).length≤54:=by rw[hH.e];exact hdK_len hL _ 5
def hdF (L:Int→List Int) (h x c cl m:Int):List Int:=hdK L [h,x,c,cl,m] 5
theorem hds (L:Int→List Int):Hds L (hdF L):=⟨fun _ _ _ _ _=>rfl⟩
def accU (l:List Mdl) (B:List Int):Nat→List Int
 | 0=>B
 | k+1=>accU l B k++(modelR (l.getD k default)).1
def PkMV (m:Mdl):Prop:=VC L_ 26 [.agg (mdlC m)] (.tup [.sl 1 ((modelR m).1.map (row1 .u8)),i64 (modelR m).2])
structure Mdl.Pk (m:Mdl):Prop where
 v:PkMV m
 l:(modelR m).1.length≤1000000
theorem mdlPk_v (m:Mdl) (h:m.Pk):VC L_ 26 [.agg (mdlC m)] (.tup [.sl 1 ((modelR m).1.map (row1 .u8)),i64 (modelR m).2]):=h.v
theorem Mdl.Fw.pk {m:Mdl} (h:m.Fw) (hl:(modelR m).1.length≤1000000):m.Pk:=⟨pmodel_v m h,hl⟩
theorem accU_len {l:List Mdl} (h:∀ m∈l,m.Pk) (B:List Int) {k:Nat} (hk:k≤l.length):(accU l B k).length≤B.length+1000000*k:=by
 induction k with
 | zero=>exact AX_ _
 | succ k ih =>
  have a:=ih (by omega)
  have b:=(getD_in h (s_ (k<l.length))).l
  rw[accU,P_];omega
noncomputable def penc_h_I (u:Bun) (L:Int→List Int) (q:List Int) (k:Nat):VS:=stt 74 [(1,.ptr 1 0 0),(5,.sl 1 ((hdK L q k).map (row1 .u8))),(35,.sl 1 (q.map (row1 .i64))),(36,i64 q.length),(37,i64 k)] [(1,.var (bunC u))]
noncomputable def penc_h_Z (u:Bun) (L:Int→List Int) (q:List Int):VS:=penc_h_I u L q (q.length)
theorem penc_h_s (u:Bun) (L:Int→List Int) (q:List Int) (hL:Puts L) (hq:q.length≤10) (k:Nat) (hk:k<q.length):VT L_ (fnC Tryz.f9 [1,1,1,0,1,0,0]) (penc_h_I u L q k) .normal (penc_h_I u L q (k+1)):=by
 have q1:=hdK_len hL.l q k
 have q2:=hL.l (q.getD k default)
 have oz3:=@puts_v (L) hL (q.getD k 0)
 have oz4:=@joined_v (hdK L q k) (L (q.getD k 0)) (by (simp at *;omega))
 exact tR_ [r_,b_,.r [] [.row [i64 (q.getD k 0)]],.r [] [.w,cr oz3,.frz 0,cr oz4],.r [] [.n ((↑k:Int)+1)]] [.any (rg [(7,1),(38,10)]),.weak 5 (AV.sl 1 (K_ (row1 .u8) (hdK L q (k+1)))),.weak 37 (i64 (↑(k+1):Int)),.sort] (.d8 (decide_eq_true (p:=((↑k:Int)<(q.length:Int))) (by omega)) (s_ (0≤(↑k:Int))) (map_at (row1 .i64) (0) (l:=q) (i:=k) hk) oz3 oz4 (i6n ((↑k:Int)+1) (by omega)) (show Weak (AV.sl 1 (K_ (row1 .u8) (hdK L q k++L (q.getD k 0)))) (AV.sl 1 (K_ (row1 .u8) (hdK L q (k+1)))) from (BQ_ (rows_to (row1 .u8) (r:=K_ (row1 .u8) (hdK L q k++L (q.getD k 0))) (l:=hdK L q k++L (q.getD k 0)) (m:=hdK L q (k+1)) rfl (show (hdK L q k++L (q.getD k 0))=(hdK L q (k+1)) from (by rfl))))) (wS_ k))
theorem penc_h_e (u:Bun) (L:Int→List Int) (q:List Int) (hL:Puts L) (hq:q.length≤10):VT L_ (fnC Tryz.f9 [1,1,1,0,1,0,0]) (penc_h_I u L q (q.length)) (.exit 0) (penc_h_Z u L q):=by
 exact tR_ [r_,d_] [.any [38],.sort] (.d (decide_eq_false (p:=((q.length:Int)<(q.length:Int))) (by omega)))
theorem penc_h (u:Bun) (L:Int→List Int) (q:List Int) (hL:Puts L) (hq:q.length≤10):VT L_ (fnC Tryz.f9 [1,1,1,0,1,0]) (penc_h_I u L q 0) (.exit 0) (penc_h_Z u L q) :=
 VT.loop (fun k=>penc_h_I u L q k) (q.length) (fun k hk=>penc_h_s u L q hL hq k hk) (penc_h_e u L q hL hq) (by intro h;cases h)
theorem penc_h5 (u:Bun) (L:Int→List Int) (H:Int→Int→Int→Int→Int→List Int) (h x c cl m:Int) (hL:Puts L) (hH:Hds L H):VT L_ (fnC Tryz.f9 [1,1,1,0,1,0]) (stt 74 [(1,.ptr 1 0 0),(5,.sl 1 ((hdK L [h,x,c,cl,m] 0).map (row1 .u8))),(35,.sl 1 [[i64 h],[i64 x],[i64 c],[i64 cl],[i64 m]]),(36,i64 ((5:Nat):Int)),(37,i64 ((0:Nat):Int))] [(1,.var (bunC u))]) (.exit 0) (stt 74 [(1,.ptr 1 0 0),(5,.sl 1 ((H h x c cl m).map (row1 .u8))),(35,.sl 1 [[i64 h],[i64 x],[i64 c],[i64 cl],[i64 m]]),(36,i64 ((5:Nat):Int)),(37,i64 ((5:Nat):Int))] [(1,.var (bunC u))]) :=
 by rw[hH.e];exact penc_h u L [h,x,c,cl,m] hL (by simp)
noncomputable def penc_m_I (u:Bun) (B:List Int) (k:Nat):VS:=stt 74 [(1,.ptr 1 0 0),(5,.sl 1 ((accU u.m B k).map (row1 .u8))),(49,.sl 1 (u.m.map mdlC)),(50,i64 u.m.length),(51,i64 k)] [(1,.var (bunC u))]
noncomputable def penc_m_Z (u:Bun) (B:List Int):VS:=penc_m_I u B (u.m.length)
theorem penc_m_s (u:Bun) (B:List Int) (fw:∀ m∈u.m,m.Pk) (hl:u.m.length≤4) (hB:B.length≤100) (h:∀ k,k<u.m.length→(modelR (u.m.getD k default)).2=0) (k:Nat) (hk:k<u.m.length):VT L_ (fnC Tryz.f9 [1,1,1,1,0,1,0,0]) (penc_m_I u B k) .normal (penc_m_I u B (k+1)):=by
 have q:=h k hk
 have q1:=getD_in fw hk
 have q2:(modelR (Mdl.mk (u.m.getD k default).l)).1.length≤1000000:=q1.l
 have q3:=accU_len fw B (Nat.le_of_lt hk)
 have oz2:=(map_at (mdlC) (default) (l:=u.m) (i:=k) hk)
 have oz3:=@mdlPk_v (Mdl.mk (u.m.getD k default).l) q1
 have oz5:=@joined_v (accU u.m B k) ((modelR (Mdl.mk (u.m.getD k default).l)).fst) (by (try dsimp only)<;>omega)
 exact tR_ [r_,b_,.r [] [.row (sO oz2)],.r [] [cr oz3],r_,d_,.r [] [.frz 0,cr oz5],.r [] [.n ((↑k:Int)+1)]] [.any (rg [(9,3),(52,10),(63,5)]),.drop [9],.weak 5 (AV.sl 1 (K_ (row1 .u8) (accU u.m B (k+1)))),.weak 51 (i64 (↑(k+1):Int)),.sort] (.c8 (decide_eq_true (p:=((↑k:Int)<(u.m.length:Int))) (by (try dsimp only)<;>omega)) (s_ (0≤(↑k:Int))) oz2 oz3 (show ((modelR (Mdl.mk (u.m.getD k default).l)).snd != 0)=false by (simp at *;omega)) oz5 (i6n ((↑k:Int)+1) (by (try dsimp only)<;>omega)) (show Weak (AV.sl 1 (K_ (row1 .u8) (accU u.m B k++(modelR (Mdl.mk (u.m.getD k default).l)).fst))) (AV.sl 1 (K_ (row1 .u8) (accU u.m B (k+1)))) from (BQ_ (rows_to (row1 .u8) (r:=K_ (row1 .u8) (accU u.m B k++(modelR (Mdl.mk (u.m.getD k default).l)).fst)) (l:=accU u.m B k++(modelR (Mdl.mk (u.m.getD k default).l)).fst) (m:=accU u.m B (k+1)) rfl (show (accU u.m B k++(modelR (Mdl.mk (u.m.getD k default).l)).fst)=(accU u.m B (k+1)) from (by rfl)))))<|.d (Q_ (k:=.i64) (show (((↑k:Int)+1):Int)=((↑(k+1):Int)) from (by (try dsimp only)<;>omega))))
theorem penc_m_e (u:Bun) (B:List Int) (fw:∀ m∈u.m,m.Pk) (hl:u.m.length≤4) (hB:B.length≤100) (h:∀ k,k<u.m.length→(modelR (u.m.getD k default)).2=0):VT L_ (fnC Tryz.f9 [1,1,1,1,0,1,0,0]) (penc_m_I u B (u.m.length)) (.exit 2) (penc_m_Z u B):=by
 exact tR_ [r_,d_] [.any [52],.sort] (.d (decide_eq_false (p:=((u.m.length:Int)<(u.m.length:Int))) (by omega)))
theorem penc_m (u:Bun) (B:List Int) (fw:∀ m∈u.m,m.Pk) (hl:u.m.length≤4) (hB:B.length≤100) (h:∀ k,k<u.m.length→(modelR (u.m.getD k default)).2=0):VT L_ (fnC Tryz.f9 [1,1,1,1,0,1,0]) (penc_m_I u B 0) (.exit 2) (penc_m_Z u B) :=
 VT.loop (fun k=>penc_m_I u B k) (u.m.length) (fun k hk=>penc_m_s u B fw hl hB h k hk) (penc_m_e u B fw hl hB h) (by intro h;cases h)
theorem steps_in {n k s p:Int} (h:(stepsE n k s p).2=0):1≤k∧k≤5∧1≤s∧s≤4∧0≤p∧p≤4:=by
 unfold stepsE at h
 split at h
 ·cases h
 ·omega
theorem slide_in {t:Shp} {k s p o:Int} (h:(slideE t k s p o).2=0):0<elems t.h t.x t.c∧(1≤k∧k≤5∧1≤s∧s≤4∧0≤p∧p≤4)∧1≤o∧o≤1024:=by
 unfold slideE at h
 split at h
 ·cases h
 ·rename_i h1
  split at h
  ·rename_i h2;exact absurd h h2
  ·rename_i h2
   split at h
   ·rename_i h3;exact absurd h h3
   ·split at h
    ·cases h
    ·rename_i h4
     have q:=elems_ok (Classical.not_not.1 h4)
     exact ⟨Classical.not_not.1 h1,steps_in (Classical.not_not.1 h2),q.2.2.2.2.1,q.2.2.2.2.2.1⟩
theorem check_0 {n:Nod} (h:checkE n=0):(1≤n.kd∧n.kd≤9)∧moreE n=false:=by
 unfold checkE at h
 split at h
 ·cases h
 ·rename_i h1
  split at h
  ·cases h
  ·rename_i h2;exact ⟨by omega,by simpa using h2⟩
theorem more_0 {n:Nod} (h:moreE n=false):(¬ (n.kd=1∨n.kd=2∨n.kd=3)→n.w.length=0∧n.b.length=0)∧(¬ (n.kd=1∨n.kd=3)→n.no=0)∧(¬ (n.kd=1∨n.kd=2∨n.kd=4∨n.kd=5)→n.nk=0∧n.ns=0)∧(¬ (n.kd=1∨n.kd=2∨n.kd=4∨n.kd=5∨n.kd=8)→n.np=0)∧(n.kd≠6→n.nb=0):=by
 unfold moreE at h
 simp only[U_,T_,X_,D_,I_,F_,G_] at h
 obtain ⟨⟨⟨⟨⟨h1,h2⟩,h3,h4⟩,h5,_⟩,_⟩,_⟩:=h
 refine ⟨fun q=>?_,fun q=>?_,fun q=>?_,fun q=>?_,fun q=>?_⟩
 ·rcases h1 with h1|⟨h1,h1'⟩
  ·exact absurd (by omega) q
  ·omega
 ·omega
 ·rcases h3 with h3|h3
  ·exact absurd (by omega) q
  ·exact h3
 ·rcases h4 with (h4|h4)|h4
  ·exact absurd (by omega) q
  ·exact absurd (by omega) q
  ·exact h4
 ·rcases h5 with h5|h5
  ·exact absurd h5 q
  ·exact h5.1.1.1
theorem six_in {n:Nod} (h:∀ v∈six n,0≤v∧v≤1024):(six n).all okI=true:=by
 rw[CF_]
 intro v hv
 have:=h v hv
 simp only[okI,N_,E_];exact this
theorem next_lay {n:Nod} {L:List Shp} (hL:L.length≤20) (h:(nextE n L).2=0):(nodeP n).2=0:=by
 unfold nextE at h
 split at h
 ·rename_i h1;exact absurd h h1
 rename_i h1
 have h1:=Classical.not_not.1 h1
 split at h
 ·rename_i h2
  rw[there_iff] at h2
  obtain ⟨⟨k1,k9⟩,hm⟩:=check_0 h1
  obtain ⟨m1,m2,m3,m4,m5⟩:=more_0 hm
  have key:(∀ v∈six n,0≤v∧v≤1024)∧n.w.length≤16384∧n.b.length≤16384:=by
   have hna:0≤n.na∧n.na≤1024:=by omega
   have hnb:0≤n.nb∧n.nb≤1024:=by
    by_cases e:n.kd=6
    ·have:secN n=n.nb:=by unfold secN;rw[i_ e]
     omega
    ·rw[m5 e];omega
   have fin:(0≤n.nk∧n.nk≤1024)→(0≤n.ns∧n.ns≤1024)→(0≤n.np∧n.np≤1024)→(0≤n.no∧n.no≤1024)→∀ v∈six n,0≤v∧v≤1024:=by
    intro a b c d v hv
    simp only[six,List.mem_cons,List.not_mem_nil,or_false] at hv
    rcases hv with rfl|rfl|rfl|rfl|rfl|rfl<;>assumption
   unfold shapeE at h
   split at h
   ·rename_i e
    unfold convE at h
    split at h
    ·rename_i q;exact absurd h q
    ·rename_i q
     have s:=slide_in (Classical.not_not.1 q)
     split at h
     ·cases h
     ·rename_i q2
      exact ⟨fin (by omega) (by omega) (by omega) (by omega),by omega,by omega⟩
   ·rename_i e1
    split at h
    ·rename_i e
     have n0:=m2 (by omega)
     unfold depthE at h
     split at h
     ·rename_i q;exact absurd h q
     ·rename_i q
      have s:=slide_in (Classical.not_not.1 q)
      split at h
      ·cases h
      ·rename_i q2
       exact ⟨fin (by omega) (by omega) (by omega) (by omega),by omega,by omega⟩
    ·rename_i e2
     split at h
     ·rename_i e
      have n1:=m3 (by omega)
      have n2:=m4 (by omega)
      unfold denseE at h
      split at h
      ·cases h
      ·rename_i q
       have q:0<elems 1 1 n.no:=by have:=elems_in 1 1 n.no;omega
       have s:=elems_ok q
       split at h
       ·cases h
       ·rename_i q2
        exact ⟨fin (by omega) (by omega) (by omega) (by omega),by omega,by omega⟩
     ·rename_i e3
      have n0:=m1 (by omega)
      have n1:=m2 (by omega)
      split at h
      ·rename_i e
       have s:=slide_in h
       exact ⟨fin (by omega) (by omega) (by omega) (by omega),by omega,by omega⟩
      ·rename_i e4
       have n3:=m3 (by omega)
       split at h
       ·cases h
       ·split at h
        ·cases h
        ·split at h
         ·rename_i e
          have n4:=m4 (by omega)
          exact ⟨fin (by omega) (by omega) (by omega) (by omega),by omega,by omega⟩
         ·split at h
          ·rename_i e
           unfold aroundE at h
           split at h
           ·cases h
           ·exact ⟨fin (by omega) (by omega) (by omega) (by omega),by omega,by omega⟩
          ·have n4:=m4 (by omega)
           exact ⟨fin (by omega) (by omega) (by omega) (by omega),by omega,by omega⟩
  unfold nodeP
  rw[j_ (by rw[h1];simp),j_ (by rw[six_in key.1];simp),j_ (by omega)]
 ·cases h
theorem valid_lay {x:Blc} {a:Shp} {cl:Int} {last:Bool} (h:(validE x a cl last).2=0):(blockR x).2=0:=by
 have s:=validE_ok h
 have n0:nodesE x.n=0:=nodesE_y fun n hn=>by
  obtain ⟨i,hi,e⟩:=List.mem_iff_getElem.1 hn
  have q:=s.k i hi
  unfold errL at q
  rw[AU_,Z_ hi,BW_,e] at q
  exact next_lay (by rw[growL_len];have:=s.f;omega) q
 have hx:headX x=0:=by
  by_cases g:FOK x.n fullR
  ·rw[validE_y s g] at h
   split at h
   ·rename_i q;exact absurd h q
   ·rename_i q
    have q:=Classical.not_not.1 q
    unfold exitE at q
    split at q
    ·cases q
    ·rename_i q1
     split at q
     ·rename_i q2
      unfold headX
      rw[j_ (by rintro ⟨_,h3⟩;exact q1 ⟨q2,.inr (by omega)⟩)]
      have:x.w.length=0∧x.b.length=0∧x.nd=0:=by
       by_cases z:x.w.length=0∧x.b.length=0∧x.nd=0
       ·exact z
       ·exact absurd ⟨q2,.inr z⟩ q1
      rw[j_ (by omega)]
     ·rename_i q2
      have v0:verdE (lastS x.n a) x.w x.b x.nd cl=0:=by
       split at q
       ·rename_i q3;exact absurd q q3
       ·rename_i q3;exact Classical.not_not.1 q3
      unfold verdE at v0
      split at v0
      ·cases v0
      ·split at v0
       ·cases v0
       ·split at v0
        ·cases v0
        ·split at v0
         ·cases v0
         ·unfold headX
          rw[j_ (fun h=>q2 h.1),j_ (by omega)]
  ·rw[validE_f s g] at h;exact absurd h (flowE_n g)
 unfold blockR
 rw[j_ (by have:=s.f;omega),j_ (by simpa using n0),j_ (by simpa using hx)]
theorem bun_lay {u:Bun} (h:(bunE u).w=0):∀ m∈u.m,(modelR m).2=0:=by
 obtain ⟨w,hm⟩:=right_models h
 intro m hmm
 obtain ⟨j,hj,e⟩:=List.mem_iff_getElem.1 hmm
 have q:=hm j hj
 have q:=modelE_ok q
 have eg:u.m.getD j default=m:=by rw[AU_,Z_ hj,BW_,e]
 rw[eg] at q
 obtain ⟨_,l6,hb⟩:=q
 have e0:blocksE m.l=0:=blocksE_y fun k hk=>valid_lay (hb k hk)
 unfold modelR
 rw[j_ (by omega),j_ (by simpa using e0)]
theorem cap_t {X:List Int} (h:1048572<X.length) (h2:X.length≤10000000):decide (IntKind.i64.wrap (((X.map (row1 .u8)).length:Int)+4)>1048576)=true:=by
 rw[R_,IntKind.wrap_i64];exact decide_eq_true (by omega)
theorem cap_f {X:List Int} (h:X.length≤1048572):decide (IntKind.i64.wrap (((X.map (row1 .u8)).length:Int)+4)>1048576)=false:=by
 rw[R_,IntKind.wrap_i64];exact decide_eq_false (by omega)
theorem penc_x (u:Bun) (ok:u.Ok) (sm:u.Sm) (h:¬ (bunE u).w=0):VC L_ 9 ([bun u]) (.tup [.sl 1 (([]:List Int).map (row1 .u8)),i64 (bunE u).w]):=by
 have oz0:=@vbundle_v (u) ok sm
 exact (cR_ [r_,.r [] [cr oz0],r_,b_,r_] (AV.tup [AV.lit (AQ_ none 0 0),i64 (bunE u).w]) Tryz.func9 (.d2 oz0 (show ((bunE u).w != 0)=true by (simp;omega)))).weak (AM_ _) (AI_ (.cons (AG_ _) (.cons (.refl _) .nil)))
theorem penc_l (u:Bun) (L:Int→List Int) (H:Int→Int→Int→Int→Int→List Int) (ok:u.Ok) (sm:u.Sm) (hL:Puts L) (hH:Hds L H) (h:(bunE u).w=0) (fw:∀ m∈u.m,m.Pk) (hl:u.m.length≤4) (hm:∀ k,k<u.m.length→(modelR (u.m.getD k default)).2=0) (hlen:1048572<(accU u.m (H u.h u.x u.c u.cl ((u.m.map mdlC).length:Int)) u.m.length).length):VC L_ 9 ([bun u]) (.tup [.sl 1 (([]:List Int).map (row1 .u8)),i64 25]):=by
 have q1:(H u.h u.x u.c u.cl ((u.m.map mdlC).length:Int)).length≤100:=by have:=hH.len hL.l u.h u.x u.c u.cl ((u.m.map mdlC).length:Int);omega
 have q2:=accU_len fw (H u.h u.x u.c u.cl ((u.m.map mdlC).length:Int)) (AX_ _)
 have z:=cap_t hlen (by omega)
 have oz0:=@vbundle_v (u) ok sm
 have oz3:=w0_
 have oz4:=@penc_h5 (u) (L) (H) (u.h) (u.x) (u.c) (u.cl) (((K_ mdlC u.m).length:Int)) hL hH
 have oz8:=@penc_m (u) (H u.h u.x u.c u.cl ((K_ mdlC u.m).length:Int)) fw hl q1 hm
 exact (cR_ [r_,.r [] [cr oz0],r_,d_,r_,r_,.code [.frz 35,.any (rg [(0,1),(2,3),(12,5),(19,16)]),.drop [4],.weak 36 (i64 (↑5:Int)),.weak 37 (wO oz3),.sort] (BO_ 0) (zO oz4),r_,.code [.any [35,36,37,48],.weak 5 (AV.sl 1 (K_ (row1 .u8) (accU u.m (H u.h u.x u.c u.cl ((K_ mdlC u.m).length:Int)) 0))),.weak 50 (i64 (u.m.length:Int)),.weak 51 (wO oz3),.sort] (BO_ 2) (zO oz8),.r [] [.w],b_,r_] (AV.tup [AV.lit (AQ_ none 0 0),i64 25]) Tryz.func9 (.c8 oz0 (show ((bunE u).w != 0)=false by (simp;omega)) (Q_ (k:=.i64) (show (((↑5:Int)):Int)=((↑5:Int)) from (by (simp;done)))) oz3 oz4 (show Weak (AV.sl 1 (K_ (row1 .u8) (H u.h u.x u.c u.cl ((K_ mdlC u.m).length:Int)))) (AV.sl 1 (K_ (row1 .u8) (accU u.m (H u.h u.x u.c u.cl ((K_ mdlC u.m).length:Int)) 0))) from (BQ_ (rows_to (row1 .u8) (r:=K_ (row1 .u8) (H u.h u.x u.c u.cl ((K_ mdlC u.m).length:Int))) (l:=H u.h u.x u.c u.cl ((K_ mdlC u.m).length:Int)) (m:=accU u.m (H u.h u.x u.c u.cl ((K_ mdlC u.m).length:Int)) 0) rfl (show (H u.h u.x u.c u.cl ((K_ mdlC u.m).length:Int))=(accU u.m (H u.h u.x u.c u.cl ((K_ mdlC u.m).length:Int)) 0) from (by rfl))))) (Q_ (k:=.i64) (show ((((K_ mdlC u.m).length:Int)):Int)=((u.m.length:Int)) from (by (simp;done)))) oz3<|.d2 oz8 z)).weak (AM_ _) (AI_ (.cons (AG_ _) (.cons (.refl _) .nil)))
theorem penc_y (u:Bun) (L:Int→List Int) (H:Int→Int→Int→Int→Int→List Int) (G:List Int→List Int) (ok:u.Ok) (sm:u.Sm) (hL:Puts L) (hH:Hds L H) (hG:Seals G) (h:(bunE u).w=0) (fw:∀ m∈u.m,m.Pk) (hl:u.m.length≤4) (hm:∀ k,k<u.m.length→(modelR (u.m.getD k default)).2=0) (hlen:(accU u.m (H u.h u.x u.c u.cl ((u.m.map mdlC).length:Int)) u.m.length).length≤1048572) (hx:∀ x∈accU u.m (H u.h u.x u.c u.cl ((u.m.map mdlC).length:Int)) u.m.length,0≤x∧x≤255):VC L_ 9 ([bun u]) (.tup [.sl 1 ((G (accU u.m (H u.h u.x u.c u.cl ((u.m.map mdlC).length:Int)) u.m.length)).map (row1 .u8)),i64 0]):=by
 have q1:(H u.h u.x u.c u.cl ((u.m.map mdlC).length:Int)).length≤100:=by have:=hH.len hL.l u.h u.x u.c u.cl ((u.m.map mdlC).length:Int);omega
 have q2:=accU_len fw (H u.h u.x u.c u.cl ((u.m.map mdlC).length:Int)) (AX_ _)
 have z:=cap_f hlen
 have oz0:=@vbundle_v (u) ok sm
 have oz3:=w0_
 have oz4:=@penc_h5 (u) (L) (H) (u.h) (u.x) (u.c) (u.cl) (((K_ mdlC u.m).length:Int)) hL hH
 have oz8:=@penc_m (u) (H u.h u.x u.c u.cl ((K_ mdlC u.m).length:Int)) fw hl q1 hm
 have oz10:=@seal_v (G) hG (accU u.m (H u.h u.x u.c u.cl ((K_ mdlC u.m).length:Int)) u.m.length) hx (by omega)
 exact cR_ [r_,.r [] [cr oz0],r_,d_,r_,r_,.code [.frz 35,.any (rg [(0,1),(2,3),(12,5),(19,16)]),.drop [4],.weak 36 (i64 (↑5:Int)),.weak 37 (wO oz3),.sort] (BO_ 0) (zO oz4),r_,.code [.any [35,36,37,48],.weak 5 (AV.sl 1 (K_ (row1 .u8) (accU u.m (H u.h u.x u.c u.cl ((K_ mdlC u.m).length:Int)) 0))),.weak 50 (i64 (u.m.length:Int)),.weak 51 (wO oz3),.sort] (BO_ 2) (zO oz8),.r [] [.w],d_,.r [] [cr oz10]] _ Tryz.func9 (.c8 oz0 (show ((bunE u).w != 0)=false by (simp;omega)) (Q_ (k:=.i64) (show (((↑5:Int)):Int)=((↑5:Int)) from (by (simp;done)))) oz3 oz4 (show Weak (AV.sl 1 (K_ (row1 .u8) (H u.h u.x u.c u.cl ((K_ mdlC u.m).length:Int)))) (AV.sl 1 (K_ (row1 .u8) (accU u.m (H u.h u.x u.c u.cl ((K_ mdlC u.m).length:Int)) 0))) from (BQ_ (rows_to (row1 .u8) (r:=K_ (row1 .u8) (H u.h u.x u.c u.cl ((K_ mdlC u.m).length:Int))) (l:=H u.h u.x u.c u.cl ((K_ mdlC u.m).length:Int)) (m:=accU u.m (H u.h u.x u.c u.cl ((K_ mdlC u.m).length:Int)) 0) rfl (show (H u.h u.x u.c u.cl ((K_ mdlC u.m).length:Int))=(accU u.m (H u.h u.x u.c u.cl ((K_ mdlC u.m).length:Int)) 0) from (by rfl))))) (Q_ (k:=.i64) (show ((((K_ mdlC u.m).length:Int)):Int)=((u.m.length:Int)) from (by (simp;done)))) oz3<|.d3 oz8 z oz10)
def zipAll {α:Type} [Inhabited α] (p:α→α→Bool) (l m:List α):Bool:=decide (l.length=m.length)&&(List.range l.length).all fun k=>p (l.getD k default) (m.getD k default)
theorem zip_cases {α:Type} [Inhabited α] (p:α→α→Bool) (l m:List α):(l.length≠m.length∧zipAll p l m=false)∨(l.length=m.length∧(∀ k,k<l.length→p (l.getD k default) (m.getD k default)=true)∧zipAll p l m=true) ∨
  (l.length=m.length∧∃ i,i<l.length∧p (l.getD i default) (m.getD i default)=false∧(∀ k,k<i→p (l.getD k default) (m.getD k default)=true)∧zipAll p l m=false):=by
 unfold zipAll
 by_cases hl:l.length=m.length
 ·rcases all_or (fun k=>p (l.getD k default) (m.getD k default)) l.length with h|⟨i,h1,h2,h3⟩
  ·refine .inr (.inl ⟨hl,h,?_⟩)
   rw[decide_eq_true hl,BY_,CF_]
   exact fun k hk=>h k (by simpa using hk)
  ·refine .inr (.inr ⟨hl,i,h1,h2,h3,?_⟩)
   rw[decide_eq_true hl,BY_,Bool.eq_false_iff]
   intro h
   rw[CF_] at h
   have:=h i (by simpa using h1)
   rw[h2] at this;cases this
 ·exact .inl ⟨hl,by rw[decide_eq_false hl,BP_]⟩
theorem zip_refl {α:Type} [Inhabited α] {p:α→α→Bool} {l:List α} (h:∀ x∈l,p x x=true):zipAll p l l=true:=by
 unfold zipAll
 rw[decide_eq_true rfl,BY_,CF_]
 intro k hk
 have hk:k<l.length:=by simpa using hk
 rw[AU_,Z_ hk]
 exact h _ (CW_ hk)
structure Blc.Sz (x:Blc):Prop where
 l:x.n.length≤1000
 n:∀ n∈x.n,n.w.length≤100000∧n.b.length≤100000
 w:x.w.length≤100000
 b:x.b.length≤100000
def blcEq (x y:Blc):Bool:=decide (x.w=y.w)&&decide (x.b=y.b)&&(x.nd==y.nd)&&(x.ex==y.ex)&&zipAll nodEq x.n y.n
structure Mdl.Sz (m:Mdl):Prop where
 l:m.l.length≤1000
 b:∀ x∈m.l,x.Sz
def mdlEq (a b:Mdl):Bool:=zipAll blcEq a.l b.l
structure Bun.Sz (u:Bun):Prop where
 l:u.m.length≤1000
 b:∀ x∈u.m,x.Sz
def bunEq (a b:Bun):Bool:=a.h==b.h&&a.x==b.x&&a.c==b.c&&a.cl==b.cl&&zipAll mdlEq a.m b.m
noncomputable def lbk_ly_I (x y:Blc) (k:Nat):VS:=stt 68 [(2,.ptr 2 0 0),(3,.ptr 3 0 0),(5,i64 k)] [(2,.var (blcC x)),(3,.var (blcC y))]
noncomputable def lbk_ly_Z (x y:Blc):VS:=lbk_ly_I x y (x.n.length)
theorem lbk_ly_s (x y:Blc) (sz:x.Sz) (hl:x.n.length=y.n.length) (h:∀ k,k<x.n.length→nodEq (x.n.getD k default) (y.n.getD k default)=true) (k:Nat) (hk:k<x.n.length):VT L_ (fnC Tryz.f62 [1,1,0,1,0,0]) (lbk_ly_I x y k) .normal (lbk_ly_I x y (k+1)):=by
 have q:=h k hk
 have qz:=id sz
 have qm:=getD_in qz.n hk
 obtain ⟨qn1,qn2⟩:=qm
 have qb:=qz.l
 have oz1:=(s_ (0≤(↑k:Int)))
 have oz2:=(map_at (nodC) (default) (l:=x.n) (i:=k) hk)
 have oz4:=(map_at (nodC) (default) (l:=y.n) (i:=k) (by omega))
 have oz5:=@refSame_v (x.n.getD k default) (y.n.getD k default) qn1 qn2
 exact tR_ [r_,b_,.r [] [.row (sO oz2),.row (sO oz4),cr oz5],d_,.r [] [.n ((↑k:Int)+1)]] [.any (rg [(49,19)]),.weak 5 (i64 (↑(k+1):Int)),.sort] (.c8 (show decide ((↑k:Int)<((K_ nodC x.n).length:Int))=true by (simp;omega)) oz1 oz2 oz1 oz4 oz5 (show (!nodEq (x.n.getD k default) (y.n.getD k default))=false by (simp at *;omega)) (i6n ((↑k:Int)+1) (by omega))<|.d (wS_ k))
theorem lbk_ly_e (x y:Blc) (sz:x.Sz) (hl:x.n.length=y.n.length) (h:∀ k,k<x.n.length→nodEq (x.n.getD k default) (y.n.getD k default)=true):VT L_ (fnC Tryz.f62 [1,1,0,1,0,0]) (lbk_ly_I x y (x.n.length)) (.exit 0) (lbk_ly_Z x y):=by
 exact tR_ [r_,d_] [.any (rg [(49,5)]),.sort] (.d (show decide ((x.n.length:Int)<((K_ nodC x.n).length:Int))=false by (simp;done)))
theorem lbk_ly (x y:Blc) (sz:x.Sz) (hl:x.n.length=y.n.length) (h:∀ k,k<x.n.length→nodEq (x.n.getD k default) (y.n.getD k default)=true):VT L_ (fnC Tryz.f62 [1,1,0,1,0]) (lbk_ly_I x y 0) (.exit 0) (lbk_ly_Z x y) :=
 VT.loop (fun k=>lbk_ly_I x y k) (x.n.length) (fun k hk=>lbk_ly_s x y sz hl h k hk) (lbk_ly_e x y sz hl h) (by intro h;cases h)
noncomputable def lbk_ln_I (x y:Blc) (i:Nat) (k:Nat):VS:=stt 68 [(2,.ptr 2 0 0),(3,.ptr 3 0 0),(5,i64 k)] [(2,.var (blcC x)),(3,.var (blcC y))]
noncomputable def lbk_ln_Z (x y:Blc) (i:Nat):VS:=stt 68 [(4,bv false)] []
theorem lbk_ln_s (x y:Blc) (i:Nat) (sz:x.Sz) (hl:x.n.length=y.n.length) (hi:i<x.n.length) (hf:nodEq (x.n.getD i default) (y.n.getD i default)=false) (h:∀ k,k<i→nodEq (x.n.getD k default) (y.n.getD k default)=true) (k:Nat) (hk:k<i):VT L_ (fnC Tryz.f62 [1,1,0,1,0,0]) (lbk_ln_I x y i k) .normal (lbk_ln_I x y i (k+1)):=by
 have q:=h k hk
 have qz:=id sz
 have qm:=getD_in qz.n (s_ (k<x.n.length))
 obtain ⟨qn1,qn2⟩:=qm
 have qb:=qz.l
 have oz1:=(s_ (0≤(↑k:Int)))
 have oz2:=(map_at (nodC) (default) (l:=x.n) (i:=k) (by omega))
 have oz4:=(map_at (nodC) (default) (l:=y.n) (i:=k) (by omega))
 have oz5:=@refSame_v (x.n.getD k default) (y.n.getD k default) qn1 qn2
 exact tR_ [r_,b_,.r [] [.row (sO oz2),.row (sO oz4),cr oz5],d_,.r [] [.n ((↑k:Int)+1)]] [.any (rg [(49,19)]),.weak 5 (i64 (↑(k+1):Int)),.sort] (.c8 (show decide ((↑k:Int)<((K_ nodC x.n).length:Int))=true by (simp;omega)) oz1 oz2 oz1 oz4 oz5 (show (!nodEq (x.n.getD k default) (y.n.getD k default))=false by (simp at *;omega)) (i6n ((↑k:Int)+1) (by omega))<|.d (wS_ k))
theorem lbk_ln_e (x y:Blc) (i:Nat) (sz:x.Sz) (hl:x.n.length=y.n.length) (hi:i<x.n.length) (hf:nodEq (x.n.getD i default) (y.n.getD i default)=false) (h:∀ k,k<i→nodEq (x.n.getD k default) (y.n.getD k default)=true):VT L_ (fnC Tryz.f62 [1,1,0,1,0,0]) (lbk_ln_I x y i (i)) (.ret) (lbk_ln_Z x y i):=by
 have qz:=id sz
 have qm:=getD_in qz.n hi
 obtain ⟨qn1,qn2⟩:=qm
 have qb:=qz.l
 have oz1:=(s_ (0≤(↑i:Int)))
 have oz2:=(map_at (nodC) (default) (l:=x.n) (i:=i) hi)
 have oz4:=(map_at (nodC) (default) (l:=y.n) (i:=i) (by omega))
 have oz5:=@refSame_v (x.n.getD i default) (y.n.getD i default) qn1 qn2
 exact tR_ [r_,b_,.r [] [.row (sO oz2),.row (sO oz4),cr oz5],b_,r_] [.any (rg [(2,2),(5,1),(49,5),(56,12)]),.drop [2,3],.sort] (.d7 (show decide ((↑i:Int)<((K_ nodC x.n).length:Int))=true by (simp;omega)) oz1 oz2 oz1 oz4 oz5 (show (!nodEq (x.n.getD i default) (y.n.getD i default))=true by (simp at *;omega)))
theorem lbk_ln (x y:Blc) (i:Nat) (sz:x.Sz) (hl:x.n.length=y.n.length) (hi:i<x.n.length) (hf:nodEq (x.n.getD i default) (y.n.getD i default)=false) (h:∀ k,k<i→nodEq (x.n.getD k default) (y.n.getD k default)=true):VT L_ (fnC Tryz.f62 [1,1,0,1,0]) (lbk_ln_I x y i 0) (.ret) (lbk_ln_Z x y i) :=
 VT.loop (fun k=>lbk_ln_I x y i k) (i) (fun k hk=>lbk_ln_s x y i sz hl hi hf h k hk) (lbk_ln_e x y i sz hl hi hf h) (by intro h;cases h)
theorem lbk_d (x y:Blc) (sz:x.Sz) (hl:x.n.length≠y.n.length):VC L_ 62 ([blc x,blc y]) (bv false):=by
 have hz:zipAll nodEq x.n y.n=false:=by unfold zipAll;rw[decide_eq_false hl,BP_]
 obtain ⟨qa,qb,qc,qd⟩:=id sz
 have oz0:=@rsame8_v (x.w) (y.w) (by omega)
 have oz1:=@rsame32_v (x.b) (y.b) (by omega)
 exact cR_ [r_,.r [] [o_,o_,o_,o_,o_,.sel 1,o_,o_,o_,o_,o_,o_,o_,.sel 1,o_,o_,o_,o_,o_,o_,o_,cr oz0,o_,.sel 1,o_,o_,o_,o_,o_,o_,o_,cr oz1,o_,.sel 1],b_,r_] _ Tryz.func62 (.d3 oz0 oz1 (show (((K_ nodC x.n).length:Int) != ((K_ nodC y.n).length:Int) || !x.ex==y.ex || x.nd != y.nd || !decide (x.w=y.w) || !decide (x.b=y.b))=true by (simp;omega)))
theorem lbk_y (x y:Blc) (sz:x.Sz) (hl:x.n.length=y.n.length) (h:∀ k,k<x.n.length→nodEq (x.n.getD k default) (y.n.getD k default)=true) (hz:zipAll nodEq x.n y.n=true):VC L_ 62 ([blc x,blc y]) (bv (blcEq x y)):=by
 obtain ⟨qa,qb,qc,qd⟩:=id sz
 have oz0:=@rsame8_v (x.w) (y.w) (by omega)
 have oz1:=@rsame32_v (x.b) (y.b) (by omega)
 rcases bft (((K_ nodC x.n).length:Int) != ((K_ nodC y.n).length:Int) || !x.ex==y.ex || x.nd != y.nd || !decide (x.w=y.w) || !decide (x.b=y.b)) with hc0|hc0
 ·have gc0:(((¬((K_ nodC x.n).length:Int)=((K_ nodC y.n).length:Int)∨¬(x.ex=true↔y.ex=true))∨¬x.nd=y.nd)∨¬x.w=y.w)∨¬x.b=y.b:=by first|(simp only[D_,U_,N_,T_,A_,X_,E_,F_,I_,J_,ne_eq,H_,G_,eqNums,AN_] at hc0;first|exact hc0|omega)|simpa using hc0|(simp at hc0 ⊢;omega)|(apply cbc;intro hn;simp_all[eqNums];done)|(apply cbc;intro hn;simp[eqNums] at hc0 hn;omega)
  exact (cR_ [r_,.r [] [o_,o_,o_,o_,o_,.sel 1,o_,o_,o_,o_,o_,o_,o_,.sel 1,o_,o_,o_,o_,o_,o_,o_,cr oz0,o_,.sel 1,o_,o_,o_,o_,o_,o_,o_,cr oz1,o_,.sel 1],b_,r_] (bv false) Tryz.func62 (.d3 oz0 oz1 hc0)).weak (AM_ _) (AF_ (by (simp[blcEq,hz,eqNums] at *;intros;simp_all;done)))
 ·have gc0:(((((K_ nodC x.n).length:Int)=((K_ nodC y.n).length:Int)∧(x.ex=true↔y.ex=true))∧x.nd=y.nd)∧x.w=y.w)∧x.b=y.b:=by first|(simp only[D_,U_,N_,T_,A_,X_,E_,F_,I_,J_,ne_eq,H_,G_,eqNums,AN_] at hc0;first|exact hc0|omega)|simpa using hc0|(simp at hc0 ⊢;omega)|(apply cbc;intro hn;simp_all[eqNums];done)|(apply cbc;intro hn;simp[eqNums] at hc0 hn;omega)
  have oz4:=@lbk_ly (x) (y) sz hl h
  exact (cR_ [r_,.r [] [o_,o_,o_,o_,o_,.sel 1,o_,o_,o_,o_,o_,o_,o_,.sel 1,o_,o_,o_,o_,o_,o_,o_,cr oz0,o_,.sel 1,o_,o_,o_,o_,o_,o_,o_,cr oz1,o_,.sel 1],d_,r_,.code [.any [0,1,4,6,7,8,9,10,11,12,13,19,20,28,29,38,39,48],.weak 5 (i64 (↑0:Int)),.sort] (BO_ 0) (zO oz4),r_] (bv true) Tryz.func62 (.d5 oz0 oz1 hc0 w0_ oz4)).weak (AM_ _) (AF_ (by (rw[Bool.eq_iff_iff];simp[blcEq,hz,eqNums] at *;simp_all;done)))
theorem lbk_n (x y:Blc) (i:Nat) (sz:x.Sz) (hl:x.n.length=y.n.length) (hi:i<x.n.length) (hf:nodEq (x.n.getD i default) (y.n.getD i default)=false) (h:∀ k,k<i→nodEq (x.n.getD k default) (y.n.getD k default)=true):VC L_ 62 ([blc x,blc y]) (bv false):=by
 obtain ⟨qa,qb,qc,qd⟩:=id sz
 have oz0:=@rsame8_v (x.w) (y.w) (by omega)
 have oz1:=@rsame32_v (x.b) (y.b) (by omega)
 rcases bft (((K_ nodC x.n).length:Int) != ((K_ nodC y.n).length:Int) || !x.ex==y.ex || x.nd != y.nd || !decide (x.w=y.w) || !decide (x.b=y.b)) with hc0|hc0
 ·have gc0:(((¬((K_ nodC x.n).length:Int)=((K_ nodC y.n).length:Int)∨¬(x.ex=true↔y.ex=true))∨¬x.nd=y.nd)∨¬x.w=y.w)∨¬x.b=y.b:=by first|(simp only[D_,U_,N_,T_,A_,X_,E_,F_,I_,J_,ne_eq,H_,G_,eqNums,AN_] at hc0;first|exact hc0|omega)|simpa using hc0|(simp at hc0 ⊢;omega)|(apply cbc;intro hn;simp_all[eqNums];done)|(apply cbc;intro hn;simp[eqNums] at hc0 hn;omega)
  exact cR_ [r_,.r [] [o_,o_,o_,o_,o_,.sel 1,o_,o_,o_,o_,o_,o_,o_,.sel 1,o_,o_,o_,o_,o_,o_,o_,cr oz0,o_,.sel 1,o_,o_,o_,o_,o_,o_,o_,cr oz1,o_,.sel 1],b_,r_] _ Tryz.func62 (.d3 oz0 oz1 hc0)
 ·have gc0:(((((K_ nodC x.n).length:Int)=((K_ nodC y.n).length:Int)∧(x.ex=true↔y.ex=true))∧x.nd=y.nd)∧x.w=y.w)∧x.b=y.b:=by first|(simp only[D_,U_,N_,T_,A_,X_,E_,F_,I_,J_,ne_eq,H_,G_,eqNums,AN_] at hc0;first|exact hc0|omega)|simpa using hc0|(simp at hc0 ⊢;omega)|(apply cbc;intro hn;simp_all[eqNums];done)|(apply cbc;intro hn;simp[eqNums] at hc0 hn;omega)
  have oz4:=@lbk_ln (x) (y) (i) sz hl hi hf h
  exact cR_ [r_,.r [] [o_,o_,o_,o_,o_,.sel 1,o_,o_,o_,o_,o_,o_,o_,.sel 1,o_,o_,o_,o_,o_,o_,o_,cr oz0,o_,.sel 1,o_,o_,o_,o_,o_,o_,o_,cr oz1,o_,.sel 1],d_,r_,.code [.any [0,1,4,6,7,8,9,10,11,12,13,19,20,28,29,38,39,48],.weak 5 (i64 (↑0:Int)),.sort] (Exit.ret) (zO oz4)] _ Tryz.func62 (.d5 oz0 oz1 hc0 w0_ oz4)
theorem lbk_v (x y:Blc) (sz:x.Sz):VC L_ 62 [blc x,blc y] (bv (blcEq x y)):=by
 rcases zip_cases nodEq x.n y.n with ⟨h,e⟩|⟨h,q,e⟩|⟨h,i,hi,hf,q,e⟩
 ·rw[show blcEq x y=false by simp[blcEq,e]];exact lbk_d x y sz h
 ·exact lbk_y x y sz h q e
 ·rw[show blcEq x y=false by simp[blcEq,e]];exact lbk_n x y i sz h hi hf q
noncomputable def lmd_ly_I (x y:Mdl) (k:Nat):VS:=stt 32 [(2,.ptr 2 0 0),(3,.ptr 3 0 0),(5,i64 k)] [(2,.var (mdlC x)),(3,.var (mdlC y))]
noncomputable def lmd_ly_Z (x y:Mdl):VS:=lmd_ly_I x y (x.l.length)
theorem lmd_ly_s (x y:Mdl) (sz:x.Sz) (hl:x.l.length=y.l.length) (h:∀ k,k<x.l.length→blcEq (x.l.getD k default) (y.l.getD k default)=true) (k:Nat) (hk:k<x.l.length):VT L_ (fnC Tryz.f30 [1,1,0,1,0,0]) (lmd_ly_I x y k) .normal (lmd_ly_I x y (k+1)):=by
 have q:=h k hk
 have qz:=id sz
 have qm:=getD_in qz.b hk
 have qb:=qz.l
 have oz1:=(s_ (0≤(↑k:Int)))
 have oz2:=(map_at (blcC) (default) (l:=x.l) (i:=k) hk)
 have oz4:=(map_at (blcC) (default) (l:=y.l) (i:=k) (by omega))
 have oz5:=@lbk_v (x.l.getD k default) (y.l.getD k default) qm
 exact tR_ [r_,b_,.r [] [.row (sO oz2),.row (sO oz4),cr oz5],d_,.r [] [.n ((↑k:Int)+1)]] [.any (rg [(13,19)]),.weak 5 (i64 (↑(k+1):Int)),.sort] (.c8 (show decide ((↑k:Int)<((K_ blcC x.l).length:Int))=true by (simp;omega)) oz1 oz2 oz1 oz4 oz5 (show (!blcEq (x.l.getD k default) (y.l.getD k default))=false by (simp at *;omega)) (i6n ((↑k:Int)+1) (by omega))<|.d (wS_ k))
theorem lmd_ly_e (x y:Mdl) (sz:x.Sz) (hl:x.l.length=y.l.length) (h:∀ k,k<x.l.length→blcEq (x.l.getD k default) (y.l.getD k default)=true):VT L_ (fnC Tryz.f30 [1,1,0,1,0,0]) (lmd_ly_I x y (x.l.length)) (.exit 0) (lmd_ly_Z x y):=by
 exact tR_ [r_,d_] [.any (rg [(13,5)]),.sort] (.d (show decide ((x.l.length:Int)<((K_ blcC x.l).length:Int))=false by (simp;done)))
theorem lmd_ly (x y:Mdl) (sz:x.Sz) (hl:x.l.length=y.l.length) (h:∀ k,k<x.l.length→blcEq (x.l.getD k default) (y.l.getD k default)=true):VT L_ (fnC Tryz.f30 [1,1,0,1,0]) (lmd_ly_I x y 0) (.exit 0) (lmd_ly_Z x y) :=
 VT.loop (fun k=>lmd_ly_I x y k) (x.l.length) (fun k hk=>lmd_ly_s x y sz hl h k hk) (lmd_ly_e x y sz hl h) (by intro h;cases h)
noncomputable def lmd_ln_I (x y:Mdl) (i:Nat) (k:Nat):VS:=stt 32 [(2,.ptr 2 0 0),(3,.ptr 3 0 0),(5,i64 k)] [(2,.var (mdlC x)),(3,.var (mdlC y))]
noncomputable def lmd_ln_Z (x y:Mdl) (i:Nat):VS:=stt 32 [(4,bv false)] []
theorem lmd_ln_s (x y:Mdl) (i:Nat) (sz:x.Sz) (hl:x.l.length=y.l.length) (hi:i<x.l.length) (hf:blcEq (x.l.getD i default) (y.l.getD i default)=false) (h:∀ k,k<i→blcEq (x.l.getD k default) (y.l.getD k default)=true) (k:Nat) (hk:k<i):VT L_ (fnC Tryz.f30 [1,1,0,1,0,0]) (lmd_ln_I x y i k) .normal (lmd_ln_I x y i (k+1)):=by
 have q:=h k hk
 have qz:=id sz
 have qm:=getD_in qz.b (s_ (k<x.l.length))
 have qb:=qz.l
 have oz1:=(s_ (0≤(↑k:Int)))
 have oz2:=(map_at (blcC) (default) (l:=x.l) (i:=k) (by omega))
 have oz4:=(map_at (blcC) (default) (l:=y.l) (i:=k) (by omega))
 have oz5:=@lbk_v (x.l.getD k default) (y.l.getD k default) qm
 exact tR_ [r_,b_,.r [] [.row (sO oz2),.row (sO oz4),cr oz5],d_,.r [] [.n ((↑k:Int)+1)]] [.any (rg [(13,19)]),.weak 5 (i64 (↑(k+1):Int)),.sort] (.c8 (show decide ((↑k:Int)<((K_ blcC x.l).length:Int))=true by (simp;omega)) oz1 oz2 oz1 oz4 oz5 (show (!blcEq (x.l.getD k default) (y.l.getD k default))=false by (simp at *;omega)) (i6n ((↑k:Int)+1) (by omega))<|.d (wS_ k))
theorem lmd_ln_e (x y:Mdl) (i:Nat) (sz:x.Sz) (hl:x.l.length=y.l.length) (hi:i<x.l.length) (hf:blcEq (x.l.getD i default) (y.l.getD i default)=false) (h:∀ k,k<i→blcEq (x.l.getD k default) (y.l.getD k default)=true):VT L_ (fnC Tryz.f30 [1,1,0,1,0,0]) (lmd_ln_I x y i (i)) (.ret) (lmd_ln_Z x y i):=by
 have qz:=id sz
 have qm:=getD_in qz.b hi
 have qb:=qz.l
 have oz1:=(s_ (0≤(↑i:Int)))
 have oz2:=(map_at (blcC) (default) (l:=x.l) (i:=i) hi)
 have oz4:=(map_at (blcC) (default) (l:=y.l) (i:=i) (by omega))
 have oz5:=@lbk_v (x.l.getD i default) (y.l.getD i default) qm
 exact tR_ [r_,b_,.r [] [.row (sO oz2),.row (sO oz4),cr oz5],b_,r_] [.any (rg [(2,2),(5,1),(13,5),(20,12)]),.drop [2,3],.sort] (.d7 (show decide ((↑i:Int)<((K_ blcC x.l).length:Int))=true by (simp;omega)) oz1 oz2 oz1 oz4 oz5 (show (!blcEq (x.l.getD i default) (y.l.getD i default))=true by (simp at *;omega)))
theorem lmd_ln (x y:Mdl) (i:Nat) (sz:x.Sz) (hl:x.l.length=y.l.length) (hi:i<x.l.length) (hf:blcEq (x.l.getD i default) (y.l.getD i default)=false) (h:∀ k,k<i→blcEq (x.l.getD k default) (y.l.getD k default)=true):VT L_ (fnC Tryz.f30 [1,1,0,1,0]) (lmd_ln_I x y i 0) (.ret) (lmd_ln_Z x y i) :=
 VT.loop (fun k=>lmd_ln_I x y i k) (i) (fun k hk=>lmd_ln_s x y i sz hl hi hf h k hk) (lmd_ln_e x y i sz hl hi hf h) (by intro h;cases h)
theorem lmd_d (x y:Mdl) (sz:x.Sz) (hl:x.l.length≠y.l.length):VC L_ 30 ([.agg (mdlC x),.agg (mdlC y)]) (bv false):=by
 have hz:zipAll blcEq x.l y.l=false:=by unfold zipAll;rw[decide_eq_false hl,BP_]
 obtain ⟨qa,qb⟩:=id sz
 exact cR_ [r_,r_,b_,r_] _ Tryz.func30 (.d (show (((K_ blcC x.l).length:Int) != ((K_ blcC y.l).length:Int))=true by (simp;omega)))
theorem lmd_y (x y:Mdl) (sz:x.Sz) (hl:x.l.length=y.l.length) (h:∀ k,k<x.l.length→blcEq (x.l.getD k default) (y.l.getD k default)=true) (hz:zipAll blcEq x.l y.l=true):VC L_ 30 ([.agg (mdlC x),.agg (mdlC y)]) (bv (mdlEq x y)):=by
 obtain ⟨qa,qb⟩:=id sz
 have oz2:=@lmd_ly (Mdl.mk x.l) (Mdl.mk y.l) sz hl h
 exact (cR_ [r_,r_,d_,r_,.code [.any (rg [(0,2),(4,1),(6,7)]),.weak 5 (i64 (↑0:Int)),.sort] (BO_ 0) (zO oz2),r_] (bv true) Tryz.func30 (.d3 (show (((K_ blcC x.l).length:Int) != ((K_ blcC y.l).length:Int))=false by (simp;omega)) w0_ oz2)).weak (AM_ _) (AF_ (by (exact hz.symm)))
theorem lmd_n (x y:Mdl) (i:Nat) (sz:x.Sz) (hl:x.l.length=y.l.length) (hi:i<x.l.length) (hf:blcEq (x.l.getD i default) (y.l.getD i default)=false) (h:∀ k,k<i→blcEq (x.l.getD k default) (y.l.getD k default)=true):VC L_ 30 ([.agg (mdlC x),.agg (mdlC y)]) (bv false):=by
 obtain ⟨qa,qb⟩:=id sz
 have oz2:=@lmd_ln (Mdl.mk x.l) (Mdl.mk y.l) (i) sz hl hi hf h
 exact cR_ [r_,r_,d_,r_,.code [.any (rg [(0,2),(4,1),(6,7)]),.weak 5 (i64 (↑0:Int)),.sort] (Exit.ret) (zO oz2)] _ Tryz.func30 (.d3 (show (((K_ blcC x.l).length:Int) != ((K_ blcC y.l).length:Int))=false by (simp;omega)) w0_ oz2)
theorem lmd_v (x y:Mdl) (sz:x.Sz):VC L_ 30 [.agg (mdlC x),.agg (mdlC y)] (bv (mdlEq x y)):=by
 rcases zip_cases blcEq x.l y.l with ⟨h,e⟩|⟨h,q,e⟩|⟨h,i,hi,hf,q,e⟩
 ·rw[show mdlEq x y=false by simp[mdlEq,e]];exact lmd_d x y sz h
 ·exact lmd_y x y sz h q e
 ·rw[show mdlEq x y=false by simp[mdlEq,e]];exact lmd_n x y i sz h hi hf q
noncomputable def lbn_ly_I (x y:Bun) (k:Nat):VS:=stt 46 [(2,.ptr 2 0 0),(3,.ptr 3 0 0),(5,i64 k)] [(2,.var (bunC x)),(3,.var (bunC y))]
noncomputable def lbn_ly_Z (x y:Bun):VS:=lbn_ly_I x y (x.m.length)
theorem lbn_ly_s (x y:Bun) (sz:x.Sz) (hl:x.m.length=y.m.length) (h:∀ k,k<x.m.length→mdlEq (x.m.getD k default) (y.m.getD k default)=true) (k:Nat) (hk:k<x.m.length):VT L_ (fnC Tryz.f11 [1,1,0,1,0,0]) (lbn_ly_I x y k) .normal (lbn_ly_I x y (k+1)):=by
 have q:=h k hk
 have qz:=id sz
 have qm:=getD_in qz.b hk
 have qb:=qz.l
 have oz1:=(s_ (0≤(↑k:Int)))
 have oz2:=(map_at (mdlC) (default) (l:=x.m) (i:=k) hk)
 have oz4:=(map_at (mdlC) (default) (l:=y.m) (i:=k) (by omega))
 have oz5:=@lmd_v (Mdl.mk (x.m.getD k default).l) (Mdl.mk (y.m.getD k default).l) qm
 exact tR_ [r_,b_,.r [] [.row (sO oz2),.row (sO oz4),cr oz5],d_,.r [] [.n ((↑k:Int)+1)]] [.any (rg [(27,19)]),.weak 5 (i64 (↑(k+1):Int)),.sort] (.c8 (show decide ((↑k:Int)<((K_ mdlC x.m).length:Int))=true by (simp;omega)) oz1 oz2 oz1 oz4 oz5 (show (!mdlEq (Mdl.mk (x.m.getD k default).l) (Mdl.mk (y.m.getD k default).l))=false by (simp at *;omega)) (i6n ((↑k:Int)+1) (by (try dsimp only)<;>omega))<|.d (Q_ (k:=.i64) (show (((↑k:Int)+1):Int)=((↑(k+1):Int)) from (by (try dsimp only)<;>omega))))
theorem lbn_ly_e (x y:Bun) (sz:x.Sz) (hl:x.m.length=y.m.length) (h:∀ k,k<x.m.length→mdlEq (x.m.getD k default) (y.m.getD k default)=true):VT L_ (fnC Tryz.f11 [1,1,0,1,0,0]) (lbn_ly_I x y (x.m.length)) (.exit 0) (lbn_ly_Z x y):=by
 exact tR_ [r_,d_] [.any (rg [(27,5)]),.sort] (.d (show decide ((x.m.length:Int)<((K_ mdlC x.m).length:Int))=false by (simp;done)))
theorem lbn_ly (x y:Bun) (sz:x.Sz) (hl:x.m.length=y.m.length) (h:∀ k,k<x.m.length→mdlEq (x.m.getD k default) (y.m.getD k default)=true):VT L_ (fnC Tryz.f11 [1,1,0,1,0]) (lbn_ly_I x y 0) (.exit 0) (lbn_ly_Z x y) :=
 VT.loop (fun k=>lbn_ly_I x y k) (x.m.length) (fun k hk=>lbn_ly_s x y sz hl h k hk) (lbn_ly_e x y sz hl h) (by intro h;cases h)
noncomputable def lbn_ln_I (x y:Bun) (i:Nat) (k:Nat):VS:=stt 46 [(2,.ptr 2 0 0),(3,.ptr 3 0 0),(5,i64 k)] [(2,.var (bunC x)),(3,.var (bunC y))]
noncomputable def lbn_ln_Z (x y:Bun) (i:Nat):VS:=stt 46 [(4,bv false)] []
theorem lbn_ln_s (x y:Bun) (i:Nat) (sz:x.Sz) (hl:x.m.length=y.m.length) (hi:i<x.m.length) (hf:mdlEq (x.m.getD i default) (y.m.getD i default)=false) (h:∀ k,k<i→mdlEq (x.m.getD k default) (y.m.getD k default)=true) (k:Nat) (hk:k<i):VT L_ (fnC Tryz.f11 [1,1,0,1,0,0]) (lbn_ln_I x y i k) .normal (lbn_ln_I x y i (k+1)):=by
 have q:=h k hk
 have qz:=id sz
 have qm:=getD_in qz.b (s_ (k<x.m.length))
 have qb:=qz.l
 have oz1:=(s_ (0≤(↑k:Int)))
 have oz2:=(map_at (mdlC) (default) (l:=x.m) (i:=k) (by omega))
 have oz4:=(map_at (mdlC) (default) (l:=y.m) (i:=k) (by omega))
 have oz5:=@lmd_v (Mdl.mk (x.m.getD k default).l) (Mdl.mk (y.m.getD k default).l) qm
 exact tR_ [r_,b_,.r [] [.row (sO oz2),.row (sO oz4),cr oz5],d_,.r [] [.n ((↑k:Int)+1)]] [.any (rg [(27,19)]),.weak 5 (i64 (↑(k+1):Int)),.sort] (.c8 (show decide ((↑k:Int)<((K_ mdlC x.m).length:Int))=true by (simp;omega)) oz1 oz2 oz1 oz4 oz5 (show (!mdlEq (Mdl.mk (x.m.getD k default).l) (Mdl.mk (y.m.getD k default).l))=false by (simp at *;omega)) (i6n ((↑k:Int)+1) (by (try dsimp only)<;>omega))<|.d (Q_ (k:=.i64) (show (((↑k:Int)+1):Int)=((↑(k+1):Int)) from (by (try dsimp only)<;>omega))))
theorem lbn_ln_e (x y:Bun) (i:Nat) (sz:x.Sz) (hl:x.m.length=y.m.length) (hi:i<x.m.length) (hf:mdlEq (x.m.getD i default) (y.m.getD i default)=false) (h:∀ k,k<i→mdlEq (x.m.getD k default) (y.m.getD k default)=true):VT L_ (fnC Tryz.f11 [1,1,0,1,0,0]) (lbn_ln_I x y i (i)) (.ret) (lbn_ln_Z x y i):=by
 have qz:=id sz
 have qm:=getD_in qz.b hi
 have qb:=qz.l
 have oz1:=(s_ (0≤(↑i:Int)))
 have oz2:=(map_at (mdlC) (default) (l:=x.m) (i:=i) hi)
 have oz4:=(map_at (mdlC) (default) (l:=y.m) (i:=i) (by omega))
 have oz5:=@lmd_v (Mdl.mk (x.m.getD i default).l) (Mdl.mk (y.m.getD i default).l) qm
 exact tR_ [r_,b_,.r [] [.row (sO oz2),.row (sO oz4),cr oz5],b_,r_] [.any (rg [(2,2),(5,1),(27,5),(34,12)]),.drop [2,3],.sort] (.d7 (show decide ((↑i:Int)<((K_ mdlC x.m).length:Int))=true by (simp;omega)) oz1 oz2 oz1 oz4 oz5 (show (!mdlEq (Mdl.mk (x.m.getD i default).l) (Mdl.mk (y.m.getD i default).l))=true by (simp at *;omega)))
theorem lbn_ln (x y:Bun) (i:Nat) (sz:x.Sz) (hl:x.m.length=y.m.length) (hi:i<x.m.length) (hf:mdlEq (x.m.getD i default) (y.m.getD i default)=false) (h:∀ k,k<i→mdlEq (x.m.getD k default) (y.m.getD k default)=true):VT L_ (fnC Tryz.f11 [1,1,0,1,0]) (lbn_ln_I x y i 0) (.ret) (lbn_ln_Z x y i) :=
 VT.loop (fun k=>lbn_ln_I x y i k) (i) (fun k hk=>lbn_ln_s x y i sz hl hi hf h k hk) (lbn_ln_e x y i sz hl hi hf h) (by intro h;cases h)
theorem lbn_d (x y:Bun) (sz:x.Sz) (hl:x.m.length≠y.m.length):VC L_ 11 ([bun x,bun y]) (bv false):=by
 have hz:zipAll mdlEq x.m y.m=false:=by unfold zipAll;rw[decide_eq_false hl,BP_]
 obtain ⟨qa,qb⟩:=id sz
 exact cR_ [r_,.r [] [.v (BD_ !eqNums [(O_,x.h,y.h),(O_,x.x,y.x),(O_,x.c,y.c)]),o_,o_,o_,o_,o_,.sel 1,o_,o_,o_,o_,o_,o_,o_,.sel 1],b_,r_] _ Tryz.func11 (.d2 (show BinTo L_ BinOp.neq 23 (Operand.tmp 7) (Operand.tmp 9) (CT_ #[AS_ O_ x.h,AS_ O_ x.x,AS_ O_ x.c]) (CT_ #[AS_ O_ y.h,AS_ O_ y.x,AS_ O_ y.c]) (BD_ !eqNums [(O_,x.h,y.h),(O_,x.x,y.x),(O_,x.c,y.c)]) from ((bin_nums (l:=[(O_,x.h,y.h),(O_,x.x,y.x),(O_,x.c,y.c)]) (by kernel_rfl) (by kernel_rfl) (by kernel_rfl) (by kernel_rfl) _ _).2)) (show (!eqNums [(O_,x.h,y.h),(O_,x.x,y.x),(O_,x.c,y.c)] || x.cl != y.cl || ((K_ mdlC x.m).length:Int) != ((K_ mdlC y.m).length:Int))=true by (simp;omega)))
theorem lbn_y (x y:Bun) (sz:x.Sz) (hl:x.m.length=y.m.length) (h:∀ k,k<x.m.length→mdlEq (x.m.getD k default) (y.m.getD k default)=true) (hz:zipAll mdlEq x.m y.m=true):VC L_ 11 ([bun x,bun y]) (bv (bunEq x y)):=by
 obtain ⟨qa,qb⟩:=id sz
 have oz0:=(show BinTo L_ BinOp.neq 23 (Operand.tmp 7) (Operand.tmp 9) (CT_ #[AS_ O_ x.h,AS_ O_ x.x,AS_ O_ x.c]) (CT_ #[AS_ O_ y.h,AS_ O_ y.x,AS_ O_ y.c]) (BD_ !eqNums [(O_,x.h,y.h),(O_,x.x,y.x),(O_,x.c,y.c)]) from ((bin_nums (l:=[(O_,x.h,y.h),(O_,x.x,y.x),(O_,x.c,y.c)]) (by kernel_rfl) (by kernel_rfl) (by kernel_rfl) (by kernel_rfl) _ _).2))
 rcases bft (!eqNums [(O_,x.h,y.h),(O_,x.x,y.x),(O_,x.c,y.c)] || x.cl != y.cl || ((K_ mdlC x.m).length:Int) != ((K_ mdlC y.m).length:Int)) with hc0|hc0
 ·have gc0:(¬(x.h=y.h∧x.x=y.x∧x.c=y.c)∨¬x.cl=y.cl)∨¬((K_ mdlC x.m).length:Int)=((K_ mdlC y.m).length:Int):=gc0_ hc0
  exact (cR_ [r_,.r [] [.v (BD_ !eqNums [(O_,x.h,y.h),(O_,x.x,y.x),(O_,x.c,y.c)]),o_,o_,o_,o_,o_,.sel 1,o_,o_,o_,o_,o_,o_,o_,.sel 1],b_,r_] (bv false) Tryz.func11 (.d2 oz0 hc0)).weak (AM_ _) (AF_ (by (simp[bunEq,hz,eqNums] at *;intros;simp_all;done)))
 ·have gc0:((x.h=y.h∧x.x=y.x∧x.c=y.c)∧x.cl=y.cl)∧((K_ mdlC x.m).length:Int)=((K_ mdlC y.m).length:Int):=gc0_ hc0
  have oz3:=@lbn_ly (x) (y) sz hl h
  exact (cR_ [r_,.r [] [.v (BD_ !eqNums [(O_,x.h,y.h),(O_,x.x,y.x),(O_,x.c,y.c)]),o_,o_,o_,o_,o_,.sel 1,o_,o_,o_,o_,o_,o_,o_,.sel 1],d_,r_,.code [.any [0,1,4,6,7,8,9,10,11,17,18,26],.weak 5 (i64 (↑0:Int)),.sort] (BO_ 0) (zO oz3),r_] (bv true) Tryz.func11 (.d4 oz0 hc0 w0_ oz3)).weak (AM_ _) (AF_ (by (rw[Bool.eq_iff_iff];simp[bunEq,hz,eqNums] at *;simp_all;done)))
theorem lbn_n (x y:Bun) (i:Nat) (sz:x.Sz) (hl:x.m.length=y.m.length) (hi:i<x.m.length) (hf:mdlEq (x.m.getD i default) (y.m.getD i default)=false) (h:∀ k,k<i→mdlEq (x.m.getD k default) (y.m.getD k default)=true):VC L_ 11 ([bun x,bun y]) (bv false):=by
 obtain ⟨qa,qb⟩:=id sz
 have oz0:=(show BinTo L_ BinOp.neq 23 (Operand.tmp 7) (Operand.tmp 9) (CT_ #[AS_ O_ x.h,AS_ O_ x.x,AS_ O_ x.c]) (CT_ #[AS_ O_ y.h,AS_ O_ y.x,AS_ O_ y.c]) (BD_ !eqNums [(O_,x.h,y.h),(O_,x.x,y.x),(O_,x.c,y.c)]) from ((bin_nums (l:=[(O_,x.h,y.h),(O_,x.x,y.x),(O_,x.c,y.c)]) (by kernel_rfl) (by kernel_rfl) (by kernel_rfl) (by kernel_rfl) _ _).2))
 rcases bft (!eqNums [(O_,x.h,y.h),(O_,x.x,y.x),(O_,x.c,y.c)] || x.cl != y.cl || ((K_ mdlC x.m).length:Int) != ((K_ mdlC y.m).length:Int)) with hc0|hc0
 ·have gc0:(¬(x.h=y.h∧x.x=y.x∧x.c=y.c)∨¬x.cl=y.cl)∨¬((K_ mdlC x.m).length:Int)=((K_ mdlC y.m).length:Int):=gc0_ hc0
  exact cR_ [r_,.r [] [.v (BD_ !eqNums [(O_,x.h,y.h),(O_,x.x,y.x),(O_,x.c,y.c)]),o_,o_,o_,o_,o_,.sel 1,o_,o_,o_,o_,o_,o_,o_,.sel 1],b_,r_] _ Tryz.func11 (.d2 oz0 hc0)
 ·have gc0:((x.h=y.h∧x.x=y.x∧x.c=y.c)∧x.cl=y.cl)∧((K_ mdlC x.m).length:Int)=((K_ mdlC y.m).length:Int):=gc0_ hc0
  have oz3:=@lbn_ln (x) (y) (i) sz hl hi hf h
  exact cR_ [r_,.r [] [.v (BD_ !eqNums [(O_,x.h,y.h),(O_,x.x,y.x),(O_,x.c,y.c)]),o_,o_,o_,o_,o_,.sel 1,o_,o_,o_,o_,o_,o_,o_,.sel 1],d_,r_,.code [.any [0,1,4,6,7,8,9,10,11,17,18,26],.weak 5 (i64 (↑0:Int)),.sort] (Exit.ret) (zO oz3)] _ Tryz.func11 (.d4 oz0 hc0 w0_ oz3)
theorem lbn_v (x y:Bun) (sz:x.Sz):VC L_ 11 [bun x,bun y] (bv (bunEq x y)):=by
 rcases zip_cases mdlEq x.m y.m with ⟨h,e⟩|⟨h,q,e⟩|⟨h,i,hi,hf,q,e⟩
 ·rw[show bunEq x y=false by simp[bunEq,e]];exact lbn_d x y sz h
 ·exact lbn_y x y sz h q e
 ·rw[show bunEq x y=false by simp[bunEq,e]];exact lbn_n x y i sz h hi hf q
end Go.Proofs.YtdfihaminnmgpaaGreat
