/- A part of this claim. No condition. -/
import Derived.Test.YtdfihaminnmgpaaCraftBundlesG4
set_option maxRecDepth 100000
set_option maxHeartbeats 2000000
set_option linter.unusedVariables false
set_option linter.unusedSimpArgs false
set_option linter.unnecessarySimpa false
namespace Go.Proofs.Ytdfihaminnmgpaa
open Go.RowKit
open BlkW renaming rows→CC_
open Bool renaming and_eq_true→N_,and_eq_false_iff→P_,or_eq_false_iff→Q_,not_eq_false'→S_,not_eq_true'→T_,or_eq_true→W_,and_true→Y_,false_and→BM_,true_and→BR_,not_false→BS_
open Exit renaming exit→BN_
open Int renaming toNat_natCast→BV_
open IntKind renaming i64→L_,i8→R_,i32→U_
open IntWalk renaming i32_in→CP_
open List renaming map→K_,getElem?_eq_getElem→V_,length_map→X_,map_replicate→Z_,getD_eq_getElem?_getD→B_,map_append→AL_,map_cons→AM_,map_take→AQ_,map_drop→AR_,map_nil→AT_,map_set→AU_,replicate→AZ_,eq_nil_of_length_eq_zero→AC_,length_append→AD_,length_replicate→BT_,mem_append→BA_,mem_singleton→CR_
open Nat renaming le_refl→AV_
open Try renaming prog→O_
open Value renaming slice→AK_,int→AN_,bool→AJ_,agg→BD_
open Weak renaming int→M_,agg→AX_,tup→AA_,any→AF_,nil→AG_
open WeakL renaming refl→A_
def chn (T:Int→Int) (D:Int→Int→Int) (s:Int) (a:Shp):Nat→Int×Shp
 | 0=>(s,a)
 | k+1=>((kindN T D (chn T D s a k).1 (chn T D s a k).2 k).2,kindT T D (chn T D s a k).1 (chn T D s a k).2)
def chL (T:Int→Int) (D:Int→Int→Int) (s:Int) (a:Shp):Nat→List Nod
 | 0=>[]
 | k+1=>chL T D s a k++[(kindN T D (chn T D s a k).1 (chn T D s a k).2 k).1]
theorem chn_Dc {T:Int→Int} {D:Int→Int→Int} (hD:Dcs T D) (s:Int) {a:Shp} (d:a.Dc) (k:Nat):(chn T D s a k).2.Dc:=by
 induction k with
 | zero=>exact d
 | succ k ih=>exact kindT_Dc hD _ ih
theorem chL_len (T:Int→Int) (D:Int→Int→Int) (s:Int) (a:Shp) (k:Nat):(chL T D s a k).length=k:=by
 induction k with
 | zero=>rfl
 | succ k ih=>rw[chL,AD_,ih];rfl
noncomputable def dblk_l_I (T:Int→Int) (D:Int→Int→Int) (s cl N:Int) (a:Shp) (last:Bool) (k:Nat):VS:=stt 63 [(0,.ptr 100000 0 0),(2,i64 cl),(3,bv last),(5,.ptr 5 0 0),(8,.ptr 8 0 0),(9,.ptr 9 0 0),(10,.ptr 10 0 0),(17,i64 N),(18,i64 k)] [(5,.var (shpC (chn T D s a k).2)),(8,.var [.any,.any,.any,.any,.any]),(9,.var [.any,.any,.any]),(10,.var [.own 900,bv false,ints .i8 [],ints .i32 [],i32 0]),(900,.slc 68 19 ((chL T D s a k).map nodC)),(100000,.var [u64 (chn T D s a k).1])]
noncomputable def dblk_l_Z (T:Int→Int) (D:Int→Int→Int) (s cl N:Int) (a:Shp) (last:Bool):VS:=dblk_l_I T D s cl N a last (N.toNat)
theorem dblk_l_s (T:Int→Int) (D:Int→Int→Int) (s cl N:Int) (a:Shp) (last:Bool) (hD:Dcs T D) (da:a.Dc) (hN:1≤N) (hM:N≤2) (k:Nat) (hk:k<N.toNat):VT O_ (fnC Try.f16 [1,1,0,1,0,0]) (dblk_l_I T D s cl N a last k) .normal (dblk_l_I T D s cl N a last (k+1)):=by
 have q:=chn_Dc hD s da k
 have q1:=chL_len T D s a k
 have q2:In64 (k:Int):=⟨by omega,by omega⟩
 have oz1:=@dnode_v (T) (D) hD ((chn T D s a k).fst) ((chn T D s a k).snd) ((↑k:Int)) q (by omega) q2
 exact tR_ [r_,b_,r_,.r [] [cm oz1],r_,.r [] [.n ((↑k:Int)+1)]] [.any (rg [(11,3),(19,17)]),.drop [12,13,31],.ren 32 900,.weak 18 (i64 (↑(k+1):Int)),.blk 5 (Blk.var [i64 (chn T D s a (k+1)).snd.h,i64 (chn T D s a (k+1)).snd.x,i64 (chn T D s a (k+1)).snd.c]),.blk 900 (Blk.slc 68 19 (K_ nodC (chL T D s a (k+1)))),.blk 100000 (Blk.var [u64 (chn T D s a (k+1)).fst]),.sort] (.c8 (decide_eq_true (p:=((↑k:Int)<N)) (by omega)) oz1 (show ((K_ nodC (chL T D s a k)).length+1)*168≤140737488355328 by (simp;omega)) (show (K_ nodC (chL T D s a k)).length+1≤9223372036854775807 by (simp;omega)) (i6n ((↑k:Int)+1) (by omega)) (wS_ k) (show BlkW (Blk.var [i64 (kindT T D (chn T D s a k).fst (chn T D s a k).snd).h,i64 (kindT T D (chn T D s a k).fst (chn T D s a k).snd).x,i64 (kindT T D (chn T D s a k).fst (chn T D s a k).snd).c]) (Blk.var [i64 (chn T D s a (k+1)).snd.h,i64 (chn T D s a (k+1)).snd.x,i64 (chn T D s a (k+1)).snd.c]) from (BlkW.var (m:=[i64 (chn T D s a (k+1)).snd.h,i64 (chn T D s a (k+1)).snd.x,i64 (chn T D s a (k+1)).snd.c]) (.cons (M_ (by rfl)) (.cons (M_ (by rfl)) (.cons (M_ (by rfl)) .nil))))) (show BlkW (Blk.slc 68 19 (K_ nodC (chL T D s a k)++[[i64 (kindN T D (chn T D s a k).fst (chn T D s a k).snd (↑k:Int)).fst.kd,i64 (kindN T D (chn T D s a k).fst (chn T D s a k).snd (↑k:Int)).fst.na,i64 (kindN T D (chn T D s a k).fst (chn T D s a k).snd (↑k:Int)).fst.nb,i64 (kindN T D (chn T D s a k).fst (chn T D s a k).snd (↑k:Int)).fst.nk,i64 (kindN T D (chn T D s a k).fst (chn T D s a k).snd (↑k:Int)).fst.ns,i64 (kindN T D (chn T D s a k).fst (chn T D s a k).snd (↑k:Int)).fst.np,i64 (kindN T D (chn T D s a k).fst (chn T D s a k).snd (↑k:Int)).fst.no,i8 (kindN T D (chn T D s a k).fst (chn T D s a k).snd (↑k:Int)).fst.za,i8 (kindN T D (chn T D s a k).fst (chn T D s a k).snd (↑k:Int)).fst.zb,AV.sl 1 (K_ (row1 .i8) (kindN T D (chn T D s a k).fst (chn T D s a k).snd (↑k:Int)).fst.w),AV.sl 1 (K_ (row1 .i32) (kindN T D (chn T D s a k).fst (chn T D s a k).snd (↑k:Int)).fst.b),i32 (kindN T D (chn T D s a k).fst (chn T D s a k).snd (↑k:Int)).fst.qm,i64 (kindN T D (chn T D s a k).fst (chn T D s a k).snd (↑k:Int)).fst.qs,i8 (kindN T D (chn T D s a k).fst (chn T D s a k).snd (↑k:Int)).fst.qz,i32 (kindN T D (chn T D s a k).fst (chn T D s a k).snd (↑k:Int)).fst.rm,i64 (kindN T D (chn T D s a k).fst (chn T D s a k).snd (↑k:Int)).fst.rs,i8 (kindN T D (chn T D s a k).fst (chn T D s a k).snd (↑k:Int)).fst.rz,i8 (kindN T D (chn T D s a k).fst (chn T D s a k).snd (↑k:Int)).fst.lo,i8 (kindN T D (chn T D s a k).fst (chn T D s a k).snd (↑k:Int)).fst.hi]])) (Blk.slc 68 19 (K_ nodC (chL T D s a (k+1)))) from (CC_ (e:=68) (z:=19) (rows_to (nodC) (r:=K_ nodC (chL T D s a k)++[[i64 (kindN T D (chn T D s a k).fst (chn T D s a k).snd (↑k:Int)).fst.kd,i64 (kindN T D (chn T D s a k).fst (chn T D s a k).snd (↑k:Int)).fst.na,i64 (kindN T D (chn T D s a k).fst (chn T D s a k).snd (↑k:Int)).fst.nb,i64 (kindN T D (chn T D s a k).fst (chn T D s a k).snd (↑k:Int)).fst.nk,i64 (kindN T D (chn T D s a k).fst (chn T D s a k).snd (↑k:Int)).fst.ns,i64 (kindN T D (chn T D s a k).fst (chn T D s a k).snd (↑k:Int)).fst.np,i64 (kindN T D (chn T D s a k).fst (chn T D s a k).snd (↑k:Int)).fst.no,i8 (kindN T D (chn T D s a k).fst (chn T D s a k).snd (↑k:Int)).fst.za,i8 (kindN T D (chn T D s a k).fst (chn T D s a k).snd (↑k:Int)).fst.zb,AV.sl 1 (K_ (row1 .i8) (kindN T D (chn T D s a k).fst (chn T D s a k).snd (↑k:Int)).fst.w),AV.sl 1 (K_ (row1 .i32) (kindN T D (chn T D s a k).fst (chn T D s a k).snd (↑k:Int)).fst.b),i32 (kindN T D (chn T D s a k).fst (chn T D s a k).snd (↑k:Int)).fst.qm,i64 (kindN T D (chn T D s a k).fst (chn T D s a k).snd (↑k:Int)).fst.qs,i8 (kindN T D (chn T D s a k).fst (chn T D s a k).snd (↑k:Int)).fst.qz,i32 (kindN T D (chn T D s a k).fst (chn T D s a k).snd (↑k:Int)).fst.rm,i64 (kindN T D (chn T D s a k).fst (chn T D s a k).snd (↑k:Int)).fst.rs,i8 (kindN T D (chn T D s a k).fst (chn T D s a k).snd (↑k:Int)).fst.rz,i8 (kindN T D (chn T D s a k).fst (chn T D s a k).snd (↑k:Int)).fst.lo,i8 (kindN T D (chn T D s a k).fst (chn T D s a k).snd (↑k:Int)).fst.hi]]) (l:=chL T D s a k++[Nod.mk (kindN T D (chn T D s a k).fst (chn T D s a k).snd (↑k:Int)).fst.kd (kindN T D (chn T D s a k).fst (chn T D s a k).snd (↑k:Int)).fst.na (kindN T D (chn T D s a k).fst (chn T D s a k).snd (↑k:Int)).fst.nb (kindN T D (chn T D s a k).fst (chn T D s a k).snd (↑k:Int)).fst.nk (kindN T D (chn T D s a k).fst (chn T D s a k).snd (↑k:Int)).fst.ns (kindN T D (chn T D s a k).fst (chn T D s a k).snd (↑k:Int)).fst.np (kindN T D (chn T D s a k).fst (chn T D s a k).snd (↑k:Int)).fst.no (kindN T D (chn T D s a k).fst (chn T D s a k).snd (↑k:Int)).fst.za (kindN T D (chn T D s a k).fst (chn T D s a k).snd (↑k:Int)).fst.zb (kindN T D (chn T D s a k).fst (chn T D s a k).snd (↑k:Int)).fst.w (kindN T D (chn T D s a k).fst (chn T D s a k).snd (↑k:Int)).fst.b (kindN T D (chn T D s a k).fst (chn T D s a k).snd (↑k:Int)).fst.qm (kindN T D (chn T D s a k).fst (chn T D s a k).snd (↑k:Int)).fst.qs (kindN T D (chn T D s a k).fst (chn T D s a k).snd (↑k:Int)).fst.qz (kindN T D (chn T D s a k).fst (chn T D s a k).snd (↑k:Int)).fst.rm (kindN T D (chn T D s a k).fst (chn T D s a k).snd (↑k:Int)).fst.rs (kindN T D (chn T D s a k).fst (chn T D s a k).snd (↑k:Int)).fst.rz (kindN T D (chn T D s a k).fst (chn T D s a k).snd (↑k:Int)).fst.lo (kindN T D (chn T D s a k).fst (chn T D s a k).snd (↑k:Int)).fst.hi]) (m:=chL T D s a (k+1)) (by first|(simp only[AL_,AM_,AT_,AU_,Z_,AQ_,AR_];done)|rfl|(simp only[AL_,AM_,AT_,AU_,Z_,AQ_,AR_];rfl)|(simp only[AL_,AM_,AT_,AU_,Z_,AQ_,AR_,nodC,ints];done)) (show (chL T D s a k++[Nod.mk (kindN T D (chn T D s a k).fst (chn T D s a k).snd (↑k:Int)).fst.kd (kindN T D (chn T D s a k).fst (chn T D s a k).snd (↑k:Int)).fst.na (kindN T D (chn T D s a k).fst (chn T D s a k).snd (↑k:Int)).fst.nb (kindN T D (chn T D s a k).fst (chn T D s a k).snd (↑k:Int)).fst.nk (kindN T D (chn T D s a k).fst (chn T D s a k).snd (↑k:Int)).fst.ns (kindN T D (chn T D s a k).fst (chn T D s a k).snd (↑k:Int)).fst.np (kindN T D (chn T D s a k).fst (chn T D s a k).snd (↑k:Int)).fst.no (kindN T D (chn T D s a k).fst (chn T D s a k).snd (↑k:Int)).fst.za (kindN T D (chn T D s a k).fst (chn T D s a k).snd (↑k:Int)).fst.zb (kindN T D (chn T D s a k).fst (chn T D s a k).snd (↑k:Int)).fst.w (kindN T D (chn T D s a k).fst (chn T D s a k).snd (↑k:Int)).fst.b (kindN T D (chn T D s a k).fst (chn T D s a k).snd (↑k:Int)).fst.qm (kindN T D (chn T D s a k).fst (chn T D s a k).snd (↑k:Int)).fst.qs (kindN T D (chn T D s a k).fst (chn T D s a k).snd (↑k:Int)).fst.qz (kindN T D (chn T D s a k).fst (chn T D s a k).snd (↑k:Int)).fst.rm (kindN T D (chn T D s a k).fst (chn T D s a k).snd (↑k:Int)).fst.rs (kindN T D (chn T D s a k).fst (chn T D s a k).snd (↑k:Int)).fst.rz (kindN T D (chn T D s a k).fst (chn T D s a k).snd (↑k:Int)).fst.lo (kindN T D (chn T D s a k).fst (chn T D s a k).snd (↑k:Int)).fst.hi])=(chL T D s a (k+1)) from (by rfl)))))<|.d (show BlkW (Blk.var [u64 (kindN T D (chn T D s a k).fst (chn T D s a k).snd (↑k:Int)).snd]) (Blk.var [u64 (chn T D s a (k+1)).fst]) from (BlkW.var (m:=[u64 (chn T D s a (k+1)).fst]) (.cons (M_ (by rfl)) .nil))))
theorem dblk_l_e (T:Int→Int) (D:Int→Int→Int) (s cl N:Int) (a:Shp) (last:Bool) (hD:Dcs T D) (da:a.Dc) (hN:1≤N) (hM:N≤2):VT O_ (fnC Try.f16 [1,1,0,1,0,0]) (dblk_l_I T D s cl N a last (N.toNat)) (.exit 0) (dblk_l_Z T D s cl N a last):=by
 exact tR_ [r_,d_] [.any [19],.sort] (.d (decide_eq_false (p:=((↑N.toNat:Int)<N)) (by omega)))
theorem dblk_l (T:Int→Int) (D:Int→Int→Int) (s cl N:Int) (a:Shp) (last:Bool) (hD:Dcs T D) (da:a.Dc) (hN:1≤N) (hM:N≤2):VT O_ (fnC Try.f16 [1,1,0,1,0]) (dblk_l_I T D s cl N a last 0) (.exit 0) (dblk_l_Z T D s cl N a last) :=
 VT.loop (fun k=>dblk_l_I T D s cl N a last k) (N.toNat) (fun k hk=>dblk_l_s T D s cl N a last hD da hN hM k hk) (dblk_l_e T D s cl N a last hD da hN hM) (by intro h;cases h)
noncomputable def rdblk_l_I (T:Int→Int) (D:Int→Int→Int) (s cl N:Int) (a:Shp) (last:Bool) (k:Nat):VS:=stt 67 [(0,.ptr 100000 0 0),(2,i64 cl),(3,bv last),(5,.ptr 5 0 0),(8,.ptr 8 0 0),(9,.ptr 9 0 0),(10,.ptr 10 0 0),(11,i64 N),(12,i64 k)] [(5,.var (shpC (chn T D s a k).2)),(8,.var [.any,.any,.any,.any,.any]),(9,.var [.any,.any,.any]),(10,.var [.own 900,bv false,ints .i8 [],ints .i32 [],i32 0]),(900,.slc 68 19 ((chL T D s a k).map nodC)),(100000,.var [u64 (chn T D s a k).1])]
noncomputable def rdblk_l_Z (T:Int→Int) (D:Int→Int→Int) (s cl N:Int) (a:Shp) (last:Bool):VS:=rdblk_l_I T D s cl N a last (N.toNat)
theorem rdblk_l_s (T:Int→Int) (D:Int→Int→Int) (s cl N:Int) (a:Shp) (last:Bool) (hD:Dcs T D) (da:a.Dc) (hN:1≤N) (hM:N≤2) (k:Nat) (hk:k<N.toNat):VT O_ (fnC Try.f17 [1,1,1,0,1,0,0]) (rdblk_l_I T D s cl N a last k) .normal (rdblk_l_I T D s cl N a last (k+1)):=by
 have q:=chn_Dc hD s da k
 have q1:=chL_len T D s a k
 have q2:In64 (k:Int):=⟨by omega,by omega⟩
 have oz1:=@rdnode_v (T) (D) hD ((chn T D s a k).fst) ((chn T D s a k).snd) ((↑k:Int)) q q2
 exact tR_ [r_,b_,.r [] [cm oz1],r_,r_,.r [] [.n ((↑k:Int)+1)]] [.any (rg [(13,2),(18,19)]),.drop [13,14,33],.ren 34 900,.weak 12 (i64 (↑(k+1):Int)),.blk 5 (Blk.var [i64 (chn T D s a (k+1)).snd.h,i64 (chn T D s a (k+1)).snd.x,i64 (chn T D s a (k+1)).snd.c]),.blk 900 (Blk.slc 68 19 (K_ nodC (chL T D s a (k+1)))),.blk 100000 (Blk.var [u64 (chn T D s a (k+1)).fst]),.sort] (.c8 (decide_eq_true (p:=((↑k:Int)<N)) (by omega)) oz1 (show ((K_ nodC (chL T D s a k)).length+1)*168≤140737488355328 by (simp;omega)) (show (K_ nodC (chL T D s a k)).length+1≤9223372036854775807 by (simp;omega)) (i6n ((↑k:Int)+1) (by omega)) (wS_ k) (show BlkW (Blk.var [i64 (kindT T D (chn T D s a k).fst (chn T D s a k).snd).h,i64 (kindT T D (chn T D s a k).fst (chn T D s a k).snd).x,i64 (kindT T D (chn T D s a k).fst (chn T D s a k).snd).c]) (Blk.var [i64 (chn T D s a (k+1)).snd.h,i64 (chn T D s a (k+1)).snd.x,i64 (chn T D s a (k+1)).snd.c]) from (BlkW.var (m:=[i64 (chn T D s a (k+1)).snd.h,i64 (chn T D s a (k+1)).snd.x,i64 (chn T D s a (k+1)).snd.c]) (.cons (M_ (by rfl)) (.cons (M_ (by rfl)) (.cons (M_ (by rfl)) .nil))))) (show BlkW (Blk.slc 68 19 (K_ nodC (chL T D s a k)++[[i64 (kindN T D (chn T D s a k).fst (chn T D s a k).snd (↑k:Int)).fst.kd,i64 (kindN T D (chn T D s a k).fst (chn T D s a k).snd (↑k:Int)).fst.na,i64 (kindN T D (chn T D s a k).fst (chn T D s a k).snd (↑k:Int)).fst.nb,i64 (kindN T D (chn T D s a k).fst (chn T D s a k).snd (↑k:Int)).fst.nk,i64 (kindN T D (chn T D s a k).fst (chn T D s a k).snd (↑k:Int)).fst.ns,i64 (kindN T D (chn T D s a k).fst (chn T D s a k).snd (↑k:Int)).fst.np,i64 (kindN T D (chn T D s a k).fst (chn T D s a k).snd (↑k:Int)).fst.no,i8 (kindN T D (chn T D s a k).fst (chn T D s a k).snd (↑k:Int)).fst.za,i8 (kindN T D (chn T D s a k).fst (chn T D s a k).snd (↑k:Int)).fst.zb,AV.sl 1 (K_ (row1 .i8) (kindN T D (chn T D s a k).fst (chn T D s a k).snd (↑k:Int)).fst.w),AV.sl 1 (K_ (row1 .i32) (kindN T D (chn T D s a k).fst (chn T D s a k).snd (↑k:Int)).fst.b),i32 (kindN T D (chn T D s a k).fst (chn T D s a k).snd (↑k:Int)).fst.qm,i64 (kindN T D (chn T D s a k).fst (chn T D s a k).snd (↑k:Int)).fst.qs,i8 (kindN T D (chn T D s a k).fst (chn T D s a k).snd (↑k:Int)).fst.qz,i32 (kindN T D (chn T D s a k).fst (chn T D s a k).snd (↑k:Int)).fst.rm,i64 (kindN T D (chn T D s a k).fst (chn T D s a k).snd (↑k:Int)).fst.rs,i8 (kindN T D (chn T D s a k).fst (chn T D s a k).snd (↑k:Int)).fst.rz,i8 (kindN T D (chn T D s a k).fst (chn T D s a k).snd (↑k:Int)).fst.lo,i8 (kindN T D (chn T D s a k).fst (chn T D s a k).snd (↑k:Int)).fst.hi]])) (Blk.slc 68 19 (K_ nodC (chL T D s a (k+1)))) from (CC_ (e:=68) (z:=19) (rows_to (nodC) (r:=K_ nodC (chL T D s a k)++[[i64 (kindN T D (chn T D s a k).fst (chn T D s a k).snd (↑k:Int)).fst.kd,i64 (kindN T D (chn T D s a k).fst (chn T D s a k).snd (↑k:Int)).fst.na,i64 (kindN T D (chn T D s a k).fst (chn T D s a k).snd (↑k:Int)).fst.nb,i64 (kindN T D (chn T D s a k).fst (chn T D s a k).snd (↑k:Int)).fst.nk,i64 (kindN T D (chn T D s a k).fst (chn T D s a k).snd (↑k:Int)).fst.ns,i64 (kindN T D (chn T D s a k).fst (chn T D s a k).snd (↑k:Int)).fst.np,i64 (kindN T D (chn T D s a k).fst (chn T D s a k).snd (↑k:Int)).fst.no,i8 (kindN T D (chn T D s a k).fst (chn T D s a k).snd (↑k:Int)).fst.za,i8 (kindN T D (chn T D s a k).fst (chn T D s a k).snd (↑k:Int)).fst.zb,AV.sl 1 (K_ (row1 .i8) (kindN T D (chn T D s a k).fst (chn T D s a k).snd (↑k:Int)).fst.w),AV.sl 1 (K_ (row1 .i32) (kindN T D (chn T D s a k).fst (chn T D s a k).snd (↑k:Int)).fst.b),i32 (kindN T D (chn T D s a k).fst (chn T D s a k).snd (↑k:Int)).fst.qm,i64 (kindN T D (chn T D s a k).fst (chn T D s a k).snd (↑k:Int)).fst.qs,i8 (kindN T D (chn T D s a k).fst (chn T D s a k).snd (↑k:Int)).fst.qz,i32 (kindN T D (chn T D s a k).fst (chn T D s a k).snd (↑k:Int)).fst.rm,i64 (kindN T D (chn T D s a k).fst (chn T D s a k).snd (↑k:Int)).fst.rs,i8 (kindN T D (chn T D s a k).fst (chn T D s a k).snd (↑k:Int)).fst.rz,i8 (kindN T D (chn T D s a k).fst (chn T D s a k).snd (↑k:Int)).fst.lo,i8 (kindN T D (chn T D s a k).fst (chn T D s a k).snd (↑k:Int)).fst.hi]]) (l:=chL T D s a k++[Nod.mk (kindN T D (chn T D s a k).fst (chn T D s a k).snd (↑k:Int)).fst.kd (kindN T D (chn T D s a k).fst (chn T D s a k).snd (↑k:Int)).fst.na (kindN T D (chn T D s a k).fst (chn T D s a k).snd (↑k:Int)).fst.nb (kindN T D (chn T D s a k).fst (chn T D s a k).snd (↑k:Int)).fst.nk (kindN T D (chn T D s a k).fst (chn T D s a k).snd (↑k:Int)).fst.ns (kindN T D (chn T D s a k).fst (chn T D s a k).snd (↑k:Int)).fst.np (kindN T D (chn T D s a k).fst (chn T D s a k).snd (↑k:Int)).fst.no (kindN T D (chn T D s a k).fst (chn T D s a k).snd (↑k:Int)).fst.za (kindN T D (chn T D s a k).fst (chn T D s a k).snd (↑k:Int)).fst.zb (kindN T D (chn T D s a k).fst (chn T D s a k).snd (↑k:Int)).fst.w (kindN T D (chn T D s a k).fst (chn T D s a k).snd (↑k:Int)).fst.b (kindN T D (chn T D s a k).fst (chn T D s a k).snd (↑k:Int)).fst.qm (kindN T D (chn T D s a k).fst (chn T D s a k).snd (↑k:Int)).fst.qs (kindN T D (chn T D s a k).fst (chn T D s a k).snd (↑k:Int)).fst.qz (kindN T D (chn T D s a k).fst (chn T D s a k).snd (↑k:Int)).fst.rm (kindN T D (chn T D s a k).fst (chn T D s a k).snd (↑k:Int)).fst.rs (kindN T D (chn T D s a k).fst (chn T D s a k).snd (↑k:Int)).fst.rz (kindN T D (chn T D s a k).fst (chn T D s a k).snd (↑k:Int)).fst.lo (kindN T D (chn T D s a k).fst (chn T D s a k).snd (↑k:Int)).fst.hi]) (m:=chL T D s a (k+1)) (by first|(simp only[AL_,AM_,AT_,AU_,Z_,AQ_,AR_];done)|rfl|(simp only[AL_,AM_,AT_,AU_,Z_,AQ_,AR_];rfl)|(simp only[AL_,AM_,AT_,AU_,Z_,AQ_,AR_,nodC,ints];done)) (show (chL T D s a k++[Nod.mk (kindN T D (chn T D s a k).fst (chn T D s a k).snd (↑k:Int)).fst.kd (kindN T D (chn T D s a k).fst (chn T D s a k).snd (↑k:Int)).fst.na (kindN T D (chn T D s a k).fst (chn T D s a k).snd (↑k:Int)).fst.nb (kindN T D (chn T D s a k).fst (chn T D s a k).snd (↑k:Int)).fst.nk (kindN T D (chn T D s a k).fst (chn T D s a k).snd (↑k:Int)).fst.ns (kindN T D (chn T D s a k).fst (chn T D s a k).snd (↑k:Int)).fst.np (kindN T D (chn T D s a k).fst (chn T D s a k).snd (↑k:Int)).fst.no (kindN T D (chn T D s a k).fst (chn T D s a k).snd (↑k:Int)).fst.za (kindN T D (chn T D s a k).fst (chn T D s a k).snd (↑k:Int)).fst.zb (kindN T D (chn T D s a k).fst (chn T D s a k).snd (↑k:Int)).fst.w (kindN T D (chn T D s a k).fst (chn T D s a k).snd (↑k:Int)).fst.b (kindN T D (chn T D s a k).fst (chn T D s a k).snd (↑k:Int)).fst.qm (kindN T D (chn T D s a k).fst (chn T D s a k).snd (↑k:Int)).fst.qs (kindN T D (chn T D s a k).fst (chn T D s a k).snd (↑k:Int)).fst.qz (kindN T D (chn T D s a k).fst (chn T D s a k).snd (↑k:Int)).fst.rm (kindN T D (chn T D s a k).fst (chn T D s a k).snd (↑k:Int)).fst.rs (kindN T D (chn T D s a k).fst (chn T D s a k).snd (↑k:Int)).fst.rz (kindN T D (chn T D s a k).fst (chn T D s a k).snd (↑k:Int)).fst.lo (kindN T D (chn T D s a k).fst (chn T D s a k).snd (↑k:Int)).fst.hi])=(chL T D s a (k+1)) from (by rfl)))))<|.d (show BlkW (Blk.var [u64 (kindN T D (chn T D s a k).fst (chn T D s a k).snd (↑k:Int)).snd]) (Blk.var [u64 (chn T D s a (k+1)).fst]) from (BlkW.var (m:=[u64 (chn T D s a (k+1)).fst]) (.cons (M_ (by rfl)) .nil))))
theorem rdblk_l_e (T:Int→Int) (D:Int→Int→Int) (s cl N:Int) (a:Shp) (last:Bool) (hD:Dcs T D) (da:a.Dc) (hN:1≤N) (hM:N≤2):VT O_ (fnC Try.f17 [1,1,1,0,1,0,0]) (rdblk_l_I T D s cl N a last (N.toNat)) (.exit 0) (rdblk_l_Z T D s cl N a last):=by
 exact tR_ [r_,d_] [.any [18,19,20],.sort] (.d (decide_eq_false (p:=((↑N.toNat:Int)<N)) (by omega)))
theorem rdblk_l (T:Int→Int) (D:Int→Int→Int) (s cl N:Int) (a:Shp) (last:Bool) (hD:Dcs T D) (da:a.Dc) (hN:1≤N) (hM:N≤2):VT O_ (fnC Try.f17 [1,1,1,0,1,0]) (rdblk_l_I T D s cl N a last 0) (.exit 0) (rdblk_l_Z T D s cl N a last) :=
 VT.loop (fun k=>rdblk_l_I T D s cl N a last k) (N.toNat) (fun k hk=>rdblk_l_s T D s cl N a last hD da hN hM k hk) (rdblk_l_e T D s cl N a last hD da hN hM) (by intro h;cases h)
def bkN (D:Int→Int→Int) (s:Int):Nat:=(1+D s 2).toNat
def bkS (T:Int→Int) (D:Int→Int→Int) (s:Int) (a:Shp):Int:=(chn T D (T s) a (bkN D s)).1
def bkA (T:Int→Int) (D:Int→Int→Int) (s:Int) (a:Shp):Shp:=(chn T D (T s) a (bkN D s)).2
def bkL (T:Int→Int) (D:Int→Int→Int) (s:Int) (a:Shp):List Nod:=chL T D (T s) a (bkN D s)
theorem bkA_Dc {T:Int→Int} {D:Int→Int→Int} (hD:Dcs T D) (s:Int) {a:Shp} (d:a.Dc):(bkA T D s a).Dc:=chn_Dc hD _ d _
def exB (T:Int→Int) (D:Int→Int→Int) (l:List Nod) (t n cl:Int):Blc:=⟨l,true,wtsL T D t n.toNat,biaL T D (dsN T t n.toNat) cl.toNat,D (dsN T (dsN T t n.toNat) cl.toNat) 400⟩
def exT (T:Int→Int) (t n cl:Int):Int:=T (dsN T (dsN T t n.toNat) cl.toNat)
theorem clel {a:Shp} (d:a.Dc) {cl:Int} (h:2≤cl∧cl≤4):1≤cl*elems a.h a.x a.c∧cl*elems a.h a.x a.c≤192:=by
 have e:=Dc_elems d
 have hc:cl=2∨cl=3∨cl=4:=by omega
 rcases hc with h|h|h<;>rw[h]<;>omega
theorem z3_:true = !false:=by (simp;done)
theorem dblock_l (T:Int→Int) (D:Int→Int→Int) (s cl:Int) (a:Shp) (hD:Dcs T D) (da:a.Dc) (hc:2≤cl∧cl≤4):VM O_ 16 ([.ptr 100000 0 0,shp a,i64 cl,bv true]) ([(100000,.var [u64 s])]) (.tup [blc (exB T D (bkL T D s a) (bkS T D s a) (cl*elems (bkA T D s a).h (bkA T D s a).x (bkA T D s a).c) cl),shp (bkA T D s a)]) ([(100000,.var [u64 (exT T (bkS T D s a) (cl*elems (bkA T D s a).h (bkA T D s a).x (bkA T D s a).c) cl)])]):=by
 have d0:=hD.b s 2 (by decide)
 have d2:=hD.b (chn T D (T s) a (1+D s 2).toNat).1 2 (by decide)
 have dA:(chn T D (T s) a (1+D s 2).toNat).2.Dc:=bkA_Dc hD s da
 have ce:1≤cl*elems (chn T D (T s) a (1+D s 2).toNat).2.h (chn T D (T s) a (1+D s 2).toNat).2.x (chn T D (T s) a (1+D s 2).toNat).2.c∧cl*elems (chn T D (T s) a (1+D s 2).toNat).2.h (chn T D (T s) a (1+D s 2).toNat).2.x (chn T D (T s) a (1+D s 2).toNat).2.c≤192:=clel dA hc
 have oka:(chn T D (T s) a (1+D s 2).toNat).2.Ok:=dA.ok
 have o1:=oka.h
 have o2:=oka.x
 have o3:=oka.c
 have w1:IntKind.i64.wrap (cl*elems (chn T D (T s) a (1+D s 2).toNat).2.h (chn T D (T s) a (1+D s 2).toNat).2.x (chn T D (T s) a (1+D s 2).toNat).2.c)=cl*elems (chn T D (T s) a (1+D s 2).toNat).2.h (chn T D (T s) a (1+D s 2).toNat).2.x (chn T D (T s) a (1+D s 2).toNat).2.c:=i6n _ (by omega)
 have d4:=hD.b (dsN T (dsN T ((chn T D (T s) a (1+D s 2).toNat).1) (cl*elems (chn T D (T s) a (1+D s 2).toNat).2.h (chn T D (T s) a (1+D s 2).toNat).2.x (chn T D (T s) a (1+D s 2).toNat).2.c).toNat) cl.toNat) 400 (by decide)
 have oz0:=@dbelow_t (T) (D) hD (s) (2) (by omega) (by omega)
 have oz6:=@dblk_l (T) (D) (T s) (cl) (1+D s 2) (a) (true) hD da (by omega) (by omega)
 have oz7:=z3_
 have oz10:=z1_
 have oz12:=@elems_v ((chn T D (T s) a (1+D s 2).toNat).snd.h) ((chn T D (T s) a (1+D s 2).toNat).snd.x) ((chn T D (T s) a (1+D s 2).toNat).snd.c) o1 o2 o3
 have oz14:=@dweightsI_v (T) (D) hD ((chn T D (T s) a (1+D s 2).toNat).fst) (cl*elems (chn T D (T s) a (1+D s 2).toNat).snd.h (chn T D (T s) a (1+D s 2).toNat).snd.x (chn T D (T s) a (1+D s 2).toNat).snd.c) (by omega) (by omega)
 have oz15:=@dbiasesI_v (T) (D) hD (dsN T (chn T D (T s) a (1+D s 2).toNat).fst (cl*elems (chn T D (T s) a (1+D s 2).toNat).snd.h (chn T D (T s) a (1+D s 2).toNat).snd.x (chn T D (T s) a (1+D s 2).toNat).snd.c).toNat) (cl) (by omega) (by omega)
 have oz16:=@dbelow_t (T) (D) hD (dsN T (dsN T (chn T D (T s) a (1+D s 2).toNat).fst (cl*elems (chn T D (T s) a (1+D s 2).toNat).snd.h (chn T D (T s) a (1+D s 2).toNat).snd.x (chn T D (T s) a (1+D s 2).toNat).snd.c).toNat) cl.toNat) (400) (by omega) (by omega)
 have oz17:=(CP_ (D (dsN T (dsN T (chn T D (T s) a (1+D s 2).toNat).fst (cl*elems (chn T D (T s) a (1+D s 2).toNat).snd.h (chn T D (T s) a (1+D s 2).toNat).snd.x (chn T D (T s) a (1+D s 2).toNat).snd.c).toNat) cl.toNat) 400) (by omega))
 exact mR_ [r_,r_,.r [] [cm oz0,.n (1+D s 2)],.code [.any [1,14,15,16],.weak 18 (i64 (↑0:Int)),.nilc 900 68 19 10 0,.blk 8 (Blk.var [AV.any,AV.any,AV.any,AV.any,AV.any]),.blk 9 (Blk.var [AV.any,AV.any,AV.any]),.blk 10 (Blk.var [AV.own 900,bv false,AV.sl 1 [],AV.sl 1 [],i32 0]),.sort] (BN_ 0) (zO oz6),.r [] [f_,f_,f_,e_],r_,b_,.r [] [cr oz12,.n (nO w1),cm oz14,cm oz15],.r [] [cm oz16,.n (nO oz17)],r_] [.frz 900,.drop [5,8,9,10],.blk 100000 (Blk.var [u64 (exT T (bkS T D s a) (cl*elems (bkA T D s a).h (bkA T D s a).x (bkA T D s a).c) cl)]),.sort] _ Try.func16 (.c8 oz0 (i6n (1+D s 2) (by omega)) w0_ (show BlkW (Blk.var [AV.lit (AK_ none (0:Nat) (0:Nat)),bv false,AV.lit (AK_ none (0:Nat) (0:Nat)),AV.lit (AK_ none (0:Nat) (0:Nat)),i32 (0:Int)]) (Blk.var [AV.any,AV.any,AV.any,AV.any,AV.any]) from (BlkW.var (m:=[AV.any,AV.any,AV.any,AV.any,AV.any]) (.cons (AF_ _) (.cons (AF_ _) (.cons (AF_ _) (.cons (AF_ _) (.cons (AF_ _) .nil))))))) (show BlkW (Blk.var [i64 (0:Int),i64 (0:Int),i64 (0:Int)]) (Blk.var [AV.any,AV.any,AV.any]) from (BlkW.var (m:=[AV.any,AV.any,AV.any]) (.cons (AF_ _) (.cons (AF_ _) (.cons (AF_ _) .nil))))) (show BlkW (Blk.var [AV.own (900:Nat),bv false,AV.lit (AK_ none (0:Nat) (0:Nat)),AV.lit (AK_ none (0:Nat) (0:Nat)),i32 (0:Int)]) (Blk.var [AV.own (900:Nat),bv false,AV.sl (1:Nat) [],AV.sl (1:Nat) [],i32 (0:Int)]) from (BlkW.var (m:=[AV.own 900,bv false,AV.sl 1 [],AV.sl 1 [],i32 0]) (.cons (.refl _) (.cons (.refl _) (.cons (AG_ _) (.cons (AG_ _) (.cons (.refl _) .nil))))))) oz6 oz7<|.c8 oz7 oz7 oz10 oz10 oz12 w1 oz14 oz15<|.d3 oz16 oz17 (show BlkW (Blk.var [u64 (T (dsN T (dsN T (chn T D (T s) a (1+D s 2).toNat).fst (cl*elems (chn T D (T s) a (1+D s 2).toNat).snd.h (chn T D (T s) a (1+D s 2).toNat).snd.x (chn T D (T s) a (1+D s 2).toNat).snd.c).toNat) cl.toNat))]) (Blk.var [u64 (exT T (bkS T D s a) (cl*elems (bkA T D s a).h (bkA T D s a).x (bkA T D s a).c) cl)]) from (BlkW.var (m:=[u64 (exT T (bkS T D s a) (cl*elems (bkA T D s a).h (bkA T D s a).x (bkA T D s a).c) cl)]) (.cons (M_ (by rfl)) .nil))))
theorem dblock_e (T:Int→Int) (D:Int→Int→Int) (s cl:Int) (a:Shp) (hD:Dcs T D) (da:a.Dc) (hc:2≤cl∧cl≤4) (h:D (chn T D (T s) a (1+D s 2).toNat).1 2=0):VM O_ 16 ([.ptr 100000 0 0,shp a,i64 cl,bv false]) ([(100000,.var [u64 s])]) (.tup [blc ⟨bkL T D s a,D (bkS T D s a) 2==0,(exB T D (bkL T D s a) (T (bkS T D s a)) (cl*elems (bkA T D s a).h (bkA T D s a).x (bkA T D s a).c) cl).w,(exB T D (bkL T D s a) (T (bkS T D s a)) (cl*elems (bkA T D s a).h (bkA T D s a).x (bkA T D s a).c) cl).b,(exB T D (bkL T D s a) (T (bkS T D s a)) (cl*elems (bkA T D s a).h (bkA T D s a).x (bkA T D s a).c) cl).nd⟩,shp (bkA T D s a)]) ([(100000,.var [u64 (exT T (T (bkS T D s a)) (cl*elems (bkA T D s a).h (bkA T D s a).x (bkA T D s a).c) cl)])]):=by
 have d0:=hD.b s 2 (by decide)
 have d2:=hD.b (chn T D (T s) a (1+D s 2).toNat).1 2 (by decide)
 have dA:(chn T D (T s) a (1+D s 2).toNat).2.Dc:=bkA_Dc hD s da
 have ce:1≤cl*elems (chn T D (T s) a (1+D s 2).toNat).2.h (chn T D (T s) a (1+D s 2).toNat).2.x (chn T D (T s) a (1+D s 2).toNat).2.c∧cl*elems (chn T D (T s) a (1+D s 2).toNat).2.h (chn T D (T s) a (1+D s 2).toNat).2.x (chn T D (T s) a (1+D s 2).toNat).2.c≤192:=clel dA hc
 have oka:(chn T D (T s) a (1+D s 2).toNat).2.Ok:=dA.ok
 have o1:=oka.h
 have o2:=oka.x
 have o3:=oka.c
 have w1:IntKind.i64.wrap (cl*elems (chn T D (T s) a (1+D s 2).toNat).2.h (chn T D (T s) a (1+D s 2).toNat).2.x (chn T D (T s) a (1+D s 2).toNat).2.c)=cl*elems (chn T D (T s) a (1+D s 2).toNat).2.h (chn T D (T s) a (1+D s 2).toNat).2.x (chn T D (T s) a (1+D s 2).toNat).2.c:=i6n _ (by omega)
 have d4:=hD.b (dsN T (dsN T (T ((chn T D (T s) a (1+D s 2).toNat).1)) (cl*elems (chn T D (T s) a (1+D s 2).toNat).2.h (chn T D (T s) a (1+D s 2).toNat).2.x (chn T D (T s) a (1+D s 2).toNat).2.c).toNat) cl.toNat) 400 (by decide)
 have oz0:=@dbelow_t (T) (D) hD (s) (2) (by omega) (by omega)
 have oz6:=@dblk_l (T) (D) (T s) (cl) (1+D s 2) (a) (false) hD da (by omega) (by omega)
 have oz7:=z0_
 have oz9:=@dbelow_t (T) (D) hD ((chn T D (T s) a (1+D s 2).toNat).fst) (2) (by omega) (by omega)
 have oz13:=@elems_v ((chn T D (T s) a (1+D s 2).toNat).snd.h) ((chn T D (T s) a (1+D s 2).toNat).snd.x) ((chn T D (T s) a (1+D s 2).toNat).snd.c) o1 o2 o3
 have oz15:=@dweightsI_v (T) (D) hD (T (chn T D (T s) a (1+D s 2).toNat).fst) (cl*elems (chn T D (T s) a (1+D s 2).toNat).snd.h (chn T D (T s) a (1+D s 2).toNat).snd.x (chn T D (T s) a (1+D s 2).toNat).snd.c) (by omega) (by omega)
 have oz16:=@dbiasesI_v (T) (D) hD (dsN T (T (chn T D (T s) a (1+D s 2).toNat).fst) (cl*elems (chn T D (T s) a (1+D s 2).toNat).snd.h (chn T D (T s) a (1+D s 2).toNat).snd.x (chn T D (T s) a (1+D s 2).toNat).snd.c).toNat) (cl) (by omega) (by omega)
 have oz17:=@dbelow_t (T) (D) hD (dsN T (dsN T (T (chn T D (T s) a (1+D s 2).toNat).fst) (cl*elems (chn T D (T s) a (1+D s 2).toNat).snd.h (chn T D (T s) a (1+D s 2).toNat).snd.x (chn T D (T s) a (1+D s 2).toNat).snd.c).toNat) cl.toNat) (400) (by omega) (by omega)
 have oz18:=(CP_ (D (dsN T (dsN T (T (chn T D (T s) a (1+D s 2).toNat).fst) (cl*elems (chn T D (T s) a (1+D s 2).toNat).snd.h (chn T D (T s) a (1+D s 2).toNat).snd.x (chn T D (T s) a (1+D s 2).toNat).snd.c).toNat) cl.toNat) 400) (by omega))
 exact mR_ [r_,r_,.r [] [cm oz0,.n (1+D s 2)],.code [.any [1,14,15,16],.weak 18 (i64 (↑0:Int)),.nilc 900 68 19 10 0,.blk 8 (Blk.var [AV.any,AV.any,AV.any,AV.any,AV.any]),.blk 9 (Blk.var [AV.any,AV.any,AV.any]),.blk 10 (Blk.var [AV.own 900,bv false,AV.sl 1 [],AV.sl 1 [],i32 0]),.sort] (BN_ 0) (zO oz6),.r [] [e_,e_,cm oz9,e_,f_],r_,b_,.r [] [cr oz13,.n (nO w1),cm oz15,cm oz16],.r [] [cm oz17,.n (nO oz18)],r_] [.frz 900,.drop [5,8,9,10],.blk 100000 (Blk.var [u64 (exT T (T (bkS T D s a)) (cl*elems (bkA T D s a).h (bkA T D s a).x (bkA T D s a).c) cl)]),.sort] _ Try.func16 (.c8 oz0 (i6n (1+D s 2) (by omega)) w0_ (show BlkW (Blk.var [AV.lit (AK_ none (0:Nat) (0:Nat)),bv false,AV.lit (AK_ none (0:Nat) (0:Nat)),AV.lit (AK_ none (0:Nat) (0:Nat)),i32 (0:Int)]) (Blk.var [AV.any,AV.any,AV.any,AV.any,AV.any]) from (BlkW.var (m:=[AV.any,AV.any,AV.any,AV.any,AV.any]) (.cons (AF_ _) (.cons (AF_ _) (.cons (AF_ _) (.cons (AF_ _) (.cons (AF_ _) .nil))))))) (show BlkW (Blk.var [i64 (0:Int),i64 (0:Int),i64 (0:Int)]) (Blk.var [AV.any,AV.any,AV.any]) from (BlkW.var (m:=[AV.any,AV.any,AV.any]) (.cons (AF_ _) (.cons (AF_ _) (.cons (AF_ _) .nil))))) (show BlkW (Blk.var [AV.own (900:Nat),bv false,AV.lit (AK_ none (0:Nat) (0:Nat)),AV.lit (AK_ none (0:Nat) (0:Nat)),i32 (0:Int)]) (Blk.var [AV.own (900:Nat),bv false,AV.sl (1:Nat) [],AV.sl (1:Nat) [],i32 (0:Int)]) from (BlkW.var (m:=[AV.own 900,bv false,AV.sl 1 [],AV.sl 1 [],i32 0]) (.cons (.refl _) (.cons (.refl _) (.cons (AG_ _) (.cons (AG_ _) (.cons (.refl _) .nil))))))) oz6 oz7<|.c8 oz7 oz9 oz7 oz7 (show (D (chn T D (T s) a (1+D s 2).toNat).fst 2==0)=true by (refine decide_eq_true ?_;omega)) oz13 w1 oz15<|.d4 oz16 oz17 oz18 (show BlkW (Blk.var [u64 (T (dsN T (dsN T (T (chn T D (T s) a (1+D s 2).toNat).fst) (cl*elems (chn T D (T s) a (1+D s 2).toNat).snd.h (chn T D (T s) a (1+D s 2).toNat).snd.x (chn T D (T s) a (1+D s 2).toNat).snd.c).toNat) cl.toNat))]) (Blk.var [u64 (exT T (T (bkS T D s a)) (cl*elems (bkA T D s a).h (bkA T D s a).x (bkA T D s a).c) cl)]) from (BlkW.var (m:=[u64 (exT T (T (bkS T D s a)) (cl*elems (bkA T D s a).h (bkA T D s a).x (bkA T D s a).c) cl)]) (.cons (M_ (by rfl)) .nil))))
theorem dblock_n (T:Int→Int) (D:Int→Int→Int) (s cl:Int) (a:Shp) (hD:Dcs T D) (da:a.Dc) (hc:2≤cl∧cl≤4) (h:D (chn T D (T s) a (1+D s 2).toNat).1 2≠0):VM O_ 16 ([.ptr 100000 0 0,shp a,i64 cl,bv false]) ([(100000,.var [u64 s])]) (.tup [blc ⟨bkL T D s a,D (bkS T D s a) 2==0,[],[],0⟩,shp (bkA T D s a)]) ([(100000,.var [u64 (T (bkS T D s a))])]):=by
 have d0:=hD.b s 2 (by decide)
 have d2:=hD.b (chn T D (T s) a (1+D s 2).toNat).1 2 (by decide)
 have dA:(chn T D (T s) a (1+D s 2).toNat).2.Dc:=bkA_Dc hD s da
 have ce:1≤cl*elems (chn T D (T s) a (1+D s 2).toNat).2.h (chn T D (T s) a (1+D s 2).toNat).2.x (chn T D (T s) a (1+D s 2).toNat).2.c∧cl*elems (chn T D (T s) a (1+D s 2).toNat).2.h (chn T D (T s) a (1+D s 2).toNat).2.x (chn T D (T s) a (1+D s 2).toNat).2.c≤192:=clel dA hc
 have oka:(chn T D (T s) a (1+D s 2).toNat).2.Ok:=dA.ok
 have o1:=oka.h
 have o2:=oka.x
 have o3:=oka.c
 have w1:IntKind.i64.wrap (cl*elems (chn T D (T s) a (1+D s 2).toNat).2.h (chn T D (T s) a (1+D s 2).toNat).2.x (chn T D (T s) a (1+D s 2).toNat).2.c)=cl*elems (chn T D (T s) a (1+D s 2).toNat).2.h (chn T D (T s) a (1+D s 2).toNat).2.x (chn T D (T s) a (1+D s 2).toNat).2.c:=i6n _ (by omega)
 have d4:=hD.b (dsN T (dsN T ((chn T D (T s) a (1+D s 2).toNat).1) (cl*elems (chn T D (T s) a (1+D s 2).toNat).2.h (chn T D (T s) a (1+D s 2).toNat).2.x (chn T D (T s) a (1+D s 2).toNat).2.c).toNat) cl.toNat) 400 (by decide)
 have oz0:=@dbelow_t (T) (D) hD (s) (2) (by omega) (by omega)
 have oz6:=@dblk_l (T) (D) (T s) (cl) (1+D s 2) (a) (false) hD da (by omega) (by omega)
 have oz7:=z0_
 have oz9:=@dbelow_t (T) (D) hD ((chn T D (T s) a (1+D s 2).toNat).fst) (2) (by omega) (by omega)
 exact mR_ [r_,r_,.r [] [cm oz0,.n (1+D s 2)],.code [.any [1,14,15,16],.weak 18 (i64 (↑0:Int)),.nilc 900 68 19 10 0,.blk 8 (Blk.var [AV.any,AV.any,AV.any,AV.any,AV.any]),.blk 9 (Blk.var [AV.any,AV.any,AV.any]),.blk 10 (Blk.var [AV.own 900,bv false,AV.sl 1 [],AV.sl 1 [],i32 0]),.sort] (BN_ 0) (zO oz6),.r [] [e_,e_,cm oz9,e_,f_],r_,d_,r_] [.frz 900,.drop [5,8,9,10],.blk 100000 (Blk.var [u64 (T (bkS T D s a))]),.sort] _ Try.func16 (.c8 oz0 (i6n (1+D s 2) (by omega)) w0_ (show BlkW (Blk.var [AV.lit (AK_ none (0:Nat) (0:Nat)),bv false,AV.lit (AK_ none (0:Nat) (0:Nat)),AV.lit (AK_ none (0:Nat) (0:Nat)),i32 (0:Int)]) (Blk.var [AV.any,AV.any,AV.any,AV.any,AV.any]) from (BlkW.var (m:=[AV.any,AV.any,AV.any,AV.any,AV.any]) (.cons (AF_ _) (.cons (AF_ _) (.cons (AF_ _) (.cons (AF_ _) (.cons (AF_ _) .nil))))))) (show BlkW (Blk.var [i64 (0:Int),i64 (0:Int),i64 (0:Int)]) (Blk.var [AV.any,AV.any,AV.any]) from (BlkW.var (m:=[AV.any,AV.any,AV.any]) (.cons (AF_ _) (.cons (AF_ _) (.cons (AF_ _) .nil))))) (show BlkW (Blk.var [AV.own (900:Nat),bv false,AV.lit (AK_ none (0:Nat) (0:Nat)),AV.lit (AK_ none (0:Nat) (0:Nat)),i32 (0:Int)]) (Blk.var [AV.own (900:Nat),bv false,AV.sl (1:Nat) [],AV.sl (1:Nat) [],i32 (0:Int)]) from (BlkW.var (m:=[AV.own 900,bv false,AV.sl 1 [],AV.sl 1 [],i32 0]) (.cons (.refl _) (.cons (.refl _) (.cons (AG_ _) (.cons (AG_ _) (.cons (.refl _) .nil))))))) oz6 oz7<|.d6 oz7 oz9 oz7 oz7 (show (D (chn T D (T s) a (1+D s 2).toNat).fst 2==0)=false by (refine decide_eq_false ?_;omega)) (show BlkW (Blk.var [u64 (T (chn T D (T s) a (1+D s 2).toNat).fst)]) (Blk.var [u64 (T (bkS T D s a))]) from (BlkW.var (m:=[u64 (T (bkS T D s a))]) (.cons (M_ (by rfl)) .nil))))
theorem rdblock_l (T:Int→Int) (D:Int→Int→Int) (s cl:Int) (a:Shp) (hD:Dcs T D) (da:a.Dc) (hc:2≤cl∧cl≤4):VM O_ 17 ([.ptr 100000 0 0,shp a,i64 cl,bv true]) ([(100000,.var [u64 s])]) (.tup [blc (exB T D (bkL T D s a) (bkS T D s a) (cl*elems (bkA T D s a).h (bkA T D s a).x (bkA T D s a).c) cl),shp (bkA T D s a)]) ([(100000,.var [u64 (exT T (bkS T D s a) (cl*elems (bkA T D s a).h (bkA T D s a).x (bkA T D s a).c) cl)])]):=by
 have d0:=hD.b s 2 (by decide)
 have d2:=hD.b (chn T D (T s) a (1+D s 2).toNat).1 2 (by decide)
 have dA:(chn T D (T s) a (1+D s 2).toNat).2.Dc:=bkA_Dc hD s da
 have ce:1≤cl*elems (chn T D (T s) a (1+D s 2).toNat).2.h (chn T D (T s) a (1+D s 2).toNat).2.x (chn T D (T s) a (1+D s 2).toNat).2.c∧cl*elems (chn T D (T s) a (1+D s 2).toNat).2.h (chn T D (T s) a (1+D s 2).toNat).2.x (chn T D (T s) a (1+D s 2).toNat).2.c≤192:=clel dA hc
 have oka:(chn T D (T s) a (1+D s 2).toNat).2.Ok:=dA.ok
 have o1:=oka.h
 have o2:=oka.x
 have o3:=oka.c
 have w1:IntKind.i64.wrap (cl*elems (chn T D (T s) a (1+D s 2).toNat).2.h (chn T D (T s) a (1+D s 2).toNat).2.x (chn T D (T s) a (1+D s 2).toNat).2.c)=cl*elems (chn T D (T s) a (1+D s 2).toNat).2.h (chn T D (T s) a (1+D s 2).toNat).2.x (chn T D (T s) a (1+D s 2).toNat).2.c:=i6n _ (by omega)
 have d4:=hD.b (dsN T (dsN T ((chn T D (T s) a (1+D s 2).toNat).1) (cl*elems (chn T D (T s) a (1+D s 2).toNat).2.h (chn T D (T s) a (1+D s 2).toNat).2.x (chn T D (T s) a (1+D s 2).toNat).2.c).toNat) cl.toNat) 400 (by decide)
 have oz0:=@rdbelow_t (T) (D) hD (s) (2) (by omega) (by omega)
 have oz6:=@rdblk_l (T) (D) (T s) (cl) (1+D s 2) (a) (true) hD da (by omega) (by omega)
 have oz9:=@refElems_v ((chn T D (T s) a (1+D s 2).toNat).snd.h) ((chn T D (T s) a (1+D s 2).toNat).snd.x) ((chn T D (T s) a (1+D s 2).toNat).snd.c) o1 o2 o3
 have oz11:=@rdweightsI_v (T) (D) hD ((chn T D (T s) a (1+D s 2).toNat).fst) (cl*elems (chn T D (T s) a (1+D s 2).toNat).snd.h (chn T D (T s) a (1+D s 2).toNat).snd.x (chn T D (T s) a (1+D s 2).toNat).snd.c) (by omega) (by omega)
 have oz12:=@rdbiasesI_v (T) (D) hD (dsN T (chn T D (T s) a (1+D s 2).toNat).fst (cl*elems (chn T D (T s) a (1+D s 2).toNat).snd.h (chn T D (T s) a (1+D s 2).toNat).snd.x (chn T D (T s) a (1+D s 2).toNat).snd.c).toNat) (cl) (by omega) (by omega)
 have oz13:=@rdbelow_t (T) (D) hD (dsN T (dsN T (chn T D (T s) a (1+D s 2).toNat).fst (cl*elems (chn T D (T s) a (1+D s 2).toNat).snd.h (chn T D (T s) a (1+D s 2).toNat).snd.x (chn T D (T s) a (1+D s 2).toNat).snd.c).toNat) cl.toNat) (400) (by omega) (by omega)
 have oz14:=(CP_ (D (dsN T (dsN T (chn T D (T s) a (1+D s 2).toNat).fst (cl*elems (chn T D (T s) a (1+D s 2).toNat).snd.h (chn T D (T s) a (1+D s 2).toNat).snd.x (chn T D (T s) a (1+D s 2).toNat).snd.c).toNat) cl.toNat) 400) (by omega))
 exact mR_ [r_,r_,.r [] [cm oz0,.n (1+D s 2)],r_,.code [.any [1,15,16,17],.weak 12 (i64 (↑0:Int)),.nilc 900 68 19 10 0,.blk 8 (Blk.var [AV.any,AV.any,AV.any,AV.any,AV.any]),.blk 9 (Blk.var [AV.any,AV.any,AV.any]),.blk 10 (Blk.var [AV.own 900,bv false,AV.sl 1 [],AV.sl 1 [],i32 0]),.sort] (BN_ 0) (zO oz6),r_,r_,d_,r_,b_,.r [] [cr oz9,.n (nO w1),cm oz11],.r [] [cm oz12],.r [] [cm oz13,.n (nO oz14)],r_] [.frz 900,.drop [5,8,9,10],.blk 100000 (Blk.var [u64 (exT T (bkS T D s a) (cl*elems (bkA T D s a).h (bkA T D s a).x (bkA T D s a).c) cl)]),.sort] _ Try.func17 (.c8 oz0 (i6n (1+D s 2) (by omega)) w0_ (show BlkW (Blk.var [AV.lit (AK_ none (0:Nat) (0:Nat)),bv false,AV.lit (AK_ none (0:Nat) (0:Nat)),AV.lit (AK_ none (0:Nat) (0:Nat)),i32 (0:Int)]) (Blk.var [AV.any,AV.any,AV.any,AV.any,AV.any]) from (BlkW.var (m:=[AV.any,AV.any,AV.any,AV.any,AV.any]) (.cons (AF_ _) (.cons (AF_ _) (.cons (AF_ _) (.cons (AF_ _) (.cons (AF_ _) .nil))))))) (show BlkW (Blk.var [i64 (0:Int),i64 (0:Int),i64 (0:Int)]) (Blk.var [AV.any,AV.any,AV.any]) from (BlkW.var (m:=[AV.any,AV.any,AV.any]) (.cons (AF_ _) (.cons (AF_ _) (.cons (AF_ _) .nil))))) (show BlkW (Blk.var [AV.own (900:Nat),bv false,AV.lit (AK_ none (0:Nat) (0:Nat)),AV.lit (AK_ none (0:Nat) (0:Nat)),i32 (0:Int)]) (Blk.var [AV.own (900:Nat),bv false,AV.sl (1:Nat) [],AV.sl (1:Nat) [],i32 (0:Int)]) from (BlkW.var (m:=[AV.own 900,bv false,AV.sl 1 [],AV.sl 1 [],i32 0]) (.cons (.refl _) (.cons (.refl _) (.cons (AG_ _) (.cons (AG_ _) (.cons (.refl _) .nil))))))) oz6 z0_<|.d8 z1_ oz9 w1 oz11 oz12 oz13 oz14 (show BlkW (Blk.var [u64 (T (dsN T (dsN T (chn T D (T s) a (1+D s 2).toNat).fst (cl*elems (chn T D (T s) a (1+D s 2).toNat).snd.h (chn T D (T s) a (1+D s 2).toNat).snd.x (chn T D (T s) a (1+D s 2).toNat).snd.c).toNat) cl.toNat))]) (Blk.var [u64 (exT T (bkS T D s a) (cl*elems (bkA T D s a).h (bkA T D s a).x (bkA T D s a).c) cl)]) from (BlkW.var (m:=[u64 (exT T (bkS T D s a) (cl*elems (bkA T D s a).h (bkA T D s a).x (bkA T D s a).c) cl)]) (.cons (M_ (by rfl)) .nil))))
theorem rdblock_e (T:Int→Int) (D:Int→Int→Int) (s cl:Int) (a:Shp) (hD:Dcs T D) (da:a.Dc) (hc:2≤cl∧cl≤4) (h:D (chn T D (T s) a (1+D s 2).toNat).1 2=0):VM O_ 17 ([.ptr 100000 0 0,shp a,i64 cl,bv false]) ([(100000,.var [u64 s])]) (.tup [blc ⟨bkL T D s a,D (bkS T D s a) 2==0,(exB T D (bkL T D s a) (T (bkS T D s a)) (cl*elems (bkA T D s a).h (bkA T D s a).x (bkA T D s a).c) cl).w,(exB T D (bkL T D s a) (T (bkS T D s a)) (cl*elems (bkA T D s a).h (bkA T D s a).x (bkA T D s a).c) cl).b,(exB T D (bkL T D s a) (T (bkS T D s a)) (cl*elems (bkA T D s a).h (bkA T D s a).x (bkA T D s a).c) cl).nd⟩,shp (bkA T D s a)]) ([(100000,.var [u64 (exT T (T (bkS T D s a)) (cl*elems (bkA T D s a).h (bkA T D s a).x (bkA T D s a).c) cl)])]):=by
 have d0:=hD.b s 2 (by decide)
 have d2:=hD.b (chn T D (T s) a (1+D s 2).toNat).1 2 (by decide)
 have dA:(chn T D (T s) a (1+D s 2).toNat).2.Dc:=bkA_Dc hD s da
 have ce:1≤cl*elems (chn T D (T s) a (1+D s 2).toNat).2.h (chn T D (T s) a (1+D s 2).toNat).2.x (chn T D (T s) a (1+D s 2).toNat).2.c∧cl*elems (chn T D (T s) a (1+D s 2).toNat).2.h (chn T D (T s) a (1+D s 2).toNat).2.x (chn T D (T s) a (1+D s 2).toNat).2.c≤192:=clel dA hc
 have oka:(chn T D (T s) a (1+D s 2).toNat).2.Ok:=dA.ok
 have o1:=oka.h
 have o2:=oka.x
 have o3:=oka.c
 have w1:IntKind.i64.wrap (cl*elems (chn T D (T s) a (1+D s 2).toNat).2.h (chn T D (T s) a (1+D s 2).toNat).2.x (chn T D (T s) a (1+D s 2).toNat).2.c)=cl*elems (chn T D (T s) a (1+D s 2).toNat).2.h (chn T D (T s) a (1+D s 2).toNat).2.x (chn T D (T s) a (1+D s 2).toNat).2.c:=i6n _ (by omega)
 have d4:=hD.b (dsN T (dsN T (T ((chn T D (T s) a (1+D s 2).toNat).1)) (cl*elems (chn T D (T s) a (1+D s 2).toNat).2.h (chn T D (T s) a (1+D s 2).toNat).2.x (chn T D (T s) a (1+D s 2).toNat).2.c).toNat) cl.toNat) 400 (by decide)
 have oz0:=@rdbelow_t (T) (D) hD (s) (2) (by omega) (by omega)
 have oz6:=@rdblk_l (T) (D) (T s) (cl) (1+D s 2) (a) (false) hD da (by omega) (by omega)
 have oz8:=@rdbelow_t (T) (D) hD ((chn T D (T s) a (1+D s 2).toNat).fst) (2) (by omega) (by omega)
 have oz10:=@refElems_v ((chn T D (T s) a (1+D s 2).toNat).snd.h) ((chn T D (T s) a (1+D s 2).toNat).snd.x) ((chn T D (T s) a (1+D s 2).toNat).snd.c) o1 o2 o3
 have oz12:=@rdweightsI_v (T) (D) hD (T (chn T D (T s) a (1+D s 2).toNat).fst) (cl*elems (chn T D (T s) a (1+D s 2).toNat).snd.h (chn T D (T s) a (1+D s 2).toNat).snd.x (chn T D (T s) a (1+D s 2).toNat).snd.c) (by omega) (by omega)
 have oz13:=@rdbiasesI_v (T) (D) hD (dsN T (T (chn T D (T s) a (1+D s 2).toNat).fst) (cl*elems (chn T D (T s) a (1+D s 2).toNat).snd.h (chn T D (T s) a (1+D s 2).toNat).snd.x (chn T D (T s) a (1+D s 2).toNat).snd.c).toNat) (cl) (by omega) (by omega)
 have oz14:=@rdbelow_t (T) (D) hD (dsN T (dsN T (T (chn T D (T s) a (1+D s 2).toNat).fst) (cl*elems (chn T D (T s) a (1+D s 2).toNat).snd.h (chn T D (T s) a (1+D s 2).toNat).snd.x (chn T D (T s) a (1+D s 2).toNat).snd.c).toNat) cl.toNat) (400) (by omega) (by omega)
 have oz15:=(CP_ (D (dsN T (dsN T (T (chn T D (T s) a (1+D s 2).toNat).fst) (cl*elems (chn T D (T s) a (1+D s 2).toNat).snd.h (chn T D (T s) a (1+D s 2).toNat).snd.x (chn T D (T s) a (1+D s 2).toNat).snd.c).toNat) cl.toNat) 400) (by omega))
 exact mR_ [r_,r_,.r [] [cm oz0,.n (1+D s 2)],r_,.code [.any [1,15,16,17],.weak 12 (i64 (↑0:Int)),.nilc 900 68 19 10 0,.blk 8 (Blk.var [AV.any,AV.any,AV.any,AV.any,AV.any]),.blk 9 (Blk.var [AV.any,AV.any,AV.any]),.blk 10 (Blk.var [AV.own 900,bv false,AV.sl 1 [],AV.sl 1 [],i32 0]),.sort] (BN_ 0) (zO oz6),r_,r_,b_,.r [] [cm oz8],r_,b_,.r [] [cr oz10,.n (nO w1),cm oz12],.r [] [cm oz13],.r [] [cm oz14,.n (nO oz15)],r_] [.frz 900,.drop [5,8,9,10],.blk 100000 (Blk.var [u64 (exT T (T (bkS T D s a)) (cl*elems (bkA T D s a).h (bkA T D s a).x (bkA T D s a).c) cl)]),.sort] _ Try.func17 (.c8 oz0 (i6n (1+D s 2) (by omega)) w0_ (show BlkW (Blk.var [AV.lit (AK_ none (0:Nat) (0:Nat)),bv false,AV.lit (AK_ none (0:Nat) (0:Nat)),AV.lit (AK_ none (0:Nat) (0:Nat)),i32 (0:Int)]) (Blk.var [AV.any,AV.any,AV.any,AV.any,AV.any]) from (BlkW.var (m:=[AV.any,AV.any,AV.any,AV.any,AV.any]) (.cons (AF_ _) (.cons (AF_ _) (.cons (AF_ _) (.cons (AF_ _) (.cons (AF_ _) .nil))))))) (show BlkW (Blk.var [i64 (0:Int),i64 (0:Int),i64 (0:Int)]) (Blk.var [AV.any,AV.any,AV.any]) from (BlkW.var (m:=[AV.any,AV.any,AV.any]) (.cons (AF_ _) (.cons (AF_ _) (.cons (AF_ _) .nil))))) (show BlkW (Blk.var [AV.own (900:Nat),bv false,AV.lit (AK_ none (0:Nat) (0:Nat)),AV.lit (AK_ none (0:Nat) (0:Nat)),i32 (0:Int)]) (Blk.var [AV.own (900:Nat),bv false,AV.sl (1:Nat) [],AV.sl (1:Nat) [],i32 (0:Int)]) from (BlkW.var (m:=[AV.own 900,bv false,AV.sl 1 [],AV.sl 1 [],i32 0]) (.cons (.refl _) (.cons (.refl _) (.cons (AG_ _) (.cons (AG_ _) (.cons (.refl _) .nil))))))) oz6 z1_<|.c8 oz8 (show (D (chn T D (T s) a (1+D s 2).toNat).fst 2==0)=true by (refine decide_eq_true ?_;omega)) oz10 w1 oz12 oz13 oz14 oz15<|.d (show BlkW (Blk.var [u64 (T (dsN T (dsN T (T (chn T D (T s) a (1+D s 2).toNat).fst) (cl*elems (chn T D (T s) a (1+D s 2).toNat).snd.h (chn T D (T s) a (1+D s 2).toNat).snd.x (chn T D (T s) a (1+D s 2).toNat).snd.c).toNat) cl.toNat))]) (Blk.var [u64 (exT T (T (bkS T D s a)) (cl*elems (bkA T D s a).h (bkA T D s a).x (bkA T D s a).c) cl)]) from (BlkW.var (m:=[u64 (exT T (T (bkS T D s a)) (cl*elems (bkA T D s a).h (bkA T D s a).x (bkA T D s a).c) cl)]) (.cons (M_ (by rfl)) .nil))))
theorem rdblock_n (T:Int→Int) (D:Int→Int→Int) (s cl:Int) (a:Shp) (hD:Dcs T D) (da:a.Dc) (hc:2≤cl∧cl≤4) (h:D (chn T D (T s) a (1+D s 2).toNat).1 2≠0):VM O_ 17 ([.ptr 100000 0 0,shp a,i64 cl,bv false]) ([(100000,.var [u64 s])]) (.tup [blc ⟨bkL T D s a,D (bkS T D s a) 2==0,[],[],0⟩,shp (bkA T D s a)]) ([(100000,.var [u64 (T (bkS T D s a))])]):=by
 have d0:=hD.b s 2 (by decide)
 have d2:=hD.b (chn T D (T s) a (1+D s 2).toNat).1 2 (by decide)
 have dA:(chn T D (T s) a (1+D s 2).toNat).2.Dc:=bkA_Dc hD s da
 have ce:1≤cl*elems (chn T D (T s) a (1+D s 2).toNat).2.h (chn T D (T s) a (1+D s 2).toNat).2.x (chn T D (T s) a (1+D s 2).toNat).2.c∧cl*elems (chn T D (T s) a (1+D s 2).toNat).2.h (chn T D (T s) a (1+D s 2).toNat).2.x (chn T D (T s) a (1+D s 2).toNat).2.c≤192:=clel dA hc
 have oka:(chn T D (T s) a (1+D s 2).toNat).2.Ok:=dA.ok
 have o1:=oka.h
 have o2:=oka.x
 have o3:=oka.c
 have w1:IntKind.i64.wrap (cl*elems (chn T D (T s) a (1+D s 2).toNat).2.h (chn T D (T s) a (1+D s 2).toNat).2.x (chn T D (T s) a (1+D s 2).toNat).2.c)=cl*elems (chn T D (T s) a (1+D s 2).toNat).2.h (chn T D (T s) a (1+D s 2).toNat).2.x (chn T D (T s) a (1+D s 2).toNat).2.c:=i6n _ (by omega)
 have d4:=hD.b (dsN T (dsN T ((chn T D (T s) a (1+D s 2).toNat).1) (cl*elems (chn T D (T s) a (1+D s 2).toNat).2.h (chn T D (T s) a (1+D s 2).toNat).2.x (chn T D (T s) a (1+D s 2).toNat).2.c).toNat) cl.toNat) 400 (by decide)
 have oz0:=@rdbelow_t (T) (D) hD (s) (2) (by omega) (by omega)
 have oz6:=@rdblk_l (T) (D) (T s) (cl) (1+D s 2) (a) (false) hD da (by omega) (by omega)
 have oz8:=@rdbelow_t (T) (D) hD ((chn T D (T s) a (1+D s 2).toNat).fst) (2) (by omega) (by omega)
 exact mR_ [r_,r_,.r [] [cm oz0,.n (1+D s 2)],r_,.code [.any [1,15,16,17],.weak 12 (i64 (↑0:Int)),.nilc 900 68 19 10 0,.blk 8 (Blk.var [AV.any,AV.any,AV.any,AV.any,AV.any]),.blk 9 (Blk.var [AV.any,AV.any,AV.any]),.blk 10 (Blk.var [AV.own 900,bv false,AV.sl 1 [],AV.sl 1 [],i32 0]),.sort] (BN_ 0) (zO oz6),r_,r_,b_,.r [] [cm oz8],r_,d_,r_] [.frz 900,.drop [5,8,9,10],.blk 100000 (Blk.var [u64 (T (bkS T D s a))]),.sort] _ Try.func17 (.c8 oz0 (i6n (1+D s 2) (by omega)) w0_ (show BlkW (Blk.var [AV.lit (AK_ none (0:Nat) (0:Nat)),bv false,AV.lit (AK_ none (0:Nat) (0:Nat)),AV.lit (AK_ none (0:Nat) (0:Nat)),i32 (0:Int)]) (Blk.var [AV.any,AV.any,AV.any,AV.any,AV.any]) from (BlkW.var (m:=[AV.any,AV.any,AV.any,AV.any,AV.any]) (.cons (AF_ _) (.cons (AF_ _) (.cons (AF_ _) (.cons (AF_ _) (.cons (AF_ _) .nil))))))) (show BlkW (Blk.var [i64 (0:Int),i64 (0:Int),i64 (0:Int)]) (Blk.var [AV.any,AV.any,AV.any]) from (BlkW.var (m:=[AV.any,AV.any,AV.any]) (.cons (AF_ _) (.cons (AF_ _) (.cons (AF_ _) .nil))))) (show BlkW (Blk.var [AV.own (900:Nat),bv false,AV.lit (AK_ none (0:Nat) (0:Nat)),AV.lit (AK_ none (0:Nat) (0:Nat)),i32 (0:Int)]) (Blk.var [AV.own (900:Nat),bv false,AV.sl (1:Nat) [],AV.sl (1:Nat) [],i32 (0:Int)]) from (BlkW.var (m:=[AV.own 900,bv false,AV.sl 1 [],AV.sl 1 [],i32 0]) (.cons (.refl _) (.cons (.refl _) (.cons (AG_ _) (.cons (AG_ _) (.cons (.refl _) .nil))))))) oz6 z1_<|.d3 oz8 (show (D (chn T D (T s) a (1+D s 2).toNat).fst 2==0)=false by (refine decide_eq_false ?_;omega)) (show BlkW (Blk.var [u64 (T (chn T D (T s) a (1+D s 2).toNat).fst)]) (Blk.var [u64 (T (bkS T D s a))]) from (BlkW.var (m:=[u64 (T (bkS T D s a))]) (.cons (M_ (by rfl)) .nil))))
def blkD (T:Int→Int) (D:Int→Int→Int) (s:Int) (a:Shp) (cl:Int) (last:Bool):Blc×Int :=
 if last=true then (exB T D (bkL T D s a) (bkS T D s a) (cl*elems (bkA T D s a).h (bkA T D s a).x (bkA T D s a).c) cl,exT T (bkS T D s a) (cl*elems (bkA T D s a).h (bkA T D s a).x (bkA T D s a).c) cl)
 else if D (bkS T D s a) 2=0 then (exB T D (bkL T D s a) (T (bkS T D s a)) (cl*elems (bkA T D s a).h (bkA T D s a).x (bkA T D s a).c) cl,exT T (T (bkS T D s a)) (cl*elems (bkA T D s a).h (bkA T D s a).x (bkA T D s a).c) cl)
 else (⟨bkL T D s a,false,[],[],0⟩,T (bkS T D s a))
theorem beq_t {a b:Int} (h:a=b):(a==b)=true:=by simpa using h
theorem beq_f {a b:Int} (h:a≠b):(a==b)=false:=by simpa using h
theorem dblock_v (T:Int→Int) (D:Int→Int→Int) (hD:Dcs T D) (s cl:Int) (a:Shp) (last:Bool) (da:a.Dc) (hc:2≤cl∧cl≤4):VM O_ 16 [.ptr 100000 0 0,shp a,i64 cl,bv last] [(100000,.var [u64 s])] (.tup [blc (blkD T D s a cl last).1,shp (bkA T D s a)]) [(100000,.var [u64 (blkD T D s a cl last).2])]:=by
 unfold blkD
 cases last with
 | true=>rw[i_ rfl];exact dblock_l T D s cl a hD da hc
 | false =>
  rw[j_ (by decide)]
  by_cases h:D (bkS T D s a) 2=0
  ·rw[i_ h]
   have:=dblock_e T D s cl a hD da hc h
   rw[beq_t h] at this;exact this
  ·rw[j_ h]
   have:=dblock_n T D s cl a hD da hc h
   rw[beq_f h] at this;exact this
theorem rdblock_v (T:Int→Int) (D:Int→Int→Int) (hD:Dcs T D) (s cl:Int) (a:Shp) (last:Bool) (da:a.Dc) (hc:2≤cl∧cl≤4):VM O_ 17 [.ptr 100000 0 0,shp a,i64 cl,bv last] [(100000,.var [u64 s])] (.tup [blc (blkD T D s a cl last).1,shp (bkA T D s a)]) [(100000,.var [u64 (blkD T D s a cl last).2])]:=by
 unfold blkD
 cases last with
 | true=>rw[i_ rfl];exact rdblock_l T D s cl a hD da hc
 | false =>
  rw[j_ (by decide)]
  by_cases h:D (bkS T D s a) 2=0
  ·rw[i_ h]
   have:=rdblock_e T D s cl a hD da hc h
   rw[beq_t h] at this;exact this
  ·rw[j_ h]
   have:=rdblock_n T D s cl a hD da hc h
   rw[beq_f h] at this;exact this
def mdc (T:Int→Int) (D:Int→Int→Int) (s:Int) (a:Shp) (cl:Int) (N:Int):Nat→Int×Shp
 | 0=>(s,a)
 | k+1=>((blkD T D (mdc T D s a cl N k).1 (mdc T D s a cl N k).2 cl ((k:Int)==N-1)).2,bkA T D (mdc T D s a cl N k).1 (mdc T D s a cl N k).2)
def mdb (T:Int→Int) (D:Int→Int→Int) (s:Int) (a:Shp) (cl:Int) (N:Int):Nat→List Blc
 | 0=>[]
 | k+1=>mdb T D s a cl N k++[(blkD T D (mdc T D s a cl N k).1 (mdc T D s a cl N k).2 cl ((k:Int)==N-1)).1]
theorem mdc_Dc {T:Int→Int} {D:Int→Int→Int} (hD:Dcs T D) (s:Int) {a:Shp} (d:a.Dc) (cl N:Int) (k:Nat):(mdc T D s a cl N k).2.Dc:=by
 induction k with
 | zero=>exact d
 | succ k ih=>exact bkA_Dc hD _ ih
theorem mdb_len (T:Int→Int) (D:Int→Int→Int) (s:Int) (a:Shp) (cl N:Int) (k:Nat):(mdb T D s a cl N k).length=k:=by
 induction k with
 | zero=>rfl
 | succ k ih=>rw[mdb,AD_,ih];rfl
def bnc (T:Int→Int) (D:Int→Int→Int) (s:Int) (a:Shp) (cl:Int):Nat→Int
 | 0=>s
 | k+1=>(mdc T D (T (bnc T D s a cl k)) a cl (1+D (bnc T D s a cl k) 3) (1+D (bnc T D s a cl k) 3).toNat).1
def bnm (T:Int→Int) (D:Int→Int→Int) (s:Int) (a:Shp) (cl:Int):Nat→List Mdl
 | 0=>[]
 | k+1=>bnm T D s a cl k++[⟨mdb T D (T (bnc T D s a cl k)) a cl (1+D (bnc T D s a cl k) 3) (1+D (bnc T D s a cl k) 3).toNat⟩]
theorem bnm_len (T:Int→Int) (D:Int→Int→Int) (s:Int) (a:Shp) (cl:Int) (k:Nat):(bnm T D s a cl k).length=k:=by
 induction k with
 | zero=>rfl
 | succ k ih=>rw[bnm,AD_,ih];rfl
def bunS' (T:Int→Int) (s:Int):Int:=T (T (T (T (T s))))
def bunI (T:Int→Int) (D:Int→Int→Int) (s:Int):Shp:=⟨1+D s 4,1+D (T s) 4,1+D (T (T s)) 3⟩
def bunC' (T:Int→Int) (D:Int→Int→Int) (s:Int):Int:=2+D (T (T (T s))) 3
def bunN (T:Int→Int) (D:Int→Int→Int) (s:Int):Int:=1+D (T (T (T (T s)))) 2
def bunD (T:Int→Int) (D:Int→Int→Int) (s:Int):Bun×Int:=(⟨(bunI T D s).h,(bunI T D s).x,(bunI T D s).c,bunC' T D s,bnm T D (bunS' T s) (bunI T D s) (bunC' T D s) (bunN T D s).toNat⟩,bnc T D (bunS' T s) (bunI T D s) (bunC' T D s) (bunN T D s).toNat)
theorem bunI_Dc {T:Int→Int} {D:Int→Int→Int} (hD:Dcs T D) (s:Int):(bunI T D s).Dc:=by
 have a:=hD.b s 4 (by decide)
 have b:=hD.b (T s) 4 (by decide)
 have c:=hD.b (T (T s)) 3 (by decide)
 exact ⟨⟨by show 1≤1+_;omega,by show 1+_≤4;omega⟩,⟨by show 1≤1+_;omega,by show 1+_≤4;omega⟩,⟨by show 1≤1+_;omega,by show 1+_≤3;omega⟩⟩
noncomputable def dbn_i_I (T:Int→Int) (D:Int→Int→Int) (s cl N M K:Int) (a:Shp) (X:List Mdl) (k:Nat):VS:=stt 70 [(0,.ptr 100000 0 0),(2,.ptr 2 0 0),(3,.ptr 3 0 0),(4,.ptr 4 0 0),(5,.ptr 5 0 0),(6,i64 N),(29,i64 M),(30,i64 K),(38,i64 N),(39,i64 k)] [(2,.var [.any,.any,.any,.any,.any]),(3,.var [i64 a.h,i64 a.x,i64 a.c,i64 cl,.own 900]),(4,.var [.own 901]),(5,.var (shpC (mdc T D s a cl N k).2)),(900,.slc 50 1 (X.map mdlC)),(901,.slc 56 5 ((mdb T D s a cl N k).map blcC)),(100000,.var [u64 (mdc T D s a cl N k).1])]
noncomputable def dbn_i_Z (T:Int→Int) (D:Int→Int→Int) (s cl N M K:Int) (a:Shp) (X:List Mdl):VS:=dbn_i_I T D s cl N M K a X (N.toNat)
theorem dbn_i_s (T:Int→Int) (D:Int→Int→Int) (s cl N M K:Int) (a:Shp) (X:List Mdl) (hD:Dcs T D) (da:a.Dc) (hc:2≤cl∧cl≤4) (hN:1≤N) (hM:N≤3) (k:Nat) (hk:k<N.toNat):VT O_ (fnC Try.f5 [1,1,1,0,1,0,0,1,1,0,0,1,1,0,1,0,0]) (dbn_i_I T D s cl N M K a X k) .normal (dbn_i_I T D s cl N M K a X (k+1)):=by
 have q:=mdc_Dc hD s da cl N k
 have q1:=mdb_len T D s a cl N k
 have oz2:=@dblock_v (T) (D) hD ((mdc T D s a cl N k).fst) (cl) ((mdc T D s a cl N k).snd) ((↑k:Int)==N-1) q hc
 exact tR_ [r_,b_,r_,.r [] [.n (N-1),cm oz2],r_,.r [] [.n ((↑k:Int)+1)]] [.any (rg [(7,3),(40,22)]),.drop [8,9,57],.ren 58 901,.weak 39 (i64 (↑(k+1):Int)),.blk 5 (Blk.var [i64 (mdc T D s a cl N (k+1)).snd.h,i64 (mdc T D s a cl N (k+1)).snd.x,i64 (mdc T D s a cl N (k+1)).snd.c]),.blk 901 (Blk.slc 56 5 (K_ blcC (mdb T D s a cl N (k+1)))),.blk 100000 (Blk.var [u64 (mdc T D s a cl N (k+1)).fst]),.sort] (.c8 (decide_eq_true (p:=((↑k:Int)<N)) (by omega)) (i6n (N-1) (by omega)) oz2 (show ((K_ blcC (mdb T D s a cl N k)).length+1)*88≤140737488355328 by (simp;omega)) (show (K_ blcC (mdb T D s a cl N k)).length+1≤9223372036854775807 by (simp;omega)) (i6n ((↑k:Int)+1) (by omega)) (wS_ k) (show BlkW (Blk.var [i64 (bkA T D (mdc T D s a cl N k).fst (mdc T D s a cl N k).snd).h,i64 (bkA T D (mdc T D s a cl N k).fst (mdc T D s a cl N k).snd).x,i64 (bkA T D (mdc T D s a cl N k).fst (mdc T D s a cl N k).snd).c]) (Blk.var [i64 (mdc T D s a cl N (k+1)).snd.h,i64 (mdc T D s a cl N (k+1)).snd.x,i64 (mdc T D s a cl N (k+1)).snd.c]) from (BlkW.var (m:=[i64 (mdc T D s a cl N (k+1)).snd.h,i64 (mdc T D s a cl N (k+1)).snd.x,i64 (mdc T D s a cl N (k+1)).snd.c]) (.cons (M_ (by rfl)) (.cons (M_ (by rfl)) (.cons (M_ (by rfl)) .nil)))))<|.d2 (show BlkW (Blk.slc 56 5 (K_ blcC (mdb T D s a cl N k)++[[AV.sl 19 (K_ nodC (blkD T D (mdc T D s a cl N k).fst (mdc T D s a cl N k).snd cl ((↑k:Int)==N-1)).fst.n),bv (blkD T D (mdc T D s a cl N k).fst (mdc T D s a cl N k).snd cl ((↑k:Int)==N-1)).fst.ex,AV.sl 1 (K_ (row1 .i8) (blkD T D (mdc T D s a cl N k).fst (mdc T D s a cl N k).snd cl ((↑k:Int)==N-1)).fst.w),AV.sl 1 (K_ (row1 .i32) (blkD T D (mdc T D s a cl N k).fst (mdc T D s a cl N k).snd cl ((↑k:Int)==N-1)).fst.b),i32 (blkD T D (mdc T D s a cl N k).fst (mdc T D s a cl N k).snd cl ((↑k:Int)==N-1)).fst.nd]])) (Blk.slc 56 5 (K_ blcC (mdb T D s a cl N (k+1)))) from (CC_ (e:=56) (z:=5) (rows_to (blcC) (r:=K_ blcC (mdb T D s a cl N k)++[[AV.sl 19 (K_ nodC (blkD T D (mdc T D s a cl N k).fst (mdc T D s a cl N k).snd cl ((↑k:Int)==N-1)).fst.n),bv (blkD T D (mdc T D s a cl N k).fst (mdc T D s a cl N k).snd cl ((↑k:Int)==N-1)).fst.ex,AV.sl 1 (K_ (row1 .i8) (blkD T D (mdc T D s a cl N k).fst (mdc T D s a cl N k).snd cl ((↑k:Int)==N-1)).fst.w),AV.sl 1 (K_ (row1 .i32) (blkD T D (mdc T D s a cl N k).fst (mdc T D s a cl N k).snd cl ((↑k:Int)==N-1)).fst.b),i32 (blkD T D (mdc T D s a cl N k).fst (mdc T D s a cl N k).snd cl ((↑k:Int)==N-1)).fst.nd]]) (l:=mdb T D s a cl N k++[Blc.mk (blkD T D (mdc T D s a cl N k).fst (mdc T D s a cl N k).snd cl ((↑k:Int)==N-1)).fst.n (blkD T D (mdc T D s a cl N k).fst (mdc T D s a cl N k).snd cl ((↑k:Int)==N-1)).fst.ex (blkD T D (mdc T D s a cl N k).fst (mdc T D s a cl N k).snd cl ((↑k:Int)==N-1)).fst.w (blkD T D (mdc T D s a cl N k).fst (mdc T D s a cl N k).snd cl ((↑k:Int)==N-1)).fst.b (blkD T D (mdc T D s a cl N k).fst (mdc T D s a cl N k).snd cl ((↑k:Int)==N-1)).fst.nd]) (m:=mdb T D s a cl N (k+1)) (by first|(simp only[AL_,AM_,AT_,AU_,Z_,AQ_,AR_];done)|rfl|(simp only[AL_,AM_,AT_,AU_,Z_,AQ_,AR_];rfl)|(simp only[AL_,AM_,AT_,AU_,Z_,AQ_,AR_,blcC,ints];done)) (show (mdb T D s a cl N k++[Blc.mk (blkD T D (mdc T D s a cl N k).fst (mdc T D s a cl N k).snd cl ((↑k:Int)==N-1)).fst.n (blkD T D (mdc T D s a cl N k).fst (mdc T D s a cl N k).snd cl ((↑k:Int)==N-1)).fst.ex (blkD T D (mdc T D s a cl N k).fst (mdc T D s a cl N k).snd cl ((↑k:Int)==N-1)).fst.w (blkD T D (mdc T D s a cl N k).fst (mdc T D s a cl N k).snd cl ((↑k:Int)==N-1)).fst.b (blkD T D (mdc T D s a cl N k).fst (mdc T D s a cl N k).snd cl ((↑k:Int)==N-1)).fst.nd])=(mdb T D s a cl N (k+1)) from (by rfl))))) (show BlkW (Blk.var [u64 (blkD T D (mdc T D s a cl N k).fst (mdc T D s a cl N k).snd cl ((↑k:Int)==N-1)).snd]) (Blk.var [u64 (mdc T D s a cl N (k+1)).fst]) from (BlkW.var (m:=[u64 (mdc T D s a cl N (k+1)).fst]) (.cons (M_ (by rfl)) .nil))))
theorem dbn_i_e (T:Int→Int) (D:Int→Int→Int) (s cl N M K:Int) (a:Shp) (X:List Mdl) (hD:Dcs T D) (da:a.Dc) (hc:2≤cl∧cl≤4) (hN:1≤N) (hM:N≤3):VT O_ (fnC Try.f5 [1,1,1,0,1,0,0,1,1,0,0,1,1,0,1,0,0]) (dbn_i_I T D s cl N M K a X (N.toNat)) (.exit 2) (dbn_i_Z T D s cl N M K a X):=by
 exact tR_ [r_,d_] [.any [40],.sort] (.d (decide_eq_false (p:=((↑N.toNat:Int)<N)) (by omega)))
theorem dbn_i (T:Int→Int) (D:Int→Int→Int) (s cl N M K:Int) (a:Shp) (X:List Mdl) (hD:Dcs T D) (da:a.Dc) (hc:2≤cl∧cl≤4) (hN:1≤N) (hM:N≤3):VT O_ (fnC Try.f5 [1,1,1,0,1,0,0,1,1,0,0,1,1,0,1,0]) (dbn_i_I T D s cl N M K a X 0) (.exit 2) (dbn_i_Z T D s cl N M K a X) :=
 VT.loop (fun k=>dbn_i_I T D s cl N M K a X k) (N.toNat) (fun k hk=>dbn_i_s T D s cl N M K a X hD da hc hN hM k hk) (dbn_i_e T D s cl N M K a X hD da hc hN hM) (by intro h;cases h)
noncomputable def rdbn_i_I (T:Int→Int) (D:Int→Int→Int) (s cl N M K:Int) (a:Shp) (X:List Mdl) (k:Nat):VS:=stt 75 [(0,.ptr 100000 0 0),(2,.ptr 2 0 0),(3,.ptr 3 0 0),(4,i64 M),(5,i64 K),(6,.ptr 6 0 0),(7,.ptr 7 0 0),(8,i64 N),(9,i64 k)] [(2,.var [.any,.any,.any,.any,.any]),(3,.var [i64 a.h,i64 a.x,i64 a.c,i64 cl,.own 900]),(6,.var [.own 901]),(7,.var (shpC (mdc T D s a cl N k).2)),(900,.slc 50 1 (X.map mdlC)),(901,.slc 56 5 ((mdb T D s a cl N k).map blcC)),(100000,.var [u64 (mdc T D s a cl N k).1])]
noncomputable def rdbn_i_Z (T:Int→Int) (D:Int→Int→Int) (s cl N M K:Int) (a:Shp) (X:List Mdl):VS:=rdbn_i_I T D s cl N M K a X (N.toNat)
theorem rdbn_i_s (T:Int→Int) (D:Int→Int→Int) (s cl N M K:Int) (a:Shp) (X:List Mdl) (hD:Dcs T D) (da:a.Dc) (hc:2≤cl∧cl≤4) (hN:1≤N) (hM:N≤3) (k:Nat) (hk:k<N.toNat):VT O_ (fnC Try.f6 [1,1,1,1,1,1,1,0,1,0,0,1,0,0,1,1,1,0,1,0,0]) (rdbn_i_I T D s cl N M K a X k) .normal (rdbn_i_I T D s cl N M K a X (k+1)):=by
 have q:=mdc_Dc hD s da cl N k
 have q1:=mdb_len T D s a cl N k
 have oz2:=@rdblock_v (T) (D) hD ((mdc T D s a cl N k).fst) (cl) ((mdc T D s a cl N k).snd) ((↑k:Int)==N-1) q hc
 exact tR_ [r_,b_,.r [] [.n (N-1),cm oz2],r_,r_,.r [] [.n ((↑k:Int)+1)]] [.any (rg [(10,2),(44,24)]),.drop [10,11,64],.ren 65 901,.weak 9 (i64 (↑(k+1):Int)),.blk 7 (Blk.var [i64 (mdc T D s a cl N (k+1)).snd.h,i64 (mdc T D s a cl N (k+1)).snd.x,i64 (mdc T D s a cl N (k+1)).snd.c]),.blk 901 (Blk.slc 56 5 (K_ blcC (mdb T D s a cl N (k+1)))),.blk 100000 (Blk.var [u64 (mdc T D s a cl N (k+1)).fst]),.sort] (.c8 (decide_eq_true (p:=((↑k:Int)<N)) (by omega)) (i6n (N-1) (by omega)) oz2 (show ((K_ blcC (mdb T D s a cl N k)).length+1)*88≤140737488355328 by (simp;omega)) (show (K_ blcC (mdb T D s a cl N k)).length+1≤9223372036854775807 by (simp;omega)) (i6n ((↑k:Int)+1) (by omega)) (wS_ k) (show BlkW (Blk.var [i64 (bkA T D (mdc T D s a cl N k).fst (mdc T D s a cl N k).snd).h,i64 (bkA T D (mdc T D s a cl N k).fst (mdc T D s a cl N k).snd).x,i64 (bkA T D (mdc T D s a cl N k).fst (mdc T D s a cl N k).snd).c]) (Blk.var [i64 (mdc T D s a cl N (k+1)).snd.h,i64 (mdc T D s a cl N (k+1)).snd.x,i64 (mdc T D s a cl N (k+1)).snd.c]) from (BlkW.var (m:=[i64 (mdc T D s a cl N (k+1)).snd.h,i64 (mdc T D s a cl N (k+1)).snd.x,i64 (mdc T D s a cl N (k+1)).snd.c]) (.cons (M_ (by rfl)) (.cons (M_ (by rfl)) (.cons (M_ (by rfl)) .nil)))))<|.d2 (show BlkW (Blk.slc 56 5 (K_ blcC (mdb T D s a cl N k)++[[AV.sl 19 (K_ nodC (blkD T D (mdc T D s a cl N k).fst (mdc T D s a cl N k).snd cl ((↑k:Int)==N-1)).fst.n),bv (blkD T D (mdc T D s a cl N k).fst (mdc T D s a cl N k).snd cl ((↑k:Int)==N-1)).fst.ex,AV.sl 1 (K_ (row1 .i8) (blkD T D (mdc T D s a cl N k).fst (mdc T D s a cl N k).snd cl ((↑k:Int)==N-1)).fst.w),AV.sl 1 (K_ (row1 .i32) (blkD T D (mdc T D s a cl N k).fst (mdc T D s a cl N k).snd cl ((↑k:Int)==N-1)).fst.b),i32 (blkD T D (mdc T D s a cl N k).fst (mdc T D s a cl N k).snd cl ((↑k:Int)==N-1)).fst.nd]])) (Blk.slc 56 5 (K_ blcC (mdb T D s a cl N (k+1)))) from (CC_ (e:=56) (z:=5) (rows_to (blcC) (r:=K_ blcC (mdb T D s a cl N k)++[[AV.sl 19 (K_ nodC (blkD T D (mdc T D s a cl N k).fst (mdc T D s a cl N k).snd cl ((↑k:Int)==N-1)).fst.n),bv (blkD T D (mdc T D s a cl N k).fst (mdc T D s a cl N k).snd cl ((↑k:Int)==N-1)).fst.ex,AV.sl 1 (K_ (row1 .i8) (blkD T D (mdc T D s a cl N k).fst (mdc T D s a cl N k).snd cl ((↑k:Int)==N-1)).fst.w),AV.sl 1 (K_ (row1 .i32) (blkD T D (mdc T D s a cl N k).fst (mdc T D s a cl N k).snd cl ((↑k:Int)==N-1)).fst.b),i32 (blkD T D (mdc T D s a cl N k).fst (mdc T D s a cl N k).snd cl ((↑k:Int)==N-1)).fst.nd]]) (l:=mdb T D s a cl N k++[Blc.mk (blkD T D (mdc T D s a cl N k).fst (mdc T D s a cl N k).snd cl ((↑k:Int)==N-1)).fst.n (blkD T D (mdc T D s a cl N k).fst (mdc T D s a cl N k).snd cl ((↑k:Int)==N-1)).fst.ex (blkD T D (mdc T D s a cl N k).fst (mdc T D s a cl N k).snd cl ((↑k:Int)==N-1)).fst.w (blkD T D (mdc T D s a cl N k).fst (mdc T D s a cl N k).snd cl ((↑k:Int)==N-1)).fst.b (blkD T D (mdc T D s a cl N k).fst (mdc T D s a cl N k).snd cl ((↑k:Int)==N-1)).fst.nd]) (m:=mdb T D s a cl N (k+1)) (by first|(simp only[AL_,AM_,AT_,AU_,Z_,AQ_,AR_];done)|rfl|(simp only[AL_,AM_,AT_,AU_,Z_,AQ_,AR_];rfl)|(simp only[AL_,AM_,AT_,AU_,Z_,AQ_,AR_,blcC,ints];done)) (show (mdb T D s a cl N k++[Blc.mk (blkD T D (mdc T D s a cl N k).fst (mdc T D s a cl N k).snd cl ((↑k:Int)==N-1)).fst.n (blkD T D (mdc T D s a cl N k).fst (mdc T D s a cl N k).snd cl ((↑k:Int)==N-1)).fst.ex (blkD T D (mdc T D s a cl N k).fst (mdc T D s a cl N k).snd cl ((↑k:Int)==N-1)).fst.w (blkD T D (mdc T D s a cl N k).fst (mdc T D s a cl N k).snd cl ((↑k:Int)==N-1)).fst.b (blkD T D (mdc T D s a cl N k).fst (mdc T D s a cl N k).snd cl ((↑k:Int)==N-1)).fst.nd])=(mdb T D s a cl N (k+1)) from (by rfl))))) (show BlkW (Blk.var [u64 (blkD T D (mdc T D s a cl N k).fst (mdc T D s a cl N k).snd cl ((↑k:Int)==N-1)).snd]) (Blk.var [u64 (mdc T D s a cl N (k+1)).fst]) from (BlkW.var (m:=[u64 (mdc T D s a cl N (k+1)).fst]) (.cons (M_ (by rfl)) .nil))))
theorem rdbn_i_e (T:Int→Int) (D:Int→Int→Int) (s cl N M K:Int) (a:Shp) (X:List Mdl) (hD:Dcs T D) (da:a.Dc) (hc:2≤cl∧cl≤4) (hN:1≤N) (hM:N≤3):VT O_ (fnC Try.f6 [1,1,1,1,1,1,1,0,1,0,0,1,0,0,1,1,1,0,1,0,0]) (rdbn_i_I T D s cl N M K a X (N.toNat)) (.exit 2) (rdbn_i_Z T D s cl N M K a X):=by
 exact tR_ [r_,d_] [.any [44,45,46],.sort] (.d (decide_eq_false (p:=((↑N.toNat:Int)<N)) (by omega)))
theorem rdbn_i (T:Int→Int) (D:Int→Int→Int) (s cl N M K:Int) (a:Shp) (X:List Mdl) (hD:Dcs T D) (da:a.Dc) (hc:2≤cl∧cl≤4) (hN:1≤N) (hM:N≤3):VT O_ (fnC Try.f6 [1,1,1,1,1,1,1,0,1,0,0,1,0,0,1,1,1,0,1,0]) (rdbn_i_I T D s cl N M K a X 0) (.exit 2) (rdbn_i_Z T D s cl N M K a X) :=
 VT.loop (fun k=>rdbn_i_I T D s cl N M K a X k) (N.toNat) (fun k hk=>rdbn_i_s T D s cl N M K a X hD da hc hN hM k hk) (rdbn_i_e T D s cl N M K a X hD da hc hN hM) (by intro h;cases h)
noncomputable def dbn_o_I (T:Int→Int) (D:Int→Int→Int) (s cl N:Int) (a:Shp) (k:Nat):VS:=stt 70 [(0,.ptr 100000 0 0),(2,.ptr 2 0 0),(3,.ptr 3 0 0),(29,i64 N),(30,i64 k)] [(2,.var [.any,.any,.any,.any,.any]),(3,.var [i64 a.h,i64 a.x,i64 a.c,i64 cl,.own 900]),(900,.slc 50 1 ((bnm T D s a cl k).map mdlC)),(100000,.var [u64 (bnc T D s a cl k)])]
noncomputable def dbn_o_Z (T:Int→Int) (D:Int→Int→Int) (s cl N:Int) (a:Shp):VS:=dbn_o_I T D s cl N a (N.toNat)
theorem dbn_o_s (T:Int→Int) (D:Int→Int→Int) (s cl N:Int) (a:Shp) (hD:Dcs T D) (da:a.Dc) (hc:2≤cl∧cl≤4) (hN:1≤N) (hM:N≤2) (k:Nat) (hk:k<N.toNat):VT O_ (fnC Try.f5 [1,1,1,0,1,0,0]) (dbn_o_I T D s cl N a k) .normal (dbn_o_I T D s cl N a (k+1)):=by
 have q0:=hD.b (bnc T D s a cl k) 3 (by decide)
 have q1:=bnm_len T D s a cl k
 have oz1:=@dbelow_t (T) (D) hD (bnc T D s a cl k) (3) (by omega) (by omega)
 have oz4:=@dbn_i (T) (D) (T (bnc T D s a cl k)) (cl) (1+D (bnc T D s a cl k) 3) (N) ((↑k:Int)) (a) (bnm T D s a cl k) hD da hc (by omega) (by omega)
 exact tR_ [r_,b_,r_,.r [] [cm oz1,.n (1+D (bnc T D s a cl k) 3)],r_,.code [.any (rg [(31,7)]),.weak 39 (i64 (↑0:Int)),.nilc 901 56 5 4 0,.sort] (BN_ 2) (zO oz4),.r [.frz 901] [],.r [] [.n ((↑k:Int)+1)]] [.any (rg [(4,3),(38,2),(62,7)]),.drop [4,5,65],.ren 66 900,.weak 30 (i64 (↑(k+1):Int)),.blk 900 (Blk.slc 50 1 (K_ mdlC (bnm T D s a cl (k+1)))),.blk 100000 (Blk.var [u64 (bnc T D s a cl (k+1))]),.sort] (.c8 (decide_eq_true (p:=((↑k:Int)<N)) (by omega)) oz1 (i6n (1+D (bnc T D s a cl k) 3) (by omega)) w0_ oz4 (show ((K_ mdlC (bnm T D s a cl k)).length+1)*24≤140737488355328 by (simp;omega)) (show (K_ mdlC (bnm T D s a cl k)).length+1≤9223372036854775807 by (simp;omega)) (i6n ((↑k:Int)+1) (by omega))<|.d3 (wS_ k) (show BlkW (Blk.slc 50 1 (K_ mdlC (bnm T D s a cl k)++[[AV.sl 5 (K_ blcC (mdb T D (T (bnc T D s a cl k)) a cl (1+D (bnc T D s a cl k) 3) (1+D (bnc T D s a cl k) 3).toNat))]])) (Blk.slc 50 1 (K_ mdlC (bnm T D s a cl (k+1)))) from (CC_ (e:=50) (z:=1) (rows_to (mdlC) (r:=K_ mdlC (bnm T D s a cl k)++[[AV.sl 5 (K_ blcC (mdb T D (T (bnc T D s a cl k)) a cl (1+D (bnc T D s a cl k) 3) (1+D (bnc T D s a cl k) 3).toNat))]]) (l:=bnm T D s a cl k++[Mdl.mk (mdb T D (T (bnc T D s a cl k)) a cl (1+D (bnc T D s a cl k) 3) (1+D (bnc T D s a cl k) 3).toNat)]) (m:=bnm T D s a cl (k+1)) (by first|(simp only[AL_,AM_,AT_,AU_,Z_,AQ_,AR_];done)|rfl|(simp only[AL_,AM_,AT_,AU_,Z_,AQ_,AR_];rfl)|(simp only[AL_,AM_,AT_,AU_,Z_,AQ_,AR_,mdlC,ints];done)) (show (bnm T D s a cl k++[Mdl.mk (mdb T D (T (bnc T D s a cl k)) a cl (1+D (bnc T D s a cl k) 3) (1+D (bnc T D s a cl k) 3).toNat)])=(bnm T D s a cl (k+1)) from (by rfl))))) (show BlkW (Blk.var [u64 (mdc T D (T (bnc T D s a cl k)) a cl (1+D (bnc T D s a cl k) 3) (1+D (bnc T D s a cl k) 3).toNat).fst]) (Blk.var [u64 (bnc T D s a cl (k+1))]) from (BlkW.var (m:=[u64 (bnc T D s a cl (k+1))]) (.cons (M_ (by rfl)) .nil))))
theorem dbn_o_e (T:Int→Int) (D:Int→Int→Int) (s cl N:Int) (a:Shp) (hD:Dcs T D) (da:a.Dc) (hc:2≤cl∧cl≤4) (hN:1≤N) (hM:N≤2):VT O_ (fnC Try.f5 [1,1,1,0,1,0,0]) (dbn_o_I T D s cl N a (N.toNat)) (.exit 0) (dbn_o_Z T D s cl N a):=by
 exact tR_ [r_,d_] [.any [31],.sort] (.d (decide_eq_false (p:=((↑N.toNat:Int)<N)) (by omega)))
theorem dbn_o (T:Int→Int) (D:Int→Int→Int) (s cl N:Int) (a:Shp) (hD:Dcs T D) (da:a.Dc) (hc:2≤cl∧cl≤4) (hN:1≤N) (hM:N≤2):VT O_ (fnC Try.f5 [1,1,1,0,1,0]) (dbn_o_I T D s cl N a 0) (.exit 0) (dbn_o_Z T D s cl N a) :=
 VT.loop (fun k=>dbn_o_I T D s cl N a k) (N.toNat) (fun k hk=>dbn_o_s T D s cl N a hD da hc hN hM k hk) (dbn_o_e T D s cl N a hD da hc hN hM) (by intro h;cases h)
noncomputable def rdbn_o_I (T:Int→Int) (D:Int→Int→Int) (s cl N:Int) (a:Shp) (k:Nat):VS:=stt 75 [(0,.ptr 100000 0 0),(2,.ptr 2 0 0),(3,.ptr 3 0 0),(4,i64 N),(5,i64 k)] [(2,.var [.any,.any,.any,.any,.any]),(3,.var [i64 a.h,i64 a.x,i64 a.c,i64 cl,.own 900]),(900,.slc 50 1 ((bnm T D s a cl k).map mdlC)),(100000,.var [u64 (bnc T D s a cl k)])]
noncomputable def rdbn_o_Z (T:Int→Int) (D:Int→Int→Int) (s cl N:Int) (a:Shp):VS:=rdbn_o_I T D s cl N a (N.toNat)
theorem rdbn_o_s (T:Int→Int) (D:Int→Int→Int) (s cl N:Int) (a:Shp) (hD:Dcs T D) (da:a.Dc) (hc:2≤cl∧cl≤4) (hN:1≤N) (hM:N≤2) (k:Nat) (hk:k<N.toNat):VT O_ (fnC Try.f6 [1,1,1,1,1,1,1,0,1,0,0]) (rdbn_o_I T D s cl N a k) .normal (rdbn_o_I T D s cl N a (k+1)):=by
 have q0:=hD.b (bnc T D s a cl k) 3 (by decide)
 have q1:=bnm_len T D s a cl k
 have oz1:=@rdbelow_t (T) (D) hD (bnc T D s a cl k) (3) (by omega) (by omega)
 have oz4:=@rdbn_i (T) (D) (T (bnc T D s a cl k)) (cl) (1+D (bnc T D s a cl k) 3) (N) ((↑k:Int)) (a) (bnm T D s a cl k) hD da hc (by omega) (by omega)
 exact tR_ [r_,b_,r_,r_,.r [] [cm oz1,.n (1+D (bnc T D s a cl k) 3)],r_,.code [.any (rg [(34,3),(39,5)]),.weak 9 (i64 (↑0:Int)),.nilc 901 56 5 6 0,.sort] (BN_ 2) (zO oz4),.r [.frz 901] [],.r [] [.n ((↑k:Int)+1)]] [.any (rg [(6,4),(37,2),(68,6)]),.drop [6,7,71],.ren 72 900,.weak 5 (i64 (↑(k+1):Int)),.blk 900 (Blk.slc 50 1 (K_ mdlC (bnm T D s a cl (k+1)))),.blk 100000 (Blk.var [u64 (bnc T D s a cl (k+1))]),.sort] (.c8 (decide_eq_true (p:=((↑k:Int)<N)) (by omega)) oz1 (i6n (1+D (bnc T D s a cl k) 3) (by omega)) w0_ oz4 (show ((K_ mdlC (bnm T D s a cl k)).length+1)*24≤140737488355328 by (simp;omega)) (show (K_ mdlC (bnm T D s a cl k)).length+1≤9223372036854775807 by (simp;omega)) (i6n ((↑k:Int)+1) (by omega))<|.d3 (wS_ k) (show BlkW (Blk.slc 50 1 (K_ mdlC (bnm T D s a cl k)++[[AV.sl 5 (K_ blcC (mdb T D (T (bnc T D s a cl k)) a cl (1+D (bnc T D s a cl k) 3) (1+D (bnc T D s a cl k) 3).toNat))]])) (Blk.slc 50 1 (K_ mdlC (bnm T D s a cl (k+1)))) from (CC_ (e:=50) (z:=1) (rows_to (mdlC) (r:=K_ mdlC (bnm T D s a cl k)++[[AV.sl 5 (K_ blcC (mdb T D (T (bnc T D s a cl k)) a cl (1+D (bnc T D s a cl k) 3) (1+D (bnc T D s a cl k) 3).toNat))]]) (l:=bnm T D s a cl k++[Mdl.mk (mdb T D (T (bnc T D s a cl k)) a cl (1+D (bnc T D s a cl k) 3) (1+D (bnc T D s a cl k) 3).toNat)]) (m:=bnm T D s a cl (k+1)) (by first|(simp only[AL_,AM_,AT_,AU_,Z_,AQ_,AR_];done)|rfl|(simp only[AL_,AM_,AT_,AU_,Z_,AQ_,AR_];rfl)|(simp only[AL_,AM_,AT_,AU_,Z_,AQ_,AR_,mdlC,ints];done)) (show (bnm T D s a cl k++[Mdl.mk (mdb T D (T (bnc T D s a cl k)) a cl (1+D (bnc T D s a cl k) 3) (1+D (bnc T D s a cl k) 3).toNat)])=(bnm T D s a cl (k+1)) from (by rfl))))) (show BlkW (Blk.var [u64 (mdc T D (T (bnc T D s a cl k)) a cl (1+D (bnc T D s a cl k) 3) (1+D (bnc T D s a cl k) 3).toNat).fst]) (Blk.var [u64 (bnc T D s a cl (k+1))]) from (BlkW.var (m:=[u64 (bnc T D s a cl (k+1))]) (.cons (M_ (by rfl)) .nil))))
theorem rdbn_o_e (T:Int→Int) (D:Int→Int→Int) (s cl N:Int) (a:Shp) (hD:Dcs T D) (da:a.Dc) (hc:2≤cl∧cl≤4) (hN:1≤N) (hM:N≤2):VT O_ (fnC Try.f6 [1,1,1,1,1,1,1,0,1,0,0]) (rdbn_o_I T D s cl N a (N.toNat)) (.exit 0) (rdbn_o_Z T D s cl N a):=by
 exact tR_ [r_,d_] [.any [34,35,36],.sort] (.d (decide_eq_false (p:=((↑N.toNat:Int)<N)) (by omega)))
theorem rdbn_o (T:Int→Int) (D:Int→Int→Int) (s cl N:Int) (a:Shp) (hD:Dcs T D) (da:a.Dc) (hc:2≤cl∧cl≤4) (hN:1≤N) (hM:N≤2):VT O_ (fnC Try.f6 [1,1,1,1,1,1,1,0,1,0]) (rdbn_o_I T D s cl N a 0) (.exit 0) (rdbn_o_Z T D s cl N a) :=
 VT.loop (fun k=>rdbn_o_I T D s cl N a k) (N.toNat) (fun k hk=>rdbn_o_s T D s cl N a hD da hc hN hM k hk) (rdbn_o_e T D s cl N a hD da hc hN hM) (by intro h;cases h)
theorem dbun_v (T:Int→Int) (D:Int→Int→Int) (s:Int) (hD:Dcs T D):VM O_ 5 ([.ptr 100000 0 0]) ([(100000,.var [u64 s])]) (bun (bunD T D s).1) ([(100000,.var [u64 (bunD T D s).2])]):=by
 have d0:=hD.b s 4 (by decide)
 have d1:=hD.b (T s) 4 (by decide)
 have d2:=hD.b (T (T s)) 3 (by decide)
 have d3:=hD.b (T (T (T s))) 3 (by decide)
 have d4:=hD.b (T (T (T (T s)))) 2 (by decide)
 have da:(Shp.mk (1+D s 4) (1+D (T s) 4) (1+D (T (T s)) 3)).Dc:=bunI_Dc hD s
 have oz1:=@dbelow_t (T) (D) hD (s) (4) (by omega) (by omega)
 have oz3:=@dbelow_t (T) (D) hD (T s) (4) (by omega) (by omega)
 have oz5:=@dbelow_t (T) (D) hD (T (T s)) (3) (by omega) (by omega)
 have oz7:=@dbelow_t (T) (D) hD (T (T (T s))) (3) (by omega) (by omega)
 have oz9:=@dbelow_t (T) (D) hD (T (T (T (T s)))) (2) (by omega) (by omega)
 have oz13:=@dbn_o (T) (D) (T (T (T (T (T s))))) (2+D (T (T (T s))) 3) (1+D (T (T (T (T s)))) 2) (Shp.mk (1+D s 4) (1+D (T s) 4) (1+D (T (T s)) 3)) hD da (by omega) (by omega) (by omega)
 exact mR_ [r_,r_,d_,.r [] [cm oz1,.n (1+D s 4),cm oz3,.n (1+D (T s) 4),cm oz5,.n (1+D (T (T s)) 3),cm oz7,.n (2+D (T (T (T s))) 3)],.r [] [cm oz9,.n (1+D (T (T (T (T s)))) 2)],.code [.any (rg [(10,2),(13,16)]),.weak 30 (i64 (↑0:Int)),.nilc 900 50 1 3 4,.blk 2 (Blk.var [AV.any,AV.any,AV.any,AV.any,AV.any]),.sort] (BN_ 0) (zO oz13),r_] [.frz 900,.drop [2,3],.blk 100000 (Blk.var [u64 (bunD T D s).snd]),.sort] _ Try.func5 (.c8 z0_ oz1 (i6n (1+D s 4) (by omega)) oz3 (i6n (1+D (T s) 4) (by omega)) oz5 (i6n (1+D (T (T s)) 3) (by omega)) oz7<|.d7 (i6n (2+D (T (T (T s))) 3) (by omega)) oz9 (i6n (1+D (T (T (T (T s)))) 2) (by omega)) w0_ (show BlkW (Blk.var [i64 (0:Int),i64 (0:Int),i64 (0:Int),i64 (0:Int),AV.lit (AK_ none (0:Nat) (0:Nat))]) (Blk.var [AV.any,AV.any,AV.any,AV.any,AV.any]) from (BlkW.var (m:=[AV.any,AV.any,AV.any,AV.any,AV.any]) (.cons (AF_ _) (.cons (AF_ _) (.cons (AF_ _) (.cons (AF_ _) (.cons (AF_ _) .nil))))))) oz13 (show BlkW (Blk.var [u64 (bnc T D (T (T (T (T (T s))))) (Shp.mk (1+D s 4) (1+D (T s) 4) (1+D (T (T s)) 3)) (2+D (T (T (T s))) 3) (1+D (T (T (T (T s)))) 2).toNat)]) (Blk.var [u64 (bunD T D s).snd]) from (BlkW.var (m:=[u64 (bunD T D s).snd]) (.cons (M_ (by rfl)) .nil))))
theorem rdbun_v (T:Int→Int) (D:Int→Int→Int) (s:Int) (hD:Dcs T D):VM O_ 6 ([.ptr 100000 0 0]) ([(100000,.var [u64 s])]) (bun (bunD T D s).1) ([(100000,.var [u64 (bunD T D s).2])]):=by
 have d0:=hD.b s 4 (by decide)
 have d1:=hD.b (T s) 4 (by decide)
 have d2:=hD.b (T (T s)) 3 (by decide)
 have d3:=hD.b (T (T (T s))) 3 (by decide)
 have d4:=hD.b (T (T (T (T s)))) 2 (by decide)
 have da:(Shp.mk (1+D s 4) (1+D (T s) 4) (1+D (T (T s)) 3)).Dc:=bunI_Dc hD s
 have oz0:=@rdbelow_t (T) (D) hD (s) (4) (by omega) (by omega)
 have oz2:=@rdbelow_t (T) (D) hD (T s) (4) (by omega) (by omega)
 have oz4:=@rdbelow_t (T) (D) hD (T (T s)) (3) (by omega) (by omega)
 have oz6:=@rdbelow_t (T) (D) hD (T (T (T s))) (3) (by omega) (by omega)
 have oz8:=@rdbelow_t (T) (D) hD (T (T (T (T s)))) (2) (by omega) (by omega)
 have oz12:=@rdbn_o (T) (D) (T (T (T (T (T s))))) (2+D (T (T (T s))) 3) (1+D (T (T (T (T s)))) 2) (Shp.mk (1+D s 4) (1+D (T s) 4) (1+D (T (T s)) 3)) hD da (by omega) (by omega) (by omega)
 exact mR_ [r_,r_,.r [] [cm oz0,.n (1+D s 4)],.r [] [cm oz2,.n (1+D (T s) 4)],.r [] [cm oz4,.n (1+D (T (T s)) 3)],.r [] [cm oz6,.n (2+D (T (T (T s))) 3)],.r [] [cm oz8,.n (1+D (T (T (T (T s)))) 2)],r_,.code [.any (rg [(12,22)]),.weak 5 (i64 (↑0:Int)),.nilc 900 50 1 3 4,.blk 2 (Blk.var [AV.any,AV.any,AV.any,AV.any,AV.any]),.sort] (BN_ 0) (zO oz12),r_] [.frz 900,.drop [2,3],.blk 100000 (Blk.var [u64 (bunD T D s).snd]),.sort] _ Try.func6 (.c8 oz0 (i6n (1+D s 4) (by omega)) oz2 (i6n (1+D (T s) 4) (by omega)) oz4 (i6n (1+D (T (T s)) 3) (by omega)) oz6 (i6n (2+D (T (T (T s))) 3) (by omega))<|.d6 oz8 (i6n (1+D (T (T (T (T s)))) 2) (by omega)) w0_ (show BlkW (Blk.var [i64 (0:Int),i64 (0:Int),i64 (0:Int),i64 (0:Int),AV.lit (AK_ none (0:Nat) (0:Nat))]) (Blk.var [AV.any,AV.any,AV.any,AV.any,AV.any]) from (BlkW.var (m:=[AV.any,AV.any,AV.any,AV.any,AV.any]) (.cons (AF_ _) (.cons (AF_ _) (.cons (AF_ _) (.cons (AF_ _) (.cons (AF_ _) .nil))))))) oz12 (show BlkW (Blk.var [u64 (bnc T D (T (T (T (T (T s))))) (Shp.mk (1+D s 4) (1+D (T s) 4) (1+D (T (T s)) 3)) (2+D (T (T (T s))) 3) (1+D (T (T (T (T s)))) 2).toNat)]) (Blk.var [u64 (bunD T D s).snd]) from (BlkW.var (m:=[u64 (bunD T D s).snd]) (.cons (M_ (by rfl)) .nil))))
def numL (T:Int→Int) (D:Int→Int→Int) (s fr many:Int):Nat→List Int
 | 0=>[]
 | k+1=>numL T D s fr many k++[fr+D (dsN T s k) many]
theorem numL_len (T:Int→Int) (D:Int→Int→Int) (s fr many:Int) (k:Nat):(numL T D s fr many k).length=k:=by
 induction k with
 | zero=>rfl
 | succ k ih=>rw[numL,AD_,ih];rfl
theorem num_set {A:List (List AV)} {n k:Nat} {x y:List AV} (hA:A.length=k) (hk:k<n):(A++AZ_ (n-k) x).set k y=A++[y]++AZ_ (n-(k+1)) x:=by
 rw[show n-k=(n-(k+1))+1 from by omega,List.replicate_succ,List.set_append_right _ _ (by omega),hA,Nat.sub_self];simp
noncomputable def dnum_l_I (T:Int→Int) (D:Int→Int→Int) (s fr many:Int) (n:Nat) (k:Nat):VS:=stt 41 [(2,i64 fr),(3,i64 many),(9,.bnd 13 (.ptr 100000 0 0)),(10,.own 900),(27,i64 (AZ_ n [i64 0]).length),(28,i64 k)] [(900,.slc 3 1 ((numL T D s fr many k).map (row1 .i64)++AZ_ (n-k) [i64 0])),(100000,.var [u64 (dsN T s k)])]
noncomputable def dnum_l_Z (T:Int→Int) (D:Int→Int→Int) (s fr many:Int) (n:Nat):VS:=stt 41 [(10,.own 900)] [(900,.slc 3 1 ((numL T D s fr many n).map (row1 .i64))),(100000,.var [u64 (dsN T s n)])]
theorem dnum_l_s (T:Int→Int) (D:Int→Int→Int) (s fr many:Int) (n:Nat) (hD:Dcs T D) (h1:1≤n) (h2:n≤16384) (hm:1≤many) (hM:many≤100000) (hf : -100000≤fr) (hF:fr≤100000) (k:Nat) (hk:k<n):VT O_ (fnC Try.f14 [1,1,1,1,0,1,0,0]) (dnum_l_I T D s fr many n k) .normal (dnum_l_I T D s fr many n (k+1)):=by
 have q3:(AZ_ n [i64 0]).length=n:=BT_
 have q:=hD.b (dsN T s k) many hm
 have q1:=numL_len T D s fr many k
 have q2:((numL T D s fr many k).map (row1 .i64)).length=k:=by rw[X_,q1]
 have oz1:=@dbelow_t (T) (D) hD (dsN T s k) (many) hm (by omega)
 exact tR_ [r_,b_,r_,.r [] [cm oz1,.n (fr+D (dsN T s k) many),.nat 0],.r [] [.n ((↑k:Int)+1)]] [.any (rg [(11,1),(29,11)]),.weak 28 (i64 (↑(k+1):Int)),.blk 900 (Blk.slc 3 1 (K_ (row1 .i64) (numL T D s fr many (k+1))++AZ_ (n-(k+1)) [i64 0])),.blk 100000 (Blk.var [u64 (dsN T s (k+1))]),.sort] (.c8 (decide_eq_true (p:=((↑k:Int)<((AZ_ n [i64 0]).length:Int))) (by omega)) oz1 (i6n (fr+D (dsN T s k) many) (by omega)) (s_ (0≤(↑k:Int))) (show (↑k:Int)<((K_ (row1 .i64) (numL T D s fr many k)++AZ_ (n-k) [i64 0]).length:Int) by (simp;omega)) (show (↑k:Int).toNat<(K_ (row1 .i64) (numL T D s fr many k)++AZ_ (n-k) [i64 0]).length by (simp;omega)) (i6n ((↑k:Int)+1) (by omega)) (wS_ k)<|.d2 (show BlkW (Blk.slc 3 1 ((K_ (row1 .i64) (numL T D s fr many k)++AZ_ (n-k) [i64 0]).set (↑k:Int).toNat [i64 (fr+D (dsN T s k) many)])) (Blk.slc 3 1 (K_ (row1 .i64) (numL T D s fr many (k+1))++AZ_ (n-(k+1)) [i64 0])) from (CC_ (e:=3) (z:=1) (show ((K_ (row1 .i64) (numL T D s fr many k)++AZ_ (n-k) [i64 0]).set (↑k:Int).toNat [i64 (fr+D (dsN T s k) many)])=(K_ (row1 .i64) (numL T D s fr many (k+1))++AZ_ (n-(k+1)) [i64 0]) from (by (rw[BV_];exact (num_set q2 hk).trans (congrArg (· ++ _) (by rw[numL,AL_];rfl))))))) (show BlkW (Blk.var [u64 (T (dsN T s k))]) (Blk.var [u64 (dsN T s (k+1))]) from (BlkW.var (m:=[u64 (dsN T s (k+1))]) (.cons (M_ (by rfl)) .nil))))
theorem dnum_l_e (T:Int→Int) (D:Int→Int→Int) (s fr many:Int) (n:Nat) (hD:Dcs T D) (h1:1≤n) (h2:n≤16384) (hm:1≤many) (hM:many≤100000) (hf : -100000≤fr) (hF:fr≤100000):VT O_ (fnC Try.f14 [1,1,1,1,0,1,0,0]) (dnum_l_I T D s fr many n (n)) (.exit 0) (dnum_l_Z T D s fr many n):=by
 have q1:=numL_len T D s fr many n
 have q3:(AZ_ n [i64 0]).length=n:=BT_
 exact tR_ [r_,d_] [.any [2,3,9,27,28,29],.blk 900 (Blk.slc 3 1 (K_ (row1 .i64) (numL T D s fr many n))),.sort] (.d2 (decide_eq_false (p:=((↑n:Int)<((AZ_ n [i64 0]).length:Int))) (by omega)) (show BlkW (Blk.slc 3 1 (K_ (row1 .i64) (numL T D s fr many n)++AZ_ (n-n) [i64 0])) (Blk.slc 3 1 (K_ (row1 .i64) (numL T D s fr many n))) from (CC_ (e:=3) (z:=1) (rows_to (row1 .i64) (r:=K_ (row1 .i64) (numL T D s fr many n)++AZ_ (n-n) [i64 0]) (l:=numL T D s fr many n++AZ_ (n-n) 0) (m:=numL T D s fr many n) (by first|(simp only[AL_,AM_,AT_,AU_,Z_,AQ_,AR_];done)|rfl|(simp only[AL_,AM_,AT_,AU_,Z_,AQ_,AR_];rfl)) (show (numL T D s fr many n++AZ_ (n-n) 0)=(numL T D s fr many n) from (by (simp;done)))))))
theorem dnum_l (T:Int→Int) (D:Int→Int→Int) (s fr many:Int) (n:Nat) (hD:Dcs T D) (h1:1≤n) (h2:n≤16384) (hm:1≤many) (hM:many≤100000) (hf : -100000≤fr) (hF:fr≤100000):VT O_ (fnC Try.f14 [1,1,1,1,0,1,0]) (dnum_l_I T D s fr many n 0) (.exit 0) (dnum_l_Z T D s fr many n) :=
 VT.loop (fun k=>dnum_l_I T D s fr many n k) (n) (fun k hk=>dnum_l_s T D s fr many n hD h1 h2 hm hM hf hF k hk) (dnum_l_e T D s fr many n hD h1 h2 hm hM hf hF) (by intro h;cases h)
theorem dnum_z (s fr many:Int)  : VM O_ 14 ([.ptr 100000 0 0,i64 0,i64 fr,i64 many]) ([(100000,.var [u64 s])]) (.sl 1 []) ([(100000,.var [u64 s])]):=by
 have oz0:=z0_
 have oz3:=z3_
 have oz5:=z1_
 exact mR_ [r_,.r [] [e_,e_,f_,f_,f_,e_],b_,r_] [.weak 0 (AV.sl 1 []),.sort] _ Try.func14 (.d8 oz0 oz0 oz0 oz3 oz3 oz5 oz5 (show Weak (AV.lit (AK_ none 0 0)) (AV.sl 1 []) from (AG_ _)))
theorem dnum_v (T:Int→Int) (D:Int→Int→Int) (s fr many:Int) (n:Nat) (hD:Dcs T D) (h1:1≤n) (h2:n≤16384) (hm:1≤many) (hM:many≤100000) (hf : -100000≤fr) (hF:fr≤100000):VM O_ 14 ([.ptr 100000 0 0,i64 n,i64 fr,i64 many]) ([(100000,.var [u64 s])]) (.sl 1 ((numL T D s fr many n).map (row1 .i64))) ([(100000,.var [u64 (dsN T s n)])]):=by
 have q:=numL_len T D s fr many n
 have oz0:=z0_
 have oz3:=(decide_eq_false (p:=((↑n:Int)<1)) (by omega))
 have oz7:=(show (↑n:Int)=(↑n:Int) by with_reducible rfl)
 have oz14:=@dnum_l (T) (D) (s) (fr) (many) (n) hD h1 h2 hm hM hf hF
 exact mR_ [r_,.r [] [e_,e_,f_,e_,e_,f_],d_,r_,.r [] [.nats n n],r_,.code [.any (rg [(0,2),(8,1),(12,15)]),.ren 25 900,.weak 28 (i64 (↑0:Int)),.blk 900 (Blk.slc 3 1 ([]++AZ_ (n-0) [i64 0])),.sort] (BN_ 0) (zO oz14),r_] [.frz 900,.sort] _ Try.func14 (.c8 oz0 oz0 oz0 oz3 oz3 oz3 (decide_eq_false (p:=((↑n:Int)>16384)) (by omega)) oz7<|.d7 oz7 (s_ (n≤n)) (s_ (8*n≤281474976710656)) (s_ (n≤9223372036854775807)) w0_ (show BlkW (Blk.slc 3 1 (AZ_ n [i64 0])) (Blk.slc 3 1 ([]++AZ_ (n-0) [i64 0])) from (CC_ (e:=3) (z:=1) (show (AZ_ n [i64 0])=([]++AZ_ (n-0) [i64 0]) from (by (simp;done))))) oz14)
theorem dnext_nil   : VC O_ 12 ([.lit (.pointer none)]) (u64 0):=by
 exact cR_ [r_,r_,b_,r_] _ Try.func12 (.d z1_)
theorem dbelow_nil   : VC O_ 13 ([.lit (.pointer none),i64 5]) (i64 0):=by
 have oz0:=z3_
 have oz2:=z1_
 exact cR_ [r_,.r [] [f_,f_,e_],b_,r_] _ Try.func13 (.d4 oz0 oz0 oz2 oz2)
theorem dnum_nil (n fr many:Int)  : VC O_ 14 ([.lit (.pointer none),i64 n,i64 fr,i64 many]) (.sl 1 []):=by
 have oz0:=z3_
 have oz2:=z1_
 exact (cR_ [r_,.r [] [f_,f_,e_,f_,f_,e_],b_,r_] (AV.lit (AK_ none 0 0)) Try.func14 (.d7 oz0 oz0 oz2 oz0 oz0 oz2 oz2)).weak (A_ _) (AG_ _)
theorem dbun_nil   : VC O_ 5 ([.lit (.pointer none)]) (.agg [i64 0,i64 0,i64 0,i64 0,.sl 1 []]):=by
 exact (cR_ [r_,r_,b_,r_] (AV.agg [i64 0,i64 0,i64 0,i64 0,AV.lit (AK_ none 0 0)]) Try.func5 (.d z1_)).weak (A_ _) (AX_ (.cons (.refl _) (.cons (.refl _) (.cons (.refl _) (.cons (.refl _) (.cons (AG_ _) .nil))))))
theorem dnum_I (T:Int→Int) (D:Int→Int→Int) (hD:Dcs T D) (s fr many n:Int) (h1:1≤n) (h2:n≤16384) (hm:1≤many) (hM:many≤100000) (hf : -100000≤fr) (hF:fr≤100000):VM O_ 14 [.ptr 100000 0 0,i64 n,i64 fr,i64 many] [(100000,.var [u64 s])] (.sl 1 ((numL T D s fr many n.toNat).map (row1 .i64))) [(100000,.var [u64 (dsN T s n.toNat)])]:=by
 obtain ⟨m,rfl⟩:=Int.eq_ofNat_of_zero_le (s_ (0≤n))
 exact dnum_v T D s fr many m hD (by omega) (by omega) hm hM hf hF
theorem numL_rng {T:Int→Int} {D:Int→Int→Int} (hD:Dcs T D) (s:Int) (n:Nat):∀ x∈numL T D s (-128) 256 n,In8 x:=by
 induction n with
 | zero=>intro x hx;cases hx
 | succ n ih =>
  intro x hx
  rw[numL,BA_] at hx
  rcases hx with hx|hx
  ·exact ih x hx
  ·have:=hD.b (dsN T s n) 256 (by decide)
   rw[CR_] at hx;subst hx
   exact ⟨by omega,by omega⟩
def cpL (L:List Int):Nat→List Int
 | 0=>[]
 | k+1=>cpL L k++[L.getD k default]
theorem cpL_take (L:List Int) {k:Nat} (h:k≤L.length):cpL L k=L.take k:=by
 induction k with
 | zero=>rfl
 | succ k ih=>rw[cpL,ih (by omega),List.take_succ_eq_append_getElem (by omega),B_,V_ (by omega)];rfl
theorem cpL_all (L:List Int):cpL L L.length=L:=by rw[cpL_take L (AV_ _),List.take_length]
theorem cpL_len (L:List Int) (k:Nat):(cpL L k).length=k:=by
 induction k with
 | zero=>rfl
 | succ k ih=>rw[cpL,AD_,ih];rfl
noncomputable def dinp_l_I (L:List Int) (s:Int) (k:Nat):VS:=stt 24 [(5,.own 900),(11,.sl 1 (L.map (row1 .i64))),(12,i64 (L.map (row1 .i64)).length),(13,i64 k)] [(900,.slc 39 1 ((cpL L k).map (row1 .i8))),(100000,.var [u64 s])]
noncomputable def dinp_l_Z (L:List Int) (s:Int):VS:=stt 24 [(5,.own 900)] [(900,.slc 39 1 (L.map (row1 .i8))),(100000,.var [u64 s])]
theorem dinp_l_s (L:List Int) (s:Int) (hL:∀ x∈L,In8 x) (hl:L.length≤16384) (k:Nat) (hk:k<L.length):VT O_ (fnC Try.f9 [1,1,0,1,0,0]) (dinp_l_I L s k) .normal (dinp_l_I L s (k+1)):=by
 have q:=getD_in hL hk
 have q1:=cpL_len L k
 exact tR_ [r_,b_,.r [] [.row [i64 (L.getD k 0)]],.r [] [.n (L.getD k 0)],.r [] [.n ((↑k:Int)+1)]] [.any (rg [(7,1),(14,9)]),.drop [20],.ren 21 900,.weak 13 (i64 (↑(k+1):Int)),.blk 900 (Blk.slc 39 1 (K_ (row1 .i8) (cpL L (k+1)))),.sort] (.c8 (show decide ((↑k:Int)<((K_ (row1 .i64) L).length:Int))=true by (simp;omega)) (s_ (0≤(↑k:Int))) (map_at (row1 .i64) (0) (l:=L) (i:=k) hk) (IntWalk.i8_in (L.getD k 0) (by omega)) (show ((K_ (row1 .i8) (cpL L k)).length+1)*1≤140737488355328 by (simp;omega)) (show (K_ (row1 .i8) (cpL L k)).length+1≤9223372036854775807 by (simp;omega)) (i6n ((↑k:Int)+1) (by omega)) (wS_ k)<|.d (show BlkW (Blk.slc 39 1 (K_ (row1 .i8) (cpL L k)++[[i8 (L.getD k 0)]])) (Blk.slc 39 1 (K_ (row1 .i8) (cpL L (k+1)))) from (CC_ (e:=39) (z:=1) (rows_to (row1 .i8) (r:=K_ (row1 .i8) (cpL L k)++[[i8 (L.getD k 0)]]) (l:=cpL L k++[L.getD k 0]) (m:=cpL L (k+1)) (by first|(simp only[AL_,AM_,AT_,AU_,Z_,AQ_,AR_];done)|rfl|(simp only[AL_,AM_,AT_,AU_,Z_,AQ_,AR_];rfl)) (show (cpL L k++[L.getD k 0])=(cpL L (k+1)) from (by rfl))))))
theorem dinp_l_e (L:List Int) (s:Int) (hL:∀ x∈L,In8 x) (hl:L.length≤16384):VT O_ (fnC Try.f9 [1,1,0,1,0,0]) (dinp_l_I L s (L.length)) (.exit 0) (dinp_l_Z L s):=by
 exact tR_ [r_,d_] [.any (rg [(11,4)]),.blk 900 (Blk.slc 39 1 (K_ (row1 .i8) L)),.sort] (.d2 (show decide ((L.length:Int)<((K_ (row1 .i64) L).length:Int))=false by (simp;done)) (show BlkW (Blk.slc 39 1 (K_ (row1 .i8) (cpL L L.length))) (Blk.slc 39 1 (K_ (row1 .i8) L)) from (CC_ (e:=39) (z:=1) (rows_to (row1 .i8) (r:=K_ (row1 .i8) (cpL L L.length)) (l:=cpL L L.length) (m:=L) rfl (show (cpL L L.length)=(L) from (by (rw[cpL_all])))))))
theorem dinp_l (L:List Int) (s:Int) (hL:∀ x∈L,In8 x) (hl:L.length≤16384):VT O_ (fnC Try.f9 [1,1,0,1,0]) (dinp_l_I L s 0) (.exit 0) (dinp_l_Z L s) :=
 VT.loop (fun k=>dinp_l_I L s k) (L.length) (fun k hk=>dinp_l_s L s hL hl k hk) (dinp_l_e L s hL hl) (by intro h;cases h)
theorem dinput_v (T:Int→Int) (D:Int→Int→Int) (s:Int) (a:Shp) (hD:Dcs T D) (da:a.Dc):VM O_ 9 ([.ptr 100000 0 0,shp a]) ([(100000,.var [u64 s])]) (.sl 1 ((numL T D s (-128) 256 (elems a.h a.x a.c).toNat).map (row1 .i8))) ([(100000,.var [u64 (dsN T s (elems a.h a.x a.c).toNat)])]):=by
 have e:=Dc_elems da
 have oka:=da.ok
 have o1:=oka.h
 have o2:=oka.x
 have o3:=oka.c
 have q1:=numL_rng hD s (elems a.h a.x a.c).toNat
 have q2:=numL_len T D s (-128) 256 (elems a.h a.x a.c).toNat
 have oz0:=@elems_v (a.h) (a.x) (a.c) o1 o2 o3
 have oz1:=@dnum_I (T) (D) hD (s) (-128) (256) (elems a.h a.x a.c) (by omega) (by omega) (by omega) (by omega) (by omega) (by omega)
 have oz3:=@dinp_l (numL T D s (-128) 256 (elems a.h a.x a.c).toNat) (dsN T s (elems a.h a.x a.c).toNat) q1 (by omega)
 exact mR_ [r_,r_,.r [] [cr oz0,cm oz1],.code [.any [0,1,3,4,8,9,10],.drop [3],.weak 13 (i64 (↑0:Int)),.nils 5 900 39 1,.sort] (BN_ 0) (zO oz3),r_] [.frz 900,.sort] _ Try.func9 (.d4 oz0 oz1 w0_ oz3)
theorem nodEq_false {a b:Nod} (h:(a.kd != b.kd || a.na != b.na || a.nb != b.nb || a.nk != b.nk || a.ns != b.ns || a.np != b.np || a.no != b.no)=true):false=nodEq a b:=by
 symm
 rw[Bool.eq_false_iff]
 intro h'
 have h':=(nodEq_iff _ _).1 h'
 subst h'
 simp at h
theorem nodEq_rest {a b:Nod} (h:(a.kd != b.kd || a.na != b.na || a.nb != b.nb || a.nk != b.nk || a.ns != b.ns || a.np != b.np || a.no != b.no)=false) :
  (a.za==b.za&&a.zb==b.zb&&a.lo==b.lo&&a.hi==b.hi&&eqNums [(U_,a.qm,b.qm),(L_,a.qs,b.qs),(R_,a.qz,b.qz)]&&eqNums [(U_,a.rm,b.rm),(L_,a.rs,b.rs),(R_,a.rz,b.rz)]&&decide (a.w=b.w)&&decide (a.b=b.b))=nodEq a b:=by
 simp only[Q_,G_] at h
 obtain ⟨⟨⟨⟨⟨⟨h1,h2⟩,h3⟩,h4⟩,h5⟩,h6⟩,h7⟩:=h
 rw[Bool.eq_iff_iff]
 simp only[nodEq,eqNums,h1,h2,h3,h4,h5,h6,h7,N_,E_,I_,true_and,and_true]
 constructor
 ·rintro ⟨⟨⟨⟨⟨⟨⟨q1,q2⟩,q3⟩,q4⟩,q5⟩,q6⟩,q7⟩,q8⟩;exact ⟨⟨⟨⟨q7,q8⟩,q1,q2,q3,q4⟩,q5⟩,q6⟩
 ·rintro ⟨⟨⟨⟨q7,q8⟩,q1,q2,q3,q4⟩,q5⟩,q6⟩;exact ⟨⟨⟨⟨⟨⟨⟨q1,q2⟩,q3⟩,q4⟩,q5⟩,q6⟩,q7⟩,q8⟩
theorem refSame_v (a b:Nod) (hw:a.w.length≤100000) (hb:a.b.length≤100000):VC O_ 38 ([nod a,nod b]) (bv (nodEq a b)):=by
 rcases bft (a.kd != b.kd || a.na != b.na || a.nb != b.nb || a.nk != b.nk || a.ns != b.ns || a.np != b.np || a.no != b.no) with hc0|hc0
 ·have gc0:(((((¬a.kd=b.kd∨¬a.na=b.na)∨¬a.nb=b.nb)∨¬a.nk=b.nk)∨¬a.ns=b.ns)∨¬a.np=b.np)∨¬a.no=b.no:=gc0_ hc0
  exact (cR_ [r_,.r [] [o_,o_,o_,o_,o_,.sel 1,o_,o_,o_,o_,o_,.sel 1,o_,o_,o_,o_,o_,.sel 1,o_,o_,o_,o_,o_,.sel 1,o_,o_,o_,o_,o_,.sel 1,o_,o_,o_,o_,o_,.sel 1],b_,r_] (bv false) Try.func38 (.d hc0)).weak (A_ _) (Weak.bool (by (exact nodEq_false (by assumption))))
 ·have gc0:(((((a.kd=b.kd∧a.na=b.na)∧a.nb=b.nb)∧a.nk=b.nk)∧a.ns=b.ns)∧a.np=b.np)∧a.no=b.no:=gc0_ hc0
  have oz3:=@rsame8_v (a.w) (b.w) (by omega)
  have oz4:=@rsame32_v (a.b) (b.b) (by omega)
  exact (cR_ [r_,.r [] [o_,o_,o_,o_,o_,.sel 1,o_,o_,o_,o_,o_,.sel 1,o_,o_,o_,o_,o_,.sel 1,o_,o_,o_,o_,o_,.sel 1,o_,o_,o_,o_,o_,.sel 1,o_,o_,o_,o_,o_,.sel 1],d_,.r [] [o_,o_,o_,o_,o_,.sel 2,o_,o_,o_,o_,o_,.sel 2,o_,o_,o_,o_,o_,.sel 2,o_,o_,o_,o_,o_,.v (AJ_ (eqNums [(U_,a.qm,b.qm),(L_,a.qs,b.qs),(R_,a.qz,b.qz)])),.sel 2,o_,o_,o_,o_,o_,.v (AJ_ (eqNums [(U_,a.rm,b.rm),(L_,a.rs,b.rs),(R_,a.rz,b.rz)])),.sel 2,o_,o_,o_,o_,o_,cr oz3,.sel 2,o_,o_,o_,o_,o_,cr oz4,.sel 2]] (bv (a.za==b.za&&a.zb==b.zb&&a.lo==b.lo&&a.hi==b.hi&&eqNums [(U_,a.qm,b.qm),(L_,a.qs,b.qs),(R_,a.qz,b.qz)]&&eqNums [(U_,a.rm,b.rm),(L_,a.rs,b.rs),(R_,a.rz,b.rz)]&&decide (a.w=b.w)&&decide (a.b=b.b))) Try.func38 (.d5 hc0 (show BinTo O_ BinOp.eql 66 (Operand.tmp 80) (Operand.tmp 82) (BD_ #[AN_ U_ a.qm,AN_ L_ a.qs,AN_ R_ a.qz]) (BD_ #[AN_ U_ b.qm,AN_ L_ b.qs,AN_ R_ b.qz]) (AJ_ (eqNums [(U_,a.qm,b.qm),(L_,a.qs,b.qs),(R_,a.qz,b.qz)])) from ((bin_nums (l:=[(U_,a.qm,b.qm),(L_,a.qs,b.qs),(R_,a.qz,b.qz)]) (by kernel_rfl) (by kernel_rfl) (by kernel_rfl) (by kernel_rfl) _ _).1)) (show BinTo O_ BinOp.eql 66 (Operand.tmp 87) (Operand.tmp 89) (BD_ #[AN_ U_ a.rm,AN_ L_ a.rs,AN_ R_ a.rz]) (BD_ #[AN_ U_ b.rm,AN_ L_ b.rs,AN_ R_ b.rz]) (AJ_ (eqNums [(U_,a.rm,b.rm),(L_,a.rs,b.rs),(R_,a.rz,b.rz)])) from ((bin_nums (l:=[(U_,a.rm,b.rm),(L_,a.rs,b.rs),(R_,a.rz,b.rz)]) (by kernel_rfl) (by kernel_rfl) (by kernel_rfl) (by kernel_rfl) _ _).1)) oz3 oz4)).weak (A_ _) (Weak.bool (by (exact nodEq_rest (by assumption))))
def zipAll {α:Type} [Inhabited α] (p:α→α→Bool) (l m:List α):Bool:=decide (l.length=m.length)&&(List.range l.length).all fun k=>p (l.getD k default) (m.getD k default)
theorem zip_cases {α:Type} [Inhabited α] (p:α→α→Bool) (l m:List α):(l.length≠m.length∧zipAll p l m=false)∨(l.length=m.length∧(∀ k,k<l.length→p (l.getD k default) (m.getD k default)=true)∧zipAll p l m=true) ∨
  (l.length=m.length∧∃ i,i<l.length∧p (l.getD i default) (m.getD i default)=false∧(∀ k,k<i→p (l.getD k default) (m.getD k default)=true)∧zipAll p l m=false):=by
 unfold zipAll
 by_cases hl:l.length=m.length
 ·rcases all_or (fun k=>p (l.getD k default) (m.getD k default)) l.length with h|⟨i,h1,h2,h3⟩
  ·refine .inr (.inl ⟨hl,h,?_⟩)
   rw[decide_eq_true hl,BR_,List.all_eq_true]
   exact fun k hk=>h k (by simpa using hk)
  ·refine .inr (.inr ⟨hl,i,h1,h2,h3,?_⟩)
   rw[decide_eq_true hl,BR_,Bool.eq_false_iff]
   intro h
   rw[List.all_eq_true] at h
   have:=h i (by simpa using h1)
   rw[h2] at this;cases this
 ·exact .inl ⟨hl,by rw[decide_eq_false hl,BM_]⟩
theorem zip_refl {α:Type} [Inhabited α] {p:α→α→Bool} {l:List α} (h:∀ x∈l,p x x=true):zipAll p l l=true:=by
 unfold zipAll
 rw[decide_eq_true rfl,BR_,List.all_eq_true]
 intro k hk
 have hk:k<l.length:=by simpa using hk
 rw[B_,V_ hk]
 exact h _ (List.getElem_mem hk)
structure Blc.Sz (x:Blc):Prop where
 l:x.n.length≤1000
 n:∀ n∈x.n,n.w.length≤100000∧n.b.length≤100000
 w:x.w.length≤100000
 b:x.b.length≤100000
def blcEq (x y:Blc):Bool:=decide (x.w=y.w)&&decide (x.b=y.b)&&(x.nd==y.nd)&&(x.ex==y.ex)&&zipAll nodEq x.n y.n
structure Mdl.Sz (m:Mdl):Prop where
 l:m.l.length≤1000
 b:∀ x∈m.l,x.Sz
def mdlEq (a b:Mdl):Bool:=zipAll blcEq a.l b.l
structure Bun.Sz (u:Bun):Prop where
 l:u.m.length≤1000
 b:∀ x∈u.m,x.Sz
def bunEq (a b:Bun):Bool:=a.h==b.h&&a.x==b.x&&a.c==b.c&&a.cl==b.cl&&zipAll mdlEq a.m b.m
noncomputable def lbk_ly_I (x y:Blc) (k:Nat):VS:=stt 68 [(2,.ptr 2 0 0),(3,.ptr 3 0 0),(5,i64 k)] [(2,.var (blcC x)),(3,.var (blcC y))]
noncomputable def lbk_ly_Z (x y:Blc):VS:=lbk_ly_I x y (x.n.length)
theorem lbk_ly_s (x y:Blc) (sz:x.Sz) (hl:x.n.length=y.n.length) (h:∀ k,k<x.n.length→nodEq (x.n.getD k default) (y.n.getD k default)=true) (k:Nat) (hk:k<x.n.length):VT O_ (fnC Try.f28 [1,1,0,1,0,0]) (lbk_ly_I x y k) .normal (lbk_ly_I x y (k+1)):=by
 have q:=h k hk
 have qz:=id sz
 have qm:=getD_in qz.n hk
 obtain ⟨qn1,qn2⟩:=qm
 have qb:=qz.l
 have oz1:=(s_ (0≤(↑k:Int)))
 have oz2:=(map_at (nodC) (default) (l:=x.n) (i:=k) hk)
 have oz4:=(map_at (nodC) (default) (l:=y.n) (i:=k) (by omega))
 have oz5:=@refSame_v (x.n.getD k default) (y.n.getD k default) qn1 qn2
 exact tR_ [r_,b_,.r [] [.row (sO oz2),.row (sO oz4),cr oz5],d_,.r [] [.n ((↑k:Int)+1)]] [.any (rg [(49,19)]),.weak 5 (i64 (↑(k+1):Int)),.sort] (.c8 (show decide ((↑k:Int)<((K_ nodC x.n).length:Int))=true by (simp;omega)) oz1 oz2 oz1 oz4 oz5 (show (!nodEq (x.n.getD k default) (y.n.getD k default))=false by (simp at *;omega)) (i6n ((↑k:Int)+1) (by omega))<|.d (wS_ k))
theorem lbk_ly_e (x y:Blc) (sz:x.Sz) (hl:x.n.length=y.n.length) (h:∀ k,k<x.n.length→nodEq (x.n.getD k default) (y.n.getD k default)=true):VT O_ (fnC Try.f28 [1,1,0,1,0,0]) (lbk_ly_I x y (x.n.length)) (.exit 0) (lbk_ly_Z x y):=by
 exact tR_ [r_,d_] [.any (rg [(49,5)]),.sort] (.d (show decide ((x.n.length:Int)<((K_ nodC x.n).length:Int))=false by (simp;done)))
theorem lbk_ly (x y:Blc) (sz:x.Sz) (hl:x.n.length=y.n.length) (h:∀ k,k<x.n.length→nodEq (x.n.getD k default) (y.n.getD k default)=true):VT O_ (fnC Try.f28 [1,1,0,1,0]) (lbk_ly_I x y 0) (.exit 0) (lbk_ly_Z x y) :=
 VT.loop (fun k=>lbk_ly_I x y k) (x.n.length) (fun k hk=>lbk_ly_s x y sz hl h k hk) (lbk_ly_e x y sz hl h) (by intro h;cases h)
noncomputable def lbk_ln_I (x y:Blc) (i:Nat) (k:Nat):VS:=stt 68 [(2,.ptr 2 0 0),(3,.ptr 3 0 0),(5,i64 k)] [(2,.var (blcC x)),(3,.var (blcC y))]
noncomputable def lbk_ln_Z (x y:Blc) (i:Nat):VS:=stt 68 [(4,bv false)] []
theorem lbk_ln_s (x y:Blc) (i:Nat) (sz:x.Sz) (hl:x.n.length=y.n.length) (hi:i<x.n.length) (hf:nodEq (x.n.getD i default) (y.n.getD i default)=false) (h:∀ k,k<i→nodEq (x.n.getD k default) (y.n.getD k default)=true) (k:Nat) (hk:k<i):VT O_ (fnC Try.f28 [1,1,0,1,0,0]) (lbk_ln_I x y i k) .normal (lbk_ln_I x y i (k+1)):=by
 have q:=h k hk
 have qz:=id sz
 have qm:=getD_in qz.n (s_ (k<x.n.length))
 obtain ⟨qn1,qn2⟩:=qm
 have qb:=qz.l
 have oz1:=(s_ (0≤(↑k:Int)))
 have oz2:=(map_at (nodC) (default) (l:=x.n) (i:=k) (by omega))
 have oz4:=(map_at (nodC) (default) (l:=y.n) (i:=k) (by omega))
 have oz5:=@refSame_v (x.n.getD k default) (y.n.getD k default) qn1 qn2
 exact tR_ [r_,b_,.r [] [.row (sO oz2),.row (sO oz4),cr oz5],d_,.r [] [.n ((↑k:Int)+1)]] [.any (rg [(49,19)]),.weak 5 (i64 (↑(k+1):Int)),.sort] (.c8 (show decide ((↑k:Int)<((K_ nodC x.n).length:Int))=true by (simp;omega)) oz1 oz2 oz1 oz4 oz5 (show (!nodEq (x.n.getD k default) (y.n.getD k default))=false by (simp at *;omega)) (i6n ((↑k:Int)+1) (by omega))<|.d (wS_ k))
theorem lbk_ln_e (x y:Blc) (i:Nat) (sz:x.Sz) (hl:x.n.length=y.n.length) (hi:i<x.n.length) (hf:nodEq (x.n.getD i default) (y.n.getD i default)=false) (h:∀ k,k<i→nodEq (x.n.getD k default) (y.n.getD k default)=true):VT O_ (fnC Try.f28 [1,1,0,1,0,0]) (lbk_ln_I x y i (i)) (.ret) (lbk_ln_Z x y i):=by
 have qz:=id sz
 have qm:=getD_in qz.n hi
 obtain ⟨qn1,qn2⟩:=qm
 have qb:=qz.l
 have oz1:=(s_ (0≤(↑i:Int)))
 have oz2:=(map_at (nodC) (default) (l:=x.n) (i:=i) hi)
 have oz4:=(map_at (nodC) (default) (l:=y.n) (i:=i) (by omega))
 have oz5:=@refSame_v (x.n.getD i default) (y.n.getD i default) qn1 qn2
 exact tR_ [r_,b_,.r [] [.row (sO oz2),.row (sO oz4),cr oz5],b_,r_] [.any (rg [(2,2),(5,1),(49,5),(56,12)]),.drop [2,3],.sort] (.d7 (show decide ((↑i:Int)<((K_ nodC x.n).length:Int))=true by (simp;omega)) oz1 oz2 oz1 oz4 oz5 (show (!nodEq (x.n.getD i default) (y.n.getD i default))=true by (simp at *;omega)))
theorem lbk_ln (x y:Blc) (i:Nat) (sz:x.Sz) (hl:x.n.length=y.n.length) (hi:i<x.n.length) (hf:nodEq (x.n.getD i default) (y.n.getD i default)=false) (h:∀ k,k<i→nodEq (x.n.getD k default) (y.n.getD k default)=true):VT O_ (fnC Try.f28 [1,1,0,1,0]) (lbk_ln_I x y i 0) (.ret) (lbk_ln_Z x y i) :=
 VT.loop (fun k=>lbk_ln_I x y i k) (i) (fun k hk=>lbk_ln_s x y i sz hl hi hf h k hk) (lbk_ln_e x y i sz hl hi hf h) (by intro h;cases h)
theorem lbk_d (x y:Blc) (sz:x.Sz) (hl:x.n.length≠y.n.length):VC O_ 28 ([blc x,blc y]) (bv false):=by
 have hz:zipAll nodEq x.n y.n=false:=by unfold zipAll;rw[decide_eq_false hl,BM_]
 obtain ⟨qa,qb,qc,qd⟩:=id sz
 have oz0:=@rsame8_v (x.w) (y.w) (by omega)
 have oz1:=@rsame32_v (x.b) (y.b) (by omega)
 exact cR_ [r_,.r [] [o_,o_,o_,o_,o_,.sel 1,o_,o_,o_,o_,o_,o_,o_,.sel 1,o_,o_,o_,o_,o_,o_,o_,cr oz0,o_,.sel 1,o_,o_,o_,o_,o_,o_,o_,cr oz1,o_,.sel 1],b_,r_] _ Try.func28 (.d3 oz0 oz1 (show (((K_ nodC x.n).length:Int) != ((K_ nodC y.n).length:Int) || !x.ex==y.ex || x.nd != y.nd || !decide (x.w=y.w) || !decide (x.b=y.b))=true by (simp;omega)))
theorem lbk_y (x y:Blc) (sz:x.Sz) (hl:x.n.length=y.n.length) (h:∀ k,k<x.n.length→nodEq (x.n.getD k default) (y.n.getD k default)=true) (hz:zipAll nodEq x.n y.n=true):VC O_ 28 ([blc x,blc y]) (bv (blcEq x y)):=by
 obtain ⟨qa,qb,qc,qd⟩:=id sz
 have oz0:=@rsame8_v (x.w) (y.w) (by omega)
 have oz1:=@rsame32_v (x.b) (y.b) (by omega)
 rcases bft (((K_ nodC x.n).length:Int) != ((K_ nodC y.n).length:Int) || !x.ex==y.ex || x.nd != y.nd || !decide (x.w=y.w) || !decide (x.b=y.b)) with hc0|hc0
 ·have gc0:(((¬((K_ nodC x.n).length:Int)=((K_ nodC y.n).length:Int)∨¬(x.ex=true↔y.ex=true))∨¬x.nd=y.nd)∨¬x.w=y.w)∨¬x.b=y.b:=by first|(simp only[W_,Q_,N_,P_,T_,S_,E_,F_,I_,J_,ne_eq,H_,G_,eqNums,Y_] at hc0;first|exact hc0|omega)|simpa using hc0|(simp at hc0 ⊢;omega)|(apply cbc;intro hn;simp_all[eqNums];done)|(apply cbc;intro hn;simp[eqNums] at hc0 hn;omega)
  exact (cR_ [r_,.r [] [o_,o_,o_,o_,o_,.sel 1,o_,o_,o_,o_,o_,o_,o_,.sel 1,o_,o_,o_,o_,o_,o_,o_,cr oz0,o_,.sel 1,o_,o_,o_,o_,o_,o_,o_,cr oz1,o_,.sel 1],b_,r_] (bv false) Try.func28 (.d3 oz0 oz1 hc0)).weak (A_ _) (Weak.bool (by (simp[blcEq,hz,eqNums] at *;intros;simp_all;done)))
 ·have gc0:(((((K_ nodC x.n).length:Int)=((K_ nodC y.n).length:Int)∧(x.ex=true↔y.ex=true))∧x.nd=y.nd)∧x.w=y.w)∧x.b=y.b:=by first|(simp only[W_,Q_,N_,P_,T_,S_,E_,F_,I_,J_,ne_eq,H_,G_,eqNums,Y_] at hc0;first|exact hc0|omega)|simpa using hc0|(simp at hc0 ⊢;omega)|(apply cbc;intro hn;simp_all[eqNums];done)|(apply cbc;intro hn;simp[eqNums] at hc0 hn;omega)
  have oz4:=@lbk_ly (x) (y) sz hl h
  exact (cR_ [r_,.r [] [o_,o_,o_,o_,o_,.sel 1,o_,o_,o_,o_,o_,o_,o_,.sel 1,o_,o_,o_,o_,o_,o_,o_,cr oz0,o_,.sel 1,o_,o_,o_,o_,o_,o_,o_,cr oz1,o_,.sel 1],d_,r_,.code [.any [0,1,4,6,7,8,9,10,11,12,13,19,20,28,29,38,39,48],.weak 5 (i64 (↑0:Int)),.sort] (BN_ 0) (zO oz4),r_] (bv true) Try.func28 (.d5 oz0 oz1 hc0 w0_ oz4)).weak (A_ _) (Weak.bool (by (rw[Bool.eq_iff_iff];simp[blcEq,hz,eqNums] at *;simp_all;done)))
theorem lbk_n (x y:Blc) (i:Nat) (sz:x.Sz) (hl:x.n.length=y.n.length) (hi:i<x.n.length) (hf:nodEq (x.n.getD i default) (y.n.getD i default)=false) (h:∀ k,k<i→nodEq (x.n.getD k default) (y.n.getD k default)=true):VC O_ 28 ([blc x,blc y]) (bv false):=by
 obtain ⟨qa,qb,qc,qd⟩:=id sz
 have oz0:=@rsame8_v (x.w) (y.w) (by omega)
 have oz1:=@rsame32_v (x.b) (y.b) (by omega)
 rcases bft (((K_ nodC x.n).length:Int) != ((K_ nodC y.n).length:Int) || !x.ex==y.ex || x.nd != y.nd || !decide (x.w=y.w) || !decide (x.b=y.b)) with hc0|hc0
 ·have gc0:(((¬((K_ nodC x.n).length:Int)=((K_ nodC y.n).length:Int)∨¬(x.ex=true↔y.ex=true))∨¬x.nd=y.nd)∨¬x.w=y.w)∨¬x.b=y.b:=by first|(simp only[W_,Q_,N_,P_,T_,S_,E_,F_,I_,J_,ne_eq,H_,G_,eqNums,Y_] at hc0;first|exact hc0|omega)|simpa using hc0|(simp at hc0 ⊢;omega)|(apply cbc;intro hn;simp_all[eqNums];done)|(apply cbc;intro hn;simp[eqNums] at hc0 hn;omega)
  exact cR_ [r_,.r [] [o_,o_,o_,o_,o_,.sel 1,o_,o_,o_,o_,o_,o_,o_,.sel 1,o_,o_,o_,o_,o_,o_,o_,cr oz0,o_,.sel 1,o_,o_,o_,o_,o_,o_,o_,cr oz1,o_,.sel 1],b_,r_] _ Try.func28 (.d3 oz0 oz1 hc0)
 ·have gc0:(((((K_ nodC x.n).length:Int)=((K_ nodC y.n).length:Int)∧(x.ex=true↔y.ex=true))∧x.nd=y.nd)∧x.w=y.w)∧x.b=y.b:=by first|(simp only[W_,Q_,N_,P_,T_,S_,E_,F_,I_,J_,ne_eq,H_,G_,eqNums,Y_] at hc0;first|exact hc0|omega)|simpa using hc0|(simp at hc0 ⊢;omega)|(apply cbc;intro hn;simp_all[eqNums];done)|(apply cbc;intro hn;simp[eqNums] at hc0 hn;omega)
  have oz4:=@lbk_ln (x) (y) (i) sz hl hi hf h
  exact cR_ [r_,.r [] [o_,o_,o_,o_,o_,.sel 1,o_,o_,o_,o_,o_,o_,o_,.sel 1,o_,o_,o_,o_,o_,o_,o_,cr oz0,o_,.sel 1,o_,o_,o_,o_,o_,o_,o_,cr oz1,o_,.sel 1],d_,r_,.code [.any [0,1,4,6,7,8,9,10,11,12,13,19,20,28,29,38,39,48],.weak 5 (i64 (↑0:Int)),.sort] (Exit.ret) (zO oz4)] _ Try.func28 (.d5 oz0 oz1 hc0 w0_ oz4)
theorem lbk_v (x y:Blc) (sz:x.Sz):VC O_ 28 [blc x,blc y] (bv (blcEq x y)):=by
 rcases zip_cases nodEq x.n y.n with ⟨h,e⟩|⟨h,q,e⟩|⟨h,i,hi,hf,q,e⟩
 ·rw[show blcEq x y=false by simp[blcEq,e]];exact lbk_d x y sz h
 ·exact lbk_y x y sz h q e
 ·rw[show blcEq x y=false by simp[blcEq,e]];exact lbk_n x y i sz h hi hf q
noncomputable def lmd_ly_I (x y:Mdl) (k:Nat):VS:=stt 32 [(2,.ptr 2 0 0),(3,.ptr 3 0 0),(5,i64 k)] [(2,.var (mdlC x)),(3,.var (mdlC y))]
noncomputable def lmd_ly_Z (x y:Mdl):VS:=lmd_ly_I x y (x.l.length)
theorem lmd_ly_s (x y:Mdl) (sz:x.Sz) (hl:x.l.length=y.l.length) (h:∀ k,k<x.l.length→blcEq (x.l.getD k default) (y.l.getD k default)=true) (k:Nat) (hk:k<x.l.length):VT O_ (fnC Try.f18 [1,1,0,1,0,0]) (lmd_ly_I x y k) .normal (lmd_ly_I x y (k+1)):=by
 have q:=h k hk
 have qz:=id sz
 have qm:=getD_in qz.b hk
 have qb:=qz.l
 have oz1:=(s_ (0≤(↑k:Int)))
 have oz2:=(map_at (blcC) (default) (l:=x.l) (i:=k) hk)
 have oz4:=(map_at (blcC) (default) (l:=y.l) (i:=k) (by omega))
 have oz5:=@lbk_v (x.l.getD k default) (y.l.getD k default) qm
 exact tR_ [r_,b_,.r [] [.row (sO oz2),.row (sO oz4),cr oz5],d_,.r [] [.n ((↑k:Int)+1)]] [.any (rg [(13,19)]),.weak 5 (i64 (↑(k+1):Int)),.sort] (.c8 (show decide ((↑k:Int)<((K_ blcC x.l).length:Int))=true by (simp;omega)) oz1 oz2 oz1 oz4 oz5 (show (!blcEq (x.l.getD k default) (y.l.getD k default))=false by (simp at *;omega)) (i6n ((↑k:Int)+1) (by omega))<|.d (wS_ k))
theorem lmd_ly_e (x y:Mdl) (sz:x.Sz) (hl:x.l.length=y.l.length) (h:∀ k,k<x.l.length→blcEq (x.l.getD k default) (y.l.getD k default)=true):VT O_ (fnC Try.f18 [1,1,0,1,0,0]) (lmd_ly_I x y (x.l.length)) (.exit 0) (lmd_ly_Z x y):=by
 exact tR_ [r_,d_] [.any (rg [(13,5)]),.sort] (.d (show decide ((x.l.length:Int)<((K_ blcC x.l).length:Int))=false by (simp;done)))
theorem lmd_ly (x y:Mdl) (sz:x.Sz) (hl:x.l.length=y.l.length) (h:∀ k,k<x.l.length→blcEq (x.l.getD k default) (y.l.getD k default)=true):VT O_ (fnC Try.f18 [1,1,0,1,0]) (lmd_ly_I x y 0) (.exit 0) (lmd_ly_Z x y) :=
 VT.loop (fun k=>lmd_ly_I x y k) (x.l.length) (fun k hk=>lmd_ly_s x y sz hl h k hk) (lmd_ly_e x y sz hl h) (by intro h;cases h)
noncomputable def lmd_ln_I (x y:Mdl) (i:Nat) (k:Nat):VS:=stt 32 [(2,.ptr 2 0 0),(3,.ptr 3 0 0),(5,i64 k)] [(2,.var (mdlC x)),(3,.var (mdlC y))]
noncomputable def lmd_ln_Z (x y:Mdl) (i:Nat):VS:=stt 32 [(4,bv false)] []
theorem lmd_ln_s (x y:Mdl) (i:Nat) (sz:x.Sz) (hl:x.l.length=y.l.length) (hi:i<x.l.length) (hf:blcEq (x.l.getD i default) (y.l.getD i default)=false) (h:∀ k,k<i→blcEq (x.l.getD k default) (y.l.getD k default)=true) (k:Nat) (hk:k<i):VT O_ (fnC Try.f18 [1,1,0,1,0,0]) (lmd_ln_I x y i k) .normal (lmd_ln_I x y i (k+1)):=by
 have q:=h k hk
 have qz:=id sz
 have qm:=getD_in qz.b (s_ (k<x.l.length))
 have qb:=qz.l
 have oz1:=(s_ (0≤(↑k:Int)))
 have oz2:=(map_at (blcC) (default) (l:=x.l) (i:=k) (by omega))
 have oz4:=(map_at (blcC) (default) (l:=y.l) (i:=k) (by omega))
 have oz5:=@lbk_v (x.l.getD k default) (y.l.getD k default) qm
 exact tR_ [r_,b_,.r [] [.row (sO oz2),.row (sO oz4),cr oz5],d_,.r [] [.n ((↑k:Int)+1)]] [.any (rg [(13,19)]),.weak 5 (i64 (↑(k+1):Int)),.sort] (.c8 (show decide ((↑k:Int)<((K_ blcC x.l).length:Int))=true by (simp;omega)) oz1 oz2 oz1 oz4 oz5 (show (!blcEq (x.l.getD k default) (y.l.getD k default))=false by (simp at *;omega)) (i6n ((↑k:Int)+1) (by omega))<|.d (wS_ k))
theorem lmd_ln_e (x y:Mdl) (i:Nat) (sz:x.Sz) (hl:x.l.length=y.l.length) (hi:i<x.l.length) (hf:blcEq (x.l.getD i default) (y.l.getD i default)=false) (h:∀ k,k<i→blcEq (x.l.getD k default) (y.l.getD k default)=true):VT O_ (fnC Try.f18 [1,1,0,1,0,0]) (lmd_ln_I x y i (i)) (.ret) (lmd_ln_Z x y i):=by
 have qz:=id sz
 have qm:=getD_in qz.b hi
 have qb:=qz.l
 have oz1:=(s_ (0≤(↑i:Int)))
 have oz2:=(map_at (blcC) (default) (l:=x.l) (i:=i) hi)
 have oz4:=(map_at (blcC) (default) (l:=y.l) (i:=i) (by omega))
 have oz5:=@lbk_v (x.l.getD i default) (y.l.getD i default) qm
 exact tR_ [r_,b_,.r [] [.row (sO oz2),.row (sO oz4),cr oz5],b_,r_] [.any (rg [(2,2),(5,1),(13,5),(20,12)]),.drop [2,3],.sort] (.d7 (show decide ((↑i:Int)<((K_ blcC x.l).length:Int))=true by (simp;omega)) oz1 oz2 oz1 oz4 oz5 (show (!blcEq (x.l.getD i default) (y.l.getD i default))=true by (simp at *;omega)))
theorem lmd_ln (x y:Mdl) (i:Nat) (sz:x.Sz) (hl:x.l.length=y.l.length) (hi:i<x.l.length) (hf:blcEq (x.l.getD i default) (y.l.getD i default)=false) (h:∀ k,k<i→blcEq (x.l.getD k default) (y.l.getD k default)=true):VT O_ (fnC Try.f18 [1,1,0,1,0]) (lmd_ln_I x y i 0) (.ret) (lmd_ln_Z x y i) :=
 VT.loop (fun k=>lmd_ln_I x y i k) (i) (fun k hk=>lmd_ln_s x y i sz hl hi hf h k hk) (lmd_ln_e x y i sz hl hi hf h) (by intro h;cases h)
theorem lmd_d (x y:Mdl) (sz:x.Sz) (hl:x.l.length≠y.l.length):VC O_ 18 ([.agg (mdlC x),.agg (mdlC y)]) (bv false):=by
 have hz:zipAll blcEq x.l y.l=false:=by unfold zipAll;rw[decide_eq_false hl,BM_]
 obtain ⟨qa,qb⟩:=id sz
 exact cR_ [r_,r_,b_,r_] _ Try.func18 (.d (show (((K_ blcC x.l).length:Int) != ((K_ blcC y.l).length:Int))=true by (simp;omega)))
theorem lmd_y (x y:Mdl) (sz:x.Sz) (hl:x.l.length=y.l.length) (h:∀ k,k<x.l.length→blcEq (x.l.getD k default) (y.l.getD k default)=true) (hz:zipAll blcEq x.l y.l=true):VC O_ 18 ([.agg (mdlC x),.agg (mdlC y)]) (bv (mdlEq x y)):=by
 obtain ⟨qa,qb⟩:=id sz
 have oz2:=@lmd_ly (Mdl.mk x.l) (Mdl.mk y.l) sz hl h
 exact (cR_ [r_,r_,d_,r_,.code [.any (rg [(0,2),(4,1),(6,7)]),.weak 5 (i64 (↑0:Int)),.sort] (BN_ 0) (zO oz2),r_] (bv true) Try.func18 (.d3 (show (((K_ blcC x.l).length:Int) != ((K_ blcC y.l).length:Int))=false by (simp;omega)) w0_ oz2)).weak (A_ _) (Weak.bool (by (exact hz.symm)))
theorem lmd_n (x y:Mdl) (i:Nat) (sz:x.Sz) (hl:x.l.length=y.l.length) (hi:i<x.l.length) (hf:blcEq (x.l.getD i default) (y.l.getD i default)=false) (h:∀ k,k<i→blcEq (x.l.getD k default) (y.l.getD k default)=true):VC O_ 18 ([.agg (mdlC x),.agg (mdlC y)]) (bv false):=by
 obtain ⟨qa,qb⟩:=id sz
 have oz2:=@lmd_ln (Mdl.mk x.l) (Mdl.mk y.l) (i) sz hl hi hf h
 exact cR_ [r_,r_,d_,r_,.code [.any (rg [(0,2),(4,1),(6,7)]),.weak 5 (i64 (↑0:Int)),.sort] (Exit.ret) (zO oz2)] _ Try.func18 (.d3 (show (((K_ blcC x.l).length:Int) != ((K_ blcC y.l).length:Int))=false by (simp;omega)) w0_ oz2)
theorem lmd_v (x y:Mdl) (sz:x.Sz):VC O_ 18 [.agg (mdlC x),.agg (mdlC y)] (bv (mdlEq x y)):=by
 rcases zip_cases blcEq x.l y.l with ⟨h,e⟩|⟨h,q,e⟩|⟨h,i,hi,hf,q,e⟩
 ·rw[show mdlEq x y=false by simp[mdlEq,e]];exact lmd_d x y sz h
 ·exact lmd_y x y sz h q e
 ·rw[show mdlEq x y=false by simp[mdlEq,e]];exact lmd_n x y i sz h hi hf q
noncomputable def lbn_ly_I (x y:Bun) (k:Nat):VS:=stt 46 [(2,.ptr 2 0 0),(3,.ptr 3 0 0),(5,i64 k)] [(2,.var (bunC x)),(3,.var (bunC y))]
noncomputable def lbn_ly_Z (x y:Bun):VS:=lbn_ly_I x y (x.m.length)
theorem lbn_ly_s (x y:Bun) (sz:x.Sz) (hl:x.m.length=y.m.length) (h:∀ k,k<x.m.length→mdlEq (x.m.getD k default) (y.m.getD k default)=true) (k:Nat) (hk:k<x.m.length):VT O_ (fnC Try.f7 [1,1,0,1,0,0]) (lbn_ly_I x y k) .normal (lbn_ly_I x y (k+1)):=by
 have q:=h k hk
 have qz:=id sz
 have qm:=getD_in qz.b hk
 have qb:=qz.l
 have oz1:=(s_ (0≤(↑k:Int)))
 have oz2:=(map_at (mdlC) (default) (l:=x.m) (i:=k) hk)
 have oz4:=(map_at (mdlC) (default) (l:=y.m) (i:=k) (by omega))
 have oz5:=@lmd_v (Mdl.mk (x.m.getD k default).l) (Mdl.mk (y.m.getD k default).l) qm
 exact tR_ [r_,b_,.r [] [.row (sO oz2),.row (sO oz4),cr oz5],d_,.r [] [.n ((↑k:Int)+1)]] [.any (rg [(27,19)]),.weak 5 (i64 (↑(k+1):Int)),.sort] (.c8 (show decide ((↑k:Int)<((K_ mdlC x.m).length:Int))=true by (simp;omega)) oz1 oz2 oz1 oz4 oz5 (show (!mdlEq (Mdl.mk (x.m.getD k default).l) (Mdl.mk (y.m.getD k default).l))=false by (simp at *;omega)) (i6n ((↑k:Int)+1) (by (try dsimp only)<;>omega))<|.d (M_ (k:=.i64) (show (((↑k:Int)+1):Int)=((↑(k+1):Int)) from (by (try dsimp only)<;>omega))))
theorem lbn_ly_e (x y:Bun) (sz:x.Sz) (hl:x.m.length=y.m.length) (h:∀ k,k<x.m.length→mdlEq (x.m.getD k default) (y.m.getD k default)=true):VT O_ (fnC Try.f7 [1,1,0,1,0,0]) (lbn_ly_I x y (x.m.length)) (.exit 0) (lbn_ly_Z x y):=by
 exact tR_ [r_,d_] [.any (rg [(27,5)]),.sort] (.d (show decide ((x.m.length:Int)<((K_ mdlC x.m).length:Int))=false by (simp;done)))
theorem lbn_ly (x y:Bun) (sz:x.Sz) (hl:x.m.length=y.m.length) (h:∀ k,k<x.m.length→mdlEq (x.m.getD k default) (y.m.getD k default)=true):VT O_ (fnC Try.f7 [1,1,0,1,0]) (lbn_ly_I x y 0) (.exit 0) (lbn_ly_Z x y) :=
 VT.loop (fun k=>lbn_ly_I x y k) (x.m.length) (fun k hk=>lbn_ly_s x y sz hl h k hk) (lbn_ly_e x y sz hl h) (by intro h;cases h)
noncomputable def lbn_ln_I (x y:Bun) (i:Nat) (k:Nat):VS:=stt 46 [(2,.ptr 2 0 0),(3,.ptr 3 0 0),(5,i64 k)] [(2,.var (bunC x)),(3,.var (bunC y))]
noncomputable def lbn_ln_Z (x y:Bun) (i:Nat):VS:=stt 46 [(4,bv false)] []
theorem lbn_ln_s (x y:Bun) (i:Nat) (sz:x.Sz) (hl:x.m.length=y.m.length) (hi:i<x.m.length) (hf:mdlEq (x.m.getD i default) (y.m.getD i default)=false) (h:∀ k,k<i→mdlEq (x.m.getD k default) (y.m.getD k default)=true) (k:Nat) (hk:k<i):VT O_ (fnC Try.f7 [1,1,0,1,0,0]) (lbn_ln_I x y i k) .normal (lbn_ln_I x y i (k+1)):=by
 have q:=h k hk
 have qz:=id sz
 have qm:=getD_in qz.b (s_ (k<x.m.length))
 have qb:=qz.l
 have oz1:=(s_ (0≤(↑k:Int)))
 have oz2:=(map_at (mdlC) (default) (l:=x.m) (i:=k) (by omega))
 have oz4:=(map_at (mdlC) (default) (l:=y.m) (i:=k) (by omega))
 have oz5:=@lmd_v (Mdl.mk (x.m.getD k default).l) (Mdl.mk (y.m.getD k default).l) qm
 exact tR_ [r_,b_,.r [] [.row (sO oz2),.row (sO oz4),cr oz5],d_,.r [] [.n ((↑k:Int)+1)]] [.any (rg [(27,19)]),.weak 5 (i64 (↑(k+1):Int)),.sort] (.c8 (show decide ((↑k:Int)<((K_ mdlC x.m).length:Int))=true by (simp;omega)) oz1 oz2 oz1 oz4 oz5 (show (!mdlEq (Mdl.mk (x.m.getD k default).l) (Mdl.mk (y.m.getD k default).l))=false by (simp at *;omega)) (i6n ((↑k:Int)+1) (by (try dsimp only)<;>omega))<|.d (M_ (k:=.i64) (show (((↑k:Int)+1):Int)=((↑(k+1):Int)) from (by (try dsimp only)<;>omega))))
theorem lbn_ln_e (x y:Bun) (i:Nat) (sz:x.Sz) (hl:x.m.length=y.m.length) (hi:i<x.m.length) (hf:mdlEq (x.m.getD i default) (y.m.getD i default)=false) (h:∀ k,k<i→mdlEq (x.m.getD k default) (y.m.getD k default)=true):VT O_ (fnC Try.f7 [1,1,0,1,0,0]) (lbn_ln_I x y i (i)) (.ret) (lbn_ln_Z x y i):=by
 have qz:=id sz
 have qm:=getD_in qz.b hi
 have qb:=qz.l
 have oz1:=(s_ (0≤(↑i:Int)))
 have oz2:=(map_at (mdlC) (default) (l:=x.m) (i:=i) hi)
 have oz4:=(map_at (mdlC) (default) (l:=y.m) (i:=i) (by omega))
 have oz5:=@lmd_v (Mdl.mk (x.m.getD i default).l) (Mdl.mk (y.m.getD i default).l) qm
 exact tR_ [r_,b_,.r [] [.row (sO oz2),.row (sO oz4),cr oz5],b_,r_] [.any (rg [(2,2),(5,1),(27,5),(34,12)]),.drop [2,3],.sort] (.d7 (show decide ((↑i:Int)<((K_ mdlC x.m).length:Int))=true by (simp;omega)) oz1 oz2 oz1 oz4 oz5 (show (!mdlEq (Mdl.mk (x.m.getD i default).l) (Mdl.mk (y.m.getD i default).l))=true by (simp at *;omega)))
theorem lbn_ln (x y:Bun) (i:Nat) (sz:x.Sz) (hl:x.m.length=y.m.length) (hi:i<x.m.length) (hf:mdlEq (x.m.getD i default) (y.m.getD i default)=false) (h:∀ k,k<i→mdlEq (x.m.getD k default) (y.m.getD k default)=true):VT O_ (fnC Try.f7 [1,1,0,1,0]) (lbn_ln_I x y i 0) (.ret) (lbn_ln_Z x y i) :=
 VT.loop (fun k=>lbn_ln_I x y i k) (i) (fun k hk=>lbn_ln_s x y i sz hl hi hf h k hk) (lbn_ln_e x y i sz hl hi hf h) (by intro h;cases h)
theorem lbn_d (x y:Bun) (sz:x.Sz) (hl:x.m.length≠y.m.length):VC O_ 7 ([bun x,bun y]) (bv false):=by
 have hz:zipAll mdlEq x.m y.m=false:=by unfold zipAll;rw[decide_eq_false hl,BM_]
 obtain ⟨qa,qb⟩:=id sz
 exact cR_ [r_,.r [] [.v (AJ_ !eqNums [(L_,x.h,y.h),(L_,x.x,y.x),(L_,x.c,y.c)]),o_,o_,o_,o_,o_,.sel 1,o_,o_,o_,o_,o_,o_,o_,.sel 1],b_,r_] _ Try.func7 (.d2 (show BinTo O_ BinOp.neq 29 (Operand.tmp 7) (Operand.tmp 9) (BD_ #[AN_ L_ x.h,AN_ L_ x.x,AN_ L_ x.c]) (BD_ #[AN_ L_ y.h,AN_ L_ y.x,AN_ L_ y.c]) (AJ_ !eqNums [(L_,x.h,y.h),(L_,x.x,y.x),(L_,x.c,y.c)]) from ((bin_nums (l:=[(L_,x.h,y.h),(L_,x.x,y.x),(L_,x.c,y.c)]) (by kernel_rfl) (by kernel_rfl) (by kernel_rfl) (by kernel_rfl) _ _).2)) (show (!eqNums [(L_,x.h,y.h),(L_,x.x,y.x),(L_,x.c,y.c)] || x.cl != y.cl || ((K_ mdlC x.m).length:Int) != ((K_ mdlC y.m).length:Int))=true by (simp;omega)))
theorem lbn_y (x y:Bun) (sz:x.Sz) (hl:x.m.length=y.m.length) (h:∀ k,k<x.m.length→mdlEq (x.m.getD k default) (y.m.getD k default)=true) (hz:zipAll mdlEq x.m y.m=true):VC O_ 7 ([bun x,bun y]) (bv (bunEq x y)):=by
 obtain ⟨qa,qb⟩:=id sz
 have oz0:=(show BinTo O_ BinOp.neq 29 (Operand.tmp 7) (Operand.tmp 9) (BD_ #[AN_ L_ x.h,AN_ L_ x.x,AN_ L_ x.c]) (BD_ #[AN_ L_ y.h,AN_ L_ y.x,AN_ L_ y.c]) (AJ_ !eqNums [(L_,x.h,y.h),(L_,x.x,y.x),(L_,x.c,y.c)]) from ((bin_nums (l:=[(L_,x.h,y.h),(L_,x.x,y.x),(L_,x.c,y.c)]) (by kernel_rfl) (by kernel_rfl) (by kernel_rfl) (by kernel_rfl) _ _).2))
 rcases bft (!eqNums [(L_,x.h,y.h),(L_,x.x,y.x),(L_,x.c,y.c)] || x.cl != y.cl || ((K_ mdlC x.m).length:Int) != ((K_ mdlC y.m).length:Int)) with hc0|hc0
 ·have gc0:(¬(x.h=y.h∧x.x=y.x∧x.c=y.c)∨¬x.cl=y.cl)∨¬((K_ mdlC x.m).length:Int)=((K_ mdlC y.m).length:Int):=gc0_ hc0
  exact (cR_ [r_,.r [] [.v (AJ_ !eqNums [(L_,x.h,y.h),(L_,x.x,y.x),(L_,x.c,y.c)]),o_,o_,o_,o_,o_,.sel 1,o_,o_,o_,o_,o_,o_,o_,.sel 1],b_,r_] (bv false) Try.func7 (.d2 oz0 hc0)).weak (A_ _) (Weak.bool (by (simp[bunEq,hz,eqNums] at *;intros;simp_all;done)))
 ·have gc0:((x.h=y.h∧x.x=y.x∧x.c=y.c)∧x.cl=y.cl)∧((K_ mdlC x.m).length:Int)=((K_ mdlC y.m).length:Int):=gc0_ hc0
  have oz3:=@lbn_ly (x) (y) sz hl h
  exact (cR_ [r_,.r [] [.v (AJ_ !eqNums [(L_,x.h,y.h),(L_,x.x,y.x),(L_,x.c,y.c)]),o_,o_,o_,o_,o_,.sel 1,o_,o_,o_,o_,o_,o_,o_,.sel 1],d_,r_,.code [.any [0,1,4,6,7,8,9,10,11,17,18,26],.weak 5 (i64 (↑0:Int)),.sort] (BN_ 0) (zO oz3),r_] (bv true) Try.func7 (.d4 oz0 hc0 w0_ oz3)).weak (A_ _) (Weak.bool (by (rw[Bool.eq_iff_iff];simp[bunEq,hz,eqNums] at *;simp_all;done)))
theorem lbn_n (x y:Bun) (i:Nat) (sz:x.Sz) (hl:x.m.length=y.m.length) (hi:i<x.m.length) (hf:mdlEq (x.m.getD i default) (y.m.getD i default)=false) (h:∀ k,k<i→mdlEq (x.m.getD k default) (y.m.getD k default)=true):VC O_ 7 ([bun x,bun y]) (bv false):=by
 obtain ⟨qa,qb⟩:=id sz
 have oz0:=(show BinTo O_ BinOp.neq 29 (Operand.tmp 7) (Operand.tmp 9) (BD_ #[AN_ L_ x.h,AN_ L_ x.x,AN_ L_ x.c]) (BD_ #[AN_ L_ y.h,AN_ L_ y.x,AN_ L_ y.c]) (AJ_ !eqNums [(L_,x.h,y.h),(L_,x.x,y.x),(L_,x.c,y.c)]) from ((bin_nums (l:=[(L_,x.h,y.h),(L_,x.x,y.x),(L_,x.c,y.c)]) (by kernel_rfl) (by kernel_rfl) (by kernel_rfl) (by kernel_rfl) _ _).2))
 rcases bft (!eqNums [(L_,x.h,y.h),(L_,x.x,y.x),(L_,x.c,y.c)] || x.cl != y.cl || ((K_ mdlC x.m).length:Int) != ((K_ mdlC y.m).length:Int)) with hc0|hc0
 ·have gc0:(¬(x.h=y.h∧x.x=y.x∧x.c=y.c)∨¬x.cl=y.cl)∨¬((K_ mdlC x.m).length:Int)=((K_ mdlC y.m).length:Int):=gc0_ hc0
  exact cR_ [r_,.r [] [.v (AJ_ !eqNums [(L_,x.h,y.h),(L_,x.x,y.x),(L_,x.c,y.c)]),o_,o_,o_,o_,o_,.sel 1,o_,o_,o_,o_,o_,o_,o_,.sel 1],b_,r_] _ Try.func7 (.d2 oz0 hc0)
 ·have gc0:((x.h=y.h∧x.x=y.x∧x.c=y.c)∧x.cl=y.cl)∧((K_ mdlC x.m).length:Int)=((K_ mdlC y.m).length:Int):=gc0_ hc0
  have oz3:=@lbn_ln (x) (y) (i) sz hl hi hf h
  exact cR_ [r_,.r [] [.v (AJ_ !eqNums [(L_,x.h,y.h),(L_,x.x,y.x),(L_,x.c,y.c)]),o_,o_,o_,o_,o_,.sel 1,o_,o_,o_,o_,o_,o_,o_,.sel 1],d_,r_,.code [.any [0,1,4,6,7,8,9,10,11,17,18,26],.weak 5 (i64 (↑0:Int)),.sort] (Exit.ret) (zO oz3)] _ Try.func7 (.d4 oz0 hc0 w0_ oz3)
theorem lbn_v (x y:Bun) (sz:x.Sz):VC O_ 7 [bun x,bun y] (bv (bunEq x y)):=by
 rcases zip_cases mdlEq x.m y.m with ⟨h,e⟩|⟨h,q,e⟩|⟨h,i,hi,hf,q,e⟩
 ·rw[show bunEq x y=false by simp[bunEq,e]];exact lbn_d x y sz h
 ·exact lbn_y x y sz h q e
 ·rw[show bunEq x y=false by simp[bunEq,e]];exact lbn_n x y i sz h hi hf q
def oneN (v:Int) (n:Nod):Int:=heldQ (v-n.za) n.qm n.qs n.qz n.lo n.hi
theorem actOne_w (v:Int) (n:Nod) (ok:n.Ok) (hv:In8 v):VC O_ 82 ([i8 v,nod n]) (i8 (oneN v n)):=by
 obtain ⟨q1,q2⟩:=id hv
 obtain ⟨q3,q4⟩:=ok.za
 have oz3:=@held_v (v-n.za) (n.qm) (n.qs) (n.qz) (n.lo) (n.hi) (by omega) (by (exact ok.qm)) (by (exact ok.qz)) (by (exact ok.lo)) (by (exact ok.hi))
 exact (cR_ [r_,.r [] [.n v,.n n.za,.n (v-n.za),cr oz3]] (i8 (heldQ (v-n.za) n.qm n.qs n.qz n.lo n.hi)) Try.func82 (.d4 (CP_ v (by omega)) (CP_ n.za (by omega)) (CP_ (v-n.za) (by omega)) oz3)).weak (A_ _) (M_ (by rfl))
theorem upside_v (a b:Int)  : VC O_ 60 ([.agg [i8 a,i8 b]]) (bv (decide (a>b))):=by
 exact cR_ [r_,r_] _ Try.func60 (.n)
def headE (w b:List Int) (lo hi:Int):Int:=if sharedB w b=true then (if (allR w b lo hi 0 false b.length).all holdB=true then 0 else 10) else 9
abbrev hedC (w b:List Int) (nd:Int):List AV:=[ints .i8 w,ints .i32 b,i32 nd]
theorem hd_ok {w b:List Int} (hw:∀ v∈w,In8 v) (hb:∀ v∈b,In32 v):Nod.Ok ⟨0,0,0,0,0,0,0,0,0,w,b,0,0,0,0,0,0,0,0⟩:=by
 constructor<;>first|assumption|(constructor<;>(dsimp only;decide))
theorem hd_len (w b:List Int) (lo hi:Int):(allR w b lo hi 0 (decide ((0:Int)>0)) (if sharedB w b=true then b.length else 0)).length=if sharedB w b=true then b.length else 0:=by simp[allR]
theorem hd_pos {w b:List Int} (h:sharedB w b=true):0<b.length:=by
 simp only[sharedB,N_,E_] at h;exact h.1
theorem hd_le (w b:List Int) (lo hi:Int) (bl:b.length≤100000):(allR w b lo hi 0 (decide ((0:Int)>0)) (if sharedB w b=true then b.length else 0)).length≤1000000:=by rw[hd_len];split<;>omega
theorem hd_sh {w b:List Int} {lo hi:Int} {x:Bool} (h:(((K_ rngC (allR w b lo hi 0 (decide ((0:Int)>0)) (if sharedB w b=true then b.length else 0))).length:Int)==0)=x):sharedB w b = !x:=by
 rw[X_,hd_len] at h
 cases e:sharedB w b with
 | true =>
  have:=hd_pos e
  rw[e,i_ rfl] at h
  cases x with
  | true=>simp at h;subst h;simp at this
  | false=>rfl
 | false=>rw[e] at h;subst h;rfl
theorem hd9 {w b:List Int} {lo hi:Int} (h:(((K_ rngC (allR w b lo hi 0 (decide ((0:Int)>0)) (if sharedB w b=true then b.length else 0))).length:Int)==0)=true):9=headE w b lo hi:=by
 unfold headE;rw[hd_sh h];rfl
theorem hd10 {w b:List Int} {lo hi:Int} {y:Bool} (h:(((K_ rngC (allR w b lo hi 0 (decide ((0:Int)>0)) (if sharedB w b=true then b.length else 0))).length:Int)==0)=false) (h2:(!(allR w b lo hi 0 (decide ((0:Int)>0)) (if sharedB w b=true then b.length else 0)).all holdB)=y):(if y=true then 10 else 0)=headE w b lo hi:=by
 have e:=hd_sh h
 unfold headE
 rw[e] at h2 ⊢
 simp only[BS_,if_true] at h2 ⊢
 rw[show (false:Bool)=decide ((0:Int)>0) from rfl]
 cases y with
 | true=>rw[i_ rfl,j_ (by simpa using h2)]
 | false=>rw[j_ (by simp),i_ (by simpa using h2)]
theorem ghead_v (w b:List Int) (nd lo hi:Int) (hw:∀ v∈w,In8 v) (hb:∀ v∈b,In32 v) (wl:w.length≤100000) (bl:b.length≤100000) (h1:In8 lo) (h2:In8 hi):VC O_ 64 ([.agg (hedC w b nd),.agg [i8 lo,i8 hi]]) (i64 (headE w b lo hi)):=by
 have oz0:=@all_v (Nod.mk 0 0 0 0 0 0 0 0 0 w b 0 0 0 0 0 0 0 0) (lo) (hi) (by (exact hd_ok hw hb)) h1 h2 wl bl
 rcases bft ((↑(K_ rngC (allR w b lo hi 0 (decide (0>0)) (if sharedB w b=true then b.length else 0))).length:Int)==0) with hc0|hc0
 ·have gc0:(↑(K_ rngC (allR w b lo hi 0 (decide (0>0)) (if sharedB w b=true then b.length else 0))).length:Int)=0:=by first|exact hc0|exact of_decide_eq_true hc0|exact of_decide_eq_false hc0|simpa [eqNums] using hc0|(simp[eqNums] at hc0 ⊢;first|done|assumption|omega)
  exact (cR_ [r_,.r [] [cr oz0],r_,b_,r_] (i64 9) Try.func64 (.d2 oz0 hc0)).weak (A_ _) (M_ (by (exact hd9 (by assumption))))
 ·have gc0:¬(↑(K_ rngC (allR w b lo hi 0 (decide (0>0)) (if sharedB w b=true then b.length else 0))).length:Int)=0:=by first|exact hc0|exact of_decide_eq_true hc0|exact of_decide_eq_false hc0|simpa [eqNums] using hc0|(simp[eqNums] at hc0 ⊢;first|done|assumption|omega)
  have oz2:=@holds_v (allR w b lo hi 0 (decide (0>0)) (if sharedB w b=true then b.length else 0)) (by (exact hd_le w b lo hi bl))
  rcases bft (!(allR w b lo hi 0 (decide (0>0)) (if sharedB w b=true then b.length else 0)).all holdB) with hc1|hc1
  ·have gc1:(allR w b lo hi 0 (decide (0>0)) (if sharedB w b=true then b.length else 0)).all holdB=false:=by first|exact hc1|exact of_decide_eq_true hc1|exact of_decide_eq_false hc1|simpa [eqNums] using hc1|(simp[eqNums] at hc1 ⊢;first|done|assumption|omega)
   exact (cR_ [r_,.r [] [cr oz0],r_,d_,.r [] [cr oz2],b_,r_] (i64 10) Try.func64 (.d4 oz0 hc0 oz2 hc1)).weak (A_ _) (M_ (by (exact hd10 (y:=true) (by assumption) (by assumption))))
  ·have gc1:(allR w b lo hi 0 (decide (0>0)) (if sharedB w b=true then b.length else 0)).all holdB=true:=by first|exact hc1|exact of_decide_eq_true hc1|exact of_decide_eq_false hc1|simpa [eqNums] using hc1|(simp[eqNums] at hc1 ⊢;first|done|assumption|omega)
   exact (cR_ [r_,.r [] [cr oz0],r_,d_,.r [] [cr oz2],d_,r_] (i64 0) Try.func64 (.d4 oz0 hc0 oz2 hc1)).weak (A_ _) (M_ (by (exact hd10 (y:=false) (by assumption) (by assumption))))
abbrev rchC (r:Rng):List AV:=[i8 r.lo,i8 r.hi]
abbrev rch (r:Rng):AV:=.agg (rchC r)
def bothR (l:List Rng):Nat→Rng
 | 0=>l.getD 0 default
 | k+1=>⟨min (bothR l k).lo (l.getD k default).lo,max (bothR l k).hi (l.getD k default).hi⟩
noncomputable def both_l_I (l:List Rng) (k:Nat):VS:=stt 32 [(2,.ptr 2 0 0),(3,.ptr 3 0 0),(13,.sl 2 (l.map rngC)),(14,i64 l.length),(15,i64 k)] [(2,.var [i64 0,i64 0]),(3,.var (rngC (bothR l k)))]
noncomputable def both_l_Z (l:List Rng):VS:=both_l_I l (l.length)
theorem both_l_s (l:List Rng) (hl:l.length≤1000000) (k:Nat) (hk:k<l.length):VT O_ (fnC Try.f90 [1,1,1,0,1,0,0]) (both_l_I l k) .normal (both_l_I l (k+1)):=by
 have oz2:=(map_at (rngC) (default) (l:=l) (i:=k) hk)
 exact tR_ [r_,b_,.r [] [.row (sO oz2)],r_,.r [] [.n ((↑k:Int)+1)]] [.any (rg [(5,1),(16,15)]),.drop [5],.weak 15 (i64 (↑(k+1):Int)),.blk 3 (Blk.var [i64 (bothR l (k+1)).lo,i64 (bothR l (k+1)).hi]),.sort] (.d6 (decide_eq_true (p:=((↑k:Int)<(l.length:Int))) (by omega)) (s_ (0≤(↑k:Int))) oz2 (i6n ((↑k:Int)+1) (by omega)) (wS_ k) (show BlkW (Blk.var [i64 (if (l.getD k default).lo<(bothR l k).lo then (l.getD k default).lo else (bothR l k).lo),i64 (if (l.getD k default).hi>(bothR l k).hi then (l.getD k default).hi else (bothR l k).hi)]) (Blk.var [i64 (bothR l (k+1)).lo,i64 (bothR l (k+1)).hi]) from (BlkW.var (m:=[i64 (bothR l (k+1)).lo,i64 (bothR l (k+1)).hi]) (.cons (M_ (by (simp only[bothR];split<;>omega))) (.cons (M_ (by (simp only[bothR];split<;>omega))) .nil)))))
theorem both_l_e (l:List Rng) (hl:l.length≤1000000):VT O_ (fnC Try.f90 [1,1,1,0,1,0,0]) (both_l_I l (l.length)) (.exit 0) (both_l_Z l):=by
 exact tR_ [r_,d_] [.any [16],.sort] (.d (decide_eq_false (p:=((l.length:Int)<(l.length:Int))) (by omega)))
theorem both_l (l:List Rng) (hl:l.length≤1000000):VT O_ (fnC Try.f90 [1,1,1,0,1,0]) (both_l_I l 0) (.exit 0) (both_l_Z l) :=
 VT.loop (fun k=>both_l_I l k) (l.length) (fun k hk=>both_l_s l hl k hk) (both_l_e l hl) (by intro h;cases h)
theorem both_v (l:List Rng) (hl:l.length≤1000000):VC O_ 90 ([.sl 2 (l.map rngC)]) (rng (bothR l l.length)):=by
 rcases bft (((K_ rngC l).length:Int)==0) with hc0|hc0
 ·have gc0:((K_ rngC l).length:Int)=0:=bet hc0
  exact (cR_ [r_,r_,b_,r_] (AV.agg [i64 0,i64 0]) Try.func90 (.d hc0)).weak (A_ _) (AX_ (.cons (M_ (by (have:l=[]:=AC_ (by simp only[X_] at *;omega);subst this;rfl))) (.cons (M_ (by (have:l=[]:=AC_ (by simp only[X_] at *;omega);subst this;rfl))) .nil)))
 ·have gc0:¬((K_ rngC l).length:Int)=0:=bef hc0
  have oz2:=(map_at (rngC) (default) (l:=l) (i:=0) (by (simp only[X_] at *;omega)))
  have oz6:=@both_l (l) hl
  exact cR_ [r_,r_,d_,.r [] [.row (sO oz2)],r_,.code [.any [0,6,7,8,10,11,12],.weak 14 (i64 (l.length:Int)),.weak 15 (i64 (↑0:Int)),.blk 3 (Blk.var [i64 (bothR l 0).lo,i64 (bothR l 0).hi]),.sort] (BN_ 0) (zO oz6),r_] _ Try.func90 (.d7 hc0 (s_ ((0:Int)≤(0:Int))) oz2 (M_ (k:=.i64) (show ((((K_ rngC l).length:Int)):Int)=((l.length:Int)) from (by (simp;done)))) w0_ (show BlkW (Blk.var [i64 (l.getD 0 default).lo,i64 (l.getD 0 default).hi]) (Blk.var [i64 (bothR l 0).lo,i64 (bothR l 0).hi]) from (BlkW.var (m:=[i64 (bothR l 0).lo,i64 (bothR l 0).hi]) (.cons (M_ (by rfl)) (.cons (M_ (by rfl)) .nil)))) oz6)
def held32 (v:Int):Int:=if 2147483647<if -2147483648>v then -2147483648 else v then 2147483647 else if -2147483648>v then -2147483648 else v
theorem held32_in (v:Int):In32 (held32 v):=by unfold held32 In32;omega
theorem min_if (a b:Int):(if b<a then b else a)=min a b:=by omega
theorem max_if (a b:Int):(if b>a then b else a)=max a b:=by omega
def afterE (r:Rng) (n:Nod):Rng:=⟨min (heldQ (held32 r.lo) n.qm n.qs n.qz n.lo n.hi) (heldQ (held32 r.hi) n.qm n.qs n.qz n.lo n.hi),max (heldQ (held32 r.lo) n.qm n.qs n.qz n.lo n.hi) (heldQ (held32 r.hi) n.qm n.qs n.qz n.lo n.hi)⟩
theorem after_v (r:Rng) (n:Nod) (ok:n.Ok):VC O_ 89 ([rng r,.agg [i32 n.qm,i64 n.qs,i8 n.qz],i8 n.lo,i8 n.hi]) (.tup [i8 (afterE r n).lo,i8 (afterE r n).hi]):=by
 have ok_qm:=ok.qm
 have ok_qz:=ok.qz
 have ok_lo:=ok.lo
 have ok_hi:=ok.hi
 have q1:=held32_in r.lo
 have q2:=held32_in r.hi
 have oz0:=(CP_ (if 2147483647<if -2147483648>r.lo then -2147483648 else r.lo then 2147483647 else if -2147483648>r.lo then -2147483648 else r.lo) (by omega))
 have oz1:=@held_v (if 2147483647<if -2147483648>r.lo then -2147483648 else r.lo then 2147483647 else if -2147483648>r.lo then -2147483648 else r.lo) (n.qm) (n.qs) (n.qz) (n.lo) (n.hi) (by omega) ok_qm ok_qz ok_lo ok_hi
 have oz2:=(CP_ (if 2147483647<if -2147483648>r.hi then -2147483648 else r.hi then 2147483647 else if -2147483648>r.hi then -2147483648 else r.hi) (by omega))
 have oz3:=@held_v (if 2147483647<if -2147483648>r.hi then -2147483648 else r.hi then 2147483647 else if -2147483648>r.hi then -2147483648 else r.hi) (n.qm) (n.qs) (n.qz) (n.lo) (n.hi) (by omega) ok_qm ok_qz ok_lo ok_hi
 exact (cR_ [r_,.r [] [.n (nO oz0),cr oz1],.r [] [.n (nO oz2),cr oz3],r_] (AV.tup [i8 (if heldQ (if 2147483647<if -2147483648>r.hi then -2147483648 else r.hi then 2147483647 else if -2147483648>r.hi then -2147483648 else r.hi) n.qm n.qs n.qz n.lo n.hi<heldQ (if 2147483647<if -2147483648>r.lo then -2147483648 else r.lo then 2147483647 else if -2147483648>r.lo then -2147483648 else r.lo) n.qm n.qs n.qz n.lo n.hi then heldQ (if 2147483647<if -2147483648>r.hi then -2147483648 else r.hi then 2147483647 else if -2147483648>r.hi then -2147483648 else r.hi) n.qm n.qs n.qz n.lo n.hi else heldQ (if 2147483647<if -2147483648>r.lo then -2147483648 else r.lo then 2147483647 else if -2147483648>r.lo then -2147483648 else r.lo) n.qm n.qs n.qz n.lo n.hi),i8 (if heldQ (if 2147483647<if -2147483648>r.hi then -2147483648 else r.hi then 2147483647 else if -2147483648>r.hi then -2147483648 else r.hi) n.qm n.qs n.qz n.lo n.hi>heldQ (if 2147483647<if -2147483648>r.lo then -2147483648 else r.lo then 2147483647 else if -2147483648>r.lo then -2147483648 else r.lo) n.qm n.qs n.qz n.lo n.hi then heldQ (if 2147483647<if -2147483648>r.hi then -2147483648 else r.hi then 2147483647 else if -2147483648>r.hi then -2147483648 else r.hi) n.qm n.qs n.qz n.lo n.hi else heldQ (if 2147483647<if -2147483648>r.lo then -2147483648 else r.lo then 2147483647 else if -2147483648>r.lo then -2147483648 else r.lo) n.qm n.qs n.qz n.lo n.hi)]) Try.func89 (.d4 oz0 oz1 oz2 oz3)).weak (A_ _) (AA_ (.cons (M_ (by (exact min_if _ _))) (.cons (M_ (by (exact max_if _ _))) .nil)))
theorem clamp_in (v:Int) {lo hi:Int} (h1:In8 lo) (h2:In8 hi):In8 (clampI v lo hi):=by
 unfold clampI;split
 ·exact h1
 ·split
  ·exact h2
  ·omega
def joinE (x y:Int) (n:Nod):Int:=if (rightQ n.qm n.qs&&rightQ n.rm n.rs)=true then clampI (rnd ((x-n.za)*n.qm) n.qs+rnd ((y-n.zb)*n.rm) n.rs+n.qz) n.lo n.hi else 0
theorem mul_bd9 (a m:Int) (a0 : -255≤a) (a1:a≤255) (hm:In32 m) : -547608330240≤a*m∧a*m≤547608330240:=by
 obtain ⟨m0,m1⟩:=hm
 have h1:(a.natAbs*m.natAbs:Nat)≤255*2147483648:=Nat.mul_le_mul (by omega) (by omega)
 have:=Int.natAbs_mul a m
 omega
theorem joinP (v z m s:Int) (h1:In8 v) (h2:In8 z) (h3:In32 m):(-547608330240≤(v-z)*m∧(v-z)*m≤547608330240) ∧ -547608330240≤rnd ((v-z)*m) s∧rnd ((v-z)*m) s≤547608330240:=by
 have q:=mul_bd9 (v-z) m (by omega) (by omega) h3
 exact ⟨q,rnd_bd _ s _ q.1 q.2⟩
theorem joinMay_v (n:Nod)  : VC O_ 91 ([nod n]) (bv (rightQ n.qm n.qs&&rightQ n.rm n.rs)):=by
 have oz0:=@right_v (n.qm) (n.qs) (n.qz)
 have oz1:=@right_v (n.rm) (n.rs) (n.rz)
 exact cR_ [r_,.r [] [cr oz0,o_,o_,o_,cr oz1,.sel 2]] _ Try.func91 (.d2 oz0 oz1)
theorem joinScaled_v (v z m s z2:Int) (h1:In8 v) (h2:In8 z) (h3:In32 m):VC O_ 93 ([i8 v,i8 z,.agg [i32 m,i64 s,i8 z2]]) (i64 (rnd ((v-z)*m) s)):=by
 have oz3:=@scale_v (v-z) (m) (s) (by omega) h3
 exact cR_ [r_,.r [] [.n v,.n z,.n (v-z),cr oz3]] _ Try.func93 (.d4 (CP_ v (by omega)) (CP_ z (by omega)) (CP_ (v-z) (by omega)) oz3)
theorem joinOne_v (x y:Int) (n:Nod) (ok:n.Ok) (hx:In8 x) (hy:In8 y):VC O_ 81 ([i8 x,i8 y,nod n]) (i8 (joinE x y n)):=by
 have ok_za:=ok.za
 have ok_zb:=ok.zb
 have ok_qm:=ok.qm
 have ok_rm:=ok.rm
 have ok_lo:=ok.lo
 have ok_hi:=ok.hi
 have ok_qz:=ok.qz
 have q1:=joinP x n.za n.qm n.qs hx ok.za ok.qm
 have q2:=joinP y n.zb n.rm n.rs hy ok.zb ok.rm
 have oz0:=@joinMay_v (n)
 rcases bft (!(rightQ n.qm n.qs&&rightQ n.rm n.rs)) with hc0|hc0
 ·have gc0:rightQ n.qm n.qs=false∨rightQ n.rm n.rs=false:=gc0_ hc0
  exact (cR_ [r_,.r [] [cr oz0],b_,r_] (i8 0) Try.func81 (.d2 oz0 hc0)).weak (A_ _) (M_ (by (unfold joinE;rw[j_ (by intro hh;simp only[N_] at hh;simp_all)])))
 ·have gc0:rightQ n.qm n.qs=true∧rightQ n.rm n.rs=true:=gc0_ hc0
  have oz2:=@joinScaled_v (x) (n.za) (n.qm) (n.qs) (n.qz) hx ok_za ok_qm
  have oz3:=@joinScaled_v (y) (n.zb) (n.rm) (n.rs) (n.rz) hy ok_zb ok_rm
  have oz4:=(i6n (rnd ((x-n.za)*n.qm) n.qs+rnd ((y-n.zb)*n.rm) n.rs) (by omega))
  have oz6:=(i6n (rnd ((x-n.za)*n.qm) n.qs+rnd ((y-n.zb)*n.rm) n.rs+n.qz) (by omega))
  have oz7:=@clamp_v (rnd ((x-n.za)*n.qm) n.qs+rnd ((y-n.zb)*n.rm) n.rs+n.qz) (n.lo) (n.hi) ok_lo ok_hi
  exact (cR_ [r_,.r [] [cr oz0],d_,.r [] [cr oz2,cr oz3,.n (nO oz4),.n n.qz,.n (nO oz6),cr oz7]] (i8 (clampI (rnd ((x-n.za)*n.qm) n.qs+rnd ((y-n.zb)*n.rm) n.rs+n.qz) n.lo n.hi)) Try.func81 (.d8 oz0 hc0 oz2 oz3 oz4 (i6n n.qz (by omega)) oz6 oz7)).weak (A_ _) (M_ (by (unfold joinE;rw[i_ (by simp_all)])))
theorem all_le (w b:List Int) (lo hi z:Int) (g:Bool) (bl:b.length≤100000):(allR w b lo hi z g (if sharedB w b=true then b.length else 0)).length≤1000000:=by
 have:(allR w b lo hi z g (if sharedB w b=true then b.length else 0)).length=if sharedB w b=true then b.length else 0:=by simp[allR]
 rw[this];split<;>omega
def spansN (n:Nod) (a:Rng):List Rng:=allR n.w n.b a.lo a.hi n.za (decide (n.np>0)) (if sharedB n.w n.b=true then n.b.length else 0)
def sumG (n:Nod) (a:Rng):Rng×Int:=if (spansN n a).all holdB=true then (afterE (bothR (spansN n a) (spansN n a).length) n,0) else (⟨0,0⟩,10)
theorem sumG_y {n:Nod} {a:Rng} (h:(allR n.w n.b a.lo a.hi n.za (decide (n.np>0)) (if sharedB n.w n.b=true then n.b.length else 0)).all holdB=true):sumG n a=(afterE (bothR (spansN n a) (spansN n a).length) n,0):=i_ h
theorem summed_v (n:Nod) (a:Rng) (ok:n.Ok) (h1:In8 a.lo) (h2:In8 a.hi) (wl:n.w.length≤100000) (bl:n.b.length≤100000):VC O_ 80 ([nod n,rch a]) (.tup [rch (sumG n a).1,i64 (sumG n a).2]):=by
 have q:=all_le n.w n.b a.lo a.hi n.za (decide (n.np>0)) bl
 have oz0:=@all_v (n) (a.lo) (a.hi) ok h1 h2 wl bl
 have oz1:=@holds_v (allR n.w n.b a.lo a.hi n.za (decide (n.np>0)) (if sharedB n.w n.b=true then n.b.length else 0)) q
 rcases bft (!(allR n.w n.b a.lo a.hi n.za (decide (n.np>0)) (if sharedB n.w n.b=true then n.b.length else 0)).all holdB) with hc0|hc0
 ·have gc0:(allR n.w n.b a.lo a.hi n.za (decide (n.np>0)) (if sharedB n.w n.b=true then n.b.length else 0)).all holdB=false:=by first|exact hc0|exact of_decide_eq_true hc0|exact of_decide_eq_false hc0|simpa [eqNums] using hc0|(simp[eqNums] at hc0 ⊢;first|done|assumption|omega)
  exact (cR_ [r_,.r [] [cr oz0],.r [] [cr oz1],b_,r_] (AV.tup [AV.agg [i8 0,i8 0],i64 10]) Try.func80 (.d3 oz0 oz1 hc0)).weak (A_ _) (AA_ (.cons (AX_ (.cons (M_ (by (unfold sumG spansN;rw[j_ (by simp_all)]))) (.cons (M_ (by (unfold sumG spansN;rw[j_ (by simp_all)]))) .nil))) (.cons (M_ (by (unfold sumG spansN;rw[j_ (by simp_all)]))) .nil)))
 ·have gc0:(allR n.w n.b a.lo a.hi n.za (decide (n.np>0)) (if sharedB n.w n.b=true then n.b.length else 0)).all holdB=true:=by first|exact hc0|exact of_decide_eq_true hc0|exact of_decide_eq_false hc0|simpa [eqNums] using hc0|(simp[eqNums] at hc0 ⊢;first|done|assumption|omega)
  have oz3:=@both_v (allR n.w n.b a.lo a.hi n.za (decide (n.np>0)) (if sharedB n.w n.b=true then n.b.length else 0)) q
  have oz4:=@after_v (bothR (allR n.w n.b a.lo a.hi n.za (decide (n.np>0)) (if sharedB n.w n.b=true then n.b.length else 0)) (allR n.w n.b a.lo a.hi n.za (decide (n.np>0)) (if sharedB n.w n.b=true then n.b.length else 0)).length) (n) ok
  exact (cR_ [r_,.r [] [cr oz0],.r [] [cr oz1],d_,.r [] [cr oz3,cr oz4],r_] (AV.tup [AV.agg [i8 (afterE (bothR (allR n.w n.b a.lo a.hi n.za (decide (n.np>0)) (if sharedB n.w n.b=true then n.b.length else 0)) (allR n.w n.b a.lo a.hi n.za (decide (n.np>0)) (if sharedB n.w n.b=true then n.b.length else 0)).length) n).lo,i8 (afterE (bothR (allR n.w n.b a.lo a.hi n.za (decide (n.np>0)) (if sharedB n.w n.b=true then n.b.length else 0)) (allR n.w n.b a.lo a.hi n.za (decide (n.np>0)) (if sharedB n.w n.b=true then n.b.length else 0)).length) n).hi],i64 0]) Try.func80 (.d5 oz0 oz1 hc0 oz3 oz4)).weak (A_ _) (AA_ (.cons (AX_ (.cons (M_ (by (rw[sumG_y (by assumption)]<;>rfl))) (.cons (M_ (by (rw[sumG_y (by assumption)]<;>rfl))) .nil))) (.cons (M_ (by (rw[sumG_y (by assumption)]<;>rfl))) .nil)))
def Rng.In8 (a:Rng):Prop:=Go.Proofs.Ytdfihaminnmgpaa.In8 a.lo∧Go.Proofs.Ytdfihaminnmgpaa.In8 a.hi
def nodeR (n:Nod) (a b:Rng):Rng×Int :=
 if checkE n≠0 then (⟨0,0⟩,checkE n) else if a.lo>a.hi∨(n.kd=6∧b.lo>b.hi) then (⟨0,0⟩,2)
 else if n.kd=1∨n.kd=2∨n.kd=3 then sumG n a
 else if n.kd=6 then (⟨joinE a.lo b.lo n,joinE a.hi b.hi n⟩,0)
 else if n.kd=7 then (⟨oneN a.lo n,oneN a.hi n⟩,0)
 else if n.kd=8∧n.np>0 then (⟨min a.lo n.za,max a.hi n.za⟩,0) else (a,0)
noncomputable def ends64_l_I (a:Int) (l:List Int) (k:Nat):VS:=stt 27 [(6,i64 (foldR a l k).lo),(7,i64 (foldR a l k).hi),(12,ints .i64 l),(13,i64 l.length),(14,i64 k)] []
noncomputable def ends64_l_Z (a:Int) (l:List Int):VS:=ends64_l_I a l (l.length)
theorem ends64_l_s (a:Int) (l:List Int) (hl:l.length≤1000) (k:Nat) (hk:k<l.length):VT O_ (fnC Try.f69 [1,1,0,1,0,0]) (ends64_l_I a l k) .normal (ends64_l_I a l (k+1)):=by
 have oz4:=(M_ (k:=.i64) (show ((if l.getD k 0<(foldR a l k).lo then l.getD k 0 else (foldR a l k).lo):Int)=((foldR a l (k+1)).lo) from (by (simp only[foldR];split<;>omega))))
 have oz5:=(M_ (k:=.i64) (show ((if l.getD k 0>(foldR a l k).hi then l.getD k 0 else (foldR a l k).hi):Int)=((foldR a l (k+1)).hi) from (by (simp only[foldR];split<;>omega))))
 exact tR_ [r_,b_,.r [] [.row [i64 (l.getD k 0)]],r_,.r [] [.n ((↑k:Int)+1)]] [.any (rg [(9,1),(15,10)]),.weak 6 (wO oz4),.weak 7 (wO oz5),.weak 14 (i64 (↑(k+1):Int)),.sort] (.d7 (decide_eq_true (p:=((↑k:Int)<(l.length:Int))) (by omega)) (s_ (0≤(↑k:Int))) (map_at (row1 .i64) (0) (l:=l) (i:=k) hk) (i6n ((↑k:Int)+1) (by omega)) oz4 oz5 (wS_ k))
theorem ends64_l_e (a:Int) (l:List Int) (hl:l.length≤1000):VT O_ (fnC Try.f69 [1,1,0,1,0,0]) (ends64_l_I a l (l.length)) (.exit 0) (ends64_l_Z a l):=by
 exact tR_ [r_,d_] [.any [15],.sort] (.d (decide_eq_false (p:=((l.length:Int)<(l.length:Int))) (by omega)))
theorem ends64_l (a:Int) (l:List Int) (hl:l.length≤1000):VT O_ (fnC Try.f69 [1,1,0,1,0]) (ends64_l_I a l 0) (.exit 0) (ends64_l_Z a l) :=
 VT.loop (fun k=>ends64_l_I a l k) (l.length) (fun k hk=>ends64_l_s a l hl k hk) (ends64_l_e a l hl) (by intro h;cases h)
theorem ends64_v (a:Int) (l:List Int) (hl:l.length≤1000):VC O_ 69 ([i64 a,ints .i64 l]) (.tup [i64 (foldR a l l.length).lo,i64 (foldR a l l.length).hi]):=by
 have oz1:=(M_ (k:=.i64) (show ((((K_ (row1 .i64) l).length:Int)):Int)=((l.length:Int)) from (by (simp;done))))
 have oz3:=@ends64_l (a) (l) hl
 exact cR_ [r_,r_,r_,.code [.any [0,1,4,5,10,11],.weak 7 (i64 (foldR a l 0).hi),.weak 13 (wO oz1),.weak 14 (i64 (↑0:Int)),.sort] (BN_ 0) (zO oz3),r_] _ Try.func69 (.d4 (M_ (k:=.i64) (show ((a):Int)=((foldR a l 0).hi) from (by rfl))) oz1 w0_ oz3)
theorem ends64_1 (a b:Int):VC O_ 69 [i64 a,.sl 1 [[i64 b]]] (.tup [i64 (min a b),i64 (max a b)]):=ends64_v a [b] (by simp)
noncomputable def ends8_l_I (a:Int) (l:List Int) (k:Nat):VS:=stt 27 [(6,i8 (foldR a l k).lo),(7,i8 (foldR a l k).hi),(12,ints .i8 l),(13,i64 l.length),(14,i64 k)] []
noncomputable def ends8_l_Z (a:Int) (l:List Int):VS:=ends8_l_I a l (l.length)
theorem ends8_l_s (a:Int) (l:List Int) (hl:l.length≤1000) (k:Nat) (hk:k<l.length):VT O_ (fnC Try.f95 [1,1,0,1,0,0]) (ends8_l_I a l k) .normal (ends8_l_I a l (k+1)):=by
 have oz4:=(M_ (k:=.i8) (show ((if l.getD k 0<(foldR a l k).lo then l.getD k 0 else (foldR a l k).lo):Int)=((foldR a l (k+1)).lo) from (by (simp only[foldR];split<;>omega))))
 have oz5:=(M_ (k:=.i8) (show ((if l.getD k 0>(foldR a l k).hi then l.getD k 0 else (foldR a l k).hi):Int)=((foldR a l (k+1)).hi) from (by (simp only[foldR];split<;>omega))))
 exact tR_ [r_,b_,.r [] [.row [i8 (l.getD k 0)]],r_,.r [] [.n ((↑k:Int)+1)]] [.any (rg [(9,1),(15,10)]),.weak 6 (wO oz4),.weak 7 (wO oz5),.weak 14 (i64 (↑(k+1):Int)),.sort] (.d7 (decide_eq_true (p:=((↑k:Int)<(l.length:Int))) (by omega)) (s_ (0≤(↑k:Int))) (map_at (row1 .i8) (0) (l:=l) (i:=k) hk) (i6n ((↑k:Int)+1) (by omega)) oz4 oz5 (wS_ k))
theorem ends8_l_e (a:Int) (l:List Int) (hl:l.length≤1000):VT O_ (fnC Try.f95 [1,1,0,1,0,0]) (ends8_l_I a l (l.length)) (.exit 0) (ends8_l_Z a l):=by
 exact tR_ [r_,d_] [.any [15],.sort] (.d (decide_eq_false (p:=((l.length:Int)<(l.length:Int))) (by omega)))
theorem ends8_l (a:Int) (l:List Int) (hl:l.length≤1000):VT O_ (fnC Try.f95 [1,1,0,1,0]) (ends8_l_I a l 0) (.exit 0) (ends8_l_Z a l) :=
 VT.loop (fun k=>ends8_l_I a l k) (l.length) (fun k hk=>ends8_l_s a l hl k hk) (ends8_l_e a l hl) (by intro h;cases h)
theorem ends8_v (a:Int) (l:List Int) (hl:l.length≤1000):VC O_ 95 ([i8 a,ints .i8 l]) (.tup [i8 (foldR a l l.length).lo,i8 (foldR a l l.length).hi]):=by
 have oz1:=(M_ (k:=.i64) (show ((((K_ (row1 .i8) l).length:Int)):Int)=((l.length:Int)) from (by (simp;done))))
 have oz3:=@ends8_l (a) (l) hl
 exact cR_ [r_,r_,r_,.code [.any [0,1,4,5,10,11],.weak 7 (i8 (foldR a l 0).hi),.weak 13 (wO oz1),.weak 14 (i64 (↑0:Int)),.sort] (BN_ 0) (zO oz3),r_] _ Try.func95 (.d4 (M_ (k:=.i8) (show ((a):Int)=((foldR a l 0).hi) from (by rfl))) oz1 w0_ oz3)
theorem ends8_2 (a b c:Int):VC O_ 95 [i8 a,.sl 1 [[i8 b],[i8 c]]] (.tup [i8 (min (min a b) c),i8 (max (max a b) c)]):=ends8_v a [b,c] (by simp)
theorem over_v (a b c:Int)  : VC O_ 83 ([i8 a,.sl 1 [[i8 b],[i8 c]]]) (rch ⟨min (min a b) c,max (max a b) c⟩):=by
 have oz0:=@ends8_2 (a) (b) (c)
 exact cR_ [r_,.r [] [cr oz0],r_] _ Try.func83 (.d oz0)
theorem gnode_v (n:Nod) (a b:Rng) (ok:n.Ok) (ha:a.In8) (hb:b.In8) (wl:n.w.length≤100000) (bl:n.b.length≤100000):VC O_ 70 ([nod n,rch a,rch b]) (.tup [rch (nodeR n a b).1,i64 (nodeR n a b).2]):=by
 have ok_kd:=ok.kd
 obtain ⟨p1,p2⟩:=id ha
 obtain ⟨p3,p4⟩:=id hb
 have oz0:=@check_v (n) wl bl ok_kd
 rcases bft (checkE n != 0) with hc0|hc0
 ·have gc0:¬checkE n=0:=bdt hc0
  exact (cR_ [r_,.r [] [cr oz0],r_,b_,r_] (AV.tup [AV.agg [i8 0,i8 0],i64 (checkE n)]) Try.func70 (.d2 oz0 hc0)).weak (A_ _) (AA_ (.cons (AX_ (.cons (M_ (by (unfold nodeR;(repeat first|rw[i_ (by omega)]|rw[j_ (by omega)])))) (.cons (M_ (by (unfold nodeR;(repeat first|rw[i_ (by omega)]|rw[j_ (by omega)])))) .nil))) (.cons (M_ (by (unfold nodeR;(repeat first|rw[i_ (by omega)]|rw[j_ (by omega)])))) .nil)))
 ·have gc0:checkE n=0:=bdf hc0
  have oz2:=@upside_v (a.lo) (a.hi)
  have oz3:=@upside_v (b.lo) (b.hi)
  rcases bft (decide (a.lo>a.hi) || n.kd==6&&decide (b.lo>b.hi)) with hc1|hc1
  ·have gc1:a.lo>a.hi∨n.kd=6∧b.lo>b.hi:=gc0_ hc1
   exact (cR_ [r_,.r [] [cr oz0],r_,d_,.r [] [cr oz2,o_,o_,o_,o_,o_,o_,cr oz3,o_,.sel 2,.sel 1],b_,r_] (AV.tup [AV.agg [i8 0,i8 0],i64 2]) Try.func70 (.d5 oz0 hc0 oz2 oz3 hc1)).weak (A_ _) (AA_ (.cons (AX_ (.cons (M_ (by (unfold nodeR;(repeat first|rw[i_ (by omega)]|rw[j_ (by omega)])))) (.cons (M_ (by (unfold nodeR;(repeat first|rw[i_ (by omega)]|rw[j_ (by omega)])))) .nil))) (.cons (M_ (by (unfold nodeR;(repeat first|rw[i_ (by omega)]|rw[j_ (by omega)])))) .nil)))
  ·have gc1:¬a.lo>a.hi∧(¬n.kd=6∨¬b.lo>b.hi):=gc0_ hc1
   have oz5:=@sumsK_v (n.kd)
   rcases bft (n.kd==1 || n.kd==2 || n.kd==3) with hc2|hc2
   ·have gc2:(n.kd=1∨n.kd=2)∨n.kd=3:=gc0_ hc2
    have oz7:=@summed_v (n) (a) ok p1 p2 wl bl
    exact (cR_ [r_,.r [] [cr oz0],r_,d_,.r [] [cr oz2,o_,o_,o_,o_,o_,o_,cr oz3,o_,.sel 2,.sel 1],d_,.r [] [cr oz5],b_,.r [] [cr oz7]] (AV.tup [AV.agg [i8 (sumG n a).fst.lo,i8 (sumG n a).fst.hi],i64 (sumG n a).snd]) Try.func70 (.d8 oz0 hc0 oz2 oz3 hc1 oz5 hc2 oz7)).weak (A_ _) (AA_ (.cons (AX_ (.cons (M_ (by (unfold nodeR;(repeat first|rw[i_ (by omega)]|rw[j_ (by omega)])))) (.cons (M_ (by (unfold nodeR;(repeat first|rw[i_ (by omega)]|rw[j_ (by omega)])))) .nil))) (.cons (M_ (by (unfold nodeR;(repeat first|rw[i_ (by omega)]|rw[j_ (by omega)])))) .nil)))
   ·have gc2:(¬n.kd=1∧¬n.kd=2)∧¬n.kd=3:=gc0_ hc2
    rcases bft (n.kd==6) with hc3|hc3
    ·have gc3:n.kd=6:=bet hc3
     have oz8:=@joinOne_v (a.lo) (b.lo) (n) ok p1 p3
     have oz9:=@joinOne_v (a.hi) (b.hi) (n) ok p2 p4
     exact (cR_ [r_,.r [] [cr oz0],r_,d_,.r [] [cr oz2,o_,o_,o_,o_,o_,o_,cr oz3,o_,.sel 2,.sel 1],d_,.r [] [cr oz5],d_,r_,b_,.r [] [cr oz8,cr oz9]] (AV.tup [AV.agg [i8 (joinE a.lo b.lo n),i8 (joinE a.hi b.hi n)],i64 0]) Try.func70 (.c8 oz0 hc0 oz2 oz3 hc1 oz5 hc2 hc3<|.d2 oz8 oz9)).weak (A_ _) (AA_ (.cons (AX_ (.cons (M_ (by (unfold nodeR;(repeat first|rw[i_ (by omega)]|rw[j_ (by omega)])))) (.cons (M_ (by (unfold nodeR;(repeat first|rw[i_ (by omega)]|rw[j_ (by omega)])))) .nil))) (.cons (M_ (by (unfold nodeR;(repeat first|rw[i_ (by omega)]|rw[j_ (by omega)])))) .nil)))
    ·have gc3:¬n.kd=6:=bef hc3
     rcases bft (n.kd==7) with hc4|hc4
     ·have gc4:n.kd=7:=bet hc4
      have oz9:=@actOne_w (a.lo) (n) ok p1
      have oz10:=@actOne_w (a.hi) (n) ok p2
      exact (cR_ [r_,.r [] [cr oz0],r_,d_,.r [] [cr oz2,o_,o_,o_,o_,o_,o_,cr oz3,o_,.sel 2,.sel 1],d_,.r [] [cr oz5],d_,r_,d_,r_,b_,.r [] [cr oz9,cr oz10]] (AV.tup [AV.agg [i8 (oneN a.lo n),i8 (oneN a.hi n)],i64 0]) Try.func70 (.c8 oz0 hc0 oz2 oz3 hc1 oz5 hc2 hc3<|.d3 hc4 oz9 oz10)).weak (A_ _) (AA_ (.cons (AX_ (.cons (M_ (by (unfold nodeR;(repeat first|rw[i_ (by omega)]|rw[j_ (by omega)])))) (.cons (M_ (by (unfold nodeR;(repeat first|rw[i_ (by omega)]|rw[j_ (by omega)])))) .nil))) (.cons (M_ (by (unfold nodeR;(repeat first|rw[i_ (by omega)]|rw[j_ (by omega)])))) .nil)))
     ·have gc4:¬n.kd=7:=bef hc4
      rcases bft (n.kd==8&&decide (n.np>0)) with hc5|hc5
      ·have gc5:n.kd=8∧n.np>0:=gc0_ hc5
       have oz10:=@over_v (n.za) (a.lo) (a.hi)
       exact (cR_ [r_,.r [] [cr oz0],r_,d_,.r [] [cr oz2,o_,o_,o_,o_,o_,o_,cr oz3,o_,.sel 2,.sel 1],d_,.r [] [cr oz5],d_,r_,d_,r_,d_,.r [] [o_,o_,o_,.sel 2],b_,.r [] [cr oz10]] (AV.tup [AV.agg [i8 (Rng.mk (min (min n.za a.lo) a.hi) (max (max n.za a.lo) a.hi)).lo,i8 (Rng.mk (min (min n.za a.lo) a.hi) (max (max n.za a.lo) a.hi)).hi],i64 0]) Try.func70 (.c8 oz0 hc0 oz2 oz3 hc1 oz5 hc2 hc3<|.d3 hc4 hc5 oz10)).weak (A_ _) (AA_ (.cons (AX_ (.cons (M_ (by (unfold nodeR;(repeat first|rw[i_ (by omega)]|rw[j_ (by omega)]);dsimp only;omega))) (.cons (M_ (by (unfold nodeR;(repeat first|rw[i_ (by omega)]|rw[j_ (by omega)]);dsimp only;omega))) .nil))) (.cons (M_ (by (unfold nodeR;(repeat first|rw[i_ (by omega)]|rw[j_ (by omega)])))) .nil)))
      ·have gc5:¬n.kd=8∨¬n.np>0:=gc0_ hc5
       exact (cR_ [r_,.r [] [cr oz0],r_,d_,.r [] [cr oz2,o_,o_,o_,o_,o_,o_,cr oz3,o_,.sel 2,.sel 1],d_,.r [] [cr oz5],d_,r_,d_,r_,d_,.r [] [o_,o_,o_,.sel 2],d_,r_] (AV.tup [AV.agg [i8 a.lo,i8 a.hi],i64 0]) Try.func70 (.c8 oz0 hc0 oz2 oz3 hc1 oz5 hc2 hc3<|.d2 hc4 hc5)).weak (A_ _) (AA_ (.cons (AX_ (.cons (M_ (by (unfold nodeR;(repeat first|rw[i_ (by omega)]|rw[j_ (by omega)])))) (.cons (M_ (by (unfold nodeR;(repeat first|rw[i_ (by omega)]|rw[j_ (by omega)])))) .nil))) (.cons (M_ (by (unfold nodeR;(repeat first|rw[i_ (by omega)]|rw[j_ (by omega)])))) .nil)))
end Go.Proofs.Ytdfihaminnmgpaa
