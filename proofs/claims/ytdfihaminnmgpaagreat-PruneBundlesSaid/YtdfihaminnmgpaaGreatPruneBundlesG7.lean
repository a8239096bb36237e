/- A part of this claim. No condition. -/
import Derived.Test.YtdfihaminnmgpaaGreatPruneBundlesG6
set_option maxRecDepth 100000
set_option maxHeartbeats 2000000
set_option linter.unusedVariables false
set_option linter.unusedSimpArgs false
set_option linter.unnecessarySimpa false
namespace Go.Proofs.YtdfihaminnmgpaaGreat
open Go.RowKit
open BlkW renaming rows→BU_
open Bool renaming and_eq_true→O_,and_eq_false_iff→P_,or_eq_false_iff→Q_,not_eq_false'→T_,not_eq_true'→U_,or_eq_true→X_,and_true→B_,true_and→BN_,false_eq_true→BV_,or_false→BW_
open Exit renaming exit→AA_,ret→DN_
open Int renaming toNat_of_nonneg→AB_,mul_nonneg→BK_,toNat_natCast→BO_,natCast_mul→BF_,mul_le_mul→CI_
open IntKind renaming i64→L_,i8→R_,i32→V_
open List renaming map→K_,length_map→S_,getElem?_eq_getElem→W_,getD_eq_getElem?_getD→Z_,map_replicate→A_,map_append→C_,map_cons→D_,map_take→AK_,map_drop→AL_,map_nil→AM_,map_set→AN_,getElem?_map→AR_,take→AW_,length_take→AE_,length_range→AG_,length_replicate→AH_,range→BM_,length_set→BA_,getElem?_set→BH_,getElem?_append_left→CN_,getElem?_eq_none→CP_,getElem?_append_right→CR_,mem_of_getElem?→CS_,mem_append→CW_,all_eq_true→CZ_,getElem?_replicate→CC_,getElem_mem→CD_,replicate→CE_
open Nat renaming le_refl→AT_
open Option renaming getD_some→BD_
open Tryz renaming prog→N_
open Value renaming int→AO_,slice→AY_,bool→AI_,agg→BG_
open Weak renaming int→M_,tup→AS_,agg→AV_,rows→CM_,nilr→CJ_,bool→DK_
open WeakL renaming refl→Y_
theorem map_take {α β:Type} (f:α→β) (l:List α) (d:α) {k:Nat} (hk:k<l.length):(l.take (k+1)).map f=(l.take k).map f++[f (l.getD k d)]:=by
 rw[List.take_add_one,Z_,W_ hk];simp only[Option.toList_some,C_,D_,AM_,BD_]
def actOf (T:Ten) (n:Nod):Ten×Int:=if tenRight T=false then (ten0,5) else if rightQ n.qm n.qs=false then (ten0,7) else (⟨T.h,T.x,T.c,T.d.map fun v=>oneN v n⟩,0)
noncomputable def ract_l_I (T:Ten) (n:Nod) (k:Nat):VS:=stt 40 [(2,.ptr 2 0 0),(3,.ptr 3 0 0),(4,.ptr 4 0 0),(6,.ptr 6 0 0),(7,i64 k)] [(2,.var [i64 T.h,i64 T.x,i64 T.c,ints .i8 T.d]),(3,.var (nodC n)),(4,.var [i64 0,i64 0,i64 0,nilv]),(6,.var [i64 T.h,i64 T.x,i64 T.c,.own 900]),(900,.slc 52 1 (((T.d.take k).map fun v=>oneN v n).map (row1 .i8)))]
noncomputable def ract_l_Z (T:Ten) (n:Nod):VS:=ract_l_I T n (T.d.length)
theorem ract_l_s (T:Ten) (n:Nod) (ok:T.Ok) (okn:n.Ok) (hl:T.d.length≤1024) (k:Nat) (hk:k<T.d.length):VT N_ (fnC Tryz.f144 [1,1,1,1,0,1,0,0]) (ract_l_I T n k) .normal (ract_l_I T n (k+1)):=by
 have g1:=gt8 ok.d k
 have g2:=map_take (fun v=>oneN v n) T.d 0 hk
 have g3:(K_ (row1 .i8) ((T.d.take k).map fun v=>oneN v n)).length=k:=by rw[S_,S_,AE_];omega
 have oz3:=@refActOne_v (T.d.getD k 0) (n) okn g1
 exact tR_ [r_,b_,.r [] [.row [i8 (T.d.getD k 0)],cr oz3],.r [] [.n ((↑k:Int)+1)]] [.any (rg [(20,19)]),.drop [36],.ren 37 900,.weak 7 (i64 (↑(k+1):Int)),.blk 900 (Blk.slc 52 1 (K_ (row1 .i8) (K_ (fun (v:Int)=>oneN v n) (AW_ (k+1) T.d)))),.sort] (.c8 (show decide ((↑k:Int)<((K_ (row1 .i8) T.d).length:Int))=true by (simp;omega)) (s_ (0≤(↑k:Int))) (map_at (row1 .i8) (0) (l:=T.d) (i:=k) hk) oz3 (s_ (((K_ (row1 .i8) (K_ (fun (v:Int)=>oneN v n) (AW_ k T.d))).length+1)*1≤140737488355328)) (s_ ((K_ (row1 .i8) (K_ (fun (v:Int)=>oneN v n) (AW_ k T.d))).length+1≤9223372036854775807)) (i6n ((↑k:Int)+1) (by omega)) (wS_ k)<|.d (show BlkW (Blk.slc 52 1 (K_ (row1 .i8) (K_ (fun (v:Int)=>oneN v n) (AW_ k T.d))++[[i8 (oneN (T.d.getD k 0) n)]])) (Blk.slc 52 1 (K_ (row1 .i8) (K_ (fun (v:Int)=>oneN v n) (AW_ (k+1) T.d)))) from (BU_ (e:=52) (z:=1) (rows_to (row1 .i8) (r:=K_ (row1 .i8) (K_ (fun (v:Int)=>oneN v n) (AW_ k T.d))++[[i8 (oneN (T.d.getD k 0) n)]]) (l:=K_ (fun (v:Int)=>oneN v n) (AW_ k T.d)++[oneN (T.d.getD k 0) n]) (m:=K_ (fun (v:Int)=>oneN v n) (AW_ (k+1) T.d)) (by first|(simp only[C_,D_,AM_,AN_,A_,AK_,AL_];done)|rfl|(simp only[C_,D_,AM_,AN_,A_,AK_,AL_];rfl)) (show (K_ (fun (v:Int)=>oneN v n) (AW_ k T.d)++[oneN (T.d.getD k 0) n])=(K_ (fun (v:Int)=>oneN v n) (AW_ (k+1) T.d)) from (by (rw[g2])))))))
theorem ract_l_e (T:Ten) (n:Nod) (ok:T.Ok) (okn:n.Ok) (hl:T.d.length≤1024):VT N_ (fnC Tryz.f144 [1,1,1,1,0,1,0,0]) (ract_l_I T n (T.d.length)) (.exit 0) (ract_l_Z T n):=by
 exact tR_ [r_,d_] [.any (rg [(20,5)]),.sort] (.d (show decide ((T.d.length:Int)<((K_ (row1 .i8) T.d).length:Int))=false by (simp;done)))
theorem ract_l (T:Ten) (n:Nod) (ok:T.Ok) (okn:n.Ok) (hl:T.d.length≤1024):VT N_ (fnC Tryz.f144 [1,1,1,1,0,1,0]) (ract_l_I T n 0) (.exit 0) (ract_l_Z T n) :=
 VT.loop (fun k=>ract_l_I T n k) (T.d.length) (fun k hk=>ract_l_s T n ok okn hl k hk) (ract_l_e T n ok okn hl) (by intro h;cases h)
theorem ract_v (T:Ten) (n:Nod) (ok:T.Ok) (okn:n.Ok):VC N_ 144 ([ten .i8 T,nod n]) (.tup [ten .i8 (actOf T n).1,i64 (actOf T n).2]):=by
 have g1:=@tenRight.rt T
 have g2:=fun h=>(g1 h).dl
 have g3:=fun h=>(g1 h).el
 have gk:(!tenRight T)=false→T.d.length≤1024:=fun h=>by
  have h1:tenRight T=true:=by cases e:tenRight T with
   | true=>rfl
   | false=>rw[e] at h;cases h
  have:=g2 h1;have:=g3 h1;omega
 have oz0:=@refTRight_v (T) ok
 rcases bft (!tenRight T) with hc0|hc0
 ·have gc0:tenRight T=false:=by first|exact hc0|exact of_decide_eq_true hc0|exact of_decide_eq_false hc0|simpa [eqNums] using hc0|(simp[eqNums] at hc0 ⊢;first|done|assumption|omega)
  exact (cR_ [r_,.r [] [cr oz0],b_,r_] (AV.tup [AV.agg [i64 0,i64 0,i64 0,AV.lit (AY_ none 0 0)],i64 5]) Tryz.func144 (.d2 oz0 hc0)).weak (Y_ _) (AS_ (.cons (AV_ (.cons (M_ (by (simp only[actOf];rw[i_ (by simp_all)];first|done|rfl))) (.cons (M_ (by (simp only[actOf];rw[i_ (by simp_all)];first|done|rfl))) (.cons (M_ (by (simp only[actOf];rw[i_ (by simp_all)];first|done|rfl))) (.cons (CJ_ (show []=(K_ (row1 .i8) (actOf T n).fst.d) from (by (simp only[actOf];rw[i_ (by simp_all)];first|done|rfl)))) .nil))))) (.cons (M_ (by (simp only[actOf];rw[i_ (by simp_all)];first|done|rfl))) .nil)))
 ·have gc0:tenRight T=true:=by first|exact hc0|exact of_decide_eq_true hc0|exact of_decide_eq_false hc0|simpa [eqNums] using hc0|(simp[eqNums] at hc0 ⊢;first|done|assumption|omega)
  have oz2:=@refRight_v (n.qm) (n.qs) (n.qz)
  rcases bft (!rightQ n.qm n.qs) with hc1|hc1
  ·have gc1:rightQ n.qm n.qs=false:=by first|exact hc1|exact of_decide_eq_true hc1|exact of_decide_eq_false hc1|simpa [eqNums] using hc1|(simp[eqNums] at hc1 ⊢;first|done|assumption|omega)
   exact (cR_ [r_,.r [] [cr oz0],d_,.r [] [cr oz2],b_,r_] (AV.tup [AV.agg [i64 0,i64 0,i64 0,AV.lit (AY_ none 0 0)],i64 7]) Tryz.func144 (.d4 oz0 hc0 oz2 hc1)).weak (Y_ _) (AS_ (.cons (AV_ (.cons (M_ (by (simp only[actOf];rw[j_ (by simp_all),i_ (by simp_all)];first|done|rfl))) (.cons (M_ (by (simp only[actOf];rw[j_ (by simp_all),i_ (by simp_all)];first|done|rfl))) (.cons (M_ (by (simp only[actOf];rw[j_ (by simp_all),i_ (by simp_all)];first|done|rfl))) (.cons (CJ_ (show []=(K_ (row1 .i8) (actOf T n).fst.d) from (by (simp only[actOf];rw[j_ (by simp_all),i_ (by simp_all)];first|done|rfl)))) .nil))))) (.cons (M_ (by (simp only[actOf];rw[j_ (by simp_all),i_ (by simp_all)];first|done|rfl))) .nil)))
  ·have gc1:rightQ n.qm n.qs=true:=by first|exact hc1|exact of_decide_eq_true hc1|exact of_decide_eq_false hc1|simpa [eqNums] using hc1|(simp[eqNums] at hc1 ⊢;first|done|assumption|omega)
   have oz5:=@ract_l (T) (n) ok okn (by (exact gk (by assumption)))
   exact (cR_ [r_,.r [] [cr oz0],d_,.r [] [cr oz2],d_,r_,r_,.code [.any [0,1,5,8,9,10,12,13,14,15,17,18,19],.weak 7 (i64 (↑0:Int)),.nilc 900 52 1 6 3,.sort] (AA_ 0) (zO oz5),r_] (AV.tup [AV.agg [i64 T.h,i64 T.x,i64 T.c,AV.sl 1 (K_ (row1 .i8) (K_ (fun (v:Int)=>oneN v n) (AW_ T.d.length T.d)))],i64 0]) Tryz.func144 (.d6 oz0 hc0 oz2 hc1 w0_ oz5)).weak (Y_ _) (AS_ (.cons (AV_ (.cons (M_ (by (simp only[actOf];rw[j_ (by simp_all),j_ (by simp_all)];first|done|rfl))) (.cons (M_ (by (simp only[actOf];rw[j_ (by simp_all),j_ (by simp_all)];first|done|rfl))) (.cons (M_ (by (simp only[actOf];rw[j_ (by simp_all),j_ (by simp_all)];first|done|rfl))) (.cons (CM_ (rows_to (row1 .i8) (r:=K_ (row1 .i8) (K_ (fun (v:Int)=>oneN v n) (AW_ T.d.length T.d))) (l:=K_ (fun (v:Int)=>oneN v n) (AW_ T.d.length T.d)) (m:=(actOf T n).fst.d) rfl (show (K_ (fun (v:Int)=>oneN v n) (AW_ T.d.length T.d))=((actOf T n).fst.d) from (by (simp only[actOf];rw[j_ (by simp_all),j_ (by simp_all),List.take_length]))))) .nil))))) (.cons (M_ (by (simp only[actOf];rw[j_ (by simp_all),j_ (by simp_all)];first|done|rfl))) .nil)))
def heldN (n:Nod) (v:Int):Int:=heldQ v n.qm n.qs n.qz n.lo n.hi
noncomputable def rall_l_I (l:List Int) (n:Nod) (k:Nat):VS:=stt 33 [(0,ints .i32 l),(2,i8 n.lo),(3,i8 n.hi),(5,.ptr 5 0 0),(9,.own 900),(10,i64 k)] [(5,.var [i32 n.qm,i64 n.qs,i8 n.qz]),(900,.slc 52 1 (((l.take k).map (heldN n)).map (row1 .i8)))]
noncomputable def rall_l_Z (l:List Int) (n:Nod):VS:=rall_l_I l n (l.length)
theorem rall_l_s (l:List Int) (n:Nod) (ok:n.Ok) (hl:l.length≤1024) (hd:∀ v∈l,In32 v) (hq:rightQ n.qm n.qs=true) (k:Nat) (hk:k<l.length):VT N_ (fnC Tryz.f180 [1,1,0,1,0,0]) (rall_l_I l n k) .normal (rall_l_I l n (k+1)):=by
 have g1:=gt32 hd k
 have g2:=map_take (heldN n) l 0 hk
 have g3:(K_ (row1 .i8) ((l.take k).map (heldN n))).length=k:=by rw[S_,S_,AE_];omega
 have g4:(K_ (row1 .i32) l).length=l.length:=S_ _
 have ok_qm:=ok.qm
 have ok_qz:=ok.qz
 have ok_lo:=ok.lo
 have ok_hi:=ok.hi
 have oz0:=(decide_eq_true (p:=((↑k:Int)<((K_ (row1 .i32) l).length:Int))) (by omega))
 have oz2:=@refRight_v (n.qm) (n.qs) (n.qz)
 have oz7:=@refHeld_v (l.getD k 0) (n.qm) (n.qs) (n.qz) (n.lo) (n.hi) g1 ok_qm ok_qz ok_lo ok_hi
 exact tR_ [.r [] [e_,e_,cr oz2,e_],b_,.r [] [.row [i32 (l.getD k 0)],cr oz7],.r [] [.n ((↑k:Int)+1)]] [.any (rg [(11,21)]),.drop [30],.ren 31 900,.weak 10 (i64 (↑(k+1):Int)),.blk 900 (Blk.slc 52 1 (K_ (row1 .i8) (K_ (heldN n) (AW_ (k+1) l)))),.sort] (.c8 oz0 oz0 oz2 oz0 hq (s_ (0≤(↑k:Int))) (map_at (row1 .i32) (0) (l:=l) (i:=k) hk) oz7<|.d5 (s_ (((K_ (row1 .i8) (K_ (heldN n) (AW_ k l))).length+1)*1≤140737488355328)) (s_ ((K_ (row1 .i8) (K_ (heldN n) (AW_ k l))).length+1≤9223372036854775807)) (i6n ((↑k:Int)+1) (by omega)) (wS_ k) (show BlkW (Blk.slc 52 1 (K_ (row1 .i8) (K_ (heldN n) (AW_ k l))++[[i8 (heldQ (l.getD k 0) n.qm n.qs n.qz n.lo n.hi)]])) (Blk.slc 52 1 (K_ (row1 .i8) (K_ (heldN n) (AW_ (k+1) l)))) from (BU_ (e:=52) (z:=1) (rows_to (row1 .i8) (r:=K_ (row1 .i8) (K_ (heldN n) (AW_ k l))++[[i8 (heldQ (l.getD k 0) n.qm n.qs n.qz n.lo n.hi)]]) (l:=K_ (heldN n) (AW_ k l)++[heldQ (l.getD k 0) n.qm n.qs n.qz n.lo n.hi]) (m:=K_ (heldN n) (AW_ (k+1) l)) (by first|(simp only[C_,D_,AM_,AN_,A_,AK_,AL_];done)|rfl|(simp only[C_,D_,AM_,AN_,A_,AK_,AL_];rfl)) (show (K_ (heldN n) (AW_ k l)++[heldQ (l.getD k 0) n.qm n.qs n.qz n.lo n.hi])=(K_ (heldN n) (AW_ (k+1) l)) from (by (rw[g2];rfl)))))))
theorem rall_l_e (l:List Int) (n:Nod) (ok:n.Ok) (hl:l.length≤1024) (hd:∀ v∈l,In32 v) (hq:rightQ n.qm n.qs=true):VT N_ (fnC Tryz.f180 [1,1,0,1,0,0]) (rall_l_I l n (l.length)) (.exit 0) (rall_l_Z l n):=by
 have g4:(K_ (row1 .i32) l).length=l.length:=S_ _
 have oz0:=(show decide ((l.length:Int)<((K_ (row1 .i32) l).length:Int)) = !true by (refine decide_eq_false ?_;omega))
 exact tR_ [.r [] [f_,f_,f_],d_] [.any (rg [(11,8)]),.sort] (.d4 oz0 oz0 (decide_eq_false (p:=((l.length:Int)<((K_ (row1 .i32) l).length:Int))) (by omega)) z2_)
theorem rall_l (l:List Int) (n:Nod) (ok:n.Ok) (hl:l.length≤1024) (hd:∀ v∈l,In32 v) (hq:rightQ n.qm n.qs=true):VT N_ (fnC Tryz.f180 [1,1,0,1,0]) (rall_l_I l n 0) (.exit 0) (rall_l_Z l n) :=
 VT.loop (fun k=>rall_l_I l n k) (l.length) (fun k hk=>rall_l_s l n ok hl hd hq k hk) (rall_l_e l n ok hl hd hq) (by intro h;cases h)
theorem rall_v (l:List Int) (n:Nod) (ok:n.Ok) (hl:l.length≤1024) (hd:∀ v∈l,In32 v) (hq:rightQ n.qm n.qs=true):VC N_ 180 ([ints .i32 l,.agg [i32 n.qm,i64 n.qs,i8 n.qz],i8 n.lo,i8 n.hi]) (ints .i8 (l.map (heldN n))):=by
 have oz1:=@rall_l (l) (n) ok hl hd hq
 exact (cR_ [r_,r_,r_,.code [.any [1,8],.weak 10 (i64 (↑0:Int)),.nils 9 900 52 1,.sort] (AA_ 0) (zO oz1),r_] (AV.sl 1 (K_ (row1 .i8) (K_ (heldN n) (AW_ l.length l)))) Tryz.func180 (.d2 w0_ oz1)).weak (Y_ _) (CM_ (rows_to (row1 .i8) (r:=K_ (row1 .i8) (K_ (heldN n) (AW_ l.length l))) (l:=K_ (heldN n) (AW_ l.length l)) (m:=K_ (heldN n) l) rfl (show (K_ (heldN n) (AW_ l.length l))=(K_ (heldN n) l) from (by (simp;done)))))
def putOf (A:Ten) (n:Nod):Ten×Int:=if elems A.h A.x A.c=0∨elems A.h A.x A.c≠(A.d.length:Int) then (ten0,5) else if rightQ n.qm n.qs=false then (ten0,7) else (⟨A.h,A.x,A.c,A.d.map (heldN n)⟩,0)
structure Ten.Ok32 (T:Ten):Prop where
 h:In64 T.h
 x:In64 T.x
 c:In64 T.c
 d:∀ v∈T.d,In32 v
theorem rput_v (A:Ten) (n:Nod) (ok:A.Ok32) (okn:n.Ok):VC N_ 148 ([ten .i32 A,nod n]) (.tup [ten .i8 (putOf A n).1,i64 (putOf A n).2]):=by
 obtain ⟨oh,ox,oc,g2⟩:=id ok
 have g1:=elems_in A.h A.x A.c
 have g3:(K_ (row1 .i32) A.d).length=A.d.length:=S_ _
 have gk:(elems A.h A.x A.c==0 || elems A.h A.x A.c != ((K_ (row1 .i32) A.d).length:Int))=false→A.d.length≤1024:=fun h=>by
  simp only[Q_,G_] at h;omega
 have oz0:=@refElems_v (A.h) (A.x) (A.c) oh ox oc
 rcases bft (elems A.h A.x A.c==0 || elems A.h A.x A.c != ((K_ (row1 .i32) A.d).length:Int)) with hc0|hc0
 ·have gc0:elems A.h A.x A.c=0∨¬elems A.h A.x A.c=((K_ (row1 .i32) A.d).length:Int):=gc0_ hc0
  exact (cR_ [r_,.r [] [cr oz0,o_,o_,o_,cr oz0,o_,o_,o_,o_,.sel 1],b_,r_] (AV.tup [AV.agg [i64 0,i64 0,i64 0,AV.lit (AY_ none 0 0)],i64 5]) Tryz.func148 (.d3 oz0 oz0 hc0)).weak (Y_ _) (AS_ (.cons (AV_ (.cons (M_ (by (simp only[putOf];rw[i_ (by simp_all)];first|done|rfl))) (.cons (M_ (by (simp only[putOf];rw[i_ (by simp_all)];first|done|rfl))) (.cons (M_ (by (simp only[putOf];rw[i_ (by simp_all)];first|done|rfl))) (.cons (CJ_ (show []=(K_ (row1 .i8) (putOf A n).fst.d) from (by (simp only[putOf];rw[i_ (by simp_all)];first|done|rfl)))) .nil))))) (.cons (M_ (by (simp only[putOf];rw[i_ (by simp_all)];first|done|rfl))) .nil)))
 ·have gc0:¬elems A.h A.x A.c=0∧elems A.h A.x A.c=((K_ (row1 .i32) A.d).length:Int):=gc0_ hc0
  have oz3:=@refRight_v (n.qm) (n.qs) (n.qz)
  rcases bft (!rightQ n.qm n.qs) with hc1|hc1
  ·have gc1:rightQ n.qm n.qs=false:=by first|exact hc1|exact of_decide_eq_true hc1|exact of_decide_eq_false hc1|simpa [eqNums] using hc1|(simp[eqNums] at hc1 ⊢;first|done|assumption|omega)
   exact (cR_ [r_,.r [] [cr oz0,o_,o_,o_,cr oz0,o_,o_,o_,o_,.sel 1],d_,.r [] [cr oz3],b_,r_] (AV.tup [AV.agg [i64 0,i64 0,i64 0,AV.lit (AY_ none 0 0)],i64 7]) Tryz.func148 (.d5 oz0 oz0 hc0 oz3 hc1)).weak (Y_ _) (AS_ (.cons (AV_ (.cons (M_ (by (simp only[putOf];rw[j_ (by simp_all),i_ (by simp_all)];first|done|rfl))) (.cons (M_ (by (simp only[putOf];rw[j_ (by simp_all),i_ (by simp_all)];first|done|rfl))) (.cons (M_ (by (simp only[putOf];rw[j_ (by simp_all),i_ (by simp_all)];first|done|rfl))) (.cons (CJ_ (show []=(K_ (row1 .i8) (putOf A n).fst.d) from (by (simp only[putOf];rw[j_ (by simp_all),i_ (by simp_all)];first|done|rfl)))) .nil))))) (.cons (M_ (by (simp only[putOf];rw[j_ (by simp_all),i_ (by simp_all)];first|done|rfl))) .nil)))
  ·have gc1:rightQ n.qm n.qs=true:=by first|exact hc1|exact of_decide_eq_true hc1|exact of_decide_eq_false hc1|simpa [eqNums] using hc1|(simp[eqNums] at hc1 ⊢;first|done|assumption|omega)
   have oz5:=@rall_v (A.d) (n) okn (by omega) g2 gc1
   exact (cR_ [r_,.r [] [cr oz0,o_,o_,o_,cr oz0,o_,o_,o_,o_,.sel 1],d_,.r [] [cr oz3],d_,.r [] [cr oz5]] (AV.tup [AV.agg [i64 A.h,i64 A.x,i64 A.c,AV.sl 1 (K_ (row1 .i8) (K_ (heldN n) A.d))],i64 0]) Tryz.func148 (.d6 oz0 oz0 hc0 oz3 hc1 oz5)).weak (Y_ _) (AS_ (.cons (AV_ (.cons (M_ (by (simp only[putOf];rw[j_ (by simp_all),j_ (by simp_all)];first|done|rfl))) (.cons (M_ (by (simp only[putOf];rw[j_ (by simp_all),j_ (by simp_all)];first|done|rfl))) (.cons (M_ (by (simp only[putOf];rw[j_ (by simp_all),j_ (by simp_all)];first|done|rfl))) (.cons (CM_ (rows_to (row1 .i8) (r:=K_ (row1 .i8) (K_ (heldN n) A.d)) (l:=K_ (heldN n) A.d) (m:=(putOf A n).fst.d) rfl (show (K_ (heldN n) A.d)=((putOf A n).fst.d) from (by (simp only[putOf];rw[j_ (by simp_all),j_ (by simp_all)];first|done|rfl))))) .nil))))) (.cons (M_ (by (simp only[putOf];rw[j_ (by simp_all),j_ (by simp_all)];first|done|rfl))) .nil)))
def joinOf (T U:Ten) (n:Nod):Ten×Int:=if (tenRight T&&tenRight U&&decide (T.h=U.h∧T.x=U.x∧T.c=U.c))=false then (ten0,5) else if (rightQ n.qm n.qs&&rightQ n.rm n.rs)=false then (ten0,7) else (⟨T.h,T.x,T.c,(BM_ T.d.length).map fun i=>joinE (T.d.getD i 0) (U.d.getD i 0) n⟩,0)
noncomputable def rjoin_l_I (T U:Ten) (n:Nod) (k:Nat):VS:=stt 65 [(3,.ptr 3 0 0),(4,.ptr 4 0 0),(5,.ptr 5 0 0),(6,.ptr 6 0 0),(8,.ptr 8 0 0),(9,i64 k)] [(3,.var [i64 T.h,i64 T.x,i64 T.c,ints .i8 T.d]),(4,.var [i64 U.h,i64 U.x,i64 U.c,ints .i8 U.d]),(5,.var (nodC n)),(6,.var [i64 0,i64 0,i64 0,nilv]),(8,.var [i64 T.h,i64 T.x,i64 T.c,.own 900]),(900,.slc 52 1 (((BM_ k).map fun i=>joinE (T.d.getD i 0) (U.d.getD i 0) n).map (row1 .i8)))]
noncomputable def rjoin_l_Z (T U:Ten) (n:Nod):VS:=rjoin_l_I T U n (T.d.length)
theorem rjoin_l_s (T U:Ten) (n:Nod) (ok:T.Ok) (oku:U.Ok) (okn:n.Ok) (hl:T.d.length≤1024) (hu:U.d.length=T.d.length) (k:Nat) (hk:k<T.d.length):VT N_ (fnC Tryz.f143 [1,1,1,1,0,1,0,0]) (rjoin_l_I T U n k) .normal (rjoin_l_I T U n (k+1)):=by
 have g1:=gt8 ok.d k
 have g2:=gt8 oku.d k
 have g3:(K_ (row1 .i8) ((BM_ k).map fun i=>joinE (T.d.getD i 0) (U.d.getD i 0) n)).length=k:=by rw[S_,S_,AG_]
 have oz1:=(s_ (0≤(↑k:Int)))
 have oz5:=@refJoinOne_v (T.d.getD k 0) (U.d.getD k 0) (n) okn g1 g2
 exact tR_ [r_,b_,.r [] [.row [i8 (T.d.getD k 0)],.row [i8 (U.d.getD k 0)],cr oz5],.r [] [.n ((↑k:Int)+1)]] [.any (rg [(40,24)]),.drop [61],.ren 62 900,.weak 9 (i64 (↑(k+1):Int)),.blk 900 (Blk.slc 52 1 (K_ (row1 .i8) (K_ (fun (i:Nat)=>joinE (T.d.getD i 0) (U.d.getD i 0) n) (BM_ (k+1))))),.sort] (.c8 (show decide ((↑k:Int)<((K_ (row1 .i8) T.d).length:Int))=true by (simp;omega)) oz1 (map_at (row1 .i8) (0) (l:=T.d) (i:=k) hk) oz1 (map_at (row1 .i8) (0) (l:=U.d) (i:=k) (by omega)) oz5 (s_ (((K_ (row1 .i8) (K_ (fun (i:Nat)=>joinE (T.d.getD i 0) (U.d.getD i 0) n) (BM_ k))).length+1)*1≤140737488355328)) (s_ ((K_ (row1 .i8) (K_ (fun (i:Nat)=>joinE (T.d.getD i 0) (U.d.getD i 0) n) (BM_ k))).length+1≤9223372036854775807))<|.d3 (i6n ((↑k:Int)+1) (by omega)) (wS_ k) (show BlkW (Blk.slc 52 1 (K_ (row1 .i8) (K_ (fun (i:Nat)=>joinE (T.d.getD i 0) (U.d.getD i 0) n) (BM_ k))++[[i8 (joinE (T.d.getD k 0) (U.d.getD k 0) n)]])) (Blk.slc 52 1 (K_ (row1 .i8) (K_ (fun (i:Nat)=>joinE (T.d.getD i 0) (U.d.getD i 0) n) (BM_ (k+1))))) from (BU_ (e:=52) (z:=1) (rows_to (row1 .i8) (r:=K_ (row1 .i8) (K_ (fun (i:Nat)=>joinE (T.d.getD i 0) (U.d.getD i 0) n) (BM_ k))++[[i8 (joinE (T.d.getD k 0) (U.d.getD k 0) n)]]) (l:=K_ (fun (i:Nat)=>joinE (T.d.getD i 0) (U.d.getD i 0) n) (BM_ k)++[joinE (T.d.getD k 0) (U.d.getD k 0) n]) (m:=K_ (fun (i:Nat)=>joinE (T.d.getD i 0) (U.d.getD i 0) n) (BM_ (k+1))) (by first|(simp only[C_,D_,AM_,AN_,A_,AK_,AL_];done)|rfl|(simp only[C_,D_,AM_,AN_,A_,AK_,AL_];rfl)) (show (K_ (fun (i:Nat)=>joinE (T.d.getD i 0) (U.d.getD i 0) n) (BM_ k)++[joinE (T.d.getD k 0) (U.d.getD k 0) n])=(K_ (fun (i:Nat)=>joinE (T.d.getD i 0) (U.d.getD i 0) n) (BM_ (k+1))) from (by (rw[List.range_succ,C_];rfl)))))))
theorem rjoin_l_e (T U:Ten) (n:Nod) (ok:T.Ok) (oku:U.Ok) (okn:n.Ok) (hl:T.d.length≤1024) (hu:U.d.length=T.d.length):VT N_ (fnC Tryz.f143 [1,1,1,1,0,1,0,0]) (rjoin_l_I T U n (T.d.length)) (.exit 0) (rjoin_l_Z T U n):=by
 exact tR_ [r_,d_] [.any (rg [(40,5)]),.sort] (.d (show decide ((T.d.length:Int)<((K_ (row1 .i8) T.d).length:Int))=false by (simp;done)))
theorem rjoin_l (T U:Ten) (n:Nod) (ok:T.Ok) (oku:U.Ok) (okn:n.Ok) (hl:T.d.length≤1024) (hu:U.d.length=T.d.length):VT N_ (fnC Tryz.f143 [1,1,1,1,0,1,0]) (rjoin_l_I T U n 0) (.exit 0) (rjoin_l_Z T U n) :=
 VT.loop (fun k=>rjoin_l_I T U n k) (T.d.length) (fun k hk=>rjoin_l_s T U n ok oku okn hl hu k hk) (rjoin_l_e T U n ok oku okn hl hu) (by intro h;cases h)
theorem rjoin_v (T U:Ten) (n:Nod) (ok:T.Ok) (oku:U.Ok) (okn:n.Ok):VC N_ 143 ([ten .i8 T,ten .i8 U,nod n]) (.tup [ten .i8 (joinOf T U n).1,i64 (joinOf T U n).2]):=by
 have g1:=@tenRight.rt T
 have g2:=fun h=>(g1 h).dl
 have g3:=fun h=>(g1 h).el
 have k1:=@tenRight.rt U
 have k2:=fun h=>(k1 h).dl
 have gq:(!rightQ n.qm n.qs || !rightQ n.rm n.rs)=true→(rightQ n.qm n.qs&&rightQ n.rm n.rs)=false:=by cases rightQ n.qm n.qs<;>cases rightQ n.rm n.rs<;>simp
 have gk:(!tenRight T || !tenRight U || !eqNums [(L_,T.h,U.h),(L_,T.x,U.x),(L_,T.c,U.c)])=false→T.d.length≤1024∧U.d.length=T.d.length:=fun h=>by
  simp only[Q_,T_,eqNums,O_,I_] at h
  obtain ⟨⟨h1,h2⟩,h3,h4,h5,_⟩:=h
  have a1:=g2 h1;have a2:=g3 h1;have a3:=k2 h2
  rw[←h3,←h4,←h5] at a3
  exact ⟨by omega,by omega⟩
 have gj:(!tenRight T || !tenRight U || !eqNums [(L_,T.h,U.h),(L_,T.x,U.x),(L_,T.c,U.c)]) = !(tenRight T&&tenRight U&&decide (T.h=U.h∧T.x=U.x∧T.c=U.c)):=by
  have e:eqNums [(L_,T.h,U.h),(L_,T.x,U.x),(L_,T.c,U.c)]=decide (T.h=U.h∧T.x=U.x∧T.c=U.c):=by
   rw[Bool.eq_iff_iff];simp[eqNums]
  rw[e];cases tenRight T<;>cases tenRight U<;>simp
 have gz:(!tenRight T || !tenRight U || !eqNums [(L_,T.h,U.h),(L_,T.x,U.x),(L_,T.c,U.c)])=true→(tenRight T&&tenRight U&&decide (T.h=U.h∧T.x=U.x∧T.c=U.c))=false:=fun h=>by rw[gj] at h;simpa only [U_] using h
 have gn:(!tenRight T || !tenRight U || !eqNums [(L_,T.h,U.h),(L_,T.x,U.x),(L_,T.c,U.c)])=false→¬ (tenRight T&&tenRight U&&decide (T.h=U.h∧T.x=U.x∧T.c=U.c))=false:=fun h=>by rw[gj] at h;simp only[T_] at h;rw[h];simp
 have oz0:=@refTRight_v (T) ok
 have oz1:=@refTRight_v (U) oku
 have oz2:=(show BinTo N_ BinOp.neq 23 (Operand.tmp 20) (Operand.tmp 22) (BG_ #[AO_ L_ T.h,AO_ L_ T.x,AO_ L_ T.c]) (BG_ #[AO_ L_ U.h,AO_ L_ U.x,AO_ L_ U.c]) (AI_ !eqNums [(L_,T.h,U.h),(L_,T.x,U.x),(L_,T.c,U.c)]) from ((bin_nums (l:=[(L_,T.h,U.h),(L_,T.x,U.x),(L_,T.c,U.c)]) (by kernel_rfl) (by kernel_rfl) (by kernel_rfl) (by kernel_rfl) _ _).2))
 rcases bft (!tenRight T || !tenRight U || !eqNums [(L_,T.h,U.h),(L_,T.x,U.x),(L_,T.c,U.c)]) with hc0|hc0
 ·have gc0:(tenRight T=false∨tenRight U=false)∨¬(T.h=U.h∧T.x=U.x∧T.c=U.c):=gc0_ hc0
  exact (cR_ [r_,.r [] [cr oz0,o_,o_,cr oz1,o_,.sel 1,o_,o_,o_,o_,o_,.v (AI_ !eqNums [(L_,T.h,U.h),(L_,T.x,U.x),(L_,T.c,U.c)]),.sel 1],b_,r_] (AV.tup [AV.agg [i64 0,i64 0,i64 0,AV.lit (AY_ none 0 0)],i64 5]) Tryz.func143 (.d4 oz0 oz1 oz2 hc0)).weak (Y_ _) (AS_ (.cons (AV_ (.cons (M_ (by (simp only[joinOf];rw[i_ (gz (by assumption))];first|done|rfl))) (.cons (M_ (by (simp only[joinOf];rw[i_ (gz (by assumption))];first|done|rfl))) (.cons (M_ (by (simp only[joinOf];rw[i_ (gz (by assumption))];first|done|rfl))) (.cons (CJ_ (show []=(K_ (row1 .i8) (joinOf T U n).fst.d) from (by (simp only[joinOf];rw[i_ (gz (by assumption))];first|done|rfl)))) .nil))))) (.cons (M_ (by (simp only[joinOf];rw[i_ (gz (by assumption))];first|done|rfl))) .nil)))
 ·have gc0:(tenRight T=true∧tenRight U=true)∧T.h=U.h∧T.x=U.x∧T.c=U.c:=gc0_ hc0
  have oz4:=@refRight_v (n.qm) (n.qs) (n.qz)
  have oz5:=@refRight_v (n.rm) (n.rs) (n.rz)
  rcases bft (!rightQ n.qm n.qs || !rightQ n.rm n.rs) with hc1|hc1
  ·have gc1:rightQ n.qm n.qs=false∨rightQ n.rm n.rs=false:=gc0_ hc1
   exact (cR_ [r_,.r [] [cr oz0,o_,o_,cr oz1,o_,.sel 1,o_,o_,o_,o_,o_,.v (AI_ !eqNums [(L_,T.h,U.h),(L_,T.x,U.x),(L_,T.c,U.c)]),.sel 1],d_,.r [] [cr oz4,o_,o_,o_,cr oz5,o_,.sel 1],b_,r_] (AV.tup [AV.agg [i64 0,i64 0,i64 0,AV.lit (AY_ none 0 0)],i64 7]) Tryz.func143 (.d7 oz0 oz1 oz2 hc0 oz4 oz5 hc1)).weak (Y_ _) (AS_ (.cons (AV_ (.cons (M_ (by (simp only[joinOf];rw[j_ (gn (by assumption)),i_ (gq (by assumption))];first|done|rfl))) (.cons (M_ (by (simp only[joinOf];rw[j_ (gn (by assumption)),i_ (gq (by assumption))];first|done|rfl))) (.cons (M_ (by (simp only[joinOf];rw[j_ (gn (by assumption)),i_ (gq (by assumption))];first|done|rfl))) (.cons (CJ_ (show []=(K_ (row1 .i8) (joinOf T U n).fst.d) from (by (simp only[joinOf];rw[j_ (gn (by assumption)),i_ (gq (by assumption))];first|done|rfl)))) .nil))))) (.cons (M_ (by (simp only[joinOf];rw[j_ (gn (by assumption)),i_ (gq (by assumption))];first|done|rfl))) .nil)))
  ·have gc1:rightQ n.qm n.qs=true∧rightQ n.rm n.rs=true:=gc0_ hc1
   have oz8:=@rjoin_l (T) (U) (n) ok oku okn (by (exact (gk (by assumption)).1)) (by (exact (gk (by assumption)).2))
   exact (cR_ [r_,.r [] [cr oz0,o_,o_,cr oz1,o_,.sel 1,o_,o_,o_,o_,o_,.v (AI_ !eqNums [(L_,T.h,U.h),(L_,T.x,U.x),(L_,T.c,U.c)]),.sel 1],d_,.r [] [cr oz4,o_,o_,o_,cr oz5,o_,.sel 1],d_,r_,r_,.code [.any (rg [(0,3),(7,1),(10,4),(17,2),(24,1),(26,5),(35,1),(37,3)]),.weak 9 (i64 (↑0:Int)),.nilc 900 52 1 8 3,.sort] (AA_ 0) (zO oz8),r_] (AV.tup [AV.agg [i64 T.h,i64 T.x,i64 T.c,AV.sl 1 (K_ (row1 .i8) (K_ (fun (i:Nat)=>joinE (T.d.getD i 0) (U.d.getD i 0) n) (BM_ T.d.length)))],i64 0]) Tryz.func143 (.c8 oz0 oz1 oz2 hc0 oz4 oz5 hc1 w0_<|.d oz8)).weak (Y_ _) (AS_ (.cons (AV_ (.cons (M_ (by (simp only[joinOf];rw[j_ (gn (by assumption)),j_ (by cases e1:rightQ n.qm n.qs<;>cases e2:rightQ n.rm n.rs<;>simp_all)];first|done|rfl))) (.cons (M_ (by (simp only[joinOf];rw[j_ (gn (by assumption)),j_ (by cases e1:rightQ n.qm n.qs<;>cases e2:rightQ n.rm n.rs<;>simp_all)];first|done|rfl))) (.cons (M_ (by (simp only[joinOf];rw[j_ (gn (by assumption)),j_ (by cases e1:rightQ n.qm n.qs<;>cases e2:rightQ n.rm n.rs<;>simp_all)];first|done|rfl))) (.cons (CM_ (rows_to (row1 .i8) (r:=K_ (row1 .i8) (K_ (fun (i:Nat)=>joinE (T.d.getD i 0) (U.d.getD i 0) n) (BM_ T.d.length))) (l:=K_ (fun (i:Nat)=>joinE (T.d.getD i 0) (U.d.getD i 0) n) (BM_ T.d.length)) (m:=(joinOf T U n).fst.d) rfl (show (K_ (fun (i:Nat)=>joinE (T.d.getD i 0) (U.d.getD i 0) n) (BM_ T.d.length))=((joinOf T U n).fst.d) from (by (simp only[joinOf];rw[j_ (gn (by assumption)),j_ (by cases e1:rightQ n.qm n.qs<;>cases e2:rightQ n.rm n.rs<;>simp_all)];first|done|rfl))))) .nil))))) (.cons (M_ (by (simp only[joinOf];rw[j_ (gn (by assumption)),j_ (by cases e1:rightQ n.qm n.qs<;>cases e2:rightQ n.rm n.rs<;>simp_all)];first|done|rfl))) .nil)))
theorem nodEq_false {a b:Nod} (h:(a.kd != b.kd || a.na != b.na || a.nb != b.nb || a.nk != b.nk || a.ns != b.ns || a.np != b.np || a.no != b.no)=true):false=nodEq a b:=by
 symm
 rw[Bool.eq_false_iff]
 intro h'
 have h':=(nodEq_iff _ _).1 h'
 subst h'
 simp at h
theorem nodEq_rest {a b:Nod} (h:(a.kd != b.kd || a.na != b.na || a.nb != b.nb || a.nk != b.nk || a.ns != b.ns || a.np != b.np || a.no != b.no)=false) :
  (a.za==b.za&&a.zb==b.zb&&a.lo==b.lo&&a.hi==b.hi&&eqNums [(V_,a.qm,b.qm),(L_,a.qs,b.qs),(R_,a.qz,b.qz)]&&eqNums [(V_,a.rm,b.rm),(L_,a.rs,b.rs),(R_,a.rz,b.rz)]&&decide (a.w=b.w)&&decide (a.b=b.b))=nodEq a b:=by
 simp only[Q_,G_] at h
 obtain ⟨⟨⟨⟨⟨⟨h1,h2⟩,h3⟩,h4⟩,h5⟩,h6⟩,h7⟩:=h
 rw[Bool.eq_iff_iff]
 simp only[nodEq,eqNums,h1,h2,h3,h4,h5,h6,h7,O_,E_,I_,true_and,and_true]
 constructor
 ·rintro ⟨⟨⟨⟨⟨⟨⟨q1,q2⟩,q3⟩,q4⟩,q5⟩,q6⟩,q7⟩,q8⟩;exact ⟨⟨⟨⟨q7,q8⟩,q1,q2,q3,q4⟩,q5⟩,q6⟩
 ·rintro ⟨⟨⟨⟨q7,q8⟩,q1,q2,q3,q4⟩,q5⟩,q6⟩;exact ⟨⟨⟨⟨⟨⟨⟨q1,q2⟩,q3⟩,q4⟩,q5⟩,q6⟩,q7⟩,q8⟩
theorem refSame_v (a b:Nod) (hw:a.w.length≤100000) (hb:a.b.length≤100000):VC N_ 102 ([nod a,nod b]) (bv (nodEq a b)):=by
 rcases bft (a.kd != b.kd || a.na != b.na || a.nb != b.nb || a.nk != b.nk || a.ns != b.ns || a.np != b.np || a.no != b.no) with hc0|hc0
 ·have gc0:(((((¬a.kd=b.kd∨¬a.na=b.na)∨¬a.nb=b.nb)∨¬a.nk=b.nk)∨¬a.ns=b.ns)∨¬a.np=b.np)∨¬a.no=b.no:=gc0_ hc0
  exact (cR_ [r_,.r [] [o_,o_,o_,o_,o_,.sel 1,o_,o_,o_,o_,o_,.sel 1,o_,o_,o_,o_,o_,.sel 1,o_,o_,o_,o_,o_,.sel 1,o_,o_,o_,o_,o_,.sel 1,o_,o_,o_,o_,o_,.sel 1],b_,r_] (bv false) Tryz.func102 (.d hc0)).weak (Y_ _) (DK_ (by (exact nodEq_false (by assumption))))
 ·have gc0:(((((a.kd=b.kd∧a.na=b.na)∧a.nb=b.nb)∧a.nk=b.nk)∧a.ns=b.ns)∧a.np=b.np)∧a.no=b.no:=gc0_ hc0
  have oz3:=@rsame8_v (a.w) (b.w) (by omega)
  have oz4:=@rsame32_v (a.b) (b.b) (by omega)
  exact (cR_ [r_,.r [] [o_,o_,o_,o_,o_,.sel 1,o_,o_,o_,o_,o_,.sel 1,o_,o_,o_,o_,o_,.sel 1,o_,o_,o_,o_,o_,.sel 1,o_,o_,o_,o_,o_,.sel 1,o_,o_,o_,o_,o_,.sel 1],d_,.r [] [o_,o_,o_,o_,o_,.sel 2,o_,o_,o_,o_,o_,.sel 2,o_,o_,o_,o_,o_,.sel 2,o_,o_,o_,o_,o_,.v (AI_ (eqNums [(V_,a.qm,b.qm),(L_,a.qs,b.qs),(R_,a.qz,b.qz)])),.sel 2,o_,o_,o_,o_,o_,.v (AI_ (eqNums [(V_,a.rm,b.rm),(L_,a.rs,b.rs),(R_,a.rz,b.rz)])),.sel 2,o_,o_,o_,o_,o_,cr oz3,.sel 2,o_,o_,o_,o_,o_,cr oz4,.sel 2]] (bv (a.za==b.za&&a.zb==b.zb&&a.lo==b.lo&&a.hi==b.hi&&eqNums [(V_,a.qm,b.qm),(L_,a.qs,b.qs),(R_,a.qz,b.qz)]&&eqNums [(V_,a.rm,b.rm),(L_,a.rs,b.rs),(R_,a.rz,b.rz)]&&decide (a.w=b.w)&&decide (a.b=b.b))) Tryz.func102 (.d5 hc0 (show BinTo N_ BinOp.eql 54 (Operand.tmp 80) (Operand.tmp 82) (BG_ #[AO_ V_ a.qm,AO_ L_ a.qs,AO_ R_ a.qz]) (BG_ #[AO_ V_ b.qm,AO_ L_ b.qs,AO_ R_ b.qz]) (AI_ (eqNums [(V_,a.qm,b.qm),(L_,a.qs,b.qs),(R_,a.qz,b.qz)])) from ((bin_nums (l:=[(V_,a.qm,b.qm),(L_,a.qs,b.qs),(R_,a.qz,b.qz)]) (by kernel_rfl) (by kernel_rfl) (by kernel_rfl) (by kernel_rfl) _ _).1)) (show BinTo N_ BinOp.eql 54 (Operand.tmp 87) (Operand.tmp 89) (BG_ #[AO_ V_ a.rm,AO_ L_ a.rs,AO_ R_ a.rz]) (BG_ #[AO_ V_ b.rm,AO_ L_ b.rs,AO_ R_ b.rz]) (AI_ (eqNums [(V_,a.rm,b.rm),(L_,a.rs,b.rs),(R_,a.rz,b.rz)])) from ((bin_nums (l:=[(V_,a.rm,b.rm),(L_,a.rs,b.rs),(R_,a.rz,b.rz)]) (by kernel_rfl) (by kernel_rfl) (by kernel_rfl) (by kernel_rfl) _ _).1)) oz3 oz4)).weak (Y_ _) (DK_ (by (exact nodEq_rest (by assumption))))
def nodeOf (n:Nod) (A B:Ten):Ten×Int :=
 if checkE n≠0 then (ten0,checkE n) else if tenRight A=false then (ten0,5)
 else if n.kd=4 then poolOf A n true else if n.kd=5 then poolOf A n false else if n.kd=6 then joinOf A B n else if n.kd=7 then actOf A n
 else if n.kd=8 then (if mayE A n.np≠0 then (ten0,mayE A n.np) else padOf A n.np n.za)
 else if n.kd=9 then (⟨1,1,A.d.length,A.d⟩,0)
 else if (sumOf A n).2≠0 then (ten0,(sumOf A n).2) else putOf (sumOf A n).1 n
theorem refH_32 (T:Ten) (n:Nod):∀ h,∀ v∈refH T n h,In32 v
 | 0=>by simp[refH]
 | h+1=>by
  have gW:∀ w,∀ v∈refW T n h w,In32 v:=by
   intro w
   induction w with
   | zero=>simp[refW]
   | succ w ih =>
    intro v hv
    rw[refW,CW_] at hv
    rcases hv with hv|hv
    ·exact ih v hv
    ·unfold refO at hv
     obtain ⟨c,_,rfl⟩:=List.mem_map.1 hv
     unfold In32;simp only[IntKind.wrap_i32];omega
  intro v hv
  rw[refH,CW_] at hv
  rcases hv with hv|hv
  ·exact refH_32 T n h v hv
  ·exact gW _ v hv
theorem gH_32 {f:Nat→Nat→Nat→Int} (hf:∀ h w c,In32 (f h w c)) (m x:Nat):∀ y,∀ v∈gH f m x y,In32 v
 | 0=>by simp[gH]
 | y+1=>by
  have gW8:∀ w,∀ v∈gW f m y w,In32 v:=by
   intro w
   induction w with
   | zero=>simp[gW]
   | succ w ih =>
    intro v hv
    rw[gW,CW_] at hv
    rcases hv with hv|hv
    ·exact ih v hv
    ·unfold gO at hv
     obtain ⟨c,_,rfl⟩:=List.mem_map.1 hv
     exact hf _ _ _
  intro v hv
  rw[gH,CW_] at hv
  rcases hv with hv|hv
  ·exact gH_32 hf m x y v hv
  ·exact gW8 x v hv
theorem sumOf_ok {T:Ten} {n:Nod} (ok:T.Ok) (okn:n.Ok):(sumOf T n).1.Ok32:=by
 have z:(ten0:Ten).Ok32:=⟨by decide,by decide,by decide,by simp⟩
 unfold sumOf
 split
 ·unfold convOf
  split
  ·exact z
  ·split
   ·exact z
   ·rename_i h1 h2
    have k:CvOk T n:=⟨ok,okn,by simpa using h1,by simpa using h2⟩
    have nn:=k.n
    have h3:=nn.he;have h4:=nn.xe;have h5:=nn.sc;have h6:=nn.o1;have h7:=nn.o2
    exact ⟨by dsimp only;omega,by dsimp only;omega,by dsimp only;omega,by dsimp only;rw[outL_fin k];exact refH_32 T n _⟩
 ·split
  ·unfold depthOf
   split
   ·exact z
   ·split
    ·exact z
    ·rename_i h1 h2
     have k:DpOk T n:=⟨ok,okn,by simpa using h1,by simpa using h2⟩
     have nn:=k.n
     have h3:=nn.he;have h4:=nn.xe;have h5:=nn.sc;have h6:=nn.c1;have h7:=nn.c2
     refine ⟨by dsimp only;omega,by dsimp only;omega,by dsimp only;omega,?_⟩
     dsimp only;rw[dL_eq k]
     exact gH_32 (fun h w c=>by unfold dF In32;simp only[IntKind.wrap_i32];omega) _ _ _
  ·split
   ·unfold denseOf
    split
    ·exact z
    ·split
     ·exact z
     ·rename_i h1 h2
      obtain ⟨e1,e2,e3,e4,e5,e6,e7⟩:=denseE_ok (t:=⟨T.h,T.x,T.c⟩) (n:=n) (by simpa using h2)
      rw[e7]
      refine ⟨by dsimp only;omega,by dsimp only;omega,by dsimp only;omega,?_⟩
      intro v hv
      unfold lineL at hv
      obtain ⟨c,_,rfl⟩:=List.mem_map.1 hv
      unfold In32;simp only[IntKind.wrap_i32];omega
   ·exact z
theorem rnode_v (n:Nod) (A B:Ten) (ok:n.Ok) (hw:n.w.length≤100000) (hb:n.b.length≤100000) (okA:A.Ok) (okB:B.Ok):VC N_ 121 ([nod n,ten .i8 A,ten .i8 B]) (.tup [ten .i8 (nodeOf n A B).1,i64 (nodeOf n A B).2]):=by
 have g1:=sumOf_ok okA ok
 have g2:=@tenRight.rt A
 have q2:=ok.kd
 have q3:=ok.np
 have gk:(!tenRight A)=false→TRt A:=fun h=>g2 (by cases e:tenRight A with
   | true=>rfl
   | false=>rw[e] at h;cases h)
 have gm:(!tenRight A)=false→(mayE A n.np != 0)=false→0≤n.np∧n.np≤4:=fun h k=>by
  have h1:tenRight A=true:=by cases e:tenRight A with
   | true=>rfl
   | false=>rw[e] at h;cases h
  unfold mayE at k
  rw[i_ h1] at k
  by_cases h3:0≤n.np∧n.np≤4
  ·exact h3
  ·rw[j_ h3] at k;cases k
 have oz0:=@refCheck_v (n) hw hb q2
 rcases bft (checkE n != 0) with hc0|hc0
 ·have gc0:¬checkE n=0:=bdt hc0
  exact (cR_ [r_,.r [] [cr oz0],r_,b_,r_] (AV.tup [AV.agg [i64 0,i64 0,i64 0,AV.lit (AY_ none 0 0)],i64 (checkE n)]) Tryz.func121 (.d2 oz0 hc0)).weak (Y_ _) (AS_ (.cons (AV_ (.cons (M_ (by (unfold nodeOf;rw[i_ (by omega)];first|done|rfl))) (.cons (M_ (by (unfold nodeOf;rw[i_ (by omega)];first|done|rfl))) (.cons (M_ (by (unfold nodeOf;rw[i_ (by omega)];first|done|rfl))) (.cons (CJ_ (show []=(K_ (row1 .i8) (nodeOf n A B).fst.d) from (by (unfold nodeOf;rw[i_ (by omega)];first|done|rfl)))) .nil))))) (.cons (M_ (by (unfold nodeOf;rw[i_ (by omega)];first|done|rfl))) .nil)))
 ·have gc0:checkE n=0:=bdf hc0
  have oz2:=@refTRight_v (A) okA
  rcases bft (!tenRight A) with hc1|hc1
  ·have gc1:tenRight A=false:=by first|exact hc1|exact of_decide_eq_true hc1|exact of_decide_eq_false hc1|simpa [eqNums] using hc1|(simp[eqNums] at hc1 ⊢;first|done|assumption|omega)
   exact (cR_ [r_,.r [] [cr oz0],r_,d_,.r [] [cr oz2],b_,r_] (AV.tup [AV.agg [i64 0,i64 0,i64 0,AV.lit (AY_ none 0 0)],i64 5]) Tryz.func121 (.d4 oz0 hc0 oz2 hc1)).weak (Y_ _) (AS_ (.cons (AV_ (.cons (M_ (by (unfold nodeOf;rw[j_ (by omega),i_ (by assumption)];first|done|rfl))) (.cons (M_ (by (unfold nodeOf;rw[j_ (by omega),i_ (by assumption)];first|done|rfl))) (.cons (M_ (by (unfold nodeOf;rw[j_ (by omega),i_ (by assumption)];first|done|rfl))) (.cons (CJ_ (show []=(K_ (row1 .i8) (nodeOf n A B).fst.d) from (by (unfold nodeOf;rw[j_ (by omega),i_ (by assumption)];first|done|rfl)))) .nil))))) (.cons (M_ (by (unfold nodeOf;rw[j_ (by omega),i_ (by assumption)];first|done|rfl))) .nil)))
  ·have gc1:tenRight A=true:=by first|exact hc1|exact of_decide_eq_true hc1|exact of_decide_eq_false hc1|simpa [eqNums] using hc1|(simp[eqNums] at hc1 ⊢;first|done|assumption|omega)
   rcases bft (n.kd==4) with hc2|hc2
   ·have gc2:n.kd=4:=bet hc2
    have oz5:=@pool_v (A) (n) (true) okA ok
    exact (cR_ [r_,.r [] [cr oz0],r_,d_,.r [] [cr oz2],d_,r_,r_,b_,.r [] [cr oz5]] (AV.tup [AV.agg [i64 (poolOf A n true).fst.h,i64 (poolOf A n true).fst.x,i64 (poolOf A n true).fst.c,AV.sl 1 (K_ (row1 .i8) (poolOf A n true).fst.d)],i64 (poolOf A n true).snd]) Tryz.func121 (.d6 oz0 hc0 oz2 hc1 hc2 oz5)).weak (Y_ _) (AS_ (.cons (AV_ (.cons (M_ (by (unfold nodeOf;rw[j_ (by omega),j_ (by rw[‹tenRight A=true›];simp)];(repeat first|rw[i_ (by omega)]|rw[j_ (by omega)]);first|done|rfl))) (.cons (M_ (by (unfold nodeOf;rw[j_ (by omega),j_ (by rw[‹tenRight A=true›];simp)];(repeat first|rw[i_ (by omega)]|rw[j_ (by omega)]);first|done|rfl))) (.cons (M_ (by (unfold nodeOf;rw[j_ (by omega),j_ (by rw[‹tenRight A=true›];simp)];(repeat first|rw[i_ (by omega)]|rw[j_ (by omega)]);first|done|rfl))) (.cons (CM_ (rows_to (row1 .i8) (r:=K_ (row1 .i8) (poolOf A n true).fst.d) (l:=(poolOf A n true).fst.d) (m:=(nodeOf n A B).fst.d) rfl (show ((poolOf A n true).fst.d)=((nodeOf n A B).fst.d) from (by (unfold nodeOf;rw[j_ (by omega),j_ (by rw[‹tenRight A=true›];simp)];(repeat first|rw[i_ (by omega)]|rw[j_ (by omega)]);first|done|rfl))))) .nil))))) (.cons (M_ (by (unfold nodeOf;rw[j_ (by omega),j_ (by rw[‹tenRight A=true›];simp)];(repeat first|rw[i_ (by omega)]|rw[j_ (by omega)]);first|done|rfl))) .nil)))
   ·have gc2:¬n.kd=4:=bef hc2
    rcases bft (n.kd==5) with hc3|hc3
    ·have gc3:n.kd=5:=bet hc3
     have oz6:=@pool_v (A) (n) (false) okA ok
     exact (cR_ [r_,.r [] [cr oz0],r_,d_,.r [] [cr oz2],d_,r_,r_,d_,r_,b_,.r [] [cr oz6]] (AV.tup [AV.agg [i64 (poolOf A n false).fst.h,i64 (poolOf A n false).fst.x,i64 (poolOf A n false).fst.c,AV.sl 1 (K_ (row1 .i8) (poolOf A n false).fst.d)],i64 (poolOf A n false).snd]) Tryz.func121 (.d7 oz0 hc0 oz2 hc1 hc2 hc3 oz6)).weak (Y_ _) (AS_ (.cons (AV_ (.cons (M_ (by (unfold nodeOf;rw[j_ (by omega),j_ (by rw[‹tenRight A=true›];simp)];(repeat first|rw[i_ (by omega)]|rw[j_ (by omega)]);first|done|rfl))) (.cons (M_ (by (unfold nodeOf;rw[j_ (by omega),j_ (by rw[‹tenRight A=true›];simp)];(repeat first|rw[i_ (by omega)]|rw[j_ (by omega)]);first|done|rfl))) (.cons (M_ (by (unfold nodeOf;rw[j_ (by omega),j_ (by rw[‹tenRight A=true›];simp)];(repeat first|rw[i_ (by omega)]|rw[j_ (by omega)]);first|done|rfl))) (.cons (CM_ (rows_to (row1 .i8) (r:=K_ (row1 .i8) (poolOf A n false).fst.d) (l:=(poolOf A n false).fst.d) (m:=(nodeOf n A B).fst.d) rfl (show ((poolOf A n false).fst.d)=((nodeOf n A B).fst.d) from (by (unfold nodeOf;rw[j_ (by omega),j_ (by rw[‹tenRight A=true›];simp)];(repeat first|rw[i_ (by omega)]|rw[j_ (by omega)]);first|done|rfl))))) .nil))))) (.cons (M_ (by (unfold nodeOf;rw[j_ (by omega),j_ (by rw[‹tenRight A=true›];simp)];(repeat first|rw[i_ (by omega)]|rw[j_ (by omega)]);first|done|rfl))) .nil)))
    ·have gc3:¬n.kd=5:=bef hc3
     rcases bft (n.kd==6) with hc4|hc4
     ·have gc4:n.kd=6:=bet hc4
      have oz7:=@rjoin_v (A) (B) (n) okA okB ok
      exact (cR_ [r_,.r [] [cr oz0],r_,d_,.r [] [cr oz2],d_,r_,r_,d_,r_,d_,r_,b_,.r [] [cr oz7]] (AV.tup [AV.agg [i64 (joinOf A B n).fst.h,i64 (joinOf A B n).fst.x,i64 (joinOf A B n).fst.c,AV.sl 1 (K_ (row1 .i8) (joinOf A B n).fst.d)],i64 (joinOf A B n).snd]) Tryz.func121 (.d8 oz0 hc0 oz2 hc1 hc2 hc3 hc4 oz7)).weak (Y_ _) (AS_ (.cons (AV_ (.cons (M_ (by (unfold nodeOf;rw[j_ (by omega),j_ (by rw[‹tenRight A=true›];simp)];(repeat first|rw[i_ (by omega)]|rw[j_ (by omega)]);first|done|rfl))) (.cons (M_ (by (unfold nodeOf;rw[j_ (by omega),j_ (by rw[‹tenRight A=true›];simp)];(repeat first|rw[i_ (by omega)]|rw[j_ (by omega)]);first|done|rfl))) (.cons (M_ (by (unfold nodeOf;rw[j_ (by omega),j_ (by rw[‹tenRight A=true›];simp)];(repeat first|rw[i_ (by omega)]|rw[j_ (by omega)]);first|done|rfl))) (.cons (CM_ (rows_to (row1 .i8) (r:=K_ (row1 .i8) (joinOf A B n).fst.d) (l:=(joinOf A B n).fst.d) (m:=(nodeOf n A B).fst.d) rfl (show ((joinOf A B n).fst.d)=((nodeOf n A B).fst.d) from (by (unfold nodeOf;rw[j_ (by omega),j_ (by rw[‹tenRight A=true›];simp)];(repeat first|rw[i_ (by omega)]|rw[j_ (by omega)]);first|done|rfl))))) .nil))))) (.cons (M_ (by (unfold nodeOf;rw[j_ (by omega),j_ (by rw[‹tenRight A=true›];simp)];(repeat first|rw[i_ (by omega)]|rw[j_ (by omega)]);first|done|rfl))) .nil)))
     ·have gc4:¬n.kd=6:=bef hc4
      rcases bft (n.kd==7) with hc5|hc5
      ·have gc5:n.kd=7:=bet hc5
       have oz8:=@ract_v (A) (n) okA ok
       exact (cR_ [r_,.r [] [cr oz0],r_,d_,.r [] [cr oz2],d_,r_,r_,d_,r_,d_,r_,d_,r_,b_,.r [] [cr oz8]] (AV.tup [AV.agg [i64 (actOf A n).fst.h,i64 (actOf A n).fst.x,i64 (actOf A n).fst.c,AV.sl 1 (K_ (row1 .i8) (actOf A n).fst.d)],i64 (actOf A n).snd]) Tryz.func121 (.c8 oz0 hc0 oz2 hc1 hc2 hc3 hc4 hc5<|.d oz8)).weak (Y_ _) (AS_ (.cons (AV_ (.cons (M_ (by (unfold nodeOf;rw[j_ (by omega),j_ (by rw[‹tenRight A=true›];simp)];(repeat first|rw[i_ (by omega)]|rw[j_ (by omega)]);first|done|rfl))) (.cons (M_ (by (unfold nodeOf;rw[j_ (by omega),j_ (by rw[‹tenRight A=true›];simp)];(repeat first|rw[i_ (by omega)]|rw[j_ (by omega)]);first|done|rfl))) (.cons (M_ (by (unfold nodeOf;rw[j_ (by omega),j_ (by rw[‹tenRight A=true›];simp)];(repeat first|rw[i_ (by omega)]|rw[j_ (by omega)]);first|done|rfl))) (.cons (CM_ (rows_to (row1 .i8) (r:=K_ (row1 .i8) (actOf A n).fst.d) (l:=(actOf A n).fst.d) (m:=(nodeOf n A B).fst.d) rfl (show ((actOf A n).fst.d)=((nodeOf n A B).fst.d) from (by (unfold nodeOf;rw[j_ (by omega),j_ (by rw[‹tenRight A=true›];simp)];(repeat first|rw[i_ (by omega)]|rw[j_ (by omega)]);first|done|rfl))))) .nil))))) (.cons (M_ (by (unfold nodeOf;rw[j_ (by omega),j_ (by rw[‹tenRight A=true›];simp)];(repeat first|rw[i_ (by omega)]|rw[j_ (by omega)]);first|done|rfl))) .nil)))
      ·have gc5:¬n.kd=7:=bef hc5
       rcases bft (n.kd==8) with hc6|hc6
       ·have gc6:n.kd=8:=bet hc6
        have oz9:=@may_v (A) (n.np) okA
        rcases bft (mayE A n.np != 0) with hc7|hc7
        ·have gc7:¬mayE A n.np=0:=bdt hc7
         exact (cR_ [r_,.r [] [cr oz0],r_,d_,.r [] [cr oz2],d_,r_,r_,d_,r_,d_,r_,d_,r_,d_,r_,b_,.r [] [cr oz9],r_,b_,r_] (AV.tup [AV.agg [i64 0,i64 0,i64 0,AV.lit (AY_ none 0 0)],i64 (mayE A n.np)]) Tryz.func121 (.c8 oz0 hc0 oz2 hc1 hc2 hc3 hc4 hc5<|.d3 hc6 oz9 hc7)).weak (Y_ _) (AS_ (.cons (AV_ (.cons (M_ (by (unfold nodeOf;rw[j_ (by omega),j_ (by rw[‹tenRight A=true›];simp)];(repeat first|rw[i_ (by omega)]|rw[j_ (by omega)]);first|done|rfl))) (.cons (M_ (by (unfold nodeOf;rw[j_ (by omega),j_ (by rw[‹tenRight A=true›];simp)];(repeat first|rw[i_ (by omega)]|rw[j_ (by omega)]);first|done|rfl))) (.cons (M_ (by (unfold nodeOf;rw[j_ (by omega),j_ (by rw[‹tenRight A=true›];simp)];(repeat first|rw[i_ (by omega)]|rw[j_ (by omega)]);first|done|rfl))) (.cons (CJ_ (show []=(K_ (row1 .i8) (nodeOf n A B).fst.d) from (by (unfold nodeOf;rw[j_ (by omega),j_ (by rw[‹tenRight A=true›];simp)];(repeat first|rw[i_ (by omega)]|rw[j_ (by omega)]);first|done|rfl)))) .nil))))) (.cons (M_ (by (unfold nodeOf;rw[j_ (by omega),j_ (by rw[‹tenRight A=true›];simp)];(repeat first|rw[i_ (by omega)]|rw[j_ (by omega)]);first|done|rfl))) .nil)))
        ·have gc7:mayE A n.np=0:=bdf hc7
         have oz11:=@resize_v (A) (n.np) (n.za) (by (exact gk (by assumption))) (by (exact (gm (by assumption) (by assumption)).1)) (by (exact (gm (by assumption) (by assumption)).2))
         exact (cR_ [r_,.r [] [cr oz0],r_,d_,.r [] [cr oz2],d_,r_,r_,d_,r_,d_,r_,d_,r_,d_,r_,b_,.r [] [cr oz9],r_,d_,.r [] [cr oz11]] (AV.tup [AV.agg [i64 (padOf A n.np n.za).fst.h,i64 (padOf A n.np n.za).fst.x,i64 (padOf A n.np n.za).fst.c,AV.sl 1 (K_ (row1 .i8) (padOf A n.np n.za).fst.d)],i64 (padOf A n.np n.za).snd]) Tryz.func121 (.c8 oz0 hc0 oz2 hc1 hc2 hc3 hc4 hc5<|.d4 hc6 oz9 hc7 oz11)).weak (Y_ _) (AS_ (.cons (AV_ (.cons (M_ (by (unfold nodeOf;rw[j_ (by omega),j_ (by rw[‹tenRight A=true›];simp)];(repeat first|rw[i_ (by omega)]|rw[j_ (by omega)]);first|done|rfl))) (.cons (M_ (by (unfold nodeOf;rw[j_ (by omega),j_ (by rw[‹tenRight A=true›];simp)];(repeat first|rw[i_ (by omega)]|rw[j_ (by omega)]);first|done|rfl))) (.cons (M_ (by (unfold nodeOf;rw[j_ (by omega),j_ (by rw[‹tenRight A=true›];simp)];(repeat first|rw[i_ (by omega)]|rw[j_ (by omega)]);first|done|rfl))) (.cons (CM_ (rows_to (row1 .i8) (r:=K_ (row1 .i8) (padOf A n.np n.za).fst.d) (l:=(padOf A n.np n.za).fst.d) (m:=(nodeOf n A B).fst.d) rfl (show ((padOf A n.np n.za).fst.d)=((nodeOf n A B).fst.d) from (by (unfold nodeOf;rw[j_ (by omega),j_ (by rw[‹tenRight A=true›];simp)];(repeat first|rw[i_ (by omega)]|rw[j_ (by omega)]);first|done|rfl))))) .nil))))) (.cons (M_ (by (unfold nodeOf;rw[j_ (by omega),j_ (by rw[‹tenRight A=true›];simp)];(repeat first|rw[i_ (by omega)]|rw[j_ (by omega)]);first|done|rfl))) .nil)))
       ·have gc6:¬n.kd=8:=bef hc6
        rcases bft (n.kd==9) with hc7|hc7
        ·have gc7:n.kd=9:=bet hc7
         exact (cR_ [r_,.r [] [cr oz0],r_,d_,.r [] [cr oz2],d_,r_,r_,d_,r_,d_,r_,d_,r_,d_,r_,d_,r_,b_,r_] (AV.tup [AV.agg [i64 1,i64 1,i64 ((K_ (row1 .i8) A.d).length:Int),AV.sl 1 (K_ (row1 .i8) A.d)],i64 0]) Tryz.func121 (.c8 oz0 hc0 oz2 hc1 hc2 hc3 hc4 hc5<|.d2 hc6 hc7)).weak (Y_ _) (AS_ (.cons (AV_ (.cons (M_ (by (unfold nodeOf;rw[j_ (by omega),j_ (by rw[‹tenRight A=true›];simp)];(repeat first|rw[i_ (by omega)]|rw[j_ (by omega)]);first|done|rfl))) (.cons (M_ (by (unfold nodeOf;rw[j_ (by omega),j_ (by rw[‹tenRight A=true›];simp)];(repeat first|rw[i_ (by omega)]|rw[j_ (by omega)]);first|done|rfl))) (.cons (M_ (by (rw[S_];unfold nodeOf;rw[j_ (by omega),j_ (by rw[‹tenRight A=true›];simp)];(repeat first|rw[i_ (by omega)]|rw[j_ (by omega)]);first|done|rfl))) (.cons (CM_ (rows_to (row1 .i8) (r:=K_ (row1 .i8) A.d) (l:=A.d) (m:=(nodeOf n A B).fst.d) rfl (show (A.d)=((nodeOf n A B).fst.d) from (by (unfold nodeOf;rw[j_ (by omega),j_ (by rw[‹tenRight A=true›];simp)];(repeat first|rw[i_ (by omega)]|rw[j_ (by omega)]);first|done|rfl))))) .nil))))) (.cons (M_ (by (unfold nodeOf;rw[j_ (by omega),j_ (by rw[‹tenRight A=true›];simp)];(repeat first|rw[i_ (by omega)]|rw[j_ (by omega)]);first|done|rfl))) .nil)))
        ·have gc7:¬n.kd=9:=bef hc7
         have oz10:=@rsum_v (A) (n) okA ok
         rcases bft ((sumOf A n).snd != 0) with hc8|hc8
         ·have gc8:¬(sumOf A n).snd=0:=bdt hc8
          exact (cR_ [r_,.r [] [cr oz0],r_,d_,.r [] [cr oz2],d_,r_,r_,d_,r_,d_,r_,d_,r_,d_,r_,d_,r_,d_,.r [] [cr oz10],r_,b_,r_] (AV.tup [AV.agg [i64 0,i64 0,i64 0,AV.lit (AY_ none 0 0)],i64 (sumOf A n).snd]) Tryz.func121 (.c8 oz0 hc0 oz2 hc1 hc2 hc3 hc4 hc5<|.d4 hc6 hc7 oz10 hc8)).weak (Y_ _) (AS_ (.cons (AV_ (.cons (M_ (by (unfold nodeOf;rw[j_ (by omega),j_ (by rw[‹tenRight A=true›];simp)];(repeat first|rw[i_ (by omega)]|rw[j_ (by omega)]);first|done|rfl))) (.cons (M_ (by (unfold nodeOf;rw[j_ (by omega),j_ (by rw[‹tenRight A=true›];simp)];(repeat first|rw[i_ (by omega)]|rw[j_ (by omega)]);first|done|rfl))) (.cons (M_ (by (unfold nodeOf;rw[j_ (by omega),j_ (by rw[‹tenRight A=true›];simp)];(repeat first|rw[i_ (by omega)]|rw[j_ (by omega)]);first|done|rfl))) (.cons (CJ_ (show []=(K_ (row1 .i8) (nodeOf n A B).fst.d) from (by (unfold nodeOf;rw[j_ (by omega),j_ (by rw[‹tenRight A=true›];simp)];(repeat first|rw[i_ (by omega)]|rw[j_ (by omega)]);first|done|rfl)))) .nil))))) (.cons (M_ (by (unfold nodeOf;rw[j_ (by omega),j_ (by rw[‹tenRight A=true›];simp)];(repeat first|rw[i_ (by omega)]|rw[j_ (by omega)]);first|done|rfl))) .nil)))
         ·have gc8:(sumOf A n).snd=0:=bdf hc8
          have oz12:=@rput_v ((sumOf A n).fst) (n) g1 ok
          exact (cR_ [r_,.r [] [cr oz0],r_,d_,.r [] [cr oz2],d_,r_,r_,d_,r_,d_,r_,d_,r_,d_,r_,d_,r_,d_,.r [] [cr oz10],r_,d_,.r [] [cr oz12]] (AV.tup [AV.agg [i64 (putOf (sumOf A n).fst n).fst.h,i64 (putOf (sumOf A n).fst n).fst.x,i64 (putOf (sumOf A n).fst n).fst.c,AV.sl 1 (K_ (row1 .i8) (putOf (sumOf A n).fst n).fst.d)],i64 (putOf (sumOf A n).fst n).snd]) Tryz.func121 (.c8 oz0 hc0 oz2 hc1 hc2 hc3 hc4 hc5<|.d5 hc6 hc7 oz10 hc8 oz12)).weak (Y_ _) (AS_ (.cons (AV_ (.cons (M_ (by (unfold nodeOf;rw[j_ (by omega),j_ (by rw[‹tenRight A=true›];simp)];(repeat first|rw[i_ (by omega)]|rw[j_ (by omega)]);first|done|rfl))) (.cons (M_ (by (unfold nodeOf;rw[j_ (by omega),j_ (by rw[‹tenRight A=true›];simp)];(repeat first|rw[i_ (by omega)]|rw[j_ (by omega)]);first|done|rfl))) (.cons (M_ (by (unfold nodeOf;rw[j_ (by omega),j_ (by rw[‹tenRight A=true›];simp)];(repeat first|rw[i_ (by omega)]|rw[j_ (by omega)]);first|done|rfl))) (.cons (CM_ (rows_to (row1 .i8) (r:=K_ (row1 .i8) (putOf (sumOf A n).fst n).fst.d) (l:=(putOf (sumOf A n).fst n).fst.d) (m:=(nodeOf n A B).fst.d) rfl (show ((putOf (sumOf A n).fst n).fst.d)=((nodeOf n A B).fst.d) from (by (unfold nodeOf;rw[j_ (by omega),j_ (by rw[‹tenRight A=true›];simp)];(repeat first|rw[i_ (by omega)]|rw[j_ (by omega)]);first|done|rfl))))) .nil))))) (.cons (M_ (by (unfold nodeOf;rw[j_ (by omega),j_ (by rw[‹tenRight A=true›];simp)];(repeat first|rw[i_ (by omega)]|rw[j_ (by omega)]);first|done|rfl))) .nil)))
instance:Inhabited Ten:=⟨ten0⟩
abbrev tnC (T:Ten):List AV:=[i64 T.h,i64 T.x,i64 T.c,ints .i8 T.d]
theorem ten0_ok:(ten0:Ten).Ok:=⟨by decide,by decide,by decide,by simp⟩
theorem heldQ8 (v m s z:Int) {lo hi:Int} (h1:In8 lo) (h2:In8 hi):In8 (heldQ v m s z lo hi):=by
 unfold heldQ;split
 ·exact clamp_in _ h1 h2
 ·decide
theorem joinE8 (x y:Int) {n:Nod} (ok:n.Ok):In8 (joinE x y n):=by
 unfold joinE;split
 ·exact clamp_in _ ok.lo ok.hi
 ·decide
theorem map8 {α:Type} {f:α→Int} (hf:∀ a,In8 (f a)) (l:List α):∀ v∈l.map f,In8 v:=by
 intro v hv
 obtain ⟨a,_,rfl⟩:=List.mem_map.1 hv
 exact hf a
theorem meanE8 (l:List Int):In8 (meanE l):=by unfold meanE In8 IntKind.wrap;simp[IntKind.bits,IntKind.signed];omega
theorem poolF8 {T:Ten} (ok:T.Ok) (n:Nod) (s:Shp) (m:Bool) (i:Nat):In8 (poolF T n s m i):=by
 unfold poolF;split
 ·exact (reach8 (winI_8 ok _ _ _ _ _) _).2
 ·exact meanE8 _
theorem poolOf_ok {T:Ten} {n:Nod} (ok:T.Ok) (okn:n.Ok) (m:Bool):(poolOf T n m).1.Ok:=by
 unfold poolOf
 split
 ·split
  ·rename_i h1 h2
   obtain ⟨r,_,_,_,_,_,_,_,_,_,_,_,sc,h3,h4,h5,h6,_,_⟩:=PlOk.n ⟨ok,okn,h1,h2⟩
   have r1:=r.c1;have r2:=r.c2
   exact ⟨by dsimp only;omega,by dsimp only;omega,by dsimp only;omega,map8 (poolF8 ok n _ m) _⟩
  ·exact ten0_ok
 ·exact ten0_ok
theorem actOf_ok {T:Ten} {n:Nod} (ok:T.Ok) (okn:n.Ok):(actOf T n).1.Ok:=by
 unfold actOf
 split
 ·exact ten0_ok
 ·split
  ·exact ten0_ok
  ·exact ⟨ok.h,ok.x,ok.c,map8 (fun v=>heldQ8 _ _ _ _ okn.lo okn.hi) _⟩
theorem joinOf_ok {T U:Ten} {n:Nod} (ok:T.Ok) (okn:n.Ok):(joinOf T U n).1.Ok:=by
 unfold joinOf
 split
 ·exact ten0_ok
 ·split
  ·exact ten0_ok
  ·exact ⟨ok.h,ok.x,ok.c,map8 (fun i=>joinE8 _ _ okn) _⟩
theorem padOf_ok {T:Ten} (ok:T.Ok) {p z:Int} (hz:In8 z):(padOf T p z).1.Ok:=by
 unfold padOf
 split
 ·exact ten0_ok
 ·rename_i h
  have c:=elems_ok (h:=T.h+2*p) (x:=T.x+2*p) (c:=T.c) (by have:=elems_in (T.h+2*p) (T.x+2*p) T.c;omega)
  exact ⟨by dsimp only;omega,by dsimp only;omega,by dsimp only;omega,gH_in8 (fun h w c=>pix8 ok hz _ _ _) _ _ _⟩
theorem putOf_ok {A:Ten} {n:Nod} (ok:A.Ok32) (okn:n.Ok):(putOf A n).1.Ok:=by
 unfold putOf
 split
 ·exact ten0_ok
 ·split
  ·exact ten0_ok
  ·exact ⟨ok.h,ok.x,ok.c,map8 (fun v=>heldQ8 _ _ _ _ okn.lo okn.hi) _⟩
theorem nodeOf_ok {n:Nod} {A B:Ten} (okn:n.Ok) (okA:A.Ok):(nodeOf n A B).1.Ok:=by
 unfold nodeOf
 split
 ·exact ten0_ok
 ·split
  ·exact ten0_ok
  ·rename_i h1 h2
   split
   ·exact poolOf_ok okA okn true
   ·split
    ·exact poolOf_ok okA okn false
    ·split
     ·exact joinOf_ok okA okn
     ·split
      ·exact actOf_ok okA okn
      ·split
       ·split
        ·exact ten0_ok
        ·exact padOf_ok okA okn.za
       ·split
        ·have r:=tenRight.rt (T:=A) (by simpa using h2)
         have r1:=r.dl;have r2:=r.el
         exact ⟨by dsimp only;omega,by dsimp only;omega,by dsimp only;omega,okA.d⟩
        ·split
         ·exact ten0_ok
         ·exact putOf_ok (sumOf_ok okA okn) okn
def valE (n:Nod) (L:List Ten):Ten×Int:=nodeOf n (L.getD n.na.toNat default) (L.getD (secN n).toNat default)
theorem valE_eq (n:Nod) (L:List Ten):nodeOf n (L.getD n.na.toNat default) (L.getD (secN n).toNat default)=valE n L:=rfl
theorem getD_all {α:Type} [Inhabited α] {p:α→Prop} (h0:p default) {l:List α} (h:∀ y∈l,p y) (i:Nat):p (l.getD i default):=by
 rw[Z_]
 cases e:l[i]? with
 | none=>exact h0
 | some y=>exact h y (CS_ e)
theorem val_ok {l:List Nod} (okl:∀ n∈l,n.Ok) {x:Ten} (ok:x.Ok) {k:Nat} (hk:k≤l.length):∀ T∈growL valE l x k,T.Ok :=
 growL_all (n:=l.length) ok (fun j hj h=>nodeOf_ok (getD_in okl hj) (getD_all (p:=Ten.Ok) ten0_ok h _)) k hk
structure VOK (l:List Nod) (x:Ten):Prop where
 okl:∀ n∈l,n.Ok
 wl:∀ n∈l,n.w.length≤100000∧n.b.length≤100000
 ok:x.Ok
 s:SOK l ⟨x.h,x.x,x.c⟩
theorem VOK.takes {l:List Nod} {x:Ten} (h:VOK l x) {k:Nat} (hk:k<l.length):0≤(l.getD k default).na∧(l.getD k default).na≤k∧0≤secN (l.getD k default)∧secN (l.getD k default)≤k:=by
 have q:=h.s.k k hk
 unfold errL at q
 have c:=(nextE_ok q).2.1
 rw[S_,growL_len] at c
 have:=there_iff.1 c
 omega
noncomputable def rvals_ly_I (l:List Nod) (x:Ten) (k:Nat):VS:=stt 72 [(0,.sl 19 (l.map nodC)),(10,.own 900),(11,i64 k)] [(900,.slc 58 4 ((growL valE l x k).map tnC))]
noncomputable def rvals_ly_Z (l:List Nod) (x:Ten):VS:=rvals_ly_I l x (l.length)
theorem rvals_ly_s (l:List Nod) (x:Ten) (v:VOK l x) (h:∀ k,k<l.length→errL valE l x k=0) (k:Nat) (hk:k<l.length):VT N_ (fnC Tryz.f84 [1,1,1,1,1,0,1,0,0]) (rvals_ly_I l x k) .normal (rvals_ly_I l x (k+1)):=by
 have q:=h k hk
 have f8:=v.s.f
 have q1:=growL_len valE l x k
 have q2:=val_ok v.okl v.ok (Nat.le_of_lt hk)
 have q3:=getD_in v.okl hk
 have q4:=getD_in v.wl hk
 obtain ⟨q5,q6⟩:=q4
 obtain ⟨t1,t2,t3,t4⟩:=v.takes hk
 have q8:(K_ tnC (growL valE l x k)).length=k+1:=by rw[S_,q1]
 have q9:=getD_all (p:=Ten.Ok) ten0_ok q2 (l.getD k default).na.toNat
 have qa:=getD_all (p:=Ten.Ok) ten0_ok q2 (secN (l.getD k default)).toNat
 unfold errL at q
 have oz1:=(s_ (0≤(↑k:Int)))
 have oz2:=(map_at (nodC) (default) (l:=l) (i:=k) hk)
 have oz7:=(map_at (tnC) (default) (l:=growL valE l x k) (i:=(l.getD k default).na.toNat) (by omega))
 have oz10:=@refSecond_v (l.getD k default)
 have oz13:=(map_at (tnC) (default) (l:=growL valE l x k) (i:=(secN (l.getD k default)).toNat) (by omega))
 have oz14:=@rnode_v (l.getD k default) ((growL valE l x k).getD (l.getD k default).na.toNat default) ((growL valE l x k).getD (secN (l.getD k default)).toNat default) q3 q5 q6 q9 qa
 exact tR_ [r_,b_,.r [] [.row (sO oz2),.row (sO oz2),.row (sO oz7),.row (sO oz2),cr oz10,.row (sO oz13),cr oz14],r_,d_,r_,.r [] [.n ((↑k:Int)+1)]] [.any (rg [(12,2),(31,32),(65,4)]),.drop [12,67],.ren 68 900,.weak 11 (i64 (↑(k+1):Int)),.blk 900 (Blk.slc 58 4 (K_ tnC (growL valE l x (k+1)))),.sort] (.c8 (show decide ((↑k:Int)<((K_ nodC l).length:Int))=true by (simp;omega)) oz1 oz2 oz1 oz2 t1 (s_ ((l.getD k default).na<((K_ tnC (growL valE l x k)).length:Int))) oz7<|.c8 oz1 oz2 oz10 t3 (s_ (secN (l.getD k default)<((K_ tnC (growL valE l x k)).length:Int))) oz13 oz14 (show ((nodeOf (l.getD k default) ((growL valE l x k).getD (l.getD k default).na.toNat default) ((growL valE l x k).getD (secN (l.getD k default)).toNat default)).snd != 0)=false by (rw[valE_eq,q];rfl))<|.d5 (s_ (((K_ tnC (growL valE l x k)).length+1)*48≤140737488355328)) (s_ ((K_ tnC (growL valE l x k)).length+1≤9223372036854775807)) (i6n ((↑k:Int)+1) (by omega)) (wS_ k) (show BlkW (Blk.slc 58 4 (K_ tnC (growL valE l x k)++[[i64 (nodeOf (l.getD k default) ((growL valE l x k).getD (l.getD k default).na.toNat default) ((growL valE l x k).getD (secN (l.getD k default)).toNat default)).fst.h,i64 (nodeOf (l.getD k default) ((growL valE l x k).getD (l.getD k default).na.toNat default) ((growL valE l x k).getD (secN (l.getD k default)).toNat default)).fst.x,i64 (nodeOf (l.getD k default) ((growL valE l x k).getD (l.getD k default).na.toNat default) ((growL valE l x k).getD (secN (l.getD k default)).toNat default)).fst.c,AV.sl 1 (K_ (row1 .i8) (nodeOf (l.getD k default) ((growL valE l x k).getD (l.getD k default).na.toNat default) ((growL valE l x k).getD (secN (l.getD k default)).toNat default)).fst.d)]])) (Blk.slc 58 4 (K_ tnC (growL valE l x (k+1)))) from (BU_ (e:=58) (z:=4) (rows_to (tnC) (r:=K_ tnC (growL valE l x k)++[[i64 (nodeOf (l.getD k default) ((growL valE l x k).getD (l.getD k default).na.toNat default) ((growL valE l x k).getD (secN (l.getD k default)).toNat default)).fst.h,i64 (nodeOf (l.getD k default) ((growL valE l x k).getD (l.getD k default).na.toNat default) ((growL valE l x k).getD (secN (l.getD k default)).toNat default)).fst.x,i64 (nodeOf (l.getD k default) ((growL valE l x k).getD (l.getD k default).na.toNat default) ((growL valE l x k).getD (secN (l.getD k default)).toNat default)).fst.c,AV.sl 1 (K_ (row1 .i8) (nodeOf (l.getD k default) ((growL valE l x k).getD (l.getD k default).na.toNat default) ((growL valE l x k).getD (secN (l.getD k default)).toNat default)).fst.d)]]) (l:=growL valE l x k++[Ten.mk (nodeOf (l.getD k default) ((growL valE l x k).getD (l.getD k default).na.toNat default) ((growL valE l x k).getD (secN (l.getD k default)).toNat default)).fst.h (nodeOf (l.getD k default) ((growL valE l x k).getD (l.getD k default).na.toNat default) ((growL valE l x k).getD (secN (l.getD k default)).toNat default)).fst.x (nodeOf (l.getD k default) ((growL valE l x k).getD (l.getD k default).na.toNat default) ((growL valE l x k).getD (secN (l.getD k default)).toNat default)).fst.c (nodeOf (l.getD k default) ((growL valE l x k).getD (l.getD k default).na.toNat default) ((growL valE l x k).getD (secN (l.getD k default)).toNat default)).fst.d]) (m:=growL valE l x (k+1)) (by first|(simp only[C_,D_,AM_,AN_,A_,AK_,AL_];done)|rfl|(simp only[C_,D_,AM_,AN_,A_,AK_,AL_];rfl)|(simp only[C_,D_,AM_,AN_,A_,AK_,AL_,tnC,ints];done)) (show (growL valE l x k++[Ten.mk (nodeOf (l.getD k default) ((growL valE l x k).getD (l.getD k default).na.toNat default) ((growL valE l x k).getD (secN (l.getD k default)).toNat default)).fst.h (nodeOf (l.getD k default) ((growL valE l x k).getD (l.getD k default).na.toNat default) ((growL valE l x k).getD (secN (l.getD k default)).toNat default)).fst.x (nodeOf (l.getD k default) ((growL valE l x k).getD (l.getD k default).na.toNat default) ((growL valE l x k).getD (secN (l.getD k default)).toNat default)).fst.c (nodeOf (l.getD k default) ((growL valE l x k).getD (l.getD k default).na.toNat default) ((growL valE l x k).getD (secN (l.getD k default)).toNat default)).fst.d])=(growL valE l x (k+1)) from (by (rw[growL,valE])))))))
theorem rvals_ly_e (l:List Nod) (x:Ten) (v:VOK l x) (h:∀ k,k<l.length→errL valE l x k=0):VT N_ (fnC Tryz.f84 [1,1,1,1,1,0,1,0,0]) (rvals_ly_I l x (l.length)) (.exit 0) (rvals_ly_Z l x):=by
 exact tR_ [r_,d_] [.any (rg [(31,4)]),.sort] (.d (show decide ((l.length:Int)<((K_ nodC l).length:Int))=false by (simp;done)))
theorem rvals_ly (l:List Nod) (x:Ten) (v:VOK l x) (h:∀ k,k<l.length→errL valE l x k=0):VT N_ (fnC Tryz.f84 [1,1,1,1,1,0,1,0]) (rvals_ly_I l x 0) (.exit 0) (rvals_ly_Z l x) :=
 VT.loop (fun k=>rvals_ly_I l x k) (l.length) (fun k hk=>rvals_ly_s l x v h k hk) (rvals_ly_e l x v h) (by intro h;cases h)
theorem rvals_y (l:List Nod) (x:Ten) (v:VOK l x) (r:tenRight x=true) (h:∀ k,k<l.length→errL valE l x k=0):VC N_ 84 ([.sl 19 (l.map nodC),ten .i8 x]) (.tup [.sl 4 ((growL valE l x l.length).map tnC),i64 l.length,i64 0]):=by
 obtain ⟨v1,v2,v3,v4⟩:=id v
 have o1:=v3.h
 have o2:=v3.x
 have o3:=v3.c
 have oz0:=@refTRight_v (x) v3
 have oz2:=@rshapes_y (l) (Shp.mk x.h x.x x.c) v1 v2 v4
 have oz5:=@rvals_ly (l) (x) v h
 exact (cR_ [r_,.r [] [cr oz0],d_,.r [] [cr oz2],r_,d_,r_,r_,.code [.any (rg [(1,1),(3,7),(14,13),(29,2)]),.drop [3],.ren 30 900,.weak 11 (i64 (↑0:Int)),.sort] (AA_ 0) (zO oz5),r_] (AV.tup [AV.sl 4 (K_ tnC (growL valE l x l.length)),i64 ((K_ nodC l).length:Int),i64 0]) Tryz.func84 (.d6 oz0 (show (!tenRight x)=false by (simp;omega)) oz2 z2_ w0_ oz5)).weak (Y_ _) (AS_ (.cons (.refl _) (.cons (M_ (by (simp;done))) (.cons (.refl _) .nil))))
def takesB (n:Nod) (v:Int):Bool:=decide (n.na=v) || (decide (n.kd=6)&&decide (n.nb=v))
def orderedB (l:List Nod):Bool:=(BM_ l.length).all fun i=>thereB (l.getD i default) ((i:Int)+1)
def wt (l:List Nod):Nat→Int→Bool
 | 0,v=>decide (v=l.length)
 | k+1,v=>wt l k v || (wt l k ((l.length:Int)-k)&&takesB (l.getD (l.length-1-k) default) v)
def usedB (l:List Nod) (i:Nat):Bool:=wt l (l.length-1-i) ((i:Int)+1)
def usedL (l:List Nod):List Nat:=(BM_ l.length).filter (usedB l)
def numU (us:List Nat) (v:Int):Int:=((us.filter fun u:Nat=>decide ((u:Int)<v)).length:Int)
def pruneN (us:List Nat) (n:Nod):Nod:={ n with na:=numU us n.na,nb:=if n.kd=6 then numU us n.nb else n.nb }
def pruneL (l:List Nod):List Nod:=if orderedB l=true then (usedL l).map fun i=>pruneN (usedL l) (l.getD i default) else l
theorem ordered_at {l:List Nod} (h:orderedB l=true) {i:Nat} (hi:i<l.length):0≤(l.getD i default).na∧(l.getD i default).na≤i∧0≤secN (l.getD i default)∧secN (l.getD i default)≤i:=by
 have:=List.all_eq_true.1 h i (by simpa using hi)
 have:=there_iff.1 this
 omega
theorem ordered_takes {l:List Nod} (h:orderedB l=true) {i:Nat} (hi:i<l.length) {v:Int} (hv:takesB (l.getD i default) v=true):0≤v∧v≤i:=by
 have:=ordered_at h hi
 unfold takesB at hv
 unfold secN at this
 simp only[X_,O_,E_] at hv
 rcases hv with rfl|⟨h6,rfl⟩
 ·omega
 ·rw[i_ h6] at this;omega
theorem wt_iff (l:List Nod):∀ k,k≤l.length→∀ v,wt l k v=true↔v=l.length∨∃ j,l.length-k≤j∧j<l.length∧usedB l j=true∧takesB (l.getD j default) v=true
 | 0,_,v=>by
  simp only[wt,E_]
  constructor
  ·exact .inl
  ·rintro (h|⟨j,h1,h2,_⟩)
   ·exact h
   ·omega
 | k+1,hk,v=>by
  have hu:wt l k ((l.length:Int)-k)=usedB l (l.length-1-k):=by
   unfold usedB
   rw[show l.length-1-(l.length-1-k)=k by omega,show (((l.length-1-k:Nat):Int))+1=(l.length:Int)-k by omega]
  simp only[wt,X_,O_,wt_iff l k (by omega) v,hu]
  constructor
  ·rintro ((h|⟨j,h1,h2,h3⟩)|⟨h1,h2⟩)
   ·exact .inl h
   ·exact .inr ⟨j,by omega,h2,h3⟩
   ·exact .inr ⟨l.length-1-k,by omega,by omega,h1,h2⟩
  ·rintro (h|⟨j,h1,h2,h3,h4⟩)
   ·exact .inl (.inl h)
   ·by_cases e:j=l.length-1-k
    ·subst e;exact .inr ⟨h3,h4⟩
    ·exact .inl (.inr ⟨j,by omega,h2,h3,h4⟩)
theorem used_iff {l:List Nod} {i:Nat} (hi:i<l.length):usedB l i=true↔i+1=l.length∨∃ j,i<j∧j<l.length∧usedB l j=true∧takesB (l.getD j default) ((i:Int)+1)=true:=by
 unfold usedB
 rw[wt_iff l _ (by omega)]
 constructor
 ·rintro (h|⟨j,h1,h2,h3,h4⟩)
  ·exact .inl (by omega)
  ·exact .inr ⟨j,by omega,h2,h3,h4⟩
 ·rintro (h|⟨j,h1,h2,h3,h4⟩)
  ·exact .inl (by omega)
  ·exact .inr ⟨j,by omega,h2,h3,h4⟩
theorem mem_used {l:List Nod} {i:Nat}:i∈usedL l↔i<l.length∧usedB l i=true:=by
 unfold usedL;rw[List.mem_filter,List.mem_range]
theorem used_takes {l:List Nod} (h:orderedB l=true) {i:Nat} (hi:i∈usedL l) {v:Int} (hv:takesB (l.getD i default) v=true):0≤v∧v≤i∧(v=0∨(v-1).toNat∈usedL l):=by
 obtain ⟨h1,h2⟩:=mem_used.1 hi
 have h3:=ordered_takes h h1 hv
 refine ⟨h3.1,h3.2,?_⟩
 by_cases e:v=0
 ·exact .inl e
 ·refine .inr (mem_used.2 ⟨by omega,(used_iff (by omega)).2 (.inr ⟨i,by omega,h1,h2,?_⟩)⟩)
  rw[show (((v-1).toNat:Nat):Int)+1=v by omega];exact hv
theorem takes_na (n:Nod):takesB n n.na=true:=by unfold takesB;simp
theorem takes_nb {n:Nod} (h:n.kd=6):takesB n n.nb=true:=by unfold takesB;simp[h]
theorem numU_mono (us:List Nat) {a b:Int} (h:a≤b):numU us a≤numU us b:=by
 unfold numU
 have:(us.filter fun u:Nat=>decide ((u:Int)<a)).Sublist (us.filter fun u:Nat=>decide ((u:Int)<b)):=by
  have e:us.filter (fun u:Nat=>decide ((u:Int)<a))=(us.filter fun u:Nat=>decide ((u:Int)<b)).filter (fun u:Nat=>decide ((u:Int)<a)):=by
   rw[List.filter_filter]
   congr 1;funext u
   by_cases h1:(u:Int)<a
   ·have:(u:Int)<b:=by omega
    simp[h1,this]
   ·simp[h1]
  rw[e];exact List.filter_sublist
 have:=this.length_le
 omega
theorem numU_0 (us:List Nat) {v:Int} (h:v≤0):numU us v=0:=by
 unfold numU
 rw[List.filter_eq_nil_iff.2 (fun u _=>by simp;omega)];rfl
theorem numU_nn (us:List Nat) (v:Int):0≤numU us v:=by unfold numU;omega
theorem filter_take {us:List Nat} (h:us.Pairwise (· < ·)):∀ {j:Nat},j<us.length→us.filter (fun u:Nat=>decide ((u:Int)<us.getD j 0))=us.take j:=by
 induction us with
 | nil=>intro j hj;simp at hj
 | cons a us ih =>
  intro j hj
  obtain ⟨h1,h2⟩:=List.pairwise_cons.1 h
  cases j with
  | zero =>
   simp only[List.getD_cons_zero,List.take_zero]
   rw[List.filter_eq_nil_iff]
   intro u hu
   rcases List.mem_cons.1 hu with rfl|hu
   ·simp
   ·have:=h1 u hu;simp;omega
  | succ j =>
   have hj':j<us.length:=by simpa using hj
   have hm:us.getD j 0∈us:=by rw[Z_,W_ hj'];exact CD_ hj'
   have:=h1 _ hm
   rw[List.getD_cons_succ,List.take_succ_cons,List.filter_cons,i_ (by rw[E_];omega),ih h2 hj']
theorem numU_at {us:List Nat} (h:us.Pairwise (· < ·)) {j:Nat} (hj:j<us.length):numU us (us.getD j 0:Nat)=j:=by
 unfold numU;rw[filter_take h hj,AE_];omega
theorem numU_up {us:List Nat} (h:us.Pairwise (· < ·)) {j:Nat} (hj:j<us.length):numU us ((us.getD j 0:Nat)+1)=j+1:=by
 have h1:=numU_at h hj
 have hm:us.getD j 0∈us:=by rw[Z_,W_ hj];exact CD_ hj
 unfold numU at h1 ⊢
 have:(us.filter fun u:Nat=>decide ((u:Int)<((us.getD j 0:Nat):Int)+1))=us.take (j+1):=by
  by_cases hj2:j+1<us.length
  ·rw[←filter_take h hj2]
   apply List.filter_congr
   intro u hu
   have hp:=List.pairwise_iff_getElem.1 h
   obtain ⟨i,hi,rfl⟩:=List.mem_iff_getElem.1 hu
   rw[Z_,W_ hj,Z_,W_ hj2]
   simp only[BD_]
   rw[decide_eq_decide]
   constructor
   ·intro hlt
    have h3:=hp j (j+1) hj hj2 (by omega)
    omega
   ·intro hlt
    by_cases h4:i≤j
    ·by_cases h5:i=j
     ·subst h5;omega
     ·have:=hp i j hi hj (by omega);omega
    ·by_cases h6:i=j+1
     ·subst h6;omega
     ·have:=hp (j+1) i hj2 hi (by omega);omega
  ·rw[List.take_of_length_le (by omega)]
   rw[List.filter_eq_self]
   intro u hu
   have hp:=List.pairwise_iff_getElem.1 h
   obtain ⟨i,hi,rfl⟩:=List.mem_iff_getElem.1 hu
   rw[Z_,W_ hj]
   simp only[BD_,E_]
   by_cases h5:i=j
   ·subst h5;omega
   ·have:=hp i j hi hj (by omega);omega
 rw[this,AE_];omega
theorem used_sorted (l:List Nod):(usedL l).Pairwise (· < ·):=by
 unfold usedL;exact List.Pairwise.filter _ List.pairwise_lt_range
theorem idx_used {l:List Nod} {i:Nat} (h:i∈usedL l):∃ j,j<(usedL l).length∧(usedL l).getD j 0=i:=by
 obtain ⟨j,hj,rfl⟩:=List.mem_iff_getElem.1 h
 exact ⟨j,hj,by rw[Z_,W_ hj];rfl⟩
theorem pruneL_len {l:List Nod} (h:orderedB l=true):(pruneL l).length=(usedL l).length:=by unfold pruneL;rw[i_ h,S_]
theorem pruneL_at {l:List Nod} (h:orderedB l=true) {j:Nat} (hj:j<(usedL l).length):(pruneL l).getD j default=pruneN (usedL l) (l.getD ((usedL l).getD j 0) default):=by
 unfold pruneL
 rw[i_ h,Z_,AR_,W_ hj,Z_ (l:=usedL l),W_ hj];rfl
theorem used_at {l:List Nod} {j:Nat} (hj:j<(usedL l).length):(usedL l).getD j 0∈usedL l:=by
 rw[Z_,W_ hj];exact CD_ hj
theorem pruned_there {l:List Nod} (h:orderedB l=true) {j:Nat} (hj:j<(usedL l).length) {v:Int} (hv:takesB (l.getD ((usedL l).getD j 0) default) v=true):0≤numU (usedL l) v∧numU (usedL l) v≤j:=by
 obtain ⟨h1,h2,_⟩:=used_takes h (used_at hj) hv
 refine ⟨numU_nn _ _,?_⟩
 have:=numU_mono (usedL l) h2
 rw[numU_at (used_sorted l) hj] at this;exact this
theorem pruned_ordered {l:List Nod} (h:orderedB l=true):orderedB (pruneL l)=true:=by
 unfold orderedB
 rw[CZ_]
 intro j hj
 rw[List.mem_range,pruneL_len h] at hj
 rw[pruneL_at h hj,there_iff]
 have h1:=pruned_there h hj (takes_na _)
 have h2:=pruned_there h hj (v:=(l.getD ((usedL l).getD j 0) default).nb)
 unfold secN pruneN
 dsimp only
 split
 ·rename_i h6
  have h2:=h2 (takes_nb h6)
  omega
 ·omega
structure Loc {α:Type} [Inhabited α] (f:Nod→List α→α×Int) (g:Nod→α→α→α×Int):Prop where
 eq:∀ (n:Nod) (L:List α),thereB n L.length=true→f n L=g n (L.getD n.na.toNat default) (L.getD (secN n).toNat default)
 ren:∀ (n:Nod) (u v:Int) (a b:α),(n.kd=6∨v=n.nb)→g { n with na:=u,nb:=v } a b=g n a b
def gv {α:Type} [Inhabited α] (f:Nod→List α→α×Int) (l:List Nod) (x:α) (v:Nat):α:=(growL f l x v).getD v default
section
variable {α:Type} [Inhabited α] {f:Nod→List α→α×Int} {g:Nod→α→α→α×Int} {l:List Nod} {x:α}
theorem growL_at:∀ (k:Nat) {v:Nat},v≤k→(growL f l x k).getD v default=gv f l x v
 | 0,v,h=>by
    have:v=0:=by omega
    subst this;rfl
 | k+1,v,h=>by
  by_cases e:v=k+1
  ·subst e;rfl
  ·rw[growL,Z_,CN_ (by rw[growL_len];omega),←Z_]
   exact growL_at k (by omega)
theorem gv_next (k:Nat):gv f l x (k+1)=(f (l.getD k default) (growL f l x k)).1:=by
 unfold gv
 rw[growL,Z_,CR_ (by rw[growL_len];omega),growL_len];simp
theorem gv_step (hf:Loc f g) {k:Nat} (h:thereB (l.getD k default) ((k:Int)+1)=true) :
  f (l.getD k default) (growL f l x k)=g (l.getD k default) (gv f l x (l.getD k default).na.toNat) (gv f l x (secN (l.getD k default)).toNat):=by
 have t:=there_iff.1 h
 rw[hf.eq _ _ (by rw[growL_len,Int.natCast_add];exact h),growL_at k (by omega),growL_at k (by omega)]
theorem gv_succ (hf:Loc f g) {k:Nat} (h:thereB (l.getD k default) ((k:Int)+1)=true) :
  gv f l x (k+1)=(g (l.getD k default) (gv f l x (l.getD k default).na.toNat) (gv f l x (secN (l.getD k default)).toNat)).1:=by rw[gv_next,gv_step hf h]
theorem errL_step (hf:Loc f g) {k:Nat} (h:thereB (l.getD k default) ((k:Int)+1)=true) :
  errL f l x k=(g (l.getD k default) (gv f l x (l.getD k default).na.toNat) (gv f l x (secN (l.getD k default)).toNat)).2:=by unfold errL;rw[gv_step hf h]
theorem ordered_there (h:orderedB l=true) {k:Nat} (hk:k<l.length):thereB (l.getD k default) ((k:Int)+1)=true:=List.all_eq_true.1 h k (by simpa using hk)
theorem pruned_gv (hf:Loc f g) (h:orderedB l=true):∀ (d j:Nat),j=d→j<(usedL l).length →
  gv f (pruneL l) x (j+1)=gv f l x ((usedL l).getD j 0+1)∧errL f (pruneL l) x j=errL f l x ((usedL l).getD j 0):=by
 intro d
 induction d using Nat.strongRecOn with
 | _ d ih =>
  intro j hd hj
  subst hd
  have hu:=(mem_used.1 (used_at hj)).1
  have key:∀ v,takesB (l.getD ((usedL l).getD j 0) default) v=true→gv f (pruneL l) x (numU (usedL l) v).toNat=gv f l x v.toNat:=by
   intro v hv
   obtain ⟨h1,h2,h3⟩:=used_takes h (used_at hj) hv
   rcases h3 with h3|h3
   ·subst h3;rw[numU_0 _ (by omega)];rfl
   ·by_cases e:v=0
    ·subst e;rw[numU_0 _ (by omega)];rfl
    ·obtain ⟨j',hj',e'⟩:=idx_used h3
     have ev:v=((usedL l).getD j' 0:Nat)+1:=by omega
     have lt:j'<j:=by
      rcases Nat.lt_trichotomy j' j with c|c|c
      ·exact c
      ·subst c;omega
      ·have:=List.pairwise_iff_getElem.1 (used_sorted l) j j' hj hj' c
       rw[Z_,W_ hj] at h2
       rw[Z_,W_ hj'] at ev
       simp only[BD_] at h2 ev
       omega
     have:=(ih j' lt j' rfl hj').1
     rw[ev,numU_up (used_sorted l) hj']
     rw[show ((j':Int)+1).toNat=j'+1 by omega,this];congr 1
  have ht:=ordered_there h hu
  have hp:=ordered_there (pruned_ordered h) (k:=j) (by rw[pruneL_len h];exact hj)
  have e1:(pruneL l).getD j default=pruneN (usedL l) (l.getD ((usedL l).getD j 0) default):=pruneL_at h hj
  have ga:=key _ (takes_na _)
  have gs:gv f (pruneL l) x (secN (pruneN (usedL l) (l.getD ((usedL l).getD j 0) default))).toNat=gv f l x (secN (l.getD ((usedL l).getD j 0) default)).toNat:=by
   unfold secN pruneN
   dsimp only
   by_cases h6:(l.getD ((usedL l).getD j 0) default).kd=6
   ·rw[i_ h6,i_ h6,i_ h6];exact key _ (takes_nb h6)
   ·rw[j_ h6,j_ h6];exact ga
  have step:f ((pruneL l).getD j default) (growL f (pruneL l) x j)=f (l.getD ((usedL l).getD j 0) default) (growL f l x ((usedL l).getD j 0)):=by
   rw[gv_step hf hp,gv_step hf ht,e1,gs]
   have:(pruneN (usedL l) (l.getD ((usedL l).getD j 0) default)).na=numU (usedL l) (l.getD ((usedL l).getD j 0) default).na:=rfl
   rw[this,ga]
   exact hf.ren _ _ _ _ _ (by
    by_cases h6:(l.getD ((usedL l).getD j 0) default).kd=6
    ·exact .inl h6
    ·exact .inr (j_ h6))
  exact ⟨by rw[gv_next,gv_next,step],by unfold errL;rw[step]⟩
theorem used_last (h:l≠[]):(usedL l).length≠0∧(usedL l).getD ((usedL l).length-1) 0+1=l.length:=by
 have l0:0<l.length:=List.length_pos_iff.2 h
 have hm:l.length-1∈usedL l:=mem_used.2 ⟨by omega,(used_iff (by omega)).2 (.inl (by omega))⟩
 obtain ⟨j,hj,e⟩:=idx_used hm
 refine ⟨by omega,?_⟩
 have hl:=(mem_used.1 (used_at (l:=l) (j:=(usedL l).length-1) (by omega))).1
 by_cases c:j=(usedL l).length-1
 ·rw[←c,e];omega
 ·have:=List.pairwise_iff_getElem.1 (used_sorted l) j ((usedL l).length-1) hj (by omega) (by omega)
  rw[Z_,W_ hj] at e
  rw[Z_,W_ (by omega)] at hl
  simp only[BD_] at e hl
  omega
theorem pruned_last (hf:Loc f g) (h:orderedB l=true) (h0:l≠[]):gv f (pruneL l) x (pruneL l).length=gv f l x l.length:=by
 obtain ⟨u0,u1⟩:=used_last h0
 have:=(pruned_gv (x:=x) hf h _ ((usedL l).length-1) rfl (by omega)).1
 rw[pruneL_len h,←u1,←this];congr 1;omega
theorem pruned_err (hf:Loc f g) (h:orderedB l=true) (he:∀ k,k<l.length→errL f l x k=0):∀ k,k<(pruneL l).length→errL f (pruneL l) x k=0:=by
 intro k hk
 rw[pruneL_len h] at hk
 rw[(pruned_gv (x:=x) hf h _ k rfl hk).2]
 exact he _ (mem_used.1 (used_at hk)).1
end
theorem pruneL_ne {l:List Nod} (h0:l≠[]):0<(pruneL l).length:=by
 by_cases h:orderedB l=true
 ·rw[pruneL_len h];have:=used_last h0;omega
 ·unfold pruneL;rw[j_ h];exact List.length_pos_iff.2 h0
theorem pruneL_mem {l:List Nod} {p:Nod→Prop} (h:∀ n∈l,p n) (hp:∀ n u v,n.kd=6∨v=n.nb→p n→p { n with na:=u,nb:=v }):∀ n∈pruneL l,p n:=by
 intro n hn
 unfold pruneL at hn
 split at hn
 ·obtain ⟨i,hi,rfl⟩:=List.mem_map.1 hn
  exact hp _ _ _ (by
   by_cases h6:(l.getD i default).kd=6
   ·exact .inl h6
   ·exact .inr (j_ h6)) (getD_in h (mem_used.1 hi).1)
 ·exact h n hn
theorem checkE_ren (n:Nod) (u v:Int) (h:n.kd=6∨v=n.nb):checkE { n with na:=u,nb:=v }=checkE n:=by
 unfold checkE moreE
 rcases h with h|h
 ·simp[h]
 ·subst h;rfl
theorem shapeE_ren (n:Nod) (u v:Int) (a b:Shp):shapeE { n with na:=u,nb:=v } a b=shapeE n a b:=rfl
theorem nextE_loc:Loc nextE fun n a b=>if checkE n≠0 then (⟨0,0,0⟩,checkE n) else shapeE n a b where
 eq:=fun n L h=>by
  unfold nextE
  by_cases c:checkE n≠0
  ·rw[i_ c,i_ c]
  ·rw[j_ c,j_ c,i_ h]
 ren:=fun n u v a b h=>by
  rw[checkE_ren n u v h,shapeE_ren]
theorem ord_iff {l:List Nod}:orderedB l=true↔∀ i,i<l.length→0≤(l.getD i default).na∧(l.getD i default).na≤i∧((l.getD i default).kd=6→0≤(l.getD i default).nb∧(l.getD i default).nb≤i):=by
 constructor
 ·intro h i hi
  have:=ordered_at h hi
  unfold secN at this
  refine ⟨by omega,by omega,fun h6=>?_⟩
  rw[i_ h6] at this;omega
 ·intro h
  unfold orderedB
  rw[CZ_]
  intro i hi
  rw[List.mem_range] at hi
  have:=h i hi
  rw[there_iff]
  unfold secN
  split
  ·have:=this.2.2 (by assumption);omega
  ·omega
def OkW (n:Nod):Prop:=({ n with na:=0,nb:=0 }:Nod).Ok
def OkN (n:Nod):Prop:=OkW n∧(n.kd=6∨In64 n.nb)
theorem in64_0:In64 0:=by decide
theorem Nod.Ok.n {n:Nod} (h:n.Ok):OkN n:=⟨⟨h.kd,in64_0,in64_0,h.nk,h.ns,h.np,h.no,h.za,h.zb,h.w,h.b,h.qm,h.qs,h.qz,h.rm,h.rs,h.rz,h.lo,h.hi⟩,.inr h.nb⟩
theorem OkN.ren {n:Nod} (h:OkN n) (u v:Int) (hv:n.kd=6∨v=n.nb):OkN { n with na:=u,nb:=v }:=by
 refine ⟨h.1,?_⟩
 rcases hv with hv|hv
 ·exact .inl hv
 ·subst hv;exact h.2
theorem OkN.ok {n:Nod} (h:OkN n) (a:In64 n.na) (b:n.kd=6→In64 n.nb):n.Ok:=by
 obtain ⟨⟨h1,_,_,h4,h5,h6,h7,h8,h9,h10,h11,h12,h13,h14,h15,h16,h17,h18,h19⟩,hb⟩:=h
 exact ⟨h1,a,hb.elim b id,h4,h5,h6,h7,h8,h9,h10,h11,h12,h13,h14,h15,h16,h17,h18,h19⟩
theorem ok_of {l:List Nod} (h:orderedB l=true) (hl:l.length≤1000) (ok:∀ n∈l,OkN n):∀ n∈l,n.Ok:=by
 intro n hn
 obtain ⟨i,hi,rfl⟩:=List.mem_iff_getElem.1 hn
 have o:=(ord_iff.1 h) i hi
 rw[Z_,W_ hi] at o
 simp only[BD_] at o
 exact (ok _ hn).ok (by unfold In64;omega) fun h6=>by have:=o.2.2 h6;unfold In64;omega
section
variable {α:Type} [Inhabited α] {f:Nod→List α→α×Int} {g:Nod→α→α→α×Int} {D:α→Prop} {l:List Nod} {x:α}
end
theorem elems_eq {h x c:Int} (e:0<elems h x c):elems h x c=h*x*c:=by
 unfold elems at e ⊢
 split
 ·rfl
 ·rename_i hn;rw[j_ hn] at e;omega
theorem pad_right {T:Ten} (r:TRt T) {q z:Int} (he:elems (T.h+2*q) (T.x+2*q) T.c≠0):tenRight (padOf T q z).1=true:=by
 have b:=elems_bd (T.h+2*q) (T.x+2*q) T.c
 have c:=elems_ok (h:=T.h+2*q) (x:=T.x+2*q) (c:=T.c) (by omega)
 unfold padOf
 rw[j_ he]
 unfold tenRight
 dsimp only
 rw[gH_len]
 have e2:=elems_eq (h:=T.h+2*q) (x:=T.x+2*q) (c:=T.c) (by omega)
 rw[decide_eq_true (s_ (0<elems (T.h+2*q) (T.x+2*q) T.c)),BN_]
 refine decide_eq_true ?_
 rw[e2,BF_,BF_,AB_ (by omega),AB_ (by omega),AB_ (by omega),Int.mul_assoc]
theorem rowAcc_ren (T:Ten) (n:Nod) (u v a h w:Int):∀ j,rowAcc T { n with na:=u,nb:=v } a h w j=rowAcc T n a h w j
 | 0=>rfl
 | j+1=>by rw[rowAcc,rowAcc,rowAcc_ren T n u v a h w j];rfl
theorem sumAcc_ren (T:Ten) (n:Nod) (u v h w o:Int):∀ i,sumAcc T { n with na:=u,nb:=v } h w o i=sumAcc T n h w o i
 | 0=>rfl
 | i+1=>by rw[sumAcc,sumAcc,sumAcc_ren T n u v h w o i,rowAcc_ren]
theorem outL_ren (T:Ten) (n:Nod) (u v:Int):∀ i,outL T { n with na:=u,nb:=v } i=outL T n i
 | 0=>rfl
 | i+1=>by
  rw[outL,outL,outL_ren T n u v i]
  congr 1
  exact List.map_congr_left fun o _=>sumAcc_ren T n u v _ _ _ _
theorem dAcc_ren (T:Ten) (n:Nod) (u v h w c:Int):∀ i,dAcc T { n with na:=u,nb:=v } h w c i=dAcc T n h w c i
 | 0=>rfl
 | i+1=>by rw[dAcc,dAcc,dAcc_ren T n u v h w c i];rfl
theorem dL_ren (T:Ten) (n:Nod) (u v:Int):dL T { n with na:=u,nb:=v }=dL T n:=List.map_congr_left fun i _=>dAcc_ren T n u v _ _ _ _
theorem sumOf_ren (T:Ten) (n:Nod) (u v:Int):sumOf T { n with na:=u,nb:=v }=sumOf T n:=by
 unfold sumOf convOf depthOf
 rw[outL_ren,dL_ren];rfl
theorem valE_loc:Loc valE nodeOf where
 eq:=fun _ _ _=>rfl
 ren:=fun n u v a b h=>by
  unfold nodeOf
  rw[checkE_ren n u v h,sumOf_ren];rfl
theorem right_map {T:Ten} (r:tenRight T=true) {d:List Int} (h:d.length=T.d.length):tenRight ⟨T.h,T.x,T.c,d⟩=true:=by
 unfold tenRight at r ⊢;dsimp only;rw[h];exact r
theorem pool_right {T:Ten} {n:Nod} {m:Bool} (ok:T.Ok) (okn:n.Ok) (h:(poolOf T n m).2=0):tenRight (poolOf T n m).1=true:=by
 unfold poolOf at h ⊢
 split
 ·rename_i hr
  rw[i_ hr] at h
  split
  ·rename_i hs
   have p:=PlOk.n ⟨ok,okn,hr,hs⟩
   unfold tenRight
   dsimp only
   rw[poolL_len,p.en]
   have e:=p.en
   have h1:=p.h1;have x1:=p.x1;have c1:=p.r.c1;have sc:=p.sc
   have m:1*1*1≤(plS T n).h*(plS T n).x*(plS T n).c:=CI_ (CI_ h1 x1 (by omega) (by omega)) (by omega) (by omega) (BK_ (by omega) (by omega))
   simp only[O_,E_];omega
  ·rename_i hs;rw[j_ hs] at h;exact absurd h hs
 ·rename_i hr;rw[j_ hr] at h;exact absurd h (by decide)
theorem put_right {A:Ten} {n:Nod} (h:(putOf A n).2=0):tenRight (putOf A n).1=true:=by
 unfold putOf at h ⊢
 split
 ·rename_i c;rw[i_ c] at h;exact absurd h (by decide)
 ·rename_i c
  rw[j_ c] at h
  split
  ·rename_i c2;rw[i_ c2] at h;exact absurd h (by decide)
  ·have b:=elems_bd A.h A.x A.c
   unfold tenRight
   dsimp only
   rw[S_]
   simp only[O_,E_];omega
theorem act_right {T:Ten} {n:Nod} (h:(actOf T n).2=0):tenRight (actOf T n).1=true:=by
 unfold actOf at h ⊢
 split
 ·rename_i c;rw[i_ c] at h;exact absurd h (by decide)
 ·rename_i c
  rw[j_ c] at h
  split
  ·rename_i c2;rw[i_ c2] at h;exact absurd h (by decide)
  ·exact right_map (by simpa using c) (by rw[S_])
theorem join_right {T U:Ten} {n:Nod} (h:(joinOf T U n).2=0):tenRight (joinOf T U n).1=true:=by
 unfold joinOf at h ⊢
 split
 ·rename_i c;rw[i_ c] at h;exact absurd h (by decide)
 ·rename_i c
  rw[j_ c] at h
  split
  ·rename_i c2;rw[i_ c2] at h;exact absurd h (by decide)
  ·have r:tenRight T=true:=by
    cases e:tenRight T with
    | true=>rfl
    | false=>rw[e] at c;simp at c
   exact right_map r (by rw[S_,AG_])
theorem padOf_right {T:Ten} {q z:Int} (r:tenRight T=true) (h:(padOf T q z).2=0):elems (T.h+2*q) (T.x+2*q) T.c≠0∧tenRight (padOf T q z).1=true:=by
 by_cases c:elems (T.h+2*q) (T.x+2*q) T.c=0
 ·unfold padOf at h;rw[i_ c] at h;exact absurd h (by decide)
 ·exact ⟨c,pad_right (tenRight.rt r) c⟩
theorem nodeOf_right {n:Nod} {A B:Ten} (ok:A.Ok) (okn:n.Ok) (h:(nodeOf n A B).2=0):tenRight (nodeOf n A B).1=true:=by
 unfold nodeOf at h ⊢
 split
 ·rename_i c;rw[i_ c] at h;exact absurd h c
 ·rename_i c
  rw[j_ c] at h
  split
  ·rename_i c;rw[i_ c] at h;exact absurd h (by decide)
  ·rename_i r
   rw[j_ r] at h
   have r:tenRight A=true:=by simpa using r
   split
   ·rename_i c;rw[i_ c] at h;exact pool_right ok okn h
   ·rename_i c;rw[j_ c] at h
    split
    ·rename_i c;rw[i_ c] at h;exact pool_right ok okn h
    ·rename_i c;rw[j_ c] at h
     split
     ·rename_i c;rw[i_ c] at h;exact join_right h
     ·rename_i c;rw[j_ c] at h
      split
      ·rename_i c;rw[i_ c] at h;exact act_right h
      ·rename_i c;rw[j_ c] at h
       split
       ·rename_i c;rw[i_ c] at h
        split
        ·rename_i c;rw[i_ c] at h;exact absurd h c
        ·rename_i c;rw[j_ c] at h;exact (padOf_right r h).2
       ·rename_i c;rw[j_ c] at h
        split
        ·have t:=tenRight.rt r
         have t1:=t.dl;have t2:=t.el;have t3:=t.h1;have t4:=t.x1;have t5:=t.c1
         have m:1*1*1≤A.h*A.x*A.c:=CI_ (CI_ t3 t4 (by omega) (by omega)) t5 (by omega) (BK_ (by omega) (by omega))
         unfold tenRight elems
         dsimp only
         rw[i_ (by omega)]
         simp only[O_,E_];omega
        ·rename_i c;rw[j_ c] at h
         split
         ·rename_i c;rw[i_ c] at h;exact absurd h c
         ·rename_i c;rw[j_ c] at h;exact put_right h
theorem stepR_loc:Loc stepR nodeR where
 eq:=fun n L h=>by unfold stepR;rw[i_ h]
 ren:=fun n u v a b h=>by
  unfold nodeR
  rw[checkE_ren n u v h];rfl
noncomputable def rtsame_l_I (T:Ten) (k:Nat):VS:=stt 38 [(2,.ptr 2 0 0),(3,.ptr 3 0 0),(5,i64 k)] [(2,.var (tnC T)),(3,.var (tnC T))]
noncomputable def rtsame_l_Z (T:Ten):VS:=rtsame_l_I T (T.d.length)
theorem rtsame_l_s (T:Ten) (hl:T.d.length≤1000000) (k:Nat) (hk:k<T.d.length):VT N_ (fnC Tryz.f120 [1,1,0,1,0,0]) (rtsame_l_I T k) .normal (rtsame_l_I T (k+1)):=by
 have oz1:=(s_ (0≤(↑k:Int)))
 have oz2:=(map_at (row1 .i8) (0) (l:=T.d) (i:=k) hk)
 exact tR_ [r_,b_,.r [] [.row (sO oz2),.row (sO oz2)],d_,.r [] [.n ((↑k:Int)+1)]] [.any (rg [(20,18)]),.weak 5 (i64 (↑(k+1):Int)),.sort] (.d8 (show decide ((↑k:Int)<((K_ (row1 .i8) T.d).length:Int))=true by (simp;omega)) oz1 oz2 oz1 oz2 (show (T.d.getD k 0 != T.d.getD k 0)=false by (simp;done)) (i6n ((↑k:Int)+1) (by omega)) (wS_ k))
theorem rtsame_l_e (T:Ten) (hl:T.d.length≤1000000):VT N_ (fnC Tryz.f120 [1,1,0,1,0,0]) (rtsame_l_I T (T.d.length)) (.exit 0) (rtsame_l_Z T):=by
 exact tR_ [r_,d_] [.any (rg [(20,5)]),.sort] (.d (show decide ((T.d.length:Int)<((K_ (row1 .i8) T.d).length:Int))=false by (simp;done)))
theorem rtsame_l (T:Ten) (hl:T.d.length≤1000000):VT N_ (fnC Tryz.f120 [1,1,0,1,0]) (rtsame_l_I T 0) (.exit 0) (rtsame_l_Z T) :=
 VT.loop (fun k=>rtsame_l_I T k) (T.d.length) (fun k hk=>rtsame_l_s T hl k hk) (rtsame_l_e T hl) (by intro h;cases h)
theorem rtsame_v (T:Ten) (hl:T.d.length≤1000000):VC N_ 120 ([ten .i8 T,ten .i8 T]) (bv true):=by
 have oz3:=@rtsame_l (T) hl
 exact cR_ [r_,.r [] [.v (AI_ !eqNums [(L_,T.h,T.h),(L_,T.x,T.x),(L_,T.c,T.c)]),o_,o_,o_,o_,o_,o_,o_,.sel 1],d_,r_,.code [.any [0,1,4,6,7,8,9,10,11,19],.weak 5 (i64 (↑0:Int)),.sort] (AA_ 0) (zO oz3),r_] _ Tryz.func120 (.d4 (show BinTo N_ BinOp.neq 23 (Operand.tmp 7) (Operand.tmp 9) (BG_ #[AO_ L_ T.h,AO_ L_ T.x,AO_ L_ T.c]) (BG_ #[AO_ L_ T.h,AO_ L_ T.x,AO_ L_ T.c]) (AI_ !eqNums [(L_,T.h,T.h),(L_,T.x,T.x),(L_,T.c,T.c)]) from ((bin_nums (l:=[(L_,T.h,T.h),(L_,T.x,T.x),(L_,T.c,T.c)]) (by kernel_rfl) (by kernel_rfl) (by kernel_rfl) (by kernel_rfl) _ _).2)) (show (!eqNums [(L_,T.h,T.h),(L_,T.x,T.x),(L_,T.c,T.c)] || ((K_ (row1 .i8) T.d).length:Int) != ((K_ (row1 .i8) T.d).length:Int))=false by (simp[eqNums])) w0_ oz3)
theorem VOK.o {l:List Nod} {x:Ten} (h:VOK l x):orderedB l=true:=by
 unfold orderedB
 rw[CZ_]
 intro k hk
 rw[List.mem_range] at hk
 have t:=h.takes hk
 rw[there_iff];omega
theorem VOK.ne {l:List Nod} {x:Ten} (h:VOK l x):l≠[]:=List.length_pos_iff.1 h.s.e
structure Vals (l:List Nod) (x:Ten):Prop where
 v:VOK l x
 r:tenRight x=true
 e:∀ k,k<l.length→errL valE l x k=0
theorem Vals.d {l:List Nod} {x:Ten} (h:Vals l x) {v:Nat} (hv:v≤l.length):(gv valE l x v).Ok∧tenRight (gv valE l x v)=true:=by
 cases v with
 | zero=>exact ⟨h.v.ok,h.r⟩
 | succ k =>
  have q:=val_ok h.v.okl h.v.ok (Nat.le_of_lt hv)
  have ek:=h.e k hv
  unfold errL at ek
  rw[gv_next]
  have okn:=getD_in h.v.okl hv
  have okA:=getD_all (p:=Ten.Ok) ten0_ok q (l.getD k default).na.toNat
  exact ⟨nodeOf_ok okn okA,nodeOf_right okA okn ek⟩
theorem SOK.o {l:List Nod} {a:Shp} (h:SOK l a):orderedB l=true:=by
 unfold orderedB
 rw[CZ_]
 intro k hk
 rw[List.mem_range] at hk
 have q:=h.k k hk
 unfold errL at q
 have c:=(nextE_ok q).2.1
 rw[S_,growL_len] at c
 rw[there_iff] at *;omega
theorem pvalues_v (n:Nod)  : VC N_ 72 ([nod n]) (ints .i64 (takesL n)):=by
 rcases bft (n.kd==6) with hc0|hc0
 ·have gc0:n.kd=6:=bet hc0
  exact (cR_ [r_,r_,b_,r_] (AV.sl 1 [[i64 n.na],[i64 n.nb]]) Tryz.func72 (.d hc0)).weak (Y_ _) (CM_ (rows_to (row1 .i64) (r:=[[i64 n.na],[i64 n.nb]]) (l:=[n.na,n.nb]) (m:=takesL n) (by first|(simp only[C_,D_,AM_,AN_,A_,AK_,AL_];done)|rfl|(simp only[C_,D_,AM_,AN_,A_,AK_,AL_];rfl)) (show ([n.na,n.nb])=(takesL n) from (by (unfold takesL;rw[i_ (by simp_all)])))))
 ·have gc0:¬n.kd=6:=bef hc0
  exact (cR_ [r_,r_,d_,r_] (AV.sl 1 [[i64 n.na]]) Tryz.func72 (.d hc0)).weak (Y_ _) (CM_ (rows_to (row1 .i64) (r:=[[i64 n.na]]) (l:=[n.na]) (m:=takesL n) (by first|(simp only[C_,D_,AM_,AN_,A_,AK_,AL_];done)|rfl|(simp only[C_,D_,AM_,AN_,A_,AK_,AL_];rfl)) (show ([n.na])=(takesL n) from (by (unfold takesL;rw[j_ (by simp_all)])))))
theorem takes_in (n:Nod) (m:Int):(∀ k,k<(takesL n).length→0≤(takesL n).getD k 0∧(takesL n).getD k 0<m)↔thereB n m=true:=by
 rw[←takes_there];simp only[E_]
noncomputable def pord_iy_I (l:List Nod) (u:Nat) (L:List Int) (k:Nat):VS:=stt 30 [(3,i64 u),(7,.sl 19 (l.map nodC)),(8,i64 l.length),(9,i64 u),(15,ints .i64 L),(16,i64 L.length),(17,i64 k)] []
noncomputable def pord_iy_Z (l:List Nod) (u:Nat) (L:List Int):VS:=pord_iy_I l u L (L.length)
theorem pord_iy_s (l:List Nod) (u:Nat) (L:List Int) (hl:L.length≤2) (h:∀ k,k<L.length→0≤L.getD k 0∧L.getD k 0<(u:Int)+1) (k:Nat) (hk:k<L.length):VT N_ (fnC Tryz.f70 [1,0,1,0,0,1,1,0,0,1,1,0,0]) (pord_iy_I l u L k) .normal (pord_iy_I l u L (k+1)):=by
 have q:=h k hk
 have oz3:=(decide_eq_false (p:=(L.getD k 0<0)) (by omega))
 exact tR_ [r_,b_,.r [] [.row [i64 (L.getD k 0)]],.r [] [e_,e_,e_,f_],d_,.r [] [.n ((↑k:Int)+1)]] [.any (rg [(6,1),(18,11)]),.weak 17 (i64 (↑(k+1):Int)),.sort] (.c8 (decide_eq_true (p:=((↑k:Int)<(L.length:Int))) (by omega)) (s_ (0≤(↑k:Int))) (map_at (row1 .i64) (0) (l:=L) (i:=k) hk) oz3 oz3 oz3 oz3 (decide_eq_false (p:=(L.getD k 0>(↑u:Int))) (by omega))<|.d2 (i6n ((↑k:Int)+1) (by omega)) (wS_ k))
theorem pord_iy_e (l:List Nod) (u:Nat) (L:List Int) (hl:L.length≤2) (h:∀ k,k<L.length→0≤L.getD k 0∧L.getD k 0<(u:Int)+1):VT N_ (fnC Tryz.f70 [1,0,1,0,0,1,1,0,0,1,1,0,0]) (pord_iy_I l u L (L.length)) (.exit 2) (pord_iy_Z l u L):=by
 exact tR_ [r_,d_] [.any [18],.sort] (.d (decide_eq_false (p:=((L.length:Int)<(L.length:Int))) (by omega)))
theorem pord_iy (l:List Nod) (u:Nat) (L:List Int) (hl:L.length≤2) (h:∀ k,k<L.length→0≤L.getD k 0∧L.getD k 0<(u:Int)+1):VT N_ (fnC Tryz.f70 [1,0,1,0,0,1,1,0,0,1,1,0]) (pord_iy_I l u L 0) (.exit 2) (pord_iy_Z l u L) :=
 VT.loop (fun k=>pord_iy_I l u L k) (L.length) (fun k hk=>pord_iy_s l u L hl h k hk) (pord_iy_e l u L hl h) (by intro h;cases h)
noncomputable def pord_in_I (l:List Nod) (u:Nat) (L:List Int) (j:Nat) (k:Nat):VS:=stt 30 [(3,i64 u),(7,.sl 19 (l.map nodC)),(8,i64 l.length),(9,i64 u),(15,ints .i64 L),(16,i64 L.length),(17,i64 k)] []
noncomputable def pord_in_Z (l:List Nod) (u:Nat) (L:List Int) (j:Nat):VS:=stt 30 [(2,bv false)] []
theorem pord_in_s (l:List Nod) (u:Nat) (L:List Int) (j:Nat) (hl:L.length≤2) (hj:j<L.length) (hf:¬ (0≤L.getD j 0∧L.getD j 0<(u:Int)+1)) (h:∀ k,k<j→0≤L.getD k 0∧L.getD k 0<(u:Int)+1) (k:Nat) (hk:k<j):VT N_ (fnC Tryz.f70 [1,0,1,0,0,1,1,0,0,1,1,0,0]) (pord_in_I l u L j k) .normal (pord_in_I l u L j (k+1)):=by
 have q:=h k hk
 have oz3:=(decide_eq_false (p:=(L.getD k 0<0)) (by omega))
 exact tR_ [r_,b_,.r [] [.row [i64 (L.getD k 0)]],.r [] [e_,e_,e_,f_],d_,.r [] [.n ((↑k:Int)+1)]] [.any (rg [(6,1),(18,11)]),.weak 17 (i64 (↑(k+1):Int)),.sort] (.c8 (decide_eq_true (p:=((↑k:Int)<(L.length:Int))) (by omega)) (s_ (0≤(↑k:Int))) (map_at (row1 .i64) (0) (l:=L) (i:=k) (by omega)) oz3 oz3 oz3 oz3 (decide_eq_false (p:=(L.getD k 0>(↑u:Int))) (by omega))<|.d2 (i6n ((↑k:Int)+1) (by omega)) (wS_ k))
theorem pord_in_e (l:List Nod) (u:Nat) (L:List Int) (j:Nat) (hl:L.length≤2) (hj:j<L.length) (hf:¬ (0≤L.getD j 0∧L.getD j 0<(u:Int)+1)) (h:∀ k,k<j→0≤L.getD k 0∧L.getD k 0<(u:Int)+1):VT N_ (fnC Tryz.f70 [1,0,1,0,0,1,1,0,0,1,1,0,0]) (pord_in_I l u L j (j)) (.ret) (pord_in_Z l u L j):=by
 exact tR_ [r_,b_,.r [] [.row [i64 (L.getD j 0)]],.r [] [o_,o_,o_,.sel 1],b_,r_] [.any (rg [(3,1),(6,4),(15,9),(27,1)]),.sort] (.d4 (decide_eq_true (p:=((↑j:Int)<(L.length:Int))) (by omega)) (s_ (0≤(↑j:Int))) (map_at (row1 .i64) (0) (l:=L) (i:=j) hj) (show (decide (L.getD j 0<0) || decide (L.getD j 0>(↑u:Int)))=true by (simp at *;omega)))
theorem pord_in (l:List Nod) (u:Nat) (L:List Int) (j:Nat) (hl:L.length≤2) (hj:j<L.length) (hf:¬ (0≤L.getD j 0∧L.getD j 0<(u:Int)+1)) (h:∀ k,k<j→0≤L.getD k 0∧L.getD k 0<(u:Int)+1):VT N_ (fnC Tryz.f70 [1,0,1,0,0,1,1,0,0,1,1,0]) (pord_in_I l u L j 0) (.ret) (pord_in_Z l u L j) :=
 VT.loop (fun k=>pord_in_I l u L j k) (j) (fun k hk=>pord_in_s l u L j hl hj hf h k hk) (pord_in_e l u L j hl hj hf h) (by intro h;cases h)
noncomputable def pord_oy_I (l:List Nod) (k:Nat):VS:=stt 30 [(7,.sl 19 (l.map nodC)),(8,i64 l.length),(9,i64 k)] []
noncomputable def pord_oy_Z (l:List Nod):VS:=pord_oy_I l (l.length)
theorem pord_oy_s (l:List Nod) (hl:l.length≤1000) (h:∀ k:Nat,k<l.length→thereB (l.getD k default) ((k:Int)+1)=true) (k:Nat) (hk:k<l.length):VT N_ (fnC Tryz.f70 [1,0,1,0,0]) (pord_oy_I l k) .normal (pord_oy_I l (k+1)):=by
 have q:=(takes_in _ _).2 (h k hk)
 have q2:=takes_len (l.getD k default)
 have oz2:=(map_at (nodC) (default) (l:=l) (i:=k) hk)
 have oz3:=@pvalues_v (l.getD k default)
 have oz4:=(M_ (k:=.i64) (show ((((K_ (row1 .i64) (takesL (l.getD k default))).length:Int)):Int)=(((takesL (l.getD k default)).length:Int)) from (by (simp;done))))
 have oz6:=@pord_iy (l) (k) (takesL (l.getD k default)) (by omega) q
 exact tR_ [r_,b_,.r [] [.row (sO oz2)],.r [] [cr oz3],.code [.any (rg [(4,1),(10,5)]),.drop [4],.weak 16 (wO oz4),.weak 17 (i64 (↑0:Int)),.sort] (AA_ 2) (zO oz6),.r [] [.n ((↑k:Int)+1)]] [.any [3,15,16,17,29],.weak 9 (i64 (↑(k+1):Int)),.sort] (.c8 (decide_eq_true (p:=((↑k:Int)<(l.length:Int))) (by omega)) (s_ (0≤(↑k:Int))) oz2 oz3 oz4 w0_ oz6 (i6n ((↑k:Int)+1) (by omega))<|.d (wS_ k))
theorem pord_oy_e (l:List Nod) (hl:l.length≤1000) (h:∀ k:Nat,k<l.length→thereB (l.getD k default) ((k:Int)+1)=true):VT N_ (fnC Tryz.f70 [1,0,1,0,0]) (pord_oy_I l (l.length)) (.exit 0) (pord_oy_Z l):=by
 exact tR_ [r_,d_] [.any [10],.sort] (.d (decide_eq_false (p:=((l.length:Int)<(l.length:Int))) (by omega)))
theorem pord_oy (l:List Nod) (hl:l.length≤1000) (h:∀ k:Nat,k<l.length→thereB (l.getD k default) ((k:Int)+1)=true):VT N_ (fnC Tryz.f70 [1,0,1,0]) (pord_oy_I l 0) (.exit 0) (pord_oy_Z l) :=
 VT.loop (fun k=>pord_oy_I l k) (l.length) (fun k hk=>pord_oy_s l hl h k hk) (pord_oy_e l hl h) (by intro h;cases h)
noncomputable def pord_on_I (l:List Nod) (m i:Nat) (k:Nat):VS:=stt 30 [(7,.sl 19 (l.map nodC)),(8,i64 l.length),(9,i64 k)] []
noncomputable def pord_on_Z (l:List Nod) (m i:Nat):VS:=stt 30 [(2,bv false)] []
theorem pord_on_s (l:List Nod) (m i:Nat) (hl:l.length≤1000) (hm:m<l.length) (hj:i<(takesL (l.getD m default)).length) (hf:¬ (0≤(takesL (l.getD m default)).getD i 0∧(takesL (l.getD m default)).getD i 0<(m:Int)+1)) (hi:∀ k,k<i→0≤(takesL (l.getD m default)).getD k 0∧(takesL (l.getD m default)).getD k 0<(m:Int)+1) (h:∀ k:Nat,k<m→thereB (l.getD k default) ((k:Int)+1)=true) (k:Nat) (hk:k<m):VT N_ (fnC Tryz.f70 [1,0,1,0,0]) (pord_on_I l m i k) .normal (pord_on_I l m i (k+1)):=by
 have q:=(takes_in _ _).2 (h k hk)
 have q2:=takes_len (l.getD k default)
 have q3:k<l.length:=by omega
 have oz2:=(map_at (nodC) (default) (l:=l) (i:=k) q3)
 have oz3:=@pvalues_v (l.getD k default)
 have oz4:=(M_ (k:=.i64) (show ((((K_ (row1 .i64) (takesL (l.getD k default))).length:Int)):Int)=(((takesL (l.getD k default)).length:Int)) from (by (simp;done))))
 have oz6:=@pord_iy (l) (k) (takesL (l.getD k default)) (by omega) q
 exact tR_ [r_,b_,.r [] [.row (sO oz2)],.r [] [cr oz3],.code [.any (rg [(4,1),(10,5)]),.drop [4],.weak 16 (wO oz4),.weak 17 (i64 (↑0:Int)),.sort] (AA_ 2) (zO oz6),.r [] [.n ((↑k:Int)+1)]] [.any [3,15,16,17,29],.weak 9 (i64 (↑(k+1):Int)),.sort] (.c8 (decide_eq_true (p:=((↑k:Int)<(l.length:Int))) (by omega)) (s_ (0≤(↑k:Int))) oz2 oz3 oz4 w0_ oz6 (i6n ((↑k:Int)+1) (by omega))<|.d (wS_ k))
theorem pord_on_e (l:List Nod) (m i:Nat) (hl:l.length≤1000) (hm:m<l.length) (hj:i<(takesL (l.getD m default)).length) (hf:¬ (0≤(takesL (l.getD m default)).getD i 0∧(takesL (l.getD m default)).getD i 0<(m:Int)+1)) (hi:∀ k,k<i→0≤(takesL (l.getD m default)).getD k 0∧(takesL (l.getD m default)).getD k 0<(m:Int)+1) (h:∀ k:Nat,k<m→thereB (l.getD k default) ((k:Int)+1)=true):VT N_ (fnC Tryz.f70 [1,0,1,0,0]) (pord_on_I l m i (m)) (.ret) (pord_on_Z l m i):=by
 have q2:=takes_len (l.getD m default)
 have oz2:=(map_at (nodC) (default) (l:=l) (i:=m) hm)
 have oz3:=@pvalues_v (l.getD m default)
 have oz4:=(M_ (k:=.i64) (show ((((K_ (row1 .i64) (takesL (l.getD m default))).length:Int)):Int)=(((takesL (l.getD m default)).length:Int)) from (by (simp;done))))
 have oz6:=@pord_in (l) (m) (takesL (l.getD m default)) (i) (by omega) hj hf hi
 exact tR_ [r_,b_,.r [] [.row (sO oz2)],.r [] [cr oz3],.code [.any (rg [(4,1),(10,5)]),.drop [4],.weak 16 (wO oz4),.weak 17 (i64 (↑0:Int)),.sort] (DN_) (zO oz6)] [.sort] (.d7 (decide_eq_true (p:=((↑m:Int)<(l.length:Int))) (by omega)) (s_ (0≤(↑m:Int))) oz2 oz3 oz4 w0_ oz6)
theorem pord_on (l:List Nod) (m i:Nat) (hl:l.length≤1000) (hm:m<l.length) (hj:i<(takesL (l.getD m default)).length) (hf:¬ (0≤(takesL (l.getD m default)).getD i 0∧(takesL (l.getD m default)).getD i 0<(m:Int)+1)) (hi:∀ k,k<i→0≤(takesL (l.getD m default)).getD k 0∧(takesL (l.getD m default)).getD k 0<(m:Int)+1) (h:∀ k:Nat,k<m→thereB (l.getD k default) ((k:Int)+1)=true):VT N_ (fnC Tryz.f70 [1,0,1,0]) (pord_on_I l m i 0) (.ret) (pord_on_Z l m i) :=
 VT.loop (fun k=>pord_on_I l m i k) (m) (fun k hk=>pord_on_s l m i hl hm hj hf hi h k hk) (pord_on_e l m i hl hm hj hf hi h) (by intro h;cases h)
theorem pord_y (l:List Nod) (hl:l.length≤1000) (h:∀ k:Nat,k<l.length→thereB (l.getD k default) ((k:Int)+1)=true):VC N_ 70 ([.sl 19 (l.map nodC)]) (bv true):=by
 have oz2:=@pord_oy (l) hl h
 exact cR_ [r_,r_,.code [.any [0,2],.weak 8 (i64 (l.length:Int)),.weak 9 (i64 (↑0:Int)),.sort] (AA_ 0) (zO oz2),r_] _ Tryz.func70 (.d3 (M_ (k:=.i64) (show ((((K_ nodC l).length:Int)):Int)=((l.length:Int)) from (by (simp;done)))) w0_ oz2)
theorem pord_n (l:List Nod) (m i:Nat) (hl:l.length≤1000) (hm:m<l.length) (hj:i<(takesL (l.getD m default)).length) (hf:¬ (0≤(takesL (l.getD m default)).getD i 0∧(takesL (l.getD m default)).getD i 0<(m:Int)+1)) (hi:∀ k,k<i→0≤(takesL (l.getD m default)).getD k 0∧(takesL (l.getD m default)).getD k 0<(m:Int)+1) (h:∀ k:Nat,k<m→thereB (l.getD k default) ((k:Int)+1)=true):VC N_ 70 ([.sl 19 (l.map nodC)]) (bv false):=by
 have oz2:=@pord_on (l) (m) (i) hl hm hj hf hi h
 exact cR_ [r_,r_,.code [.any [0,2],.weak 8 (i64 (l.length:Int)),.weak 9 (i64 (↑0:Int)),.sort] (DN_) (zO oz2)] _ Tryz.func70 (.d3 (M_ (k:=.i64) (show ((((K_ nodC l).length:Int)):Int)=((l.length:Int)) from (by (simp;done)))) w0_ oz2)
theorem ordered_iff (l:List Nod):orderedB l=true↔∀ k:Nat,k<l.length→thereB (l.getD k default) ((k:Int)+1)=true:=by
 unfold orderedB;rw[CZ_];simp only[List.mem_range]
theorem pord_v (l:List Nod) (hl:l.length≤1000):VC N_ 70 [.sl 19 (l.map nodC)] (bv (orderedB l)):=by
 rcases all_or (fun k=>thereB (l.getD k default) ((k:Int)+1)) l.length with h|⟨m,h1,h2,h3⟩
 ·rw[(ordered_iff l).2 h];exact pord_y l hl h
 ·have:orderedB l=false:=by
   cases e:orderedB l with
   | false=>rfl
   | true=>have:=(ordered_iff l).1 e m h1;rw[h2] at this;cases this
  rw[this]
  rcases all_or (fun k=>decide (0≤(takesL (l.getD m default)).getD k 0∧(takesL (l.getD m default)).getD k 0<(m:Int)+1)) (takesL (l.getD m default)).length with g|⟨i,g1,g2,g3⟩
  ·have:=(takes_there (l.getD m default) ((m:Int)+1)).1 g;rw[h2] at this;cases this
  ·exact pord_n l m i hl h1 g1 (of_decide_eq_false g2) (fun k hk=>of_decide_eq_true (g3 k hk)) h3
abbrev usI (us:List Nat):List Int:=us.map fun u:Nat=>(u:Int)
def prunK (l:List Nod) (k:Nat):List Nod:=((usedL l).take k).map fun i=>pruneN (usedL l) (l.getD i default)
theorem prunK_len (l:List Nod) (k:Nat):(prunK l k).length≤k:=by unfold prunK;rw[S_,AE_];omega
theorem prunK_step {l:List Nod} {k:Nat} (hk:k<(usedL l).length):prunK l (k+1)=prunK l k++[pruneN (usedL l) (l.getD ((usedL l).getD k 0) default)]:=by
 unfold prunK
 rw[List.take_add_one,W_ hk,Z_ (l:=usedL l),W_ hk]
 simp only[Option.toList_some,C_,D_,AM_,BD_]
theorem prunK_all {l:List Nod} (h:orderedB l=true):prunK l (usedL l).length=pruneL l:=by unfold prunK pruneL;rw[List.take_length,i_ h]
theorem used_len (l:List Nod):(usedL l).length≤l.length:=by
 unfold usedL;have:=List.length_filter_le (usedB l) (BM_ l.length);rw[AG_] at this;exact this
theorem usI_at {us:List Nat} {k:Nat} (hk:k<us.length):(usI us).getD k 0=((us.getD k 0:Nat):Int):=by
 unfold usI;rw[Z_,AR_,W_ hk,Z_,W_ hk];rfl
def revS (L:List Int):Nat→List Int
 | 0=>L
 | k+1=>((revS L k).set k ((revS L k).getD (L.length-1-k) 0)).set (L.length-1-k) ((revS L k).getD k 0)
theorem revS_len (L:List Int):∀ k,(revS L k).length=L.length
 | 0=>rfl
 | k+1=>by rw[revS,BA_,BA_,revS_len L k]
theorem getD_set (L:List Int) (i j:Nat) (x:Int) (hi:i<L.length):(L.set i x).getD j 0=if i=j then x else L.getD j 0:=by
 rw[Z_,BH_,Z_]
 by_cases e:i=j
 ·subst e;simp[hi]
 ·simp[e]
theorem revS_get (L:List Int):∀ k,k≤L.length/2→∀ i,i<L.length→(revS L k).getD i 0=if i<k∨L.length-k≤i then L.getD (L.length-1-i) 0 else L.getD i 0
 | 0,_,i,hi=>by rw[revS,j_ (by omega)]
 | k+1,hk,i,hi=>by
  have ih:=revS_get L k (by omega)
  rw[revS,getD_set _ _ _ _ (by rw[BA_,revS_len];omega),getD_set _ _ _ _ (by rw[revS_len];omega)]
  by_cases e1:L.length-1-k=i
  ·rw[i_ e1,ih k (by omega),j_ (by omega),i_ (by omega)];congr 1;omega
  ·rw[j_ e1]
   by_cases e2:k=i
   ·rw[i_ e2,ih (L.length-1-k) (by omega),j_ (by omega),i_ (by omega)];congr 1;omega
   ·rw[j_ e2,ih i hi]
    by_cases e3:i<k∨L.length-k≤i
    ·rw[i_ e3,i_ (by omega)]
    ·rw[j_ e3,j_ (by omega)]
theorem revS_all (L:List Int):revS L (L.length/2)=L.reverse:=by
 apply List.ext_getElem?
 intro i
 by_cases hi:i<L.length
 ·have h1:=revS_get L (L.length/2) (AT_ _) i hi
  have h2:(revS L (L.length/2))[i]? = some ((revS L (L.length/2)).getD i 0):=by
   rw[Z_,W_ (by rw[revS_len];exact hi)];rfl
  rw[h2,h1,List.getElem?_reverse hi]
  have h3:∀ j,j<L.length→L[j]? = some (L.getD j 0):=fun j hj=>by rw[Z_,W_ hj];rfl
  rw[h3 _ (by omega)]
  split
  ·rfl
  ·congr 2;omega
 ·rw[CP_ (by rw[revS_len];omega),CP_ (by rw[List.length_reverse];omega)]
noncomputable def reverse_l_I (L:List Int) (k:Nat):VS:=stt 28 [(0,.own 100000),(2,i64 k),(3,i64 ((L.length:Int)-1-k))] [(100000,.slc 3 1 ((revS L k).map (row1 .i64)))]
noncomputable def reverse_l_Z (L:List Int):VS:=reverse_l_I L (L.length/2)
theorem reverse_l_s (L:List Int) (hl:L.length≤1000) (k:Nat) (hk:k<L.length/2):VT N_ (fnC Tryz.f73 [1,0,0]) (reverse_l_I L k) .normal (reverse_l_I L (k+1)):=by
 have q0:(K_ (row1 .i64) L).length=L.length:=S_ _
 have q:=revS_len L k
 have q9:L.length=(L.length:Nat):=rfl
 have q2:(K_ (row1 .i64) (revS L k)).length=(revS L k).length:=S_ _
 have q3:((L.length:Int)-1-k).toNat=L.length-1-k:=by omega
 have oz1:=(s_ (0≤(L.length:Int)-1-(↑k:Int)))
 have oz3:=(map_at (row1 .i64) (0) (l:=revS L k) (i:=((L.length:Int)-1-(↑k:Int)).toNat) (by omega))
 have oz4:=(s_ (0≤(↑k:Int)))
 have oz5:=(s_ ((↑k:Int)<((K_ (row1 .i64) (revS L k)).length:Int)))
 have oz6:=(map_at (row1 .i64) (0) (l:=revS L k) (i:=k) (by omega))
 have oz14:=(i6n ((L.length:Int)-1-(↑k:Int)-1) (by omega))
 have oz16:=(M_ (k:=.i64) (show (((L.length:Int)-1-(↑k:Int)-1):Int)=((L.length:Int)-1-(↑(k+1):Int)) from (by omega)))
 exact tR_ [r_,b_,.r [] [.row (sO oz3),.row (sO oz6),.nat 0,.nat 0],.r [] [.n ((↑k:Int)+1),.n (nO oz14)]] [.any (rg [(7,21)]),.weak 2 (i64 (↑(k+1):Int)),.weak 3 (wO oz16),.blk 100000 (Blk.slc 3 1 (K_ (row1 .i64) (revS L (k+1)))),.sort] (.c8 (decide_eq_true (p:=((↑k:Int)<(L.length:Int)-1-(↑k:Int))) (by omega)) oz1 (s_ ((L.length:Int)-1-(↑k:Int)<((K_ (row1 .i64) (revS L k)).length:Int))) oz3 oz4 oz5 oz6 oz4<|.c8 oz5 (s_ ((↑k:Int).toNat<(K_ (row1 .i64) (revS L k)).length)) oz1 (show (L.length:Int)-1-(↑k:Int)<(↑((K_ (row1 .i64) (revS L k)).set (↑k:Int).toNat [i64 ((revS L k).getD ((L.length:Int)-1-(↑k:Int)).toNat 0)]).length:Int) by (simp;omega)) (show ((L.length:Int)-1-(↑k:Int)).toNat<((K_ (row1 .i64) (revS L k)).set (↑k:Int).toNat [i64 ((revS L k).getD ((L.length:Int)-1-(↑k:Int)).toNat 0)]).length by (simp;omega)) (i6n ((↑k:Int)+1) (by omega)) oz14 (wS_ k)<|.d2 oz16 (show BlkW (Blk.slc 3 1 (((K_ (row1 .i64) (revS L k)).set (↑k:Int).toNat [i64 ((revS L k).getD ((L.length:Int)-1-(↑k:Int)).toNat 0)]).set ((L.length:Int)-1-(↑k:Int)).toNat [i64 ((revS L k).getD k 0)])) (Blk.slc 3 1 (K_ (row1 .i64) (revS L (k+1)))) from (BU_ (e:=3) (z:=1) (rows_to (row1 .i64) (r:=((K_ (row1 .i64) (revS L k)).set (↑k:Int).toNat [i64 ((revS L k).getD ((L.length:Int)-1-(↑k:Int)).toNat 0)]).set ((L.length:Int)-1-(↑k:Int)).toNat [i64 ((revS L k).getD k 0)]) (l:=((revS L k).set (↑k:Int).toNat ((revS L k).getD ((L.length:Int)-1-(↑k:Int)).toNat 0)).set ((L.length:Int)-1-(↑k:Int)).toNat ((revS L k).getD k 0)) (m:=revS L (k+1)) (by first|(simp only[C_,D_,AM_,AN_,A_,AK_,AL_];done)|rfl|(simp only[C_,D_,AM_,AN_,A_,AK_,AL_];rfl)) (show (((revS L k).set (↑k:Int).toNat ((revS L k).getD ((L.length:Int)-1-(↑k:Int)).toNat 0)).set ((L.length:Int)-1-(↑k:Int)).toNat ((revS L k).getD k 0))=(revS L (k+1)) from (by (rw[revS,q3,BO_])))))))
theorem reverse_l_e (L:List Int) (hl:L.length≤1000):VT N_ (fnC Tryz.f73 [1,0,0]) (reverse_l_I L (L.length/2)) (.exit 0) (reverse_l_Z L):=by
 have q:=revS_len L (L.length/2)
 have q2:(K_ (row1 .i64) (revS L (L.length/2))).length=(revS L (L.length/2)).length:=S_ _
 exact tR_ [r_,d_] [.any [7,8,9],.sort] (.d (decide_eq_false (p:=((↑(L.length/2):Int)<(L.length:Int)-1-(↑(L.length/2):Int))) (by omega)))
theorem reverse_l (L:List Int) (hl:L.length≤1000):VT N_ (fnC Tryz.f73 [1,0]) (reverse_l_I L 0) (.exit 0) (reverse_l_Z L) :=
 VT.loop (fun k=>reverse_l_I L k) (L.length/2) (fun k hk=>reverse_l_s L hl k hk) (reverse_l_e L hl) (by intro h;cases h)
theorem reverse_v (L:List Int) (hl:L.length≤1000):VM N_ 73 ([.own 100000]) ([(100000,.slc 3 1 (L.map (row1 .i64)))]) (.tup []) ([(100000,.slc 3 1 (L.reverse.map (row1 .i64)))]):=by
 have q0:(K_ (row1 .i64) L).length=L.length:=S_ _
 have oz0:=(i6n (((K_ (row1 .i64) L).length:Int)-1) (by omega))
 have oz2:=(M_ (k:=.i64) (show ((((K_ (row1 .i64) L).length:Int)-1):Int)=((L.length:Int)-1-(↑0:Int)) from (by omega)))
 have oz4:=@reverse_l (L) hl
 exact mR_ [.r [] [.n (nO oz0)],.code [.any [4,5,6],.weak 2 (i64 (↑0:Int)),.weak 3 (wO oz2),.blk 100000 (Blk.slc 3 1 (K_ (row1 .i64) (revS L 0))),.sort] (AA_ 0) (zO oz4)] [.blk 100000 (Blk.slc 3 1 (K_ (row1 .i64) L.reverse)),.sort] _ Tryz.func73 (.d6 oz0 w0_ oz2 (show BlkW (Blk.slc 3 1 (K_ (row1 .i64) L)) (Blk.slc 3 1 (K_ (row1 .i64) (revS L 0))) from (BU_ (e:=3) (z:=1) (rows_to (row1 .i64) (r:=K_ (row1 .i64) L) (l:=L) (m:=revS L 0) rfl (show (L)=(revS L 0) from (by rfl))))) oz4 (show BlkW (Blk.slc 3 1 (K_ (row1 .i64) (revS L (L.length/2)))) (Blk.slc 3 1 (K_ (row1 .i64) L.reverse)) from (BU_ (e:=3) (z:=1) (rows_to (row1 .i64) (r:=K_ (row1 .i64) (revS L (L.length/2))) (l:=revS L (L.length/2)) (m:=L.reverse) rfl (show (revS L (L.length/2))=(L.reverse) from (by (rw[←revS_all])))))))
abbrev rowB (b:Bool):List AV:=[bv b]
def setW (w:List Bool) (L:List Int):Nat→List Bool
 | 0=>w
 | k+1=>(setW w L k).set (L.getD k 0).toNat true
theorem setW_len (w:List Bool) (L:List Int):∀ k,(setW w L k).length=w.length
 | 0=>rfl
 | k+1=>by rw[setW,BA_,setW_len w L k]
theorem getD_setB (L:List Bool) (i j:Nat) (x:Bool) (hi:i<L.length):(L.set i x).getD j false=if i=j then x else L.getD j false:=by
 rw[Z_,BH_,Z_]
 by_cases e:i=j
 ·subst e;simp[hi]
 ·simp[e]
def wL (l:List Nod) (k:Nat):List Bool:=(BM_ (l.length+1)).map fun v:Nat=>wt l k (v:Int)
theorem wL_len (l:List Nod) (k:Nat):(wL l k).length=l.length+1:=by unfold wL;rw[S_,AG_]
theorem wL_at (l:List Nod) (k:Nat) {v:Nat} (hv:v<l.length+1):(wL l k).getD v false=wt l k (v:Int):=by
 unfold wL;rw[Z_,AR_,List.getElem?_range hv];rfl
theorem bools_ext {a b:List Bool} (h:a.length=b.length) (g:∀ v,v<b.length→a.getD v false=b.getD v false):a=b:=by
 apply List.ext_getElem?
 intro i
 by_cases hi:i<b.length
 ·have:=g i hi
  rw[Z_,Z_,W_ hi,W_ (by omega)] at this
  rw[W_ hi,W_ (by omega)];simpa using this
 ·rw[CP_ (by omega),CP_ (by omega)]
theorem wL_no {l:List Nod} {k:Nat} (h:wt l k ((l.length:Int)-k)=false):wL l (k+1)=wL l k:=by
 unfold wL;congr 1;funext v;rw[wt,h];simp
theorem setW_at {w:List Bool} {L:List Int} {k:Nat} (hk:k≤L.length) (h:∀ j,j<L.length→0≤L.getD j 0∧(L.getD j 0).toNat<w.length) (v:Nat):(setW w L k).getD v false=(w.getD v false || (BM_ k).any fun j=>decide (L.getD j 0=(v:Int))):=by
 induction k with
 | zero=>simp[setW]
 | succ k ih =>
  rw[setW,getD_setB _ _ _ _ (by rw[setW_len];exact (h k (by omega)).2),ih (by omega),List.range_succ,List.any_append]
  simp only[List.any_cons,List.any_nil,BW_]
  have:=h k (by omega)
  by_cases e:(L.getD k 0).toNat=v
  ·have e2:L.getD k 0=(v:Int):=by omega
   rw[i_ e,e2];simp
  ·have e2:¬ L.getD k 0=(v:Int):=by omega
   rw[j_ e];simp only[decide_eq_false e2,BW_]
theorem takes_any (n:Nod) (v:Int):((BM_ (takesL n).length).any fun j=>decide ((takesL n).getD j 0=v))=takesB n v:=by
 unfold takesL takesB
 by_cases h:n.kd=6
 ·rw[i_ h];simp[h,List.range_succ]
 ·rw[j_ h];simp[h,List.range_succ]
theorem wL_yes {l:List Nod} {k:Nat} (hk:k<l.length) (ho:orderedB l=true) (h:wt l k ((l.length:Int)-k)=true):setW (wL l k) (takesL (l.getD (l.length-1-k) default)) (takesL (l.getD (l.length-1-k) default)).length=wL l (k+1):=by
 have ht:=(takes_in _ _).2 ((ordered_iff l).1 ho (l.length-1-k) (by omega))
 refine bools_ext (by rw[setW_len,wL_len,wL_len]) fun v hv=>?_
 rw[wL_len] at hv
 rw[setW_at (AT_ _) (fun j hj=>by have:=ht j hj;rw[wL_len];omega),takes_any,wL_at l k hv,wL_at l (k+1) hv,wt,h];simp
theorem wL_0 (l:List Nod):((CE_ (l.length+1) false).set l.length true)=wL l 0:=by
 refine bools_ext (by rw[BA_,AH_,wL_len]) fun v hv=>?_
 rw[wL_len] at hv
 rw[getD_setB _ _ _ _ (by simp),wL_at l 0 hv,wt]
 by_cases e:l.length=v
 ·subst e;simp
 ·rw[j_ e,Z_,CC_,i_ hv]
  simp;omega
def revK (l:List Nod):Nat→List Int
 | 0=>[]
 | k+1=>if usedB l (l.length-1-k)=true then revK l k++[((l.length-1-k:Nat):Int)] else revK l k
theorem revK_len (l:List Nod):∀ k,(revK l k).length≤k
 | 0=>AT_ _
 | k+1=>by have:=revK_len l k;rw[revK];split<;>simp<;>omega
theorem revK_eq (l:List Nod):∀ k,k≤l.length→(revK l k).reverse=usI (((BM_ l.length).drop (l.length-k)).filter (usedB l))
 | 0,_=>by rw[Nat.sub_zero,List.drop_of_length_le (by simp)];rfl
 | k+1,hk=>by
  have hd:(BM_ l.length).drop (l.length-(k+1))=(l.length-1-k)::(BM_ l.length).drop (l.length-k):=by
   rw[List.drop_eq_getElem_cons (by simp;omega),List.getElem_range,show l.length-(k+1)+1=l.length-k by omega,show l.length-(k+1)=l.length-1-k by omega]
  rw[hd,revK,List.filter_cons]
  split
  ·rw[List.reverse_append,revK_eq l k (by omega)];rfl
  ·exact revK_eq l k (by omega)
theorem revK_all (l:List Nod):(revK l l.length).reverse=usI (usedL l):=by
 rw[revK_eq l l.length (AT_ _)];simp[usedL]
theorem revK_yes {l:List Nod} {k:Nat} (h:usedB l (l.length-1-k)=true):revK l (k+1)=revK l k++[((l.length-1-k:Nat):Int)]:=by rw[revK,i_ h]
theorem revK_no {l:List Nod} {k:Nat} (h:usedB l (l.length-1-k)=false):revK l (k+1)=revK l k:=by rw[revK,j_ (by simp[h])]
theorem wt_used {l:List Nod} {k:Nat} (hk:k<l.length):wt l k ((l.length:Int)-k)=usedB l (l.length-1-k):=by
 unfold usedB
 rw[show l.length-1-(l.length-1-k)=k by omega,show (((l.length-1-k:Nat):Int))+1=(l.length:Int)-k by omega]
noncomputable def pused_i_I (l:List Nod) (u:Int) (O L:List Int) (w:List Bool) (k:Nat):VS:=stt 58 [(0,.sl 19 (l.map nodC)),(3,.own 901),(4,.own 900),(5,i64 u),(45,ints .i64 L),(46,i64 L.length),(47,i64 k)] [(900,.slc 3 1 (O.map (row1 .i64))),(901,.slc 4 1 ((setW w L k).map rowB))]
noncomputable def pused_i_Z (l:List Nod) (u:Int) (O L:List Int) (w:List Bool):VS:=pused_i_I l u O L w (L.length)
theorem pused_i_s (l:List Nod) (u:Int) (O L:List Int) (w:List Bool) (hl:L.length≤2) (ho:O.length≤1000) (hw:∀ k,k<L.length→0≤L.getD k 0∧L.getD k 0<w.length) (k:Nat) (hk:k<L.length):VT N_ (fnC Tryz.f42 [1,0,1,1,1,1,1,0,1,0,0,1,0,0,1,1,1,0,0]) (pused_i_I l u O L w k) .normal (pused_i_I l u O L w (k+1)):=by
 have q:=hw k hk
 have q1:=setW_len w L k
 have q2:(K_ rowB (setW w L k)).length=(setW w L k).length:=S_ _
 exact tR_ [r_,b_,.r [] [.row [i64 (L.getD k 0)]],.r [] [.nat 0],.r [] [.n ((↑k:Int)+1)]] [.any (rg [(7,1),(48,7)]),.weak 47 (i64 (↑(k+1):Int)),.blk 901 (Blk.slc 4 1 (K_ rowB (setW w L (k+1)))),.sort] (.c8 (decide_eq_true (p:=((↑k:Int)<(L.length:Int))) (by omega)) (s_ (0≤(↑k:Int))) (map_at (row1 .i64) (0) (l:=L) (i:=k) hk) (s_ (0≤L.getD k 0)) (s_ (L.getD k 0<((K_ rowB (setW w L k)).length:Int))) (s_ ((L.getD k 0).toNat<(K_ rowB (setW w L k)).length)) (i6n ((↑k:Int)+1) (by omega)) (wS_ k)<|.d (show BlkW (Blk.slc 4 1 ((K_ rowB (setW w L k)).set (L.getD k 0).toNat [bv true])) (Blk.slc 4 1 (K_ rowB (setW w L (k+1)))) from (BU_ (e:=4) (z:=1) (rows_to (rowB) (r:=(K_ rowB (setW w L k)).set (L.getD k 0).toNat [bv true]) (l:=(setW w L k).set (L.getD k 0).toNat true) (m:=setW w L (k+1)) (by first|(simp only[C_,D_,AM_,AN_,A_,AK_,AL_];done)|rfl|(simp only[C_,D_,AM_,AN_,A_,AK_,AL_];rfl)|(simp only[C_,D_,AM_,AN_,A_,AK_,AL_,rowB,ints];done)) (show ((setW w L k).set (L.getD k 0).toNat true)=(setW w L (k+1)) from (by rfl))))))
theorem pused_i_e (l:List Nod) (u:Int) (O L:List Int) (w:List Bool) (hl:L.length≤2) (ho:O.length≤1000) (hw:∀ k,k<L.length→0≤L.getD k 0∧L.getD k 0<w.length):VT N_ (fnC Tryz.f42 [1,0,1,1,1,1,1,0,1,0,0,1,0,0,1,1,1,0,0]) (pused_i_I l u O L w (L.length)) (.exit 2) (pused_i_Z l u O L w):=by
 exact tR_ [r_,d_] [.any [48],.sort] (.d (decide_eq_false (p:=((L.length:Int)<(L.length:Int))) (by omega)))
theorem pused_i (l:List Nod) (u:Int) (O L:List Int) (w:List Bool) (hl:L.length≤2) (ho:O.length≤1000) (hw:∀ k,k<L.length→0≤L.getD k 0∧L.getD k 0<w.length):VT N_ (fnC Tryz.f42 [1,0,1,1,1,1,1,0,1,0,0,1,0,0,1,1,1,0]) (pused_i_I l u O L w 0) (.exit 2) (pused_i_Z l u O L w) :=
 VT.loop (fun k=>pused_i_I l u O L w k) (L.length) (fun k hk=>pused_i_s l u O L w hl ho hw k hk) (pused_i_e l u O L w hl ho hw) (by intro h;cases h)
noncomputable def pused_o_I (l:List Nod) (k:Nat):VS:=stt 58 [(0,.sl 19 (l.map nodC)),(3,.own 901),(4,.own 900),(5,i64 ((l.length:Int)-1-k))] [(900,.slc 3 1 ((revK l k).map (row1 .i64))),(901,.slc 4 1 ((wL l k).map rowB))]
noncomputable def pused_o_Z (l:List Nod):VS:=pused_o_I l (l.length)
theorem pused_o_s (l:List Nod) (hl:l.length≤1000) (ho:orderedB l=true) (k:Nat) (hk:k<l.length):VT N_ (fnC Tryz.f42 [1,0,1,1,1,1,1,0,1,0,0]) (pused_o_I l k) .normal (pused_o_I l (k+1)):=by
 have q:=revK_len l k
 have q1:=wL_len l k
 have q2:(K_ (row1 .i64) (revK l k)).length=(revK l k).length:=S_ _
 have q3:(K_ rowB (wL l k)).length=(wL l k).length:=S_ _
 have q4:=wt_used hk
 have q5:=@revK_yes l k
 have q6:=@revK_no l k
 have q7:=@wL_yes l k hk ho
 have q8:=@wL_no l k
 have q9:=takes_len (l.getD (l.length-1-k) default)
 have qa:=(takes_in _ _).2 ((ordered_iff l).1 ho (l.length-1-k) (by omega))
 have qb:((l.length:Int)-1-k).toNat=l.length-1-k:=by omega
 have qc:((l.length:Int)-1-k+1).toNat=l.length-k:=by omega
 have qd:=wL_at l k (v:=l.length-k) (by omega)
 have qe:(((l.length-k:Nat):Int))=(l.length:Int)-k:=by omega
 have qf:(!(wL l k).getD ((l.length:Int)-1-k+1).toNat default) = !usedB l (l.length-1-k):=by
  rw[qc];show (!(wL l k).getD (l.length-k) false)=_;rw[qd,qe,q4]
 have qg:(!(wL l k).getD ((l.length:Int)-1-k+1).toNat default)=false→usedB l (l.length-1-k)=true:=fun h=>by rw[qf] at h;simpa using h
 have qn:(!(wL l k).getD ((l.length:Int)-1-k+1).toNat default)=true→usedB l (l.length-1-k)=false:=fun h=>by rw[qf] at h;simpa using h
 have qh:((l.length-1-k:Nat):Int)=(l.length:Int)-1-k:=by omega
 have oz0:=(decide_eq_true (p:=((l.length:Int)-1-(↑k:Int)≥0)) (by omega))
 have oz1:=(i6n ((l.length:Int)-1-(↑k:Int)+1) (by omega))
 have oz2:=(s_ (0≤(l.length:Int)-1-(↑k:Int)+1))
 have oz3:=(s_ ((l.length:Int)-1-(↑k:Int)+1<((K_ rowB (wL l k)).length:Int)))
 have oz4:=(map_at (rowB) (default) (l:=wL l k) (i:=((l.length:Int)-1-(↑k:Int)+1).toNat) (by omega))
 rcases bft (!(wL l k).getD ((l.length:Int)-1-(↑k:Int)+1).toNat default) with hc0|hc0
 ·have gc0:(wL l k).getD ((l.length:Int)-1-(↑k:Int)+1).toNat default=false:=by first|exact hc0|exact of_decide_eq_true hc0|exact of_decide_eq_false hc0|simpa [eqNums] using hc0|(simp[eqNums] at hc0 ⊢;first|done|assumption|omega)
  have oz6:=(i6n ((l.length:Int)-1-(↑k:Int)-1) (by omega))
  have oz7:=(M_ (k:=.i64) (show (((l.length:Int)-1-(↑k:Int)-1):Int)=((l.length:Int)-1-(↑(k+1):Int)) from (by omega)))
  exact tR_ [r_,b_,.r [] [.n (nO oz1),.row (sO oz4)],b_,.r [] [.n (nO oz6)]] [.any (rg [(27,10)]),.weak 5 (wO oz7),.blk 900 (Blk.slc 3 1 (K_ (row1 .i64) (revK l (k+1)))),.blk 901 (Blk.slc 4 1 (K_ rowB (wL l (k+1)))),.sort] (.c8 oz0 oz1 oz2 oz3 oz4 hc0 oz6 oz7<|.d2 (show BlkW (Blk.slc 3 1 (K_ (row1 .i64) (revK l k))) (Blk.slc 3 1 (K_ (row1 .i64) (revK l (k+1)))) from (BU_ (e:=3) (z:=1) (rows_to (row1 .i64) (r:=K_ (row1 .i64) (revK l k)) (l:=revK l k) (m:=revK l (k+1)) rfl (show (revK l k)=(revK l (k+1)) from (by (rw[q6 (qn (by assumption))])))))) (show BlkW (Blk.slc 4 1 (K_ rowB (wL l k))) (Blk.slc 4 1 (K_ rowB (wL l (k+1)))) from (BU_ (e:=4) (z:=1) (rows_to (rowB) (r:=K_ rowB (wL l k)) (l:=wL l k) (m:=wL l (k+1)) rfl (show (wL l k)=(wL l (k+1)) from (by (rw[q8 (by rw[q4];exact qn (by assumption))])))))))
 ·have gc0:(wL l k).getD ((l.length:Int)-1-(↑k:Int)+1).toNat default=true:=by first|exact hc0|exact of_decide_eq_true hc0|exact of_decide_eq_false hc0|simpa [eqNums] using hc0|(simp[eqNums] at hc0 ⊢;first|done|assumption|omega)
  have oz9:=(map_at (nodC) (default) (l:=l) (i:=((l.length:Int)-1-(↑k:Int)).toNat) (by omega))
  have oz10:=@pvalues_v (l.getD ((l.length:Int)-1-(↑k:Int)).toNat default)
  have oz11:=(M_ (k:=.i64) (show (((↑(K_ (row1 .i64) (takesL (l.getD ((l.length:Int)-1-(↑k:Int)).toNat default))).length:Int)):Int)=((↑(takesL (l.getD ((l.length:Int)-1-(↑k:Int)).toNat default)).length:Int)) from (by (simp;done))))
  have oz15:=@pused_i (l) ((l.length:Int)-1-(↑k:Int)) (revK l k++[(l.length:Int)-1-(↑k:Int)]) (takesL (l.getD ((l.length:Int)-1-(↑k:Int)).toNat default)) (K_ (fun (v:Nat)=>wt l k (↑v:Int)) (BM_ (l.length+1))) (by (simp at *;omega)) (by (simp;omega)) (by (rw[qb];intro j hj;have:=qa j hj;simp only[S_,AG_];omega))
  have oz16:=(i6n ((l.length:Int)-1-(↑k:Int)-1) (by omega))
  have oz17:=(M_ (k:=.i64) (show (((l.length:Int)-1-(↑k:Int)-1):Int)=((l.length:Int)-1-(↑(k+1):Int)) from (by omega)))
  exact tR_ [r_,b_,.r [] [.n (nO oz1),.row (sO oz4)],d_,r_,.r [] [.row (sO oz9),cr oz10],.code [.any (rg [(27,2),(31,14)]),.drop [39],.ren 40 900,.weak 46 (wO oz11),.weak 47 (i64 (↑0:Int)),.blk 900 (Blk.slc 3 1 (K_ (row1 .i64) (revK l k++[(l.length:Int)-1-(↑k:Int)]))),.blk 901 (Blk.slc 4 1 (K_ rowB (setW (K_ (fun (v:Nat)=>wt l k (↑v:Int)) (BM_ (l.length+1))) (takesL (l.getD ((l.length:Int)-1-(↑k:Int)).toNat default)) 0))),.sort] (AA_ 2) (zO oz15),.r [] [.n (nO oz16)]] [.any [29,30,45,46,47],.weak 5 (wO oz17),.blk 900 (Blk.slc 3 1 (K_ (row1 .i64) (revK l (k+1)))),.blk 901 (Blk.slc 4 1 (K_ rowB (wL l (k+1)))),.sort] (.c8 oz0 oz1 oz2 oz3 oz4 hc0 (s_ (((K_ (row1 .i64) (revK l k)).length+1)*8≤140737488355328)) (s_ ((K_ (row1 .i64) (revK l k)).length+1≤9223372036854775807))<|.c8 (s_ (0≤(l.length:Int)-1-(↑k:Int))) oz9 oz10 oz11 w0_ (show BlkW (Blk.slc 3 1 (K_ (row1 .i64) (revK l k)++[[i64 ((l.length:Int)-1-(↑k:Int))]])) (Blk.slc 3 1 (K_ (row1 .i64) (revK l k++[(l.length:Int)-1-(↑k:Int)]))) from (BU_ (e:=3) (z:=1) (rows_to (row1 .i64) (r:=K_ (row1 .i64) (revK l k)++[[i64 ((l.length:Int)-1-(↑k:Int))]]) (l:=revK l k++[(l.length:Int)-1-(↑k:Int)]) (m:=revK l k++[(l.length:Int)-1-(↑k:Int)]) (by first|(simp only[C_,D_,AM_,AN_,A_,AK_,AL_];done)|rfl|(simp only[C_,D_,AM_,AN_,A_,AK_,AL_];rfl)) rfl))) (show BlkW (Blk.slc 4 1 (K_ rowB (wL l k))) (Blk.slc 4 1 (K_ rowB (setW (K_ (fun (v:Nat)=>wt l k (↑v:Int)) (BM_ (l.length+1))) (takesL (l.getD ((l.length:Int)-1-(↑k:Int)).toNat default)) 0))) from (BU_ (e:=4) (z:=1) (rows_to (rowB) (r:=K_ rowB (wL l k)) (l:=wL l k) (m:=setW (K_ (fun (v:Nat)=>wt l k (↑v:Int)) (BM_ (l.length+1))) (takesL (l.getD ((l.length:Int)-1-(↑k:Int)).toNat default)) 0) rfl (show (wL l k)=(setW (K_ (fun (v:Nat)=>wt l k (↑v:Int)) (BM_ (l.length+1))) (takesL (l.getD ((l.length:Int)-1-(↑k:Int)).toNat default)) 0) from (by rfl))))) oz15<|.d4 oz16 oz17 (show BlkW (Blk.slc 3 1 (K_ (row1 .i64) (revK l k++[(l.length:Int)-1-(↑k:Int)]))) (Blk.slc 3 1 (K_ (row1 .i64) (revK l (k+1)))) from (BU_ (e:=3) (z:=1) (rows_to (row1 .i64) (r:=K_ (row1 .i64) (revK l k++[(l.length:Int)-1-(↑k:Int)])) (l:=revK l k++[(l.length:Int)-1-(↑k:Int)]) (m:=revK l (k+1)) rfl (show (revK l k++[(l.length:Int)-1-(↑k:Int)])=(revK l (k+1)) from (by (rw[q5 (qg (by assumption)),qh])))))) (show BlkW (Blk.slc 4 1 (K_ rowB (setW (K_ (fun (v:Nat)=>wt l k (↑v:Int)) (BM_ (l.length+1))) (takesL (l.getD ((l.length:Int)-1-(↑k:Int)).toNat default)) (takesL (l.getD ((l.length:Int)-1-(↑k:Int)).toNat default)).length))) (Blk.slc 4 1 (K_ rowB (wL l (k+1)))) from (BU_ (e:=4) (z:=1) (rows_to (rowB) (r:=K_ rowB (setW (K_ (fun (v:Nat)=>wt l k (↑v:Int)) (BM_ (l.length+1))) (takesL (l.getD ((l.length:Int)-1-(↑k:Int)).toNat default)) (takesL (l.getD ((l.length:Int)-1-(↑k:Int)).toNat default)).length)) (l:=setW (K_ (fun (v:Nat)=>wt l k (↑v:Int)) (BM_ (l.length+1))) (takesL (l.getD ((l.length:Int)-1-(↑k:Int)).toNat default)) (takesL (l.getD ((l.length:Int)-1-(↑k:Int)).toNat default)).length) (m:=wL l (k+1)) rfl (show (setW (K_ (fun (v:Nat)=>wt l k (↑v:Int)) (BM_ (l.length+1))) (takesL (l.getD ((l.length:Int)-1-(↑k:Int)).toNat default)) (takesL (l.getD ((l.length:Int)-1-(↑k:Int)).toNat default)).length)=(wL l (k+1)) from (by (rw[qb];exact q7 (by rw[q4];exact qg (by assumption)))))))))
theorem pused_o_e (l:List Nod) (hl:l.length≤1000) (ho:orderedB l=true):VT N_ (fnC Tryz.f42 [1,0,1,1,1,1,1,0,1,0,0]) (pused_o_I l (l.length)) (.exit 0) (pused_o_Z l):=by
 exact tR_ [r_,d_] [.any [27,28],.sort] (.d (decide_eq_false (p:=((l.length:Int)-1-(l.length:Int)≥0)) (by omega)))
theorem pused_o (l:List Nod) (hl:l.length≤1000) (ho:orderedB l=true):VT N_ (fnC Tryz.f42 [1,0,1,1,1,1,1,0,1,0]) (pused_o_I l 0) (.exit 0) (pused_o_Z l) :=
 VT.loop (fun k=>pused_o_I l k) (l.length) (fun k hk=>pused_o_s l hl ho k hk) (pused_o_e l hl ho) (by intro h;cases h)
theorem pused_y (l:List Nod) (hl:l.length≤1000) (h0:l.length≠0) (ho:orderedB l=true):VC N_ 42 ([.sl 19 (l.map nodC)]) (ints .i64 (usI (usedL l))):=by
 have q0:(K_ nodC l).length=l.length:=S_ _
 have q1:=revK_len l l.length
 have q2:=wL_len l 0
 have oz0:=(show (((K_ nodC l).length:Int)==0)=false by (refine decide_eq_false ?_;omega))
 have oz2:=@pord_v (l) hl
 have oz6:=(i6n (((K_ nodC l).length:Int)+1) (by omega))
 have oz7:=(s_ (((K_ nodC l).length:Int)+1=((wL l 0).length:Int)))
 have oz15:=(i6n (((K_ nodC l).length:Int)-1) (by omega))
 have oz16:=(M_ (k:=.i64) (show ((((K_ nodC l).length:Int)-1):Int)=((l.length:Int)-1-(↑0:Int)) from (by omega)))
 have oz18:=@pused_o (l) hl ho
 have oz19:=@reverse_v (revK l l.length) (by omega)
 exact (cR_ [r_,.sc,.r [] [e_,e_,cr oz2,e_,f_],d_,.r [] [.n (nO oz6),.nats (wL l 0).length (wL l 0).length],.r [] [.nat 0],r_,.r [] [.n (nO oz15)],.code [.any (rg [(2,1),(8,19)]),.ren 19 901,.weak 5 (wO oz16),.nils 4 900 3 1,.blk 901 (Blk.slc 4 1 (K_ rowB (wL l 0))),.sort] (AA_ 0) (zO oz18),.r [] [.callm [(900,100000)] [] (rM oz19) (oM oz19)],r_] (AV.sl 1 (K_ (row1 .i64) (revK l l.length).reverse)) Tryz.func42 (.c8 oz0 oz0 oz2 oz0 oz0 (show (!orderedB l)=false by (simp;omega)) oz6 oz7<|.c8 oz7 (s_ ((wL l 0).length≤(wL l 0).length)) (s_ (1*(wL l 0).length≤281474976710656)) (s_ ((wL l 0).length≤9223372036854775807)) (s_ (0≤((K_ nodC l).length:Int))) (show ((K_ nodC l).length:Int)<((CE_ (wL l 0).length [bv false]).length:Int) by (simp;omega)) (show ((K_ nodC l).length:Int).toNat<(CE_ (wL l 0).length [bv false]).length by (simp;omega)) oz15<|.d4 oz16 (show BlkW (Blk.slc 4 1 ((CE_ (wL l 0).length [bv false]).set ((K_ nodC l).length:Int).toNat [bv true])) (Blk.slc 4 1 (K_ rowB (wL l 0))) from (BU_ (e:=4) (z:=1) (rows_to (rowB) (r:=(CE_ (wL l 0).length [bv false]).set ((K_ nodC l).length:Int).toNat [bv true]) (l:=(CE_ (wL l 0).length false).set ((K_ nodC l).length:Int).toNat true) (m:=wL l 0) (by first|(simp only[C_,D_,AM_,AN_,A_,AK_,AL_];done)|rfl|(simp only[C_,D_,AM_,AN_,A_,AK_,AL_];rfl)|(simp only[C_,D_,AM_,AN_,A_,AK_,AL_,rowB,ints];done)) (show ((CE_ (wL l 0).length false).set ((K_ nodC l).length:Int).toNat true)=(wL l 0) from (by (rw[wL_len,S_,BO_,wL_0])))))) oz18 oz19)).weak (Y_ _) (CM_ (rows_to (row1 .i64) (r:=K_ (row1 .i64) (revK l l.length).reverse) (l:=(revK l l.length).reverse) (m:=usI (usedL l)) rfl (show ((revK l l.length).reverse)=(usI (usedL l)) from (by (rw[←revK_all])))))
theorem pused_n (l:List Nod) (hl:l.length≤1000) (h0:l.length=0∨orderedB l=false):VC N_ 42 ([.sl 19 (l.map nodC)]) (ints .i64 []):=by
 have q0:(K_ nodC l).length=l.length:=S_ _
 have oz0:=@pord_v (l) hl
 exact (cR_ [r_,.sc,.r [] [o_,o_,cr oz0,o_,.sel 1],b_,r_] (AV.lit (AY_ none 0 0)) Tryz.func42 (.d2 oz0 (show (((K_ nodC l).length:Int)==0 || !orderedB l)=true by (rcases h0 with h0|h0<;>simp[h0])))).weak (Y_ _) (Weak.nil _)
theorem look_snoc (a b n:Int):∀ A:List (Int×Int),lookI (A++[(a,b)]) n=if (A.any fun p=>n==p.1)=true then lookI A n else if n=a then b else 0
 | []=>by simp only[List.nil_append,lookI,findI,List.any_nil,BV_,if_false];by_cases h:n=a<;>simp[h]
 | (k,v)::A=>by
  have ih:=look_snoc a b n A
  simp only[List.cons_append,lookI,findI,List.any_cons,X_]
  by_cases h:(n==k)=true
  ·simp[h]
  ·simp only[h,if_false,BV_,false_or]
   unfold lookI at ih
   cases h1:findI (A++[(a,b)]) n with
   | none =>
    rw[h1] at ih
    cases h2:findI A n with
    | none=>rw[h2] at ih;exact ih
    | some q=>obtain ⟨j,u⟩:=q;rw[h2] at ih;exact ih
   | some p =>
    obtain ⟨j',u'⟩:=p
    rw[h1] at ih
    cases h2:findI A n with
    | none=>rw[h2] at ih;exact ih
    | some q=>obtain ⟨j,u⟩:=q;rw[h2] at ih;exact ih
theorem put_snoc (n x:Int):∀ A:List (Int×Int),(A.any fun p=>n==p.1)=false→putI A n x=A++[(n,x)]
 | [],_=>rfl
 | (k,v)::A,h=>by
  simp only[List.any_cons,Q_] at h
  rw[putI,h.1,j_ (by simp),put_snoc n x A h.2];rfl
def nowL (us:List Nat):Nat→List (Int×Int)
 | 0=>[(0,0)]
 | k+1=>nowL us k++[(((us.getD k 0:Nat):Int)+1,(k:Int)+1)]
theorem now_keys (us:List Nat) (v:Int):∀ k,((nowL us k).any fun p=>v==p.1)=true↔v=0∨∃ j,j<k∧v=(us.getD j 0:Nat)+1
 | 0=>by simp[nowL]
 | k+1=>by
  rw[nowL,List.any_append,X_,now_keys us v k]
  simp only[List.any_cons,List.any_nil,BW_,I_]
  constructor
  ·rintro ((h|⟨j,h1,h2⟩)|h)
   ·exact .inl h
   ·exact .inr ⟨j,by omega,h2⟩
   ·exact .inr ⟨k,by omega,h⟩
  ·rintro (h|⟨j,h1,h2⟩)
   ·exact .inl (.inl h)
   ·by_cases e:j=k
    ·subst e;exact .inr h2
    ·exact .inl (.inr ⟨j,by omega,h2⟩)
theorem now_0 (us:List Nat):∀ k,lookI (nowL us k) 0=0
 | 0=>rfl
 | k+1=>by rw[nowL,look_snoc,i_ ((now_keys us 0 k).2 (.inl rfl)),now_0 us k]
theorem us_lt {us:List Nat} (h:us.Pairwise (· < ·)) {i j:Nat} (hij:i<j) (hj:j<us.length):us.getD i 0<us.getD j 0:=by
 have:=List.pairwise_iff_getElem.1 h i j (by omega) hj hij
 rw[Z_,W_ (by omega),Z_,W_ hj];exact this
theorem now_at {us:List Nat} (h:us.Pairwise (· < ·)):∀ {k},k≤us.length→∀ {j},j<k→lookI (nowL us k) ((us.getD j 0:Nat)+1)=(j:Int)+1
 | k+1,hk,j,hj=>by
  rw[nowL,look_snoc]
  by_cases e:j=k
  ·subst e
   rw[j_,i_ rfl]
   rw[now_keys]
   rintro (h1|⟨i,h1,h2⟩)
   ·omega
   ·have:=us_lt h h1 (by omega);omega
  ·rw[i_ ((now_keys _ _ _).2 (.inr ⟨j,by omega,rfl⟩)),now_at h (by omega) (by omega)]
theorem now_put {us:List Nat} (h:us.Pairwise (· < ·)) {k:Nat} (hk:k<us.length):putI (nowL us k) ((us.getD k 0:Nat)+1) ((k:Int)+1)=nowL us (k+1):=by
 have ha:((nowL us k).any fun p=>((us.getD k 0:Nat):Int)+1==p.1)=false:=by
  cases e:(nowL us k).any fun p=>((us.getD k 0:Nat):Int)+1==p.1 with
  | false=>rfl
  | true =>
   rcases (now_keys _ _ _).1 e with h1|⟨j,h1,h2⟩
   ·omega
   ·have:=us_lt h h1 hk;omega
 rw[put_snoc _ _ _ ha,nowL]
theorem now_look {l:List Nod} (ho:orderedB l=true) {k:Nat} (hk:k<(usedL l).length) {v:Int} (hv:takesB (l.getD ((usedL l).getD k 0) default) v=true):lookI (nowL (usedL l) k) v=numU (usedL l) v:=by
 obtain ⟨h1,h2,h3⟩:=used_takes ho (used_at hk) hv
 rcases h3 with rfl|h3
 ·rw[now_0,numU_0 _ (Int.le_refl 0)]
 ·by_cases e:v=0
  ·subst e;rw[now_0,numU_0 _ (Int.le_refl 0)]
  ·obtain ⟨j,hj,hjv⟩:=idx_used h3
   have hv2:v=((usedL l).getD j 0:Nat)+1:=by omega
   have hjk:j<k:=by
    rcases Nat.lt_trichotomy j k with h|h|h
    ·exact h
    ·subst h;omega
    ·have:=us_lt (used_sorted l) h hj;omega
   rw[hv2,now_at (used_sorted l) (by omega) hjk,numU_up (used_sorted l) hj]
theorem pcopied_v (n:Nod) (hw:n.w.length≤100000) (hb:n.b.length≤100000):VC N_ 71 ([nod n]) (nod n):=by
 have oz0:=@clone8_v (n.w) (by omega)
 have oz1:=@clone32_v (n.b) (by omega)
 exact cR_ [r_,.r [] [cr oz0,cr oz1],r_] _ Tryz.func71 (.d2 oz0 oz1)
noncomputable def pblock_c_I (l:List Nod) (k:Nat):VS:=stt 64 [(3,.own 900),(13,.sl 19 (l.map nodC)),(14,i64 l.length),(15,i64 k)] [(900,.slc 56 19 ((l.take k).map nodC))]
noncomputable def pblock_c_Z (l:List Nod):VS:=pblock_c_I l (l.length)
theorem pblock_c_s (l:List Nod) (hl:l.length≤1000) (hw:∀ n∈l,n.w.length≤100000∧n.b.length≤100000) (k:Nat) (hk:k<l.length):VT N_ (fnC Tryz.f40 [1,1,0,1,0,0,1,0,0]) (pblock_c_I l k) .normal (pblock_c_I l (k+1)):=by
 have q:=getD_in hw hk
 obtain ⟨q1,q2⟩:=q
 have q3:(K_ nodC (l.take k)).length=k:=by rw[S_,AE_];omega
 have q4:l.take (k+1)=l.take k++[l.getD k default]:=by
  rw[List.take_add_one,Z_,W_ hk];rfl
 have oz2:=(map_at (nodC) (default) (l:=l) (i:=k) hk)
 have oz3:=@pcopied_v (l.getD k default) q1 q2
 exact tR_ [r_,b_,.r [] [.row (sO oz2)],.r [] [cr oz3],.r [] [.n ((↑k:Int)+1)]] [.any (rg [(5,1),(16,9)]),.drop [5,22],.ren 23 900,.weak 15 (i64 (↑(k+1):Int)),.blk 900 (Blk.slc 56 19 (K_ nodC (AW_ (k+1) l))),.sort] (.c8 (decide_eq_true (p:=((↑k:Int)<(l.length:Int))) (by omega)) (s_ (0≤(↑k:Int))) oz2 oz3 (s_ (((K_ nodC (AW_ k l)).length+1)*168≤140737488355328)) (s_ ((K_ nodC (AW_ k l)).length+1≤9223372036854775807)) (i6n ((↑k:Int)+1) (by omega)) (wS_ k)<|.d (show BlkW (Blk.slc 56 19 (K_ nodC (AW_ k l)++[[i64 (l.getD k default).kd,i64 (l.getD k default).na,i64 (l.getD k default).nb,i64 (l.getD k default).nk,i64 (l.getD k default).ns,i64 (l.getD k default).np,i64 (l.getD k default).no,i8 (l.getD k default).za,i8 (l.getD k default).zb,AV.sl 1 (K_ (row1 .i8) (l.getD k default).w),AV.sl 1 (K_ (row1 .i32) (l.getD k default).b),i32 (l.getD k default).qm,i64 (l.getD k default).qs,i8 (l.getD k default).qz,i32 (l.getD k default).rm,i64 (l.getD k default).rs,i8 (l.getD k default).rz,i8 (l.getD k default).lo,i8 (l.getD k default).hi]])) (Blk.slc 56 19 (K_ nodC (AW_ (k+1) l))) from (BU_ (e:=56) (z:=19) (rows_to (nodC) (r:=K_ nodC (AW_ k l)++[[i64 (l.getD k default).kd,i64 (l.getD k default).na,i64 (l.getD k default).nb,i64 (l.getD k default).nk,i64 (l.getD k default).ns,i64 (l.getD k default).np,i64 (l.getD k default).no,i8 (l.getD k default).za,i8 (l.getD k default).zb,AV.sl 1 (K_ (row1 .i8) (l.getD k default).w),AV.sl 1 (K_ (row1 .i32) (l.getD k default).b),i32 (l.getD k default).qm,i64 (l.getD k default).qs,i8 (l.getD k default).qz,i32 (l.getD k default).rm,i64 (l.getD k default).rs,i8 (l.getD k default).rz,i8 (l.getD k default).lo,i8 (l.getD k default).hi]]) (l:=AW_ k l++[Nod.mk (l.getD k default).kd (l.getD k default).na (l.getD k default).nb (l.getD k default).nk (l.getD k default).ns (l.getD k default).np (l.getD k default).no (l.getD k default).za (l.getD k default).zb (l.getD k default).w (l.getD k default).b (l.getD k default).qm (l.getD k default).qs (l.getD k default).qz (l.getD k default).rm (l.getD k default).rs (l.getD k default).rz (l.getD k default).lo (l.getD k default).hi]) (m:=AW_ (k+1) l) (by first|(simp only[C_,D_,AM_,AN_,A_,AK_,AL_];done)|rfl|(simp only[C_,D_,AM_,AN_,A_,AK_,AL_];rfl)|(simp only[C_,D_,AM_,AN_,A_,AK_,AL_,nodC,ints];done)) (show (AW_ k l++[Nod.mk (l.getD k default).kd (l.getD k default).na (l.getD k default).nb (l.getD k default).nk (l.getD k default).ns (l.getD k default).np (l.getD k default).no (l.getD k default).za (l.getD k default).zb (l.getD k default).w (l.getD k default).b (l.getD k default).qm (l.getD k default).qs (l.getD k default).qz (l.getD k default).rm (l.getD k default).rs (l.getD k default).rz (l.getD k default).lo (l.getD k default).hi])=(AW_ (k+1) l) from (by (rw[q4])))))))
theorem pblock_c_e (l:List Nod) (hl:l.length≤1000) (hw:∀ n∈l,n.w.length≤100000∧n.b.length≤100000):VT N_ (fnC Tryz.f40 [1,1,0,1,0,0,1,0,0]) (pblock_c_I l (l.length)) (.exit 0) (pblock_c_Z l):=by
 exact tR_ [r_,d_] [.any [16],.sort] (.d (decide_eq_false (p:=((l.length:Int)<(l.length:Int))) (by omega)))
theorem pblock_c (l:List Nod) (hl:l.length≤1000) (hw:∀ n∈l,n.w.length≤100000∧n.b.length≤100000):VT N_ (fnC Tryz.f40 [1,1,0,1,0,0,1,0]) (pblock_c_I l 0) (.exit 0) (pblock_c_Z l) :=
 VT.loop (fun k=>pblock_c_I l k) (l.length) (fun k hk=>pblock_c_s l hl hw k hk) (pblock_c_e l hl hw) (by intro h;cases h)
noncomputable def pblock_m_I (l:List Nod) (k:Nat):VS:=stt 64 [(0,.sl 19 (l.map nodC)),(3,.own 900),(6,.mp 902),(29,ints .i64 (usI (usedL l))),(30,i64 (usedL l).length),(31,i64 k)] [(900,.slc 56 19 ((prunK l k).map nodC)),(902,.obj (mobj (nowL (usedL l) k)))]
noncomputable def pblock_m_Z (l:List Nod):VS:=pblock_m_I l ((usedL l).length)
theorem pblock_m_s (l:List Nod) (hl:l.length≤1000) (hw:∀ n∈l,n.w.length≤100000∧n.b.length≤100000) (ho:orderedB l=true) (k:Nat) (hk:k<(usedL l).length):VT N_ (fnC Tryz.f40 [1,1,1,1,0,1,0,0]) (pblock_m_I l k) .normal (pblock_m_I l (k+1)):=by
 have q:=prunK_len l k
 have q2:(K_ nodC (prunK l k)).length=(prunK l k).length:=S_ _
 have q3:=used_len l
 have q4:=usI_at hk
 have q5:=(mem_used.1 (used_at hk)).1
 have q6:=@prunK_step l k hk
 have q7:(usI (usedL l)).length=(usedL l).length:=S_ _
 have q9:(K_ (row1 .i64) (usI (usedL l))).length=(usI (usedL l)).length:=S_ _
 have q8:((usI (usedL l)).getD k 0).toNat=(usedL l).getD k 0:=by rw[q4];rfl
 have qw:=getD_in hw q5
 have qa:=now_look ho hk (takes_na _)
 have qb:=fun h=>now_look ho hk (takes_nb h)
 have qp:=now_put (used_sorted l) hk
 have ql:(prunK l k).length=k:=by unfold prunK;rw[S_,AE_];omega
 rw[←q8] at q6 qw qa
 simp only[←q8] at qb
 rw[←q4] at qp
 obtain ⟨qw1,qw2⟩:=qw
 unfold pruneN at q6
 have oz0:=(decide_eq_true (p:=((↑k:Int)<((usedL l).length:Int))) (by omega))
 have oz1:=(s_ (0≤(↑k:Int)))
 have oz2:=(map_at (row1 .i64) (0) (l:=usI (usedL l)) (i:=k) (by omega))
 have oz3:=(s_ (0≤(usI (usedL l)).getD k 0))
 have oz4:=(map_at (nodC) (default) (l:=l) (i:=((usI (usedL l)).getD k 0).toNat) (by omega))
 have oz5:=@pcopied_v (l.getD ((usI (usedL l)).getD k 0).toNat default) qw1 qw2
 have oz6:=(show mobj (nowL (usedL l) k)=mobj (nowL (usedL l) k) from rfl)
 rcases bft ((l.getD ((usI (usedL l)).getD k 0).toNat default).kd==6) with hc0|hc0
 ·have gc0:(l.getD ((usI (usedL l)).getD k 0).toNat default).kd=6:=bet hc0
  exact tR_ [r_,b_,.r [] [.row (sO oz2)],.r [] [.row (sO oz4),cr oz5],.r [] [.mapl (nowL (usedL l) k)],r_,b_,.r [] [.mapl (nowL (usedL l) k)],r_,.r [] [.n ((usI (usedL l)).getD k 0+1),.mapl (nowL (usedL l) k)],.r [] [.n ((↑k:Int)+1)]] [.any (rg [(8,2),(32,31)]),.drop [9,55],.ren 56 900,.weak 31 (i64 (↑(k+1):Int)),.blk 900 (Blk.slc 56 19 (K_ nodC (prunK l (k+1)))),.blk 902 (Blk.obj (mobj (nowL (usedL l) (k+1)))),.sort] (.c8 oz0 oz1 oz2 oz3 oz4 oz5 oz6 hc0<|.c8 oz6 (s_ (((K_ nodC (prunK l k)).length+1)*168≤140737488355328)) (s_ ((K_ nodC (prunK l k)).length+1≤9223372036854775807)) (i6n ((usI (usedL l)).getD k 0+1) (by omega)) oz6 (i6n ((↑k:Int)+1) (by omega)) (wS_ k) (show BlkW (Blk.slc 56 19 (K_ nodC (prunK l k)++[[i64 (l.getD ((usI (usedL l)).getD k 0).toNat default).kd,i64 (lookI (nowL (usedL l) k) (l.getD ((usI (usedL l)).getD k 0).toNat default).na),i64 (lookI (nowL (usedL l) k) (l.getD ((usI (usedL l)).getD k 0).toNat default).nb),i64 (l.getD ((usI (usedL l)).getD k 0).toNat default).nk,i64 (l.getD ((usI (usedL l)).getD k 0).toNat default).ns,i64 (l.getD ((usI (usedL l)).getD k 0).toNat default).np,i64 (l.getD ((usI (usedL l)).getD k 0).toNat default).no,i8 (l.getD ((usI (usedL l)).getD k 0).toNat default).za,i8 (l.getD ((usI (usedL l)).getD k 0).toNat default).zb,AV.sl 1 (K_ (row1 .i8) (l.getD ((usI (usedL l)).getD k 0).toNat default).w),AV.sl 1 (K_ (row1 .i32) (l.getD ((usI (usedL l)).getD k 0).toNat default).b),i32 (l.getD ((usI (usedL l)).getD k 0).toNat default).qm,i64 (l.getD ((usI (usedL l)).getD k 0).toNat default).qs,i8 (l.getD ((usI (usedL l)).getD k 0).toNat default).qz,i32 (l.getD ((usI (usedL l)).getD k 0).toNat default).rm,i64 (l.getD ((usI (usedL l)).getD k 0).toNat default).rs,i8 (l.getD ((usI (usedL l)).getD k 0).toNat default).rz,i8 (l.getD ((usI (usedL l)).getD k 0).toNat default).lo,i8 (l.getD ((usI (usedL l)).getD k 0).toNat default).hi]])) (Blk.slc 56 19 (K_ nodC (prunK l (k+1)))) from (BU_ (e:=56) (z:=19) (rows_to (nodC) (r:=K_ nodC (prunK l k)++[[i64 (l.getD ((usI (usedL l)).getD k 0).toNat default).kd,i64 (lookI (nowL (usedL l) k) (l.getD ((usI (usedL l)).getD k 0).toNat default).na),i64 (lookI (nowL (usedL l) k) (l.getD ((usI (usedL l)).getD k 0).toNat default).nb),i64 (l.getD ((usI (usedL l)).getD k 0).toNat default).nk,i64 (l.getD ((usI (usedL l)).getD k 0).toNat default).ns,i64 (l.getD ((usI (usedL l)).getD k 0).toNat default).np,i64 (l.getD ((usI (usedL l)).getD k 0).toNat default).no,i8 (l.getD ((usI (usedL l)).getD k 0).toNat default).za,i8 (l.getD ((usI (usedL l)).getD k 0).toNat default).zb,AV.sl 1 (K_ (row1 .i8) (l.getD ((usI (usedL l)).getD k 0).toNat default).w),AV.sl 1 (K_ (row1 .i32) (l.getD ((usI (usedL l)).getD k 0).toNat default).b),i32 (l.getD ((usI (usedL l)).getD k 0).toNat default).qm,i64 (l.getD ((usI (usedL l)).getD k 0).toNat default).qs,i8 (l.getD ((usI (usedL l)).getD k 0).toNat default).qz,i32 (l.getD ((usI (usedL l)).getD k 0).toNat default).rm,i64 (l.getD ((usI (usedL l)).getD k 0).toNat default).rs,i8 (l.getD ((usI (usedL l)).getD k 0).toNat default).rz,i8 (l.getD ((usI (usedL l)).getD k 0).toNat default).lo,i8 (l.getD ((usI (usedL l)).getD k 0).toNat default).hi]]) (l:=prunK l k++[Nod.mk (l.getD ((usI (usedL l)).getD k 0).toNat default).kd (lookI (nowL (usedL l) k) (l.getD ((usI (usedL l)).getD k 0).toNat default).na) (lookI (nowL (usedL l) k) (l.getD ((usI (usedL l)).getD k 0).toNat default).nb) (l.getD ((usI (usedL l)).getD k 0).toNat default).nk (l.getD ((usI (usedL l)).getD k 0).toNat default).ns (l.getD ((usI (usedL l)).getD k 0).toNat default).np (l.getD ((usI (usedL l)).getD k 0).toNat default).no (l.getD ((usI (usedL l)).getD k 0).toNat default).za (l.getD ((usI (usedL l)).getD k 0).toNat default).zb (l.getD ((usI (usedL l)).getD k 0).toNat default).w (l.getD ((usI (usedL l)).getD k 0).toNat default).b (l.getD ((usI (usedL l)).getD k 0).toNat default).qm (l.getD ((usI (usedL l)).getD k 0).toNat default).qs (l.getD ((usI (usedL l)).getD k 0).toNat default).qz (l.getD ((usI (usedL l)).getD k 0).toNat default).rm (l.getD ((usI (usedL l)).getD k 0).toNat default).rs (l.getD ((usI (usedL l)).getD k 0).toNat default).rz (l.getD ((usI (usedL l)).getD k 0).toNat default).lo (l.getD ((usI (usedL l)).getD k 0).toNat default).hi]) (m:=prunK l (k+1)) (by first|(simp only[C_,D_,AM_,AN_,A_,AK_,AL_];done)|rfl|(simp only[C_,D_,AM_,AN_,A_,AK_,AL_];rfl)|(simp only[C_,D_,AM_,AN_,A_,AK_,AL_,nodC,ints];done)) (show (prunK l k++[Nod.mk (l.getD ((usI (usedL l)).getD k 0).toNat default).kd (lookI (nowL (usedL l) k) (l.getD ((usI (usedL l)).getD k 0).toNat default).na) (lookI (nowL (usedL l) k) (l.getD ((usI (usedL l)).getD k 0).toNat default).nb) (l.getD ((usI (usedL l)).getD k 0).toNat default).nk (l.getD ((usI (usedL l)).getD k 0).toNat default).ns (l.getD ((usI (usedL l)).getD k 0).toNat default).np (l.getD ((usI (usedL l)).getD k 0).toNat default).no (l.getD ((usI (usedL l)).getD k 0).toNat default).za (l.getD ((usI (usedL l)).getD k 0).toNat default).zb (l.getD ((usI (usedL l)).getD k 0).toNat default).w (l.getD ((usI (usedL l)).getD k 0).toNat default).b (l.getD ((usI (usedL l)).getD k 0).toNat default).qm (l.getD ((usI (usedL l)).getD k 0).toNat default).qs (l.getD ((usI (usedL l)).getD k 0).toNat default).qz (l.getD ((usI (usedL l)).getD k 0).toNat default).rm (l.getD ((usI (usedL l)).getD k 0).toNat default).rs (l.getD ((usI (usedL l)).getD k 0).toNat default).rz (l.getD ((usI (usedL l)).getD k 0).toNat default).lo (l.getD ((usI (usedL l)).getD k 0).toNat default).hi])=(prunK l (k+1)) from (by (rw[q6,i_ (by assumption),qa,qb (by assumption)]))))))<|.d (show BlkW (Blk.obj (mobj (putI (nowL (usedL l) k) ((usI (usedL l)).getD k 0+1) (↑(K_ nodC (prunK l k)++[[i64 (l.getD ((usI (usedL l)).getD k 0).toNat default).kd,i64 (lookI (nowL (usedL l) k) (l.getD ((usI (usedL l)).getD k 0).toNat default).na),i64 (lookI (nowL (usedL l) k) (l.getD ((usI (usedL l)).getD k 0).toNat default).nb),i64 (l.getD ((usI (usedL l)).getD k 0).toNat default).nk,i64 (l.getD ((usI (usedL l)).getD k 0).toNat default).ns,i64 (l.getD ((usI (usedL l)).getD k 0).toNat default).np,i64 (l.getD ((usI (usedL l)).getD k 0).toNat default).no,i8 (l.getD ((usI (usedL l)).getD k 0).toNat default).za,i8 (l.getD ((usI (usedL l)).getD k 0).toNat default).zb,AV.sl 1 (K_ (row1 .i8) (l.getD ((usI (usedL l)).getD k 0).toNat default).w),AV.sl 1 (K_ (row1 .i32) (l.getD ((usI (usedL l)).getD k 0).toNat default).b),i32 (l.getD ((usI (usedL l)).getD k 0).toNat default).qm,i64 (l.getD ((usI (usedL l)).getD k 0).toNat default).qs,i8 (l.getD ((usI (usedL l)).getD k 0).toNat default).qz,i32 (l.getD ((usI (usedL l)).getD k 0).toNat default).rm,i64 (l.getD ((usI (usedL l)).getD k 0).toNat default).rs,i8 (l.getD ((usI (usedL l)).getD k 0).toNat default).rz,i8 (l.getD ((usI (usedL l)).getD k 0).toNat default).lo,i8 (l.getD ((usI (usedL l)).getD k 0).toNat default).hi]]).length:Int)))) (Blk.obj (mobj (nowL (usedL l) (k+1)))) from (BlkW.map (show putI (nowL (usedL l) k) ((usI (usedL l)).getD k 0+1) (↑(K_ nodC (prunK l k)++[[i64 (l.getD ((usI (usedL l)).getD k 0).toNat default).kd,i64 (lookI (nowL (usedL l) k) (l.getD ((usI (usedL l)).getD k 0).toNat default).na),i64 (lookI (nowL (usedL l) k) (l.getD ((usI (usedL l)).getD k 0).toNat default).nb),i64 (l.getD ((usI (usedL l)).getD k 0).toNat default).nk,i64 (l.getD ((usI (usedL l)).getD k 0).toNat default).ns,i64 (l.getD ((usI (usedL l)).getD k 0).toNat default).np,i64 (l.getD ((usI (usedL l)).getD k 0).toNat default).no,i8 (l.getD ((usI (usedL l)).getD k 0).toNat default).za,i8 (l.getD ((usI (usedL l)).getD k 0).toNat default).zb,AV.sl 1 (K_ (row1 .i8) (l.getD ((usI (usedL l)).getD k 0).toNat default).w),AV.sl 1 (K_ (row1 .i32) (l.getD ((usI (usedL l)).getD k 0).toNat default).b),i32 (l.getD ((usI (usedL l)).getD k 0).toNat default).qm,i64 (l.getD ((usI (usedL l)).getD k 0).toNat default).qs,i8 (l.getD ((usI (usedL l)).getD k 0).toNat default).qz,i32 (l.getD ((usI (usedL l)).getD k 0).toNat default).rm,i64 (l.getD ((usI (usedL l)).getD k 0).toNat default).rs,i8 (l.getD ((usI (usedL l)).getD k 0).toNat default).rz,i8 (l.getD ((usI (usedL l)).getD k 0).toNat default).lo,i8 (l.getD ((usI (usedL l)).getD k 0).toNat default).hi]]).length:Int)=nowL (usedL l) (k+1) from (by (rw[←qp];congr 1;simp;omega))))))
 ·have gc0:¬(l.getD ((usI (usedL l)).getD k 0).toNat default).kd=6:=bef hc0
  exact tR_ [r_,b_,.r [] [.row (sO oz2)],.r [] [.row (sO oz4),cr oz5],.r [] [.mapl (nowL (usedL l) k)],r_,d_,r_,.r [] [.n ((usI (usedL l)).getD k 0+1),.mapl (nowL (usedL l) k)],.r [] [.n ((↑k:Int)+1)]] [.any (rg [(8,2),(32,16),(53,10)]),.drop [9,55],.ren 56 900,.weak 31 (i64 (↑(k+1):Int)),.blk 900 (Blk.slc 56 19 (K_ nodC (prunK l (k+1)))),.blk 902 (Blk.obj (mobj (nowL (usedL l) (k+1)))),.sort] (.c8 oz0 oz1 oz2 oz3 oz4 oz5 oz6 hc0<|.d8 (s_ (((K_ nodC (prunK l k)).length+1)*168≤140737488355328)) (s_ ((K_ nodC (prunK l k)).length+1≤9223372036854775807)) (i6n ((usI (usedL l)).getD k 0+1) (by omega)) oz6 (i6n ((↑k:Int)+1) (by omega)) (wS_ k) (show BlkW (Blk.slc 56 19 (K_ nodC (prunK l k)++[[i64 (l.getD ((usI (usedL l)).getD k 0).toNat default).kd,i64 (lookI (nowL (usedL l) k) (l.getD ((usI (usedL l)).getD k 0).toNat default).na),i64 (l.getD ((usI (usedL l)).getD k 0).toNat default).nb,i64 (l.getD ((usI (usedL l)).getD k 0).toNat default).nk,i64 (l.getD ((usI (usedL l)).getD k 0).toNat default).ns,i64 (l.getD ((usI (usedL l)).getD k 0).toNat default).np,i64 (l.getD ((usI (usedL l)).getD k 0).toNat default).no,i8 (l.getD ((usI (usedL l)).getD k 0).toNat default).za,i8 (l.getD ((usI (usedL l)).getD k 0).toNat default).zb,AV.sl 1 (K_ (row1 .i8) (l.getD ((usI (usedL l)).getD k 0).toNat default).w),AV.sl 1 (K_ (row1 .i32) (l.getD ((usI (usedL l)).getD k 0).toNat default).b),i32 (l.getD ((usI (usedL l)).getD k 0).toNat default).qm,i64 (l.getD ((usI (usedL l)).getD k 0).toNat default).qs,i8 (l.getD ((usI (usedL l)).getD k 0).toNat default).qz,i32 (l.getD ((usI (usedL l)).getD k 0).toNat default).rm,i64 (l.getD ((usI (usedL l)).getD k 0).toNat default).rs,i8 (l.getD ((usI (usedL l)).getD k 0).toNat default).rz,i8 (l.getD ((usI (usedL l)).getD k 0).toNat default).lo,i8 (l.getD ((usI (usedL l)).getD k 0).toNat default).hi]])) (Blk.slc 56 19 (K_ nodC (prunK l (k+1)))) from (BU_ (e:=56) (z:=19) (rows_to (nodC) (r:=K_ nodC (prunK l k)++[[i64 (l.getD ((usI (usedL l)).getD k 0).toNat default).kd,i64 (lookI (nowL (usedL l) k) (l.getD ((usI (usedL l)).getD k 0).toNat default).na),i64 (l.getD ((usI (usedL l)).getD k 0).toNat default).nb,i64 (l.getD ((usI (usedL l)).getD k 0).toNat default).nk,i64 (l.getD ((usI (usedL l)).getD k 0).toNat default).ns,i64 (l.getD ((usI (usedL l)).getD k 0).toNat default).np,i64 (l.getD ((usI (usedL l)).getD k 0).toNat default).no,i8 (l.getD ((usI (usedL l)).getD k 0).toNat default).za,i8 (l.getD ((usI (usedL l)).getD k 0).toNat default).zb,AV.sl 1 (K_ (row1 .i8) (l.getD ((usI (usedL l)).getD k 0).toNat default).w),AV.sl 1 (K_ (row1 .i32) (l.getD ((usI (usedL l)).getD k 0).toNat default).b),i32 (l.getD ((usI (usedL l)).getD k 0).toNat default).qm,i64 (l.getD ((usI (usedL l)).getD k 0).toNat default).qs,i8 (l.getD ((usI (usedL l)).getD k 0).toNat default).qz,i32 (l.getD ((usI (usedL l)).getD k 0).toNat default).rm,i64 (l.getD ((usI (usedL l)).getD k 0).toNat default).rs,i8 (l.getD ((usI (usedL l)).getD k 0).toNat default).rz,i8 (l.getD ((usI (usedL l)).getD k 0).toNat default).lo,i8 (l.getD ((usI (usedL l)).getD k 0).toNat default).hi]]) (l:=prunK l k++[Nod.mk (l.getD ((usI (usedL l)).getD k 0).toNat default).kd (lookI (nowL (usedL l) k) (l.getD ((usI (usedL l)).getD k 0).toNat default).na) (l.getD ((usI (usedL l)).getD k 0).toNat default).nb (l.getD ((usI (usedL l)).getD k 0).toNat default).nk (l.getD ((usI (usedL l)).getD k 0).toNat default).ns (l.getD ((usI (usedL l)).getD k 0).toNat default).np (l.getD ((usI (usedL l)).getD k 0).toNat default).no (l.getD ((usI (usedL l)).getD k 0).toNat default).za (l.getD ((usI (usedL l)).getD k 0).toNat default).zb (l.getD ((usI (usedL l)).getD k 0).toNat default).w (l.getD ((usI (usedL l)).getD k 0).toNat default).b (l.getD ((usI (usedL l)).getD k 0).toNat default).qm (l.getD ((usI (usedL l)).getD k 0).toNat default).qs (l.getD ((usI (usedL l)).getD k 0).toNat default).qz (l.getD ((usI (usedL l)).getD k 0).toNat default).rm (l.getD ((usI (usedL l)).getD k 0).toNat default).rs (l.getD ((usI (usedL l)).getD k 0).toNat default).rz (l.getD ((usI (usedL l)).getD k 0).toNat default).lo (l.getD ((usI (usedL l)).getD k 0).toNat default).hi]) (m:=prunK l (k+1)) (by first|(simp only[C_,D_,AM_,AN_,A_,AK_,AL_];done)|rfl|(simp only[C_,D_,AM_,AN_,A_,AK_,AL_];rfl)|(simp only[C_,D_,AM_,AN_,A_,AK_,AL_,nodC,ints];done)) (show (prunK l k++[Nod.mk (l.getD ((usI (usedL l)).getD k 0).toNat default).kd (lookI (nowL (usedL l) k) (l.getD ((usI (usedL l)).getD k 0).toNat default).na) (l.getD ((usI (usedL l)).getD k 0).toNat default).nb (l.getD ((usI (usedL l)).getD k 0).toNat default).nk (l.getD ((usI (usedL l)).getD k 0).toNat default).ns (l.getD ((usI (usedL l)).getD k 0).toNat default).np (l.getD ((usI (usedL l)).getD k 0).toNat default).no (l.getD ((usI (usedL l)).getD k 0).toNat default).za (l.getD ((usI (usedL l)).getD k 0).toNat default).zb (l.getD ((usI (usedL l)).getD k 0).toNat default).w (l.getD ((usI (usedL l)).getD k 0).toNat default).b (l.getD ((usI (usedL l)).getD k 0).toNat default).qm (l.getD ((usI (usedL l)).getD k 0).toNat default).qs (l.getD ((usI (usedL l)).getD k 0).toNat default).qz (l.getD ((usI (usedL l)).getD k 0).toNat default).rm (l.getD ((usI (usedL l)).getD k 0).toNat default).rs (l.getD ((usI (usedL l)).getD k 0).toNat default).rz (l.getD ((usI (usedL l)).getD k 0).toNat default).lo (l.getD ((usI (usedL l)).getD k 0).toNat default).hi])=(prunK l (k+1)) from (by (rw[q6,j_ (by assumption),qa])))))) (show BlkW (Blk.obj (mobj (putI (nowL (usedL l) k) ((usI (usedL l)).getD k 0+1) (↑(K_ nodC (prunK l k)++[[i64 (l.getD ((usI (usedL l)).getD k 0).toNat default).kd,i64 (lookI (nowL (usedL l) k) (l.getD ((usI (usedL l)).getD k 0).toNat default).na),i64 (l.getD ((usI (usedL l)).getD k 0).toNat default).nb,i64 (l.getD ((usI (usedL l)).getD k 0).toNat default).nk,i64 (l.getD ((usI (usedL l)).getD k 0).toNat default).ns,i64 (l.getD ((usI (usedL l)).getD k 0).toNat default).np,i64 (l.getD ((usI (usedL l)).getD k 0).toNat default).no,i8 (l.getD ((usI (usedL l)).getD k 0).toNat default).za,i8 (l.getD ((usI (usedL l)).getD k 0).toNat default).zb,AV.sl 1 (K_ (row1 .i8) (l.getD ((usI (usedL l)).getD k 0).toNat default).w),AV.sl 1 (K_ (row1 .i32) (l.getD ((usI (usedL l)).getD k 0).toNat default).b),i32 (l.getD ((usI (usedL l)).getD k 0).toNat default).qm,i64 (l.getD ((usI (usedL l)).getD k 0).toNat default).qs,i8 (l.getD ((usI (usedL l)).getD k 0).toNat default).qz,i32 (l.getD ((usI (usedL l)).getD k 0).toNat default).rm,i64 (l.getD ((usI (usedL l)).getD k 0).toNat default).rs,i8 (l.getD ((usI (usedL l)).getD k 0).toNat default).rz,i8 (l.getD ((usI (usedL l)).getD k 0).toNat default).lo,i8 (l.getD ((usI (usedL l)).getD k 0).toNat default).hi]]).length:Int)))) (Blk.obj (mobj (nowL (usedL l) (k+1)))) from (BlkW.map (show putI (nowL (usedL l) k) ((usI (usedL l)).getD k 0+1) (↑(K_ nodC (prunK l k)++[[i64 (l.getD ((usI (usedL l)).getD k 0).toNat default).kd,i64 (lookI (nowL (usedL l) k) (l.getD ((usI (usedL l)).getD k 0).toNat default).na),i64 (l.getD ((usI (usedL l)).getD k 0).toNat default).nb,i64 (l.getD ((usI (usedL l)).getD k 0).toNat default).nk,i64 (l.getD ((usI (usedL l)).getD k 0).toNat default).ns,i64 (l.getD ((usI (usedL l)).getD k 0).toNat default).np,i64 (l.getD ((usI (usedL l)).getD k 0).toNat default).no,i8 (l.getD ((usI (usedL l)).getD k 0).toNat default).za,i8 (l.getD ((usI (usedL l)).getD k 0).toNat default).zb,AV.sl 1 (K_ (row1 .i8) (l.getD ((usI (usedL l)).getD k 0).toNat default).w),AV.sl 1 (K_ (row1 .i32) (l.getD ((usI (usedL l)).getD k 0).toNat default).b),i32 (l.getD ((usI (usedL l)).getD k 0).toNat default).qm,i64 (l.getD ((usI (usedL l)).getD k 0).toNat default).qs,i8 (l.getD ((usI (usedL l)).getD k 0).toNat default).qz,i32 (l.getD ((usI (usedL l)).getD k 0).toNat default).rm,i64 (l.getD ((usI (usedL l)).getD k 0).toNat default).rs,i8 (l.getD ((usI (usedL l)).getD k 0).toNat default).rz,i8 (l.getD ((usI (usedL l)).getD k 0).toNat default).lo,i8 (l.getD ((usI (usedL l)).getD k 0).toNat default).hi]]).length:Int)=nowL (usedL l) (k+1) from (by (rw[←qp];congr 1;simp;omega))))))
theorem pblock_m_e (l:List Nod) (hl:l.length≤1000) (hw:∀ n∈l,n.w.length≤100000∧n.b.length≤100000) (ho:orderedB l=true):VT N_ (fnC Tryz.f40 [1,1,1,1,0,1,0,0]) (pblock_m_I l ((usedL l).length)) (.exit 2) (pblock_m_Z l):=by
 exact tR_ [r_,d_] [.any [32],.sort] (.d (decide_eq_false (p:=(((usedL l).length:Int)<((usedL l).length:Int))) (by omega)))
theorem pblock_m (l:List Nod) (hl:l.length≤1000) (hw:∀ n∈l,n.w.length≤100000∧n.b.length≤100000) (ho:orderedB l=true):VT N_ (fnC Tryz.f40 [1,1,1,1,0,1,0]) (pblock_m_I l 0) (.exit 2) (pblock_m_Z l) :=
 VT.loop (fun k=>pblock_m_I l k) ((usedL l).length) (fun k hk=>pblock_m_s l hl hw ho k hk) (pblock_m_e l hl hw ho) (by intro h;cases h)
end Go.Proofs.YtdfihaminnmgpaaGreat
