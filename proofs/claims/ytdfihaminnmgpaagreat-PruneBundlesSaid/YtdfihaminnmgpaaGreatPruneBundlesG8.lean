/- A part of this claim. No condition. -/
import Derived.Test.YtdfihaminnmgpaaGreatPruneBundlesG7
set_option maxRecDepth 100000
set_option maxHeartbeats 2000000
set_option linter.unusedVariables false
set_option linter.unusedSimpArgs false
set_option linter.unnecessarySimpa false
namespace Go.Proofs.YtdfihaminnmgpaaGreat
open Go.RowKit
open BlkW renaming rows→BU_
open Bool renaming and_eq_true→O_,and_eq_false_iff→P_,or_eq_false_iff→Q_,not_eq_false'→T_,not_eq_true'→U_,or_eq_true→X_,and_true→B_,false_and→AD_,not_eq_eq_eq_not→BL_,true_and→BN_,not_false→BP_,and_false→BR_,not_true→BS_,false_or→BT_,or_false→BW_
open Exit renaming exit→AA_,ret→DN_
open Int renaming toNat_of_nonneg→AB_,mul_nonneg→BK_,toNat_natCast→BO_,natCast_mul→BF_,not_lt→CO_,not_le→CF_
open IntKind renaming i64→L_
open List renaming map→K_,length_map→S_,getElem?_eq_getElem→W_,getD_eq_getElem?_getD→Z_,map_replicate→A_,map_append→C_,map_cons→D_,map_take→AK_,map_drop→AL_,map_nil→AM_,map_set→AN_,take→AW_,length_append→AX_,eq_nil_of_length_eq_zero→AC_,length_take→AE_,length_range→AG_,length_replicate→AH_,length_cons→AJ_,range→BM_,map_eq_nil_iff→BQ_,length_drop→BZ_,length_set→BA_,length_nil→BB_,all_eq_true→CZ_,getElem_mem→CD_
open Nat renaming le_refl→AT_,zero_add→BX_
open Tryz renaming prog→N_
open Value renaming int→AO_,slice→AY_,bool→AI_,agg→BG_
open Weak renaming int→M_,tup→AS_,agg→AV_,rows→CM_,bool→DK_
open WeakL renaming refl→Y_
def usedE (l:List Nod):List Int:=if orderedB l=true then usI (usedL l) else []
theorem pused_v (l:List Nod) (hl:l.length≤1000):VC N_ 42 [.sl 19 (l.map nodC)] (ints .i64 (usedE l)):=by
 unfold usedE
 by_cases h0:l.length=0
 ·have:l=[]:=AC_ h0
  subst this
  exact pused_n [] hl (.inl rfl)
 ·cases e:orderedB l with
  | true=>rw[i_ rfl];exact pused_y l hl h0 e
  | false=>rw[j_ (by simp)];exact pused_n l hl (.inr e)
theorem pblock_y (l:List Nod) (hl:l.length≤1000) (hw:∀ n∈l,n.w.length≤100000∧n.b.length≤100000) (ho:orderedB l=true):VC N_ 40 ([.sl 19 (l.map nodC)]) (.sl 19 ((pruneL l).map nodC)):=by
 have q1:(K_ (row1 .i64) (usedE l)).length=(usedL l).length:=by rw[S_];unfold usedE;rw[i_ ho];exact S_ _
 have oz0:=@pord_v (l) hl
 have oz3:=@pused_v (l) hl
 have oz5:=(M_ (k:=.i64) (show ((((K_ (row1 .i64) (usedE l)).length:Int)):Int)=(((usedL l).length:Int)) from (by omega)))
 have oz8:=@pblock_m (l) hl hw ho
 exact (cR_ [r_,r_,.r [] [cr oz0],d_,.r [] [.mapl []],.r [] [cr oz3],.code [.any [2,10,11,12,26,27,28],.ren 26 902,.weak 29 (AV.sl 1 (K_ (row1 .i64) (usI (usedL l)))),.weak 30 (wO oz5),.weak 31 (i64 (↑0:Int)),.nils 3 900 56 19,.blk 902 (Blk.obj (mobj (nowL (usedL l) 0))),.sort] (AA_ 2) (zO oz8),r_] (AV.sl 19 (K_ nodC (prunK l (usedL l).length))) Tryz.func40 (.c8 oz0 (show (!orderedB l)=false by (simp;omega)) (show mobj []=mobj [] from rfl) oz3 (show Weak (AV.sl 1 (K_ (row1 .i64) (usedE l))) (AV.sl 1 (K_ (row1 .i64) (usI (usedL l)))) from (CM_ (rows_to (row1 .i64) (r:=K_ (row1 .i64) (usedE l)) (l:=usedE l) (m:=usI (usedL l)) rfl (show (usedE l)=(usI (usedL l)) from (by (unfold usedE;rw[i_ ho])))))) oz5 w0_ (show BlkW (Blk.obj (mobj (putI [] 0 0))) (Blk.obj (mobj (nowL (usedL l) 0))) from (BlkW.map (show putI [] 0 0=nowL (usedL l) 0 from (by rfl))))<|.d oz8)).weak (Y_ _) (CM_ (rows_to (nodC) (r:=K_ nodC (prunK l (usedL l).length)) (l:=prunK l (usedL l).length) (m:=pruneL l) rfl (show (prunK l (usedL l).length)=(pruneL l) from (by (rw[←prunK_all ho])))))
theorem pblock_n (l:List Nod) (hl:l.length≤1000) (hw:∀ n∈l,n.w.length≤100000∧n.b.length≤100000) (ho:orderedB l=false):VC N_ 40 ([.sl 19 (l.map nodC)]) (.sl 19 (l.map nodC)):=by
 have oz0:=@pord_v (l) hl
 have oz4:=@pblock_c (l) hl hw
 exact (cR_ [r_,r_,.r [] [cr oz0],b_,r_,.code [.any [0,2,10,11,12],.weak 14 (i64 (l.length:Int)),.weak 15 (i64 (↑0:Int)),.nils 3 900 56 19,.sort] (AA_ 0) (zO oz4),r_] (AV.sl 19 (K_ nodC (AW_ l.length l))) Tryz.func40 (.d5 oz0 (show (!orderedB l)=true by (simp;omega)) (M_ (k:=.i64) (show ((((K_ nodC l).length:Int)):Int)=((l.length:Int)) from (by (simp;done)))) w0_ oz4)).weak (Y_ _) (CM_ (rows_to (nodC) (r:=K_ nodC (AW_ l.length l)) (l:=AW_ l.length l) (m:=l) rfl (show (AW_ l.length l)=(l) from (by (simp;done)))))
theorem pblock_v (l:List Nod) (hl:l.length≤1000) (hw:∀ n∈l,n.w.length≤100000∧n.b.length≤100000):VC N_ 40 [.sl 19 (l.map nodC)] (.sl 19 ((pruneL l).map nodC)):=by
 cases e:orderedB l with
 | true=>exact pblock_y l hl hw e
 | false =>
  have:pruneL l=l:=by unfold pruneL;rw[j_ (by simp[e])]
  rw[this];exact pblock_n l hl hw e
theorem pruneL_le (l:List Nod):(pruneL l).length≤l.length:=by
 unfold pruneL;split
 ·rw[S_];exact used_len l
 ·exact AT_ _
theorem pruneL_w {l:List Nod} {a b:Nat} (h:∀ n∈l,n.w.length≤a∧n.b.length≤b):∀ n∈pruneL l,n.w.length≤a∧n.b.length≤b:=by
 unfold pruneL;split
 ·intro n hn
  obtain ⟨i,hi,rfl⟩:=List.mem_map.1 hn
  have hi:=(mem_used.1 hi).1
  have:=h (l.getD i default) (by rw[Z_,W_ hi];exact CD_ hi)
  exact this
 ·exact h
noncomputable def same22b_l_I (l:List Int) (k:Nat):VS:=stt 26 [(0,ints .i64 l),(1,ints .i64 l),(5,i64 k)] []
noncomputable def same22b_l_Z (l:List Int):VS:=same22b_l_I l (l.length)
theorem same22b_l_s (l:List Int) (hl:l.length≤1000) (k:Nat) (hk:k<l.length):VT N_ (fnC Tryz.f41 [1,1,0,1,0,0]) (same22b_l_I l k) .normal (same22b_l_I l (k+1)):=by
 have oz1:=(s_ (0≤(↑k:Int)))
 have oz2:=(map_at (row1 .i64) (0) (l:=l) (i:=k) hk)
 exact tR_ [r_,b_,.r [] [.row (sO oz2),.row (sO oz2)],d_,.r [] [.n ((↑k:Int)+1)]] [.any (rg [(11,15)]),.weak 5 (i64 (↑(k+1):Int)),.sort] (.d8 (show decide ((↑k:Int)<((K_ (row1 .i64) l).length:Int))=true by (simp;omega)) oz1 oz2 oz1 oz2 (show (l.getD k 0 != l.getD k 0)=false by (simp;done)) (i6n ((↑k:Int)+1) (by omega)) (wS_ k))
theorem same22b_l_e (l:List Int) (hl:l.length≤1000):VT N_ (fnC Tryz.f41 [1,1,0,1,0,0]) (same22b_l_I l (l.length)) (.exit 0) (same22b_l_Z l):=by
 exact tR_ [r_,d_] [.any (rg [(11,4)]),.sort] (.d (show decide ((l.length:Int)<((K_ (row1 .i64) l).length:Int))=false by (simp;done)))
theorem same22b_l (l:List Int) (hl:l.length≤1000):VT N_ (fnC Tryz.f41 [1,1,0,1,0]) (same22b_l_I l 0) (.exit 0) (same22b_l_Z l) :=
 VT.loop (fun k=>same22b_l_I l k) (l.length) (fun k hk=>same22b_l_s l hl k hk) (same22b_l_e l hl) (by intro h;cases h)
theorem same22b_v (l:List Int) (hl:l.length≤1000):VC N_ 41 ([ints .i64 l,ints .i64 l]) (bv true):=by
 have oz2:=@same22b_l (l) hl
 exact cR_ [r_,r_,d_,r_,.code [.any [4,6,7,8,9,10],.weak 5 (i64 (↑0:Int)),.sort] (AA_ 0) (zO oz2),r_] _ Tryz.func41 (.d3 (show (((K_ (row1 .i64) l).length:Int) != ((K_ (row1 .i64) l).length:Int))=false by (simp;done)) w0_ oz2)
theorem known51_v   : VC N_ 15 ([]) (bv true):=by
 have oz0:=(show WeakL [AV.sl 19 [[i64 9,i64 0,i64 0,i64 0,i64 0,i64 0,i64 0,i8 0,i8 0,AV.lit (AY_ none 0 0),AV.lit (AY_ none 0 0),i32 0,i64 0,i8 0,i32 0,i64 0,i8 0,i8 0,i8 0],[i64 9,i64 0,i64 0,i64 0,i64 0,i64 0,i64 0,i8 0,i8 0,AV.lit (AY_ none 0 0),AV.lit (AY_ none 0 0),i32 0,i64 0,i8 0,i32 0,i64 0,i8 0,i8 0,i8 0]]] [AV.sl 19 [[i64 (Nod.mk 9 0 0 0 0 0 0 0 0 [] [] 0 0 0 0 0 0 0 0).kd,i64 (Nod.mk 9 0 0 0 0 0 0 0 0 [] [] 0 0 0 0 0 0 0 0).na,i64 (Nod.mk 9 0 0 0 0 0 0 0 0 [] [] 0 0 0 0 0 0 0 0).nb,i64 (Nod.mk 9 0 0 0 0 0 0 0 0 [] [] 0 0 0 0 0 0 0 0).nk,i64 (Nod.mk 9 0 0 0 0 0 0 0 0 [] [] 0 0 0 0 0 0 0 0).ns,i64 (Nod.mk 9 0 0 0 0 0 0 0 0 [] [] 0 0 0 0 0 0 0 0).np,i64 (Nod.mk 9 0 0 0 0 0 0 0 0 [] [] 0 0 0 0 0 0 0 0).no,i8 (Nod.mk 9 0 0 0 0 0 0 0 0 [] [] 0 0 0 0 0 0 0 0).za,i8 (Nod.mk 9 0 0 0 0 0 0 0 0 [] [] 0 0 0 0 0 0 0 0).zb,AV.sl 1 [],AV.sl 1 [],i32 (Nod.mk 9 0 0 0 0 0 0 0 0 [] [] 0 0 0 0 0 0 0 0).qm,i64 (Nod.mk 9 0 0 0 0 0 0 0 0 [] [] 0 0 0 0 0 0 0 0).qs,i8 (Nod.mk 9 0 0 0 0 0 0 0 0 [] [] 0 0 0 0 0 0 0 0).qz,i32 (Nod.mk 9 0 0 0 0 0 0 0 0 [] [] 0 0 0 0 0 0 0 0).rm,i64 (Nod.mk 9 0 0 0 0 0 0 0 0 [] [] 0 0 0 0 0 0 0 0).rs,i8 (Nod.mk 9 0 0 0 0 0 0 0 0 [] [] 0 0 0 0 0 0 0 0).rz,i8 (Nod.mk 9 0 0 0 0 0 0 0 0 [] [] 0 0 0 0 0 0 0 0).lo,i8 (Nod.mk 9 0 0 0 0 0 0 0 0 [] [] 0 0 0 0 0 0 0 0).hi],[i64 (Nod.mk 9 0 0 0 0 0 0 0 0 [] [] 0 0 0 0 0 0 0 0).kd,i64 (Nod.mk 9 0 0 0 0 0 0 0 0 [] [] 0 0 0 0 0 0 0 0).na,i64 (Nod.mk 9 0 0 0 0 0 0 0 0 [] [] 0 0 0 0 0 0 0 0).nb,i64 (Nod.mk 9 0 0 0 0 0 0 0 0 [] [] 0 0 0 0 0 0 0 0).nk,i64 (Nod.mk 9 0 0 0 0 0 0 0 0 [] [] 0 0 0 0 0 0 0 0).ns,i64 (Nod.mk 9 0 0 0 0 0 0 0 0 [] [] 0 0 0 0 0 0 0 0).np,i64 (Nod.mk 9 0 0 0 0 0 0 0 0 [] [] 0 0 0 0 0 0 0 0).no,i8 (Nod.mk 9 0 0 0 0 0 0 0 0 [] [] 0 0 0 0 0 0 0 0).za,i8 (Nod.mk 9 0 0 0 0 0 0 0 0 [] [] 0 0 0 0 0 0 0 0).zb,AV.sl 1 [],AV.sl 1 [],i32 (Nod.mk 9 0 0 0 0 0 0 0 0 [] [] 0 0 0 0 0 0 0 0).qm,i64 (Nod.mk 9 0 0 0 0 0 0 0 0 [] [] 0 0 0 0 0 0 0 0).qs,i8 (Nod.mk 9 0 0 0 0 0 0 0 0 [] [] 0 0 0 0 0 0 0 0).qz,i32 (Nod.mk 9 0 0 0 0 0 0 0 0 [] [] 0 0 0 0 0 0 0 0).rm,i64 (Nod.mk 9 0 0 0 0 0 0 0 0 [] [] 0 0 0 0 0 0 0 0).rs,i8 (Nod.mk 9 0 0 0 0 0 0 0 0 [] [] 0 0 0 0 0 0 0 0).rz,i8 (Nod.mk 9 0 0 0 0 0 0 0 0 [] [] 0 0 0 0 0 0 0 0).lo,i8 (Nod.mk 9 0 0 0 0 0 0 0 0 [] [] 0 0 0 0 0 0 0 0).hi]]] from (.cons (Weak.rowsW ((show RowsW ([[i64 9,i64 0,i64 0,i64 0,i64 0,i64 0,i64 0,i8 0,i8 0,AV.lit (AY_ none 0 0),AV.lit (AY_ none 0 0),i32 0,i64 0,i8 0,i32 0,i64 0,i8 0,i8 0,i8 0],[i64 9,i64 0,i64 0,i64 0,i64 0,i64 0,i64 0,i8 0,i8 0,AV.lit (AY_ none 0 0),AV.lit (AY_ none 0 0),i32 0,i64 0,i8 0,i32 0,i64 0,i8 0,i8 0,i8 0]]) ([[i64 9,i64 0,i64 0,i64 0,i64 0,i64 0,i64 0,i8 0,i8 0,AV.sl 1 [],AV.sl 1 [],i32 0,i64 0,i8 0,i32 0,i64 0,i8 0,i8 0,i8 0],[i64 9,i64 0,i64 0,i64 0,i64 0,i64 0,i64 0,i8 0,i8 0,AV.sl 1 [],AV.sl 1 [],i32 0,i64 0,i8 0,i32 0,i64 0,i8 0,i8 0,i8 0]]) from (RowsW.cons (CW.cons (PW.refl _) (CW.cons (PW.refl _) (CW.cons (PW.refl _) (CW.cons (PW.refl _) (CW.cons (PW.refl _) (CW.cons (PW.refl _) (CW.cons (PW.refl _) (CW.cons (PW.refl _) (CW.cons (PW.refl _) (CW.cons (PW.nil _) (CW.cons (PW.nil _) (CW.cons (PW.refl _) (CW.cons (PW.refl _) (CW.cons (PW.refl _) (CW.cons (PW.refl _) (CW.cons (PW.refl _) (CW.cons (PW.refl _) (CW.cons (PW.refl _) (CW.cons (PW.refl _) CW.nil))))))))))))))))))) (RowsW.cons (CW.cons (PW.refl _) (CW.cons (PW.refl _) (CW.cons (PW.refl _) (CW.cons (PW.refl _) (CW.cons (PW.refl _) (CW.cons (PW.refl _) (CW.cons (PW.refl _) (CW.cons (PW.refl _) (CW.cons (PW.refl _) (CW.cons (PW.nil _) (CW.cons (PW.nil _) (CW.cons (PW.refl _) (CW.cons (PW.refl _) (CW.cons (PW.refl _) (CW.cons (PW.refl _) (CW.cons (PW.refl _) (CW.cons (PW.refl _) (CW.cons (PW.refl _) (CW.cons (PW.refl _) CW.nil))))))))))))))))))) (RowsW.refl _)))).to (rows_to (nodC) (r:=[[i64 9,i64 0,i64 0,i64 0,i64 0,i64 0,i64 0,i8 0,i8 0,AV.sl 1 [],AV.sl 1 [],i32 0,i64 0,i8 0,i32 0,i64 0,i8 0,i8 0,i8 0],[i64 9,i64 0,i64 0,i64 0,i64 0,i64 0,i64 0,i8 0,i8 0,AV.sl 1 [],AV.sl 1 [],i32 0,i64 0,i8 0,i32 0,i64 0,i8 0,i8 0,i8 0]]) (l:=[Nod.mk 9 0 0 0 0 0 0 0 0 [] [] 0 0 0 0 0 0 0 0,Nod.mk 9 0 0 0 0 0 0 0 0 [] [] 0 0 0 0 0 0 0 0]) (m:=[Nod.mk 9 0 0 0 0 0 0 0 0 [] [] 0 0 0 0 0 0 0 0,Nod.mk 9 0 0 0 0 0 0 0 0 [] [] 0 0 0 0 0 0 0 0]) (by first|(simp only[C_,D_,AM_,AN_,A_,AK_,AL_];done)|rfl|(simp only[C_,D_,AM_,AN_,A_,AK_,AL_];rfl)|(simp only[C_,D_,AM_,AN_,A_,AK_,AL_,nodC,ints];done)) rfl))) .nil))
 have oz1:=@pblock_v ([Nod.mk 9 0 0 0 0 0 0 0 0 [] [] 0 0 0 0 0 0 0 0,Nod.mk 9 0 0 0 0 0 0 0 0 [] [] 0 0 0 0 0 0 0 0]) (by (simp;done)) (by (intro n hn;simp only[List.mem_cons,List.not_mem_nil,or_false,or_self] at hn;subst hn;decide))
 have oz3:=@pused_v ([Nod.mk 9 0 0 0 0 0 0 0 0 [] [] 0 0 0 0 0 0 0 0,Nod.mk 9 0 0 0 0 0 0 0 0 [] [] 0 0 0 0 0 0 0 0]) (by (simp;done))
 have oz5:=@same22b_v ([(↑1:Int)]) (by (simp;done))
 have oz6:=z1_
 have oz13:=(show [[i64 (pruneN (usedL [Nod.mk (9:Int) (0:Int) (0:Int) (0:Int) (0:Int) (0:Int) (0:Int) (0:Int) (0:Int) [] [] (0:Int) (0:Int) (0:Int) (0:Int) (0:Int) (0:Int) (0:Int) (0:Int),Nod.mk (9:Int) (0:Int) (0:Int) (0:Int) (0:Int) (0:Int) (0:Int) (0:Int) (0:Int) [] [] (0:Int) (0:Int) (0:Int) (0:Int) (0:Int) (0:Int) (0:Int) (0:Int)]) ([Nod.mk (9:Int) (0:Int) (0:Int) (0:Int) (0:Int) (0:Int) (0:Int) (0:Int) (0:Int) [] [] (0:Int) (0:Int) (0:Int) (0:Int) (0:Int) (0:Int) (0:Int) (0:Int),Nod.mk (9:Int) (0:Int) (0:Int) (0:Int) (0:Int) (0:Int) (0:Int) (0:Int) (0:Int) [] [] (0:Int) (0:Int) (0:Int) (0:Int) (0:Int) (0:Int) (0:Int) (0:Int)].getD (1:Nat) default)).kd,i64 (pruneN (usedL [Nod.mk (9:Int) (0:Int) (0:Int) (0:Int) (0:Int) (0:Int) (0:Int) (0:Int) (0:Int) [] [] (0:Int) (0:Int) (0:Int) (0:Int) (0:Int) (0:Int) (0:Int) (0:Int),Nod.mk (9:Int) (0:Int) (0:Int) (0:Int) (0:Int) (0:Int) (0:Int) (0:Int) (0:Int) [] [] (0:Int) (0:Int) (0:Int) (0:Int) (0:Int) (0:Int) (0:Int) (0:Int)]) ([Nod.mk (9:Int) (0:Int) (0:Int) (0:Int) (0:Int) (0:Int) (0:Int) (0:Int) (0:Int) [] [] (0:Int) (0:Int) (0:Int) (0:Int) (0:Int) (0:Int) (0:Int) (0:Int),Nod.mk (9:Int) (0:Int) (0:Int) (0:Int) (0:Int) (0:Int) (0:Int) (0:Int) (0:Int) [] [] (0:Int) (0:Int) (0:Int) (0:Int) (0:Int) (0:Int) (0:Int) (0:Int)].getD (1:Nat) default)).na,i64 (pruneN (usedL [Nod.mk (9:Int) (0:Int) (0:Int) (0:Int) (0:Int) (0:Int) (0:Int) (0:Int) (0:Int) [] [] (0:Int) (0:Int) (0:Int) (0:Int) (0:Int) (0:Int) (0:Int) (0:Int),Nod.mk (9:Int) (0:Int) (0:Int) (0:Int) (0:Int) (0:Int) (0:Int) (0:Int) (0:Int) [] [] (0:Int) (0:Int) (0:Int) (0:Int) (0:Int) (0:Int) (0:Int) (0:Int)]) ([Nod.mk (9:Int) (0:Int) (0:Int) (0:Int) (0:Int) (0:Int) (0:Int) (0:Int) (0:Int) [] [] (0:Int) (0:Int) (0:Int) (0:Int) (0:Int) (0:Int) (0:Int) (0:Int),Nod.mk (9:Int) (0:Int) (0:Int) (0:Int) (0:Int) (0:Int) (0:Int) (0:Int) (0:Int) [] [] (0:Int) (0:Int) (0:Int) (0:Int) (0:Int) (0:Int) (0:Int) (0:Int)].getD (1:Nat) default)).nb,i64 (pruneN (usedL [Nod.mk (9:Int) (0:Int) (0:Int) (0:Int) (0:Int) (0:Int) (0:Int) (0:Int) (0:Int) [] [] (0:Int) (0:Int) (0:Int) (0:Int) (0:Int) (0:Int) (0:Int) (0:Int),Nod.mk (9:Int) (0:Int) (0:Int) (0:Int) (0:Int) (0:Int) (0:Int) (0:Int) (0:Int) [] [] (0:Int) (0:Int) (0:Int) (0:Int) (0:Int) (0:Int) (0:Int) (0:Int)]) ([Nod.mk (9:Int) (0:Int) (0:Int) (0:Int) (0:Int) (0:Int) (0:Int) (0:Int) (0:Int) [] [] (0:Int) (0:Int) (0:Int) (0:Int) (0:Int) (0:Int) (0:Int) (0:Int),Nod.mk (9:Int) (0:Int) (0:Int) (0:Int) (0:Int) (0:Int) (0:Int) (0:Int) (0:Int) [] [] (0:Int) (0:Int) (0:Int) (0:Int) (0:Int) (0:Int) (0:Int) (0:Int)].getD (1:Nat) default)).nk,i64 (pruneN (usedL [Nod.mk (9:Int) (0:Int) (0:Int) (0:Int) (0:Int) (0:Int) (0:Int) (0:Int) (0:Int) [] [] (0:Int) (0:Int) (0:Int) (0:Int) (0:Int) (0:Int) (0:Int) (0:Int),Nod.mk (9:Int) (0:Int) (0:Int) (0:Int) (0:Int) (0:Int) (0:Int) (0:Int) (0:Int) [] [] (0:Int) (0:Int) (0:Int) (0:Int) (0:Int) (0:Int) (0:Int) (0:Int)]) ([Nod.mk (9:Int) (0:Int) (0:Int) (0:Int) (0:Int) (0:Int) (0:Int) (0:Int) (0:Int) [] [] (0:Int) (0:Int) (0:Int) (0:Int) (0:Int) (0:Int) (0:Int) (0:Int),Nod.mk (9:Int) (0:Int) (0:Int) (0:Int) (0:Int) (0:Int) (0:Int) (0:Int) (0:Int) [] [] (0:Int) (0:Int) (0:Int) (0:Int) (0:Int) (0:Int) (0:Int) (0:Int)].getD (1:Nat) default)).ns,i64 (pruneN (usedL [Nod.mk (9:Int) (0:Int) (0:Int) (0:Int) (0:Int) (0:Int) (0:Int) (0:Int) (0:Int) [] [] (0:Int) (0:Int) (0:Int) (0:Int) (0:Int) (0:Int) (0:Int) (0:Int),Nod.mk (9:Int) (0:Int) (0:Int) (0:Int) (0:Int) (0:Int) (0:Int) (0:Int) (0:Int) [] [] (0:Int) (0:Int) (0:Int) (0:Int) (0:Int) (0:Int) (0:Int) (0:Int)]) ([Nod.mk (9:Int) (0:Int) (0:Int) (0:Int) (0:Int) (0:Int) (0:Int) (0:Int) (0:Int) [] [] (0:Int) (0:Int) (0:Int) (0:Int) (0:Int) (0:Int) (0:Int) (0:Int),Nod.mk (9:Int) (0:Int) (0:Int) (0:Int) (0:Int) (0:Int) (0:Int) (0:Int) (0:Int) [] [] (0:Int) (0:Int) (0:Int) (0:Int) (0:Int) (0:Int) (0:Int) (0:Int)].getD (1:Nat) default)).np,i64 (pruneN (usedL [Nod.mk (9:Int) (0:Int) (0:Int) (0:Int) (0:Int) (0:Int) (0:Int) (0:Int) (0:Int) [] [] (0:Int) (0:Int) (0:Int) (0:Int) (0:Int) (0:Int) (0:Int) (0:Int),Nod.mk (9:Int) (0:Int) (0:Int) (0:Int) (0:Int) (0:Int) (0:Int) (0:Int) (0:Int) [] [] (0:Int) (0:Int) (0:Int) (0:Int) (0:Int) (0:Int) (0:Int) (0:Int)]) ([Nod.mk (9:Int) (0:Int) (0:Int) (0:Int) (0:Int) (0:Int) (0:Int) (0:Int) (0:Int) [] [] (0:Int) (0:Int) (0:Int) (0:Int) (0:Int) (0:Int) (0:Int) (0:Int),Nod.mk (9:Int) (0:Int) (0:Int) (0:Int) (0:Int) (0:Int) (0:Int) (0:Int) (0:Int) [] [] (0:Int) (0:Int) (0:Int) (0:Int) (0:Int) (0:Int) (0:Int) (0:Int)].getD (1:Nat) default)).no,i8 (pruneN (usedL [Nod.mk (9:Int) (0:Int) (0:Int) (0:Int) (0:Int) (0:Int) (0:Int) (0:Int) (0:Int) [] [] (0:Int) (0:Int) (0:Int) (0:Int) (0:Int) (0:Int) (0:Int) (0:Int),Nod.mk (9:Int) (0:Int) (0:Int) (0:Int) (0:Int) (0:Int) (0:Int) (0:Int) (0:Int) [] [] (0:Int) (0:Int) (0:Int) (0:Int) (0:Int) (0:Int) (0:Int) (0:Int)]) ([Nod.mk (9:Int) (0:Int) (0:Int) (0:Int) (0:Int) (0:Int) (0:Int) (0:Int) (0:Int) [] [] (0:Int) (0:Int) (0:Int) (0:Int) (0:Int) (0:Int) (0:Int) (0:Int),Nod.mk (9:Int) (0:Int) (0:Int) (0:Int) (0:Int) (0:Int) (0:Int) (0:Int) (0:Int) [] [] (0:Int) (0:Int) (0:Int) (0:Int) (0:Int) (0:Int) (0:Int) (0:Int)].getD (1:Nat) default)).za,i8 (pruneN (usedL [Nod.mk (9:Int) (0:Int) (0:Int) (0:Int) (0:Int) (0:Int) (0:Int) (0:Int) (0:Int) [] [] (0:Int) (0:Int) (0:Int) (0:Int) (0:Int) (0:Int) (0:Int) (0:Int),Nod.mk (9:Int) (0:Int) (0:Int) (0:Int) (0:Int) (0:Int) (0:Int) (0:Int) (0:Int) [] [] (0:Int) (0:Int) (0:Int) (0:Int) (0:Int) (0:Int) (0:Int) (0:Int)]) ([Nod.mk (9:Int) (0:Int) (0:Int) (0:Int) (0:Int) (0:Int) (0:Int) (0:Int) (0:Int) [] [] (0:Int) (0:Int) (0:Int) (0:Int) (0:Int) (0:Int) (0:Int) (0:Int),Nod.mk (9:Int) (0:Int) (0:Int) (0:Int) (0:Int) (0:Int) (0:Int) (0:Int) (0:Int) [] [] (0:Int) (0:Int) (0:Int) (0:Int) (0:Int) (0:Int) (0:Int) (0:Int)].getD (1:Nat) default)).zb,AV.sl (1:Nat) [],AV.sl (1:Nat) [],i32 (pruneN (usedL [Nod.mk (9:Int) (0:Int) (0:Int) (0:Int) (0:Int) (0:Int) (0:Int) (0:Int) (0:Int) [] [] (0:Int) (0:Int) (0:Int) (0:Int) (0:Int) (0:Int) (0:Int) (0:Int),Nod.mk (9:Int) (0:Int) (0:Int) (0:Int) (0:Int) (0:Int) (0:Int) (0:Int) (0:Int) [] [] (0:Int) (0:Int) (0:Int) (0:Int) (0:Int) (0:Int) (0:Int) (0:Int)]) ([Nod.mk (9:Int) (0:Int) (0:Int) (0:Int) (0:Int) (0:Int) (0:Int) (0:Int) (0:Int) [] [] (0:Int) (0:Int) (0:Int) (0:Int) (0:Int) (0:Int) (0:Int) (0:Int),Nod.mk (9:Int) (0:Int) (0:Int) (0:Int) (0:Int) (0:Int) (0:Int) (0:Int) (0:Int) [] [] (0:Int) (0:Int) (0:Int) (0:Int) (0:Int) (0:Int) (0:Int) (0:Int)].getD (1:Nat) default)).qm,i64 (pruneN (usedL [Nod.mk (9:Int) (0:Int) (0:Int) (0:Int) (0:Int) (0:Int) (0:Int) (0:Int) (0:Int) [] [] (0:Int) (0:Int) (0:Int) (0:Int) (0:Int) (0:Int) (0:Int) (0:Int),Nod.mk (9:Int) (0:Int) (0:Int) (0:Int) (0:Int) (0:Int) (0:Int) (0:Int) (0:Int) [] [] (0:Int) (0:Int) (0:Int) (0:Int) (0:Int) (0:Int) (0:Int) (0:Int)]) ([Nod.mk (9:Int) (0:Int) (0:Int) (0:Int) (0:Int) (0:Int) (0:Int) (0:Int) (0:Int) [] [] (0:Int) (0:Int) (0:Int) (0:Int) (0:Int) (0:Int) (0:Int) (0:Int),Nod.mk (9:Int) (0:Int) (0:Int) (0:Int) (0:Int) (0:Int) (0:Int) (0:Int) (0:Int) [] [] (0:Int) (0:Int) (0:Int) (0:Int) (0:Int) (0:Int) (0:Int) (0:Int)].getD (1:Nat) default)).qs,i8 (pruneN (usedL [Nod.mk (9:Int) (0:Int) (0:Int) (0:Int) (0:Int) (0:Int) (0:Int) (0:Int) (0:Int) [] [] (0:Int) (0:Int) (0:Int) (0:Int) (0:Int) (0:Int) (0:Int) (0:Int),Nod.mk (9:Int) (0:Int) (0:Int) (0:Int) (0:Int) (0:Int) (0:Int) (0:Int) (0:Int) [] [] (0:Int) (0:Int) (0:Int) (0:Int) (0:Int) (0:Int) (0:Int) (0:Int)]) ([Nod.mk (9:Int) (0:Int) (0:Int) (0:Int) (0:Int) (0:Int) (0:Int) (0:Int) (0:Int) [] [] (0:Int) (0:Int) (0:Int) (0:Int) (0:Int) (0:Int) (0:Int) (0:Int),Nod.mk (9:Int) (0:Int) (0:Int) (0:Int) (0:Int) (0:Int) (0:Int) (0:Int) (0:Int) [] [] (0:Int) (0:Int) (0:Int) (0:Int) (0:Int) (0:Int) (0:Int) (0:Int)].getD (1:Nat) default)).qz,i32 (pruneN (usedL [Nod.mk (9:Int) (0:Int) (0:Int) (0:Int) (0:Int) (0:Int) (0:Int) (0:Int) (0:Int) [] [] (0:Int) (0:Int) (0:Int) (0:Int) (0:Int) (0:Int) (0:Int) (0:Int),Nod.mk (9:Int) (0:Int) (0:Int) (0:Int) (0:Int) (0:Int) (0:Int) (0:Int) (0:Int) [] [] (0:Int) (0:Int) (0:Int) (0:Int) (0:Int) (0:Int) (0:Int) (0:Int)]) ([Nod.mk (9:Int) (0:Int) (0:Int) (0:Int) (0:Int) (0:Int) (0:Int) (0:Int) (0:Int) [] [] (0:Int) (0:Int) (0:Int) (0:Int) (0:Int) (0:Int) (0:Int) (0:Int),Nod.mk (9:Int) (0:Int) (0:Int) (0:Int) (0:Int) (0:Int) (0:Int) (0:Int) (0:Int) [] [] (0:Int) (0:Int) (0:Int) (0:Int) (0:Int) (0:Int) (0:Int) (0:Int)].getD (1:Nat) default)).rm,i64 (pruneN (usedL [Nod.mk (9:Int) (0:Int) (0:Int) (0:Int) (0:Int) (0:Int) (0:Int) (0:Int) (0:Int) [] [] (0:Int) (0:Int) (0:Int) (0:Int) (0:Int) (0:Int) (0:Int) (0:Int),Nod.mk (9:Int) (0:Int) (0:Int) (0:Int) (0:Int) (0:Int) (0:Int) (0:Int) (0:Int) [] [] (0:Int) (0:Int) (0:Int) (0:Int) (0:Int) (0:Int) (0:Int) (0:Int)]) ([Nod.mk (9:Int) (0:Int) (0:Int) (0:Int) (0:Int) (0:Int) (0:Int) (0:Int) (0:Int) [] [] (0:Int) (0:Int) (0:Int) (0:Int) (0:Int) (0:Int) (0:Int) (0:Int),Nod.mk (9:Int) (0:Int) (0:Int) (0:Int) (0:Int) (0:Int) (0:Int) (0:Int) (0:Int) [] [] (0:Int) (0:Int) (0:Int) (0:Int) (0:Int) (0:Int) (0:Int) (0:Int)].getD (1:Nat) default)).rs,i8 (pruneN (usedL [Nod.mk (9:Int) (0:Int) (0:Int) (0:Int) (0:Int) (0:Int) (0:Int) (0:Int) (0:Int) [] [] (0:Int) (0:Int) (0:Int) (0:Int) (0:Int) (0:Int) (0:Int) (0:Int),Nod.mk (9:Int) (0:Int) (0:Int) (0:Int) (0:Int) (0:Int) (0:Int) (0:Int) (0:Int) [] [] (0:Int) (0:Int) (0:Int) (0:Int) (0:Int) (0:Int) (0:Int) (0:Int)]) ([Nod.mk (9:Int) (0:Int) (0:Int) (0:Int) (0:Int) (0:Int) (0:Int) (0:Int) (0:Int) [] [] (0:Int) (0:Int) (0:Int) (0:Int) (0:Int) (0:Int) (0:Int) (0:Int),Nod.mk (9:Int) (0:Int) (0:Int) (0:Int) (0:Int) (0:Int) (0:Int) (0:Int) (0:Int) [] [] (0:Int) (0:Int) (0:Int) (0:Int) (0:Int) (0:Int) (0:Int) (0:Int)].getD (1:Nat) default)).rz,i8 (pruneN (usedL [Nod.mk (9:Int) (0:Int) (0:Int) (0:Int) (0:Int) (0:Int) (0:Int) (0:Int) (0:Int) [] [] (0:Int) (0:Int) (0:Int) (0:Int) (0:Int) (0:Int) (0:Int) (0:Int),Nod.mk (9:Int) (0:Int) (0:Int) (0:Int) (0:Int) (0:Int) (0:Int) (0:Int) (0:Int) [] [] (0:Int) (0:Int) (0:Int) (0:Int) (0:Int) (0:Int) (0:Int) (0:Int)]) ([Nod.mk (9:Int) (0:Int) (0:Int) (0:Int) (0:Int) (0:Int) (0:Int) (0:Int) (0:Int) [] [] (0:Int) (0:Int) (0:Int) (0:Int) (0:Int) (0:Int) (0:Int) (0:Int),Nod.mk (9:Int) (0:Int) (0:Int) (0:Int) (0:Int) (0:Int) (0:Int) (0:Int) (0:Int) [] [] (0:Int) (0:Int) (0:Int) (0:Int) (0:Int) (0:Int) (0:Int) (0:Int)].getD (1:Nat) default)).lo,i8 (pruneN (usedL [Nod.mk (9:Int) (0:Int) (0:Int) (0:Int) (0:Int) (0:Int) (0:Int) (0:Int) (0:Int) [] [] (0:Int) (0:Int) (0:Int) (0:Int) (0:Int) (0:Int) (0:Int) (0:Int),Nod.mk (9:Int) (0:Int) (0:Int) (0:Int) (0:Int) (0:Int) (0:Int) (0:Int) (0:Int) [] [] (0:Int) (0:Int) (0:Int) (0:Int) (0:Int) (0:Int) (0:Int) (0:Int)]) ([Nod.mk (9:Int) (0:Int) (0:Int) (0:Int) (0:Int) (0:Int) (0:Int) (0:Int) (0:Int) [] [] (0:Int) (0:Int) (0:Int) (0:Int) (0:Int) (0:Int) (0:Int) (0:Int),Nod.mk (9:Int) (0:Int) (0:Int) (0:Int) (0:Int) (0:Int) (0:Int) (0:Int) (0:Int) [] [] (0:Int) (0:Int) (0:Int) (0:Int) (0:Int) (0:Int) (0:Int) (0:Int)].getD (1:Nat) default)).hi]][Int.toNat (0:Int)]? = some [i64 (pruneN (usedL [Nod.mk (9:Int) (0:Int) (0:Int) (0:Int) (0:Int) (0:Int) (0:Int) (0:Int) (0:Int) [] [] (0:Int) (0:Int) (0:Int) (0:Int) (0:Int) (0:Int) (0:Int) (0:Int),Nod.mk (9:Int) (0:Int) (0:Int) (0:Int) (0:Int) (0:Int) (0:Int) (0:Int) (0:Int) [] [] (0:Int) (0:Int) (0:Int) (0:Int) (0:Int) (0:Int) (0:Int) (0:Int)]) ([Nod.mk (9:Int) (0:Int) (0:Int) (0:Int) (0:Int) (0:Int) (0:Int) (0:Int) (0:Int) [] [] (0:Int) (0:Int) (0:Int) (0:Int) (0:Int) (0:Int) (0:Int) (0:Int),Nod.mk (9:Int) (0:Int) (0:Int) (0:Int) (0:Int) (0:Int) (0:Int) (0:Int) (0:Int) [] [] (0:Int) (0:Int) (0:Int) (0:Int) (0:Int) (0:Int) (0:Int) (0:Int)].getD (1:Nat) default)).kd,i64 (pruneN (usedL [Nod.mk (9:Int) (0:Int) (0:Int) (0:Int) (0:Int) (0:Int) (0:Int) (0:Int) (0:Int) [] [] (0:Int) (0:Int) (0:Int) (0:Int) (0:Int) (0:Int) (0:Int) (0:Int),Nod.mk (9:Int) (0:Int) (0:Int) (0:Int) (0:Int) (0:Int) (0:Int) (0:Int) (0:Int) [] [] (0:Int) (0:Int) (0:Int) (0:Int) (0:Int) (0:Int) (0:Int) (0:Int)]) ([Nod.mk (9:Int) (0:Int) (0:Int) (0:Int) (0:Int) (0:Int) (0:Int) (0:Int) (0:Int) [] [] (0:Int) (0:Int) (0:Int) (0:Int) (0:Int) (0:Int) (0:Int) (0:Int),Nod.mk (9:Int) (0:Int) (0:Int) (0:Int) (0:Int) (0:Int) (0:Int) (0:Int) (0:Int) [] [] (0:Int) (0:Int) (0:Int) (0:Int) (0:Int) (0:Int) (0:Int) (0:Int)].getD (1:Nat) default)).na,i64 (pruneN (usedL [Nod.mk (9:Int) (0:Int) (0:Int) (0:Int) (0:Int) (0:Int) (0:Int) (0:Int) (0:Int) [] [] (0:Int) (0:Int) (0:Int) (0:Int) (0:Int) (0:Int) (0:Int) (0:Int),Nod.mk (9:Int) (0:Int) (0:Int) (0:Int) (0:Int) (0:Int) (0:Int) (0:Int) (0:Int) [] [] (0:Int) (0:Int) (0:Int) (0:Int) (0:Int) (0:Int) (0:Int) (0:Int)]) ([Nod.mk (9:Int) (0:Int) (0:Int) (0:Int) (0:Int) (0:Int) (0:Int) (0:Int) (0:Int) [] [] (0:Int) (0:Int) (0:Int) (0:Int) (0:Int) (0:Int) (0:Int) (0:Int),Nod.mk (9:Int) (0:Int) (0:Int) (0:Int) (0:Int) (0:Int) (0:Int) (0:Int) (0:Int) [] [] (0:Int) (0:Int) (0:Int) (0:Int) (0:Int) (0:Int) (0:Int) (0:Int)].getD (1:Nat) default)).nb,i64 (pruneN (usedL [Nod.mk (9:Int) (0:Int) (0:Int) (0:Int) (0:Int) (0:Int) (0:Int) (0:Int) (0:Int) [] [] (0:Int) (0:Int) (0:Int) (0:Int) (0:Int) (0:Int) (0:Int) (0:Int),Nod.mk (9:Int) (0:Int) (0:Int) (0:Int) (0:Int) (0:Int) (0:Int) (0:Int) (0:Int) [] [] (0:Int) (0:Int) (0:Int) (0:Int) (0:Int) (0:Int) (0:Int) (0:Int)]) ([Nod.mk (9:Int) (0:Int) (0:Int) (0:Int) (0:Int) (0:Int) (0:Int) (0:Int) (0:Int) [] [] (0:Int) (0:Int) (0:Int) (0:Int) (0:Int) (0:Int) (0:Int) (0:Int),Nod.mk (9:Int) (0:Int) (0:Int) (0:Int) (0:Int) (0:Int) (0:Int) (0:Int) (0:Int) [] [] (0:Int) (0:Int) (0:Int) (0:Int) (0:Int) (0:Int) (0:Int) (0:Int)].getD (1:Nat) default)).nk,i64 (pruneN (usedL [Nod.mk (9:Int) (0:Int) (0:Int) (0:Int) (0:Int) (0:Int) (0:Int) (0:Int) (0:Int) [] [] (0:Int) (0:Int) (0:Int) (0:Int) (0:Int) (0:Int) (0:Int) (0:Int),Nod.mk (9:Int) (0:Int) (0:Int) (0:Int) (0:Int) (0:Int) (0:Int) (0:Int) (0:Int) [] [] (0:Int) (0:Int) (0:Int) (0:Int) (0:Int) (0:Int) (0:Int) (0:Int)]) ([Nod.mk (9:Int) (0:Int) (0:Int) (0:Int) (0:Int) (0:Int) (0:Int) (0:Int) (0:Int) [] [] (0:Int) (0:Int) (0:Int) (0:Int) (0:Int) (0:Int) (0:Int) (0:Int),Nod.mk (9:Int) (0:Int) (0:Int) (0:Int) (0:Int) (0:Int) (0:Int) (0:Int) (0:Int) [] [] (0:Int) (0:Int) (0:Int) (0:Int) (0:Int) (0:Int) (0:Int) (0:Int)].getD (1:Nat) default)).ns,i64 (pruneN (usedL [Nod.mk (9:Int) (0:Int) (0:Int) (0:Int) (0:Int) (0:Int) (0:Int) (0:Int) (0:Int) [] [] (0:Int) (0:Int) (0:Int) (0:Int) (0:Int) (0:Int) (0:Int) (0:Int),Nod.mk (9:Int) (0:Int) (0:Int) (0:Int) (0:Int) (0:Int) (0:Int) (0:Int) (0:Int) [] [] (0:Int) (0:Int) (0:Int) (0:Int) (0:Int) (0:Int) (0:Int) (0:Int)]) ([Nod.mk (9:Int) (0:Int) (0:Int) (0:Int) (0:Int) (0:Int) (0:Int) (0:Int) (0:Int) [] [] (0:Int) (0:Int) (0:Int) (0:Int) (0:Int) (0:Int) (0:Int) (0:Int),Nod.mk (9:Int) (0:Int) (0:Int) (0:Int) (0:Int) (0:Int) (0:Int) (0:Int) (0:Int) [] [] (0:Int) (0:Int) (0:Int) (0:Int) (0:Int) (0:Int) (0:Int) (0:Int)].getD (1:Nat) default)).np,i64 (pruneN (usedL [Nod.mk (9:Int) (0:Int) (0:Int) (0:Int) (0:Int) (0:Int) (0:Int) (0:Int) (0:Int) [] [] (0:Int) (0:Int) (0:Int) (0:Int) (0:Int) (0:Int) (0:Int) (0:Int),Nod.mk (9:Int) (0:Int) (0:Int) (0:Int) (0:Int) (0:Int) (0:Int) (0:Int) (0:Int) [] [] (0:Int) (0:Int) (0:Int) (0:Int) (0:Int) (0:Int) (0:Int) (0:Int)]) ([Nod.mk (9:Int) (0:Int) (0:Int) (0:Int) (0:Int) (0:Int) (0:Int) (0:Int) (0:Int) [] [] (0:Int) (0:Int) (0:Int) (0:Int) (0:Int) (0:Int) (0:Int) (0:Int),Nod.mk (9:Int) (0:Int) (0:Int) (0:Int) (0:Int) (0:Int) (0:Int) (0:Int) (0:Int) [] [] (0:Int) (0:Int) (0:Int) (0:Int) (0:Int) (0:Int) (0:Int) (0:Int)].getD (1:Nat) default)).no,i8 (pruneN (usedL [Nod.mk (9:Int) (0:Int) (0:Int) (0:Int) (0:Int) (0:Int) (0:Int) (0:Int) (0:Int) [] [] (0:Int) (0:Int) (0:Int) (0:Int) (0:Int) (0:Int) (0:Int) (0:Int),Nod.mk (9:Int) (0:Int) (0:Int) (0:Int) (0:Int) (0:Int) (0:Int) (0:Int) (0:Int) [] [] (0:Int) (0:Int) (0:Int) (0:Int) (0:Int) (0:Int) (0:Int) (0:Int)]) ([Nod.mk (9:Int) (0:Int) (0:Int) (0:Int) (0:Int) (0:Int) (0:Int) (0:Int) (0:Int) [] [] (0:Int) (0:Int) (0:Int) (0:Int) (0:Int) (0:Int) (0:Int) (0:Int),Nod.mk (9:Int) (0:Int) (0:Int) (0:Int) (0:Int) (0:Int) (0:Int) (0:Int) (0:Int) [] [] (0:Int) (0:Int) (0:Int) (0:Int) (0:Int) (0:Int) (0:Int) (0:Int)].getD (1:Nat) default)).za,i8 (pruneN (usedL [Nod.mk (9:Int) (0:Int) (0:Int) (0:Int) (0:Int) (0:Int) (0:Int) (0:Int) (0:Int) [] [] (0:Int) (0:Int) (0:Int) (0:Int) (0:Int) (0:Int) (0:Int) (0:Int),Nod.mk (9:Int) (0:Int) (0:Int) (0:Int) (0:Int) (0:Int) (0:Int) (0:Int) (0:Int) [] [] (0:Int) (0:Int) (0:Int) (0:Int) (0:Int) (0:Int) (0:Int) (0:Int)]) ([Nod.mk (9:Int) (0:Int) (0:Int) (0:Int) (0:Int) (0:Int) (0:Int) (0:Int) (0:Int) [] [] (0:Int) (0:Int) (0:Int) (0:Int) (0:Int) (0:Int) (0:Int) (0:Int),Nod.mk (9:Int) (0:Int) (0:Int) (0:Int) (0:Int) (0:Int) (0:Int) (0:Int) (0:Int) [] [] (0:Int) (0:Int) (0:Int) (0:Int) (0:Int) (0:Int) (0:Int) (0:Int)].getD (1:Nat) default)).zb,AV.sl (1:Nat) [],AV.sl (1:Nat) [],i32 (pruneN (usedL [Nod.mk (9:Int) (0:Int) (0:Int) (0:Int) (0:Int) (0:Int) (0:Int) (0:Int) (0:Int) [] [] (0:Int) (0:Int) (0:Int) (0:Int) (0:Int) (0:Int) (0:Int) (0:Int),Nod.mk (9:Int) (0:Int) (0:Int) (0:Int) (0:Int) (0:Int) (0:Int) (0:Int) (0:Int) [] [] (0:Int) (0:Int) (0:Int) (0:Int) (0:Int) (0:Int) (0:Int) (0:Int)]) ([Nod.mk (9:Int) (0:Int) (0:Int) (0:Int) (0:Int) (0:Int) (0:Int) (0:Int) (0:Int) [] [] (0:Int) (0:Int) (0:Int) (0:Int) (0:Int) (0:Int) (0:Int) (0:Int),Nod.mk (9:Int) (0:Int) (0:Int) (0:Int) (0:Int) (0:Int) (0:Int) (0:Int) (0:Int) [] [] (0:Int) (0:Int) (0:Int) (0:Int) (0:Int) (0:Int) (0:Int) (0:Int)].getD (1:Nat) default)).qm,i64 (pruneN (usedL [Nod.mk (9:Int) (0:Int) (0:Int) (0:Int) (0:Int) (0:Int) (0:Int) (0:Int) (0:Int) [] [] (0:Int) (0:Int) (0:Int) (0:Int) (0:Int) (0:Int) (0:Int) (0:Int),Nod.mk (9:Int) (0:Int) (0:Int) (0:Int) (0:Int) (0:Int) (0:Int) (0:Int) (0:Int) [] [] (0:Int) (0:Int) (0:Int) (0:Int) (0:Int) (0:Int) (0:Int) (0:Int)]) ([Nod.mk (9:Int) (0:Int) (0:Int) (0:Int) (0:Int) (0:Int) (0:Int) (0:Int) (0:Int) [] [] (0:Int) (0:Int) (0:Int) (0:Int) (0:Int) (0:Int) (0:Int) (0:Int),Nod.mk (9:Int) (0:Int) (0:Int) (0:Int) (0:Int) (0:Int) (0:Int) (0:Int) (0:Int) [] [] (0:Int) (0:Int) (0:Int) (0:Int) (0:Int) (0:Int) (0:Int) (0:Int)].getD (1:Nat) default)).qs,i8 (pruneN (usedL [Nod.mk (9:Int) (0:Int) (0:Int) (0:Int) (0:Int) (0:Int) (0:Int) (0:Int) (0:Int) [] [] (0:Int) (0:Int) (0:Int) (0:Int) (0:Int) (0:Int) (0:Int) (0:Int),Nod.mk (9:Int) (0:Int) (0:Int) (0:Int) (0:Int) (0:Int) (0:Int) (0:Int) (0:Int) [] [] (0:Int) (0:Int) (0:Int) (0:Int) (0:Int) (0:Int) (0:Int) (0:Int)]) ([Nod.mk (9:Int) (0:Int) (0:Int) (0:Int) (0:Int) (0:Int) (0:Int) (0:Int) (0:Int) [] [] (0:Int) (0:Int) (0:Int) (0:Int) (0:Int) (0:Int) (0:Int) (0:Int),Nod.mk (9:Int) (0:Int) (0:Int) (0:Int) (0:Int) (0:Int) (0:Int) (0:Int) (0:Int) [] [] (0:Int) (0:Int) (0:Int) (0:Int) (0:Int) (0:Int) (0:Int) (0:Int)].getD (1:Nat) default)).qz,i32 (pruneN (usedL [Nod.mk (9:Int) (0:Int) (0:Int) (0:Int) (0:Int) (0:Int) (0:Int) (0:Int) (0:Int) [] [] (0:Int) (0:Int) (0:Int) (0:Int) (0:Int) (0:Int) (0:Int) (0:Int),Nod.mk (9:Int) (0:Int) (0:Int) (0:Int) (0:Int) (0:Int) (0:Int) (0:Int) (0:Int) [] [] (0:Int) (0:Int) (0:Int) (0:Int) (0:Int) (0:Int) (0:Int) (0:Int)]) ([Nod.mk (9:Int) (0:Int) (0:Int) (0:Int) (0:Int) (0:Int) (0:Int) (0:Int) (0:Int) [] [] (0:Int) (0:Int) (0:Int) (0:Int) (0:Int) (0:Int) (0:Int) (0:Int),Nod.mk (9:Int) (0:Int) (0:Int) (0:Int) (0:Int) (0:Int) (0:Int) (0:Int) (0:Int) [] [] (0:Int) (0:Int) (0:Int) (0:Int) (0:Int) (0:Int) (0:Int) (0:Int)].getD (1:Nat) default)).rm,i64 (pruneN (usedL [Nod.mk (9:Int) (0:Int) (0:Int) (0:Int) (0:Int) (0:Int) (0:Int) (0:Int) (0:Int) [] [] (0:Int) (0:Int) (0:Int) (0:Int) (0:Int) (0:Int) (0:Int) (0:Int),Nod.mk (9:Int) (0:Int) (0:Int) (0:Int) (0:Int) (0:Int) (0:Int) (0:Int) (0:Int) [] [] (0:Int) (0:Int) (0:Int) (0:Int) (0:Int) (0:Int) (0:Int) (0:Int)]) ([Nod.mk (9:Int) (0:Int) (0:Int) (0:Int) (0:Int) (0:Int) (0:Int) (0:Int) (0:Int) [] [] (0:Int) (0:Int) (0:Int) (0:Int) (0:Int) (0:Int) (0:Int) (0:Int),Nod.mk (9:Int) (0:Int) (0:Int) (0:Int) (0:Int) (0:Int) (0:Int) (0:Int) (0:Int) [] [] (0:Int) (0:Int) (0:Int) (0:Int) (0:Int) (0:Int) (0:Int) (0:Int)].getD (1:Nat) default)).rs,i8 (pruneN (usedL [Nod.mk (9:Int) (0:Int) (0:Int) (0:Int) (0:Int) (0:Int) (0:Int) (0:Int) (0:Int) [] [] (0:Int) (0:Int) (0:Int) (0:Int) (0:Int) (0:Int) (0:Int) (0:Int),Nod.mk (9:Int) (0:Int) (0:Int) (0:Int) (0:Int) (0:Int) (0:Int) (0:Int) (0:Int) [] [] (0:Int) (0:Int) (0:Int) (0:Int) (0:Int) (0:Int) (0:Int) (0:Int)]) ([Nod.mk (9:Int) (0:Int) (0:Int) (0:Int) (0:Int) (0:Int) (0:Int) (0:Int) (0:Int) [] [] (0:Int) (0:Int) (0:Int) (0:Int) (0:Int) (0:Int) (0:Int) (0:Int),Nod.mk (9:Int) (0:Int) (0:Int) (0:Int) (0:Int) (0:Int) (0:Int) (0:Int) (0:Int) [] [] (0:Int) (0:Int) (0:Int) (0:Int) (0:Int) (0:Int) (0:Int) (0:Int)].getD (1:Nat) default)).rz,i8 (pruneN (usedL [Nod.mk (9:Int) (0:Int) (0:Int) (0:Int) (0:Int) (0:Int) (0:Int) (0:Int) (0:Int) [] [] (0:Int) (0:Int) (0:Int) (0:Int) (0:Int) (0:Int) (0:Int) (0:Int),Nod.mk (9:Int) (0:Int) (0:Int) (0:Int) (0:Int) (0:Int) (0:Int) (0:Int) (0:Int) [] [] (0:Int) (0:Int) (0:Int) (0:Int) (0:Int) (0:Int) (0:Int) (0:Int)]) ([Nod.mk (9:Int) (0:Int) (0:Int) (0:Int) (0:Int) (0:Int) (0:Int) (0:Int) (0:Int) [] [] (0:Int) (0:Int) (0:Int) (0:Int) (0:Int) (0:Int) (0:Int) (0:Int),Nod.mk (9:Int) (0:Int) (0:Int) (0:Int) (0:Int) (0:Int) (0:Int) (0:Int) (0:Int) [] [] (0:Int) (0:Int) (0:Int) (0:Int) (0:Int) (0:Int) (0:Int) (0:Int)].getD (1:Nat) default)).lo,i8 (pruneN (usedL [Nod.mk (9:Int) (0:Int) (0:Int) (0:Int) (0:Int) (0:Int) (0:Int) (0:Int) (0:Int) [] [] (0:Int) (0:Int) (0:Int) (0:Int) (0:Int) (0:Int) (0:Int) (0:Int),Nod.mk (9:Int) (0:Int) (0:Int) (0:Int) (0:Int) (0:Int) (0:Int) (0:Int) (0:Int) [] [] (0:Int) (0:Int) (0:Int) (0:Int) (0:Int) (0:Int) (0:Int) (0:Int)]) ([Nod.mk (9:Int) (0:Int) (0:Int) (0:Int) (0:Int) (0:Int) (0:Int) (0:Int) (0:Int) [] [] (0:Int) (0:Int) (0:Int) (0:Int) (0:Int) (0:Int) (0:Int) (0:Int),Nod.mk (9:Int) (0:Int) (0:Int) (0:Int) (0:Int) (0:Int) (0:Int) (0:Int) (0:Int) [] [] (0:Int) (0:Int) (0:Int) (0:Int) (0:Int) (0:Int) (0:Int) (0:Int)].getD (1:Nat) default)).hi] from rfl)
 exact cR_ [r_,.r [] [.frz 0,ca oz1],.r [] [.frz 0,ca oz3,ca oz5,e_,e_,e_,e_,e_,e_,.row [i64 (pruneN (usedL [Nod.mk 9 0 0 0 0 0 0 0 0 [] [] 0 0 0 0 0 0 0 0,Nod.mk 9 0 0 0 0 0 0 0 0 [] [] 0 0 0 0 0 0 0 0]) ([Nod.mk 9 0 0 0 0 0 0 0 0 [] [] 0 0 0 0 0 0 0 0,Nod.mk 9 0 0 0 0 0 0 0 0 [] [] 0 0 0 0 0 0 0 0].getD 1 default)).kd,i64 (pruneN (usedL [Nod.mk 9 0 0 0 0 0 0 0 0 [] [] 0 0 0 0 0 0 0 0,Nod.mk 9 0 0 0 0 0 0 0 0 [] [] 0 0 0 0 0 0 0 0]) ([Nod.mk 9 0 0 0 0 0 0 0 0 [] [] 0 0 0 0 0 0 0 0,Nod.mk 9 0 0 0 0 0 0 0 0 [] [] 0 0 0 0 0 0 0 0].getD 1 default)).na,i64 (pruneN (usedL [Nod.mk 9 0 0 0 0 0 0 0 0 [] [] 0 0 0 0 0 0 0 0,Nod.mk 9 0 0 0 0 0 0 0 0 [] [] 0 0 0 0 0 0 0 0]) ([Nod.mk 9 0 0 0 0 0 0 0 0 [] [] 0 0 0 0 0 0 0 0,Nod.mk 9 0 0 0 0 0 0 0 0 [] [] 0 0 0 0 0 0 0 0].getD 1 default)).nb,i64 (pruneN (usedL [Nod.mk 9 0 0 0 0 0 0 0 0 [] [] 0 0 0 0 0 0 0 0,Nod.mk 9 0 0 0 0 0 0 0 0 [] [] 0 0 0 0 0 0 0 0]) ([Nod.mk 9 0 0 0 0 0 0 0 0 [] [] 0 0 0 0 0 0 0 0,Nod.mk 9 0 0 0 0 0 0 0 0 [] [] 0 0 0 0 0 0 0 0].getD 1 default)).nk,i64 (pruneN (usedL [Nod.mk 9 0 0 0 0 0 0 0 0 [] [] 0 0 0 0 0 0 0 0,Nod.mk 9 0 0 0 0 0 0 0 0 [] [] 0 0 0 0 0 0 0 0]) ([Nod.mk 9 0 0 0 0 0 0 0 0 [] [] 0 0 0 0 0 0 0 0,Nod.mk 9 0 0 0 0 0 0 0 0 [] [] 0 0 0 0 0 0 0 0].getD 1 default)).ns,i64 (pruneN (usedL [Nod.mk 9 0 0 0 0 0 0 0 0 [] [] 0 0 0 0 0 0 0 0,Nod.mk 9 0 0 0 0 0 0 0 0 [] [] 0 0 0 0 0 0 0 0]) ([Nod.mk 9 0 0 0 0 0 0 0 0 [] [] 0 0 0 0 0 0 0 0,Nod.mk 9 0 0 0 0 0 0 0 0 [] [] 0 0 0 0 0 0 0 0].getD 1 default)).np,i64 (pruneN (usedL [Nod.mk 9 0 0 0 0 0 0 0 0 [] [] 0 0 0 0 0 0 0 0,Nod.mk 9 0 0 0 0 0 0 0 0 [] [] 0 0 0 0 0 0 0 0]) ([Nod.mk 9 0 0 0 0 0 0 0 0 [] [] 0 0 0 0 0 0 0 0,Nod.mk 9 0 0 0 0 0 0 0 0 [] [] 0 0 0 0 0 0 0 0].getD 1 default)).no,i8 (pruneN (usedL [Nod.mk 9 0 0 0 0 0 0 0 0 [] [] 0 0 0 0 0 0 0 0,Nod.mk 9 0 0 0 0 0 0 0 0 [] [] 0 0 0 0 0 0 0 0]) ([Nod.mk 9 0 0 0 0 0 0 0 0 [] [] 0 0 0 0 0 0 0 0,Nod.mk 9 0 0 0 0 0 0 0 0 [] [] 0 0 0 0 0 0 0 0].getD 1 default)).za,i8 (pruneN (usedL [Nod.mk 9 0 0 0 0 0 0 0 0 [] [] 0 0 0 0 0 0 0 0,Nod.mk 9 0 0 0 0 0 0 0 0 [] [] 0 0 0 0 0 0 0 0]) ([Nod.mk 9 0 0 0 0 0 0 0 0 [] [] 0 0 0 0 0 0 0 0,Nod.mk 9 0 0 0 0 0 0 0 0 [] [] 0 0 0 0 0 0 0 0].getD 1 default)).zb,AV.sl 1 [],AV.sl 1 [],i32 (pruneN (usedL [Nod.mk 9 0 0 0 0 0 0 0 0 [] [] 0 0 0 0 0 0 0 0,Nod.mk 9 0 0 0 0 0 0 0 0 [] [] 0 0 0 0 0 0 0 0]) ([Nod.mk 9 0 0 0 0 0 0 0 0 [] [] 0 0 0 0 0 0 0 0,Nod.mk 9 0 0 0 0 0 0 0 0 [] [] 0 0 0 0 0 0 0 0].getD 1 default)).qm,i64 (pruneN (usedL [Nod.mk 9 0 0 0 0 0 0 0 0 [] [] 0 0 0 0 0 0 0 0,Nod.mk 9 0 0 0 0 0 0 0 0 [] [] 0 0 0 0 0 0 0 0]) ([Nod.mk 9 0 0 0 0 0 0 0 0 [] [] 0 0 0 0 0 0 0 0,Nod.mk 9 0 0 0 0 0 0 0 0 [] [] 0 0 0 0 0 0 0 0].getD 1 default)).qs,i8 (pruneN (usedL [Nod.mk 9 0 0 0 0 0 0 0 0 [] [] 0 0 0 0 0 0 0 0,Nod.mk 9 0 0 0 0 0 0 0 0 [] [] 0 0 0 0 0 0 0 0]) ([Nod.mk 9 0 0 0 0 0 0 0 0 [] [] 0 0 0 0 0 0 0 0,Nod.mk 9 0 0 0 0 0 0 0 0 [] [] 0 0 0 0 0 0 0 0].getD 1 default)).qz,i32 (pruneN (usedL [Nod.mk 9 0 0 0 0 0 0 0 0 [] [] 0 0 0 0 0 0 0 0,Nod.mk 9 0 0 0 0 0 0 0 0 [] [] 0 0 0 0 0 0 0 0]) ([Nod.mk 9 0 0 0 0 0 0 0 0 [] [] 0 0 0 0 0 0 0 0,Nod.mk 9 0 0 0 0 0 0 0 0 [] [] 0 0 0 0 0 0 0 0].getD 1 default)).rm,i64 (pruneN (usedL [Nod.mk 9 0 0 0 0 0 0 0 0 [] [] 0 0 0 0 0 0 0 0,Nod.mk 9 0 0 0 0 0 0 0 0 [] [] 0 0 0 0 0 0 0 0]) ([Nod.mk 9 0 0 0 0 0 0 0 0 [] [] 0 0 0 0 0 0 0 0,Nod.mk 9 0 0 0 0 0 0 0 0 [] [] 0 0 0 0 0 0 0 0].getD 1 default)).rs,i8 (pruneN (usedL [Nod.mk 9 0 0 0 0 0 0 0 0 [] [] 0 0 0 0 0 0 0 0,Nod.mk 9 0 0 0 0 0 0 0 0 [] [] 0 0 0 0 0 0 0 0]) ([Nod.mk 9 0 0 0 0 0 0 0 0 [] [] 0 0 0 0 0 0 0 0,Nod.mk 9 0 0 0 0 0 0 0 0 [] [] 0 0 0 0 0 0 0 0].getD 1 default)).rz,i8 (pruneN (usedL [Nod.mk 9 0 0 0 0 0 0 0 0 [] [] 0 0 0 0 0 0 0 0,Nod.mk 9 0 0 0 0 0 0 0 0 [] [] 0 0 0 0 0 0 0 0]) ([Nod.mk 9 0 0 0 0 0 0 0 0 [] [] 0 0 0 0 0 0 0 0,Nod.mk 9 0 0 0 0 0 0 0 0 [] [] 0 0 0 0 0 0 0 0].getD 1 default)).lo,i8 (pruneN (usedL [Nod.mk 9 0 0 0 0 0 0 0 0 [] [] 0 0 0 0 0 0 0 0,Nod.mk 9 0 0 0 0 0 0 0 0 [] [] 0 0 0 0 0 0 0 0]) ([Nod.mk 9 0 0 0 0 0 0 0 0 [] [] 0 0 0 0 0 0 0 0,Nod.mk 9 0 0 0 0 0 0 0 0 [] [] 0 0 0 0 0 0 0 0].getD 1 default)).hi],e_,e_,e_,e_]] _ Tryz.func15 (.c8 oz0 oz1 oz0 oz3 (show WeakL [AV.sl 1 [[i64 (↑1:Int)]],AV.sl 1 [[i64 1]]] [AV.sl 1 [[i64 (↑1:Int)]],AV.sl 1 [[i64 (↑1:Int)]]] from (.cons (CM_ (rows_to (row1 .i64) (r:=[[i64 (↑1:Int)]]) (l:=[(↑1:Int)]) (m:=[(↑1:Int)]) (by first|(simp only[C_,D_,AM_,AN_,A_,AK_,AL_];done)|rfl|(simp only[C_,D_,AM_,AN_,A_,AK_,AL_];rfl)) rfl)) (.cons (CM_ (rows_to (row1 .i64) (r:=[[i64 1]]) (l:=[1]) (m:=[(↑1:Int)]) (by first|(simp only[C_,D_,AM_,AN_,A_,AK_,AL_];done)|rfl|(simp only[C_,D_,AM_,AN_,A_,AK_,AL_];rfl)) (show ([1])=([(↑1:Int)]) from (by (simp;done))))) .nil))) oz5 oz6 oz6<|.c8 oz6 oz6 oz6 oz6 z0_ oz13 oz6 oz6<|.d2 oz6 oz6)
theorem ok_prune {l:List Nod} (h:orderedB l=true) (hl:l.length≤1000) (ok:∀ n∈l,n.Ok):∀ n∈pruneL l,n.Ok :=
 ok_of (pruned_ordered h) (Nat.le_trans (pruneL_le l) hl) (pruneL_mem (fun n hn=>(ok n hn).n) (fun n u v hv h=>h.ren u v hv))
theorem Vals.left {l:List Nod} {x:Ten} (h:Vals l x):Vals (pruneL l) x∧(growL valE (pruneL l) x (pruneL l).length).getD (pruneL l).length default=(growL valE l x l.length).getD l.length default:=by
 have f:=h.v.s.f
 have o:=h.v.o
 refine ⟨⟨⟨ok_prune o (by omega) h.v.okl,pruneL_w h.v.wl,h.v.ok,⟨h.v.s.i,pruneL_ne h.v.ne,Nat.le_trans (pruneL_le l) f,pruned_err nextE_loc o h.v.s.k⟩⟩,h.r,pruned_err valE_loc o h.e⟩,?_⟩
 exact pruned_last valE_loc o h.v.ne
abbrev Ten.sh (T:Ten):Shp:=⟨T.h,T.x,T.c⟩
theorem elems_mul {h x c:Int} (q:0<elems h x c):1≤h∧1≤x∧1≤c∧elems h x c=h*x*c∧((h*x).toNat*c.toNat:Nat)=(elems h x c).toNat:=by
 obtain ⟨a1,a2,a3,a4,a5,a6,a7,a8⟩:=elems_ok q
 refine ⟨a1,a3,a5,a8,?_⟩
 have m:0≤h*x:=BK_ (by omega) (by omega)
 have:(((h*x).toNat*c.toNat:Nat):Int)=h*x*c:=by rw[BF_,AB_ m,AB_ (by omega)]
 omega
def Fits (r:Ten×Int) (t:Shp):Prop:=r.2=0∧r.1.sh=t
theorem put_fits {A:Ten} {n:Nod} (h0:0<elems A.h A.x A.c) (hl:elems A.h A.x A.c=(A.d.length:Int)) (q:rightQ n.qm n.qs=true):Fits (putOf A n) A.sh:=by
 unfold putOf
 rw[j_ (by omega),j_ (by simp[q])]
 exact ⟨rfl,rfl⟩
theorem conv_sum {A:Ten} {n:Nod} (r:tenRight A=true) (h:(convE A.sh n).2=0):(convOf A n).2=0∧(convOf A n).1.sh=(convE A.sh n).1∧0<elems (convOf A n).1.h (convOf A n).1.x (convOf A n).1.c∧elems (convOf A n).1.h (convOf A n).1.x (convOf A n).1.c=((convOf A n).1.d.length:Int):=by
 obtain ⟨s0,_,_,_,s1⟩:=convE_ok h
 have s:=slideE_ok s0
 obtain ⟨_,_,_,_,_,_,_,_,_,_,s2,s3⟩:=s
 have e1:(convE A.sh n).1=⟨(A.h+2*n.np-n.nk)/n.ns+1,(A.x+2*n.np-n.nk)/n.ns+1,n.no⟩:=s1.trans s2
 unfold convOf
 rw[j_ (by simp[r]),j_ (by simpa using h)]
 dsimp only
 have e1':(convE ⟨A.h,A.x,A.c⟩ n).1=⟨(A.h+2*n.np-n.nk)/n.ns+1,(A.x+2*n.np-n.nk)/n.ns+1,n.no⟩:=e1
 have s3':0<elems ((A.h+2*n.np-n.nk)/n.ns+1) ((A.x+2*n.np-n.nk)/n.ns+1) n.no:=s3
 have m:=elems_mul s3'
 refine ⟨rfl,rfl,?_,?_⟩
 ·rw[e1'];exact s3
 ·rw[outL_len,e1']
  dsimp only
  rw[m.2.2.2.2];omega
theorem depth_sum {A:Ten} {n:Nod} (r:tenRight A=true) (h:(depthE A.sh n).2=0):(depthOf A n).2=0∧(depthOf A n).1.sh=(depthE A.sh n).1∧0<elems (depthOf A n).1.h (depthOf A n).1.x (depthOf A n).1.c∧elems (depthOf A n).1.h (depthOf A n).1.x (depthOf A n).1.c=((depthOf A n).1.d.length:Int):=by
 obtain ⟨s0,_,_,_,s1⟩:=depthE_ok h
 obtain ⟨_,_,_,_,_,_,_,_,_,_,s2,s3⟩:=slideE_ok s0
 have e1:(depthE ⟨A.h,A.x,A.c⟩ n).1=⟨(A.h+2*n.np-n.nk)/n.ns+1,(A.x+2*n.np-n.nk)/n.ns+1,A.c⟩:=s1.trans s2
 unfold depthOf
 rw[j_ (by simp[r]),j_ (by simpa using h)]
 dsimp only
 refine ⟨rfl,rfl,?_,?_⟩
 ·rw[e1];exact s3
 ·have s3':0<elems ((A.h+2*n.np-n.nk)/n.ns+1) ((A.x+2*n.np-n.nk)/n.ns+1) A.c:=s3
  have m:=elems_mul s3'
  rw[dL_len];unfold dN;rw[e1];dsimp only;omega
theorem dense_sum {A:Ten} {n:Nod} (r:tenRight A=true) (h:(denseE A.sh n).2=0):(denseOf A n).2=0∧(denseOf A n).1.sh=(denseE A.sh n).1∧0<elems (denseOf A n).1.h (denseOf A n).1.x (denseOf A n).1.c∧elems (denseOf A n).1.h (denseOf A n).1.x (denseOf A n).1.c=((denseOf A n).1.d.length:Int):=by
 obtain ⟨_,n1,n2,_,_,bl,s2⟩:=denseE_ok h
 have e1:(denseE ⟨A.h,A.x,A.c⟩ n).1=⟨1,1,n.no⟩:=s2
 have el:elems 1 1 n.no=n.no:=by unfold elems;rw[i_ (by omega)];omega
 unfold denseOf
 rw[j_ (by simp[r]),j_ (by simpa using h)]
 dsimp only
 refine ⟨rfl,rfl,?_,?_⟩
 ·rw[e1];dsimp only;omega
 ·rw[lineL_len,e1];dsimp only;omega
theorem check_kd {n:Nod} (h:checkE n=0):1≤n.kd∧n.kd≤9∧(scaledB n.kd=true→rightQ n.qm n.qs=true)∧(n.kd=6→rightQ n.rm n.rs=true):=by
 unfold checkE at h
 split at h
 ·cases h
 ·rename_i a
  split at h
  ·cases h
  ·split at h
   ·cases h
   ·rename_i c
    simp only[X_,O_,U_,I_,not_or,not_and] at c
    refine ⟨by omega,by omega,fun s=>?_,fun s=>?_⟩
    ·have:=c.1 s;simpa using this
    ·have:=c.2 s;simpa using this
theorem scaled_1 {n:Nod} (k:n.kd=1∨n.kd=2∨n.kd=3∨n.kd=6∨n.kd=7):scaledB n.kd=true:=by
 unfold scaledB;rcases k with k|k|k|k|k<;>simp[k]
theorem node_fits {n:Nod} {A B:Ten} {t:Shp} (c:checkE n=0) (rA:tenRight A=true) (rB:tenRight B=true) (h:shapeE n A.sh B.sh=(t,0)):Fits (nodeOf n A B) t:=by
 obtain ⟨k1,k9,q,q6⟩:=check_kd c
 have tr:=tenRight.rt rA
 have he:elems A.h A.x A.c≠0:=by
  unfold tenRight at rA;simp only[O_,E_] at rA;omega
 unfold nodeOf
 rw[j_ (by simpa using c),j_ (by simp[rA])]
 have hk:n.kd=1∨n.kd=2∨n.kd=3∨n.kd=4∨n.kd=5∨n.kd=6∨n.kd=7∨n.kd=8∨n.kd=9:=by omega
 unfold shapeE at h
 rcases hk with k|k|k|k|k|k|k|k|k
 ·rw[i_ k] at h
  obtain ⟨a,b,d,e⟩:=conv_sum rA (by rw[h])
  have sm:sumOf A n=convOf A n:=by unfold sumOf;rw[i_ k]
  rw[j_ (by omega),j_ (by omega),j_ (by omega),j_ (by omega),j_ (by omega),j_ (by omega),sm,j_ (by simpa using a)]
  have:=put_fits d e (q (scaled_1 (.inl k)))
  rwa [b,h] at this
 ·rw[j_ (by omega),i_ k] at h
  obtain ⟨a,b,d,e⟩:=depth_sum rA (by rw[h])
  have sm:sumOf A n=depthOf A n:=by unfold sumOf;rw[j_ (by omega),i_ k]
  rw[j_ (by omega),j_ (by omega),j_ (by omega),j_ (by omega),j_ (by omega),j_ (by omega),sm,j_ (by simpa using a)]
  have:=put_fits d e (q (scaled_1 (.inr (.inl k))))
  rwa [b,h] at this
 ·rw[j_ (by omega),j_ (by omega),i_ k] at h
  obtain ⟨a,b,d,e⟩:=dense_sum rA (by rw[h])
  have sm:sumOf A n=denseOf A n:=by unfold sumOf;rw[j_ (by omega),j_ (by omega),i_ k]
  rw[j_ (by omega),j_ (by omega),j_ (by omega),j_ (by omega),j_ (by omega),j_ (by omega),sm,j_ (by simpa using a)]
  have:=put_fits d e (q (scaled_1 (.inr (.inr (.inl k)))))
  rwa [b,h] at this
 ·rw[j_ (by omega),j_ (by omega),j_ (by omega),i_ (.inl k)] at h
  have h':slideE ⟨A.h,A.x,A.c⟩ n.nk n.ns n.np A.c=(t,0):=h
  rw[i_ k];unfold poolOf;rw[i_ rA,h',i_ rfl]
  exact ⟨rfl,by unfold plS;rw[h']⟩
 ·rw[j_ (by omega),j_ (by omega),j_ (by omega),i_ (.inr k)] at h
  have h':slideE ⟨A.h,A.x,A.c⟩ n.nk n.ns n.np A.c=(t,0):=h
  rw[j_ (by omega),i_ k];unfold poolOf;rw[i_ rA,h',i_ rfl]
  exact ⟨rfl,by unfold plS;rw[h']⟩
 ·rw[j_ (by omega),j_ (by omega),j_ (by omega),j_ (by omega),j_ (by omega)] at h
  split at h
  ·injection h with _ h;cases h
  ·rename_i hn
   rw[j_ (by omega),j_ (by omega)] at h
   injection h with h _
   have hs:A.h=B.h∧A.x=B.x∧A.c=B.c:=cbc fun z=>hn (.inr ⟨k,z⟩)
   rw[j_ (by omega),j_ (by omega),i_ k];unfold joinOf
   rw[j_ (by simp[rA,rB,hs]),j_ (by simp[q (scaled_1 (.inr (.inr (.inr (.inl k))))),q6 k])]
   exact ⟨rfl,h⟩
 ·rw[j_ (by omega),j_ (by omega),j_ (by omega),j_ (by omega),j_ (by omega),j_ (by rintro (z|z);exact he z;omega),j_ (by omega),j_ (by omega)] at h
  injection h with h _
  rw[j_ (by omega),j_ (by omega),j_ (by omega),i_ k];unfold actOf
  rw[j_ (by simp[rA]),j_ (by simp[q (scaled_1 (.inr (.inr (.inr (.inr k)))))])]
  exact ⟨rfl,h⟩
 ·rw[j_ (by omega),j_ (by omega),j_ (by omega),j_ (by omega),j_ (by omega),j_ (by rintro (z|z);exact he z;omega),j_ (by omega),i_ k] at h
  rw[j_ (by omega),j_ (by omega),j_ (by omega),j_ (by omega),i_ k]
  unfold aroundE at h
  split at h
  ·injection h with _ h;cases h
  ·rename_i p
   split at h
   ·injection h with _ h;cases h
   ·rename_i e
    injection h with h _
    have mp:mayE A n.np=0:=by unfold mayE;rw[i_ rA,i_ (by omega)]
    rw[j_ (by simpa using mp)]
    unfold padOf
    rw[j_ (by simpa using e)]
    exact ⟨rfl,h⟩
 ·rw[j_ (by omega),j_ (by omega),j_ (by omega),j_ (by omega),j_ (by omega),j_ (by rintro (z|z);exact he z;omega),i_ k] at h
  injection h with h _
  rw[j_ (by omega),j_ (by omega),j_ (by omega),j_ (by omega),j_ (by omega),i_ k]
  have:elems A.h A.x A.c=(A.d.length:Int):=by unfold tenRight at rA;simp only[O_,E_] at rA;exact rA.2
  refine ⟨rfl,?_⟩
  rw[←h]
  show (⟨1,1,(A.d.length:Int)⟩:Shp)=⟨1,1,elems A.h A.x A.c⟩
  rw[this]
def costE (n:Nod) (a b:Shp):Int :=
 if (shapeE n a b).2≠0 then 0
 else if n.kd=1 then elems (shapeE n a b).1.h (shapeE n a b).1.x (shapeE n a b).1.c*n.nk*n.nk*a.c
 else if n.kd=2∨n.kd=4∨n.kd=5 then elems (shapeE n a b).1.h (shapeE n a b).1.x (shapeE n a b).1.c*n.nk*n.nk
 else if n.kd=3 then elems (shapeE n a b).1.h (shapeE n a b).1.x (shapeE n a b).1.c*elems a.h a.x a.c
 else elems (shapeE n a b).1.h (shapeE n a b).1.x (shapeE n a b).1.c
theorem slide_k {t:Shp} {k s p o:Int} (h:(slideE t k s p o).2=0):1≤k∧k≤5∧1≤t.c∧t.c≤1024:=by
 have h1:=slideE_ok h
 have h2:=elems_ok h1.1
 omega
theorem shapeE_k {n:Nod} {a b:Shp} (h:(shapeE n a b).2=0) (hk:n.kd=1∨n.kd=2∨n.kd=4∨n.kd=5):1≤n.nk∧n.nk≤5∧1≤a.c∧a.c≤1024:=by
 unfold shapeE at h
 split at h
 ·unfold convE at h
  split at h
  ·rename_i c;exact absurd h c
  ·rename_i c;exact slide_k (Classical.not_not.1 c)
 ·split at h
  ·unfold depthE at h
   split at h
   ·rename_i c;exact absurd h c
   ·rename_i c;exact slide_k (Classical.not_not.1 c)
  ·split at h
   ·omega
   ·split at h
    ·exact slide_k h
    ·omega
theorem cost_bd {e k c:Int} (e0:0≤e) (e1:e≤1024) (k0:1≤k) (k1:k≤5) (c0:1≤c) (c1:c≤1024):(0≤e*k∧e*k≤5120)∧(0≤e*k*k∧e*k*k≤25600)∧(0≤e*k*k*c∧e*k*k*c≤26214400):=by
 have a1:=mul_bd (A:=1024) (B:=5) (a:=e) (b:=k) e0 e1 (by omega) k1
 have a2:=mul_bd (A:=5120) (B:=5) (a:=e*k) (b:=k) (by omega) (by omega) (by omega) k1
 have a3:=mul_bd (A:=25600) (B:=1024) (a:=e*k*k) (b:=c) (by omega) (by omega) (by omega) c1
 omega
theorem elems2_bd (a b:Shp):0≤elems a.h a.x a.c*elems b.h b.x b.c∧elems a.h a.x a.c*elems b.h b.x b.c≤1048576:=by
 have h1:=elems_in a.h a.x a.c
 have h2:=elems_in b.h b.x b.c
 have:=mul_bd (A:=1024) (B:=1024) h1.1 h1.2 h2.1 h2.2
 omega
theorem costE_bd (n:Nod) (a b:Shp):0≤costE n a b∧costE n a b≤26214400:=by
 have q1:=elems_in (shapeE n a b).1.h (shapeE n a b).1.x (shapeE n a b).1.c
 have q2:=elems2_bd (shapeE n a b).1 a
 unfold costE
 split
 ·omega
 ·rename_i h
  have h:=Classical.not_not.1 h
  split
  ·have q:=shapeE_k h (by omega)
   have:=cost_bd q1.1 q1.2 q.1 q.2.1 q.2.2.1 q.2.2.2
   omega
  ·split
   ·have q:=shapeE_k h (by omega)
    have:=cost_bd q1.1 q1.2 q.1 q.2.1 q.2.2.1 q.2.2.2
    omega
   ·split<;>omega
theorem costE_1 {n:Nod} {a b:Shp} (h:(shapeE n a b).2=0) (hk:n.kd=1):costE n a b=elems (convE a n).1.h (convE a n).1.x (convE a n).1.c*n.nk*n.nk*a.c:=by
 have e:shapeE n a b=convE a n:=i_ hk
 unfold costE;rw[j_ (by omega),i_ hk,e]
theorem cost_k {n:Nod} {a b:Shp} (h:(shapeE n a b).2=0) (hk:n.kd=1∨n.kd=2∨n.kd=4∨n.kd=5):(0≤elems (shapeE n a b).1.h (shapeE n a b).1.x (shapeE n a b).1.c*n.nk∧elems (shapeE n a b).1.h (shapeE n a b).1.x (shapeE n a b).1.c*n.nk≤5120) ∧
  (0≤elems (shapeE n a b).1.h (shapeE n a b).1.x (shapeE n a b).1.c*n.nk*n.nk∧elems (shapeE n a b).1.h (shapeE n a b).1.x (shapeE n a b).1.c*n.nk*n.nk≤25600) ∧
  (0≤elems (shapeE n a b).1.h (shapeE n a b).1.x (shapeE n a b).1.c*n.nk*n.nk*a.c∧elems (shapeE n a b).1.h (shapeE n a b).1.x (shapeE n a b).1.c*n.nk*n.nk*a.c≤26214400):=by
 have q1:=elems_in (shapeE n a b).1.h (shapeE n a b).1.x (shapeE n a b).1.c
 have q:=shapeE_k h hk
 exact cost_bd q1.1 q1.2 q.1 q.2.1 q.2.2.1 q.2.2.2
theorem refCostNode_v (n:Nod) (a b:Shp) (okn:n.Ok) (ok:a.Ok) (okb:b.Ok):VC N_ 81 ([nod n,shp a,shp b]) (i64 (costE n a b)):=by
 obtain ⟨p1,p2,p3⟩:=id ok
 have q1:=elems_in (shapeE n a b).1.h (shapeE n a b).1.x (shapeE n a b).1.c
 have q2:=elems2_bd (shapeE n a b).1 a
 have q3:=(shapeE_told n a b).ok
 obtain ⟨p4,p5,p6⟩:=id q3
 have qk:=@cost_k n a b
 have oz0:=@refKshape_v (n) (a) (b) ok okb okn
 rcases bft ((shapeE n a b).snd != 0) with hc0|hc0
 ·have gc0:¬(shapeE n a b).snd=0:=bdt hc0
  exact (cR_ [r_,.r [] [cr oz0],r_,b_,r_] (i64 0) Tryz.func81 (.d2 oz0 hc0)).weak (Y_ _) (M_ (by (unfold costE;(repeat first|rw[i_ (by omega)]|rw[j_ (by omega)]))))
 ·have gc0:(shapeE n a b).snd=0:=bdf hc0
  have oz2:=@refElems_v ((shapeE n a b).fst.h) ((shapeE n a b).fst.x) ((shapeE n a b).fst.c) p4 p5 p6
  rcases bft (n.kd==1) with hc1|hc1
  ·have gc1:n.kd=1:=bet hc1
   have oz4:=(i6n (elems (shapeE n a b).fst.h (shapeE n a b).fst.x (shapeE n a b).fst.c*n.nk) (by omega))
   have oz5:=(i6n (elems (shapeE n a b).fst.h (shapeE n a b).fst.x (shapeE n a b).fst.c*n.nk*n.nk) (by omega))
   have oz6:=(i6n (elems (shapeE n a b).fst.h (shapeE n a b).fst.x (shapeE n a b).fst.c*n.nk*n.nk*a.c) (by omega))
   exact (cR_ [r_,.r [] [cr oz0],r_,d_,.r [] [cr oz2],r_,b_,.r [] [.n (nO oz4),.n (nO oz5),.n (nO oz6)]] (i64 (elems (shapeE n a b).fst.h (shapeE n a b).fst.x (shapeE n a b).fst.c*n.nk*n.nk*a.c)) Tryz.func81 (.d7 oz0 hc0 oz2 hc1 oz4 oz5 oz6)).weak (Y_ _) (M_ (by (unfold costE;(repeat first|rw[i_ (by omega)]|rw[j_ (by omega)]))))
  ·have gc1:¬n.kd=1:=bef hc1
   rcases bft (n.kd==2 || n.kd==4 || n.kd==5) with hc2|hc2
   ·have gc2:(n.kd=2∨n.kd=4)∨n.kd=5:=gc0_ hc2
    have oz5:=(i6n (elems (shapeE n a b).fst.h (shapeE n a b).fst.x (shapeE n a b).fst.c*n.nk) (by omega))
    have oz6:=(i6n (elems (shapeE n a b).fst.h (shapeE n a b).fst.x (shapeE n a b).fst.c*n.nk*n.nk) (by omega))
    exact (cR_ [r_,.r [] [cr oz0],r_,d_,.r [] [cr oz2],r_,d_,.r [] [o_,o_,o_,.sel 1,o_,o_,o_,.sel 1],b_,.r [] [.n (nO oz5),.n (nO oz6)]] (i64 (elems (shapeE n a b).fst.h (shapeE n a b).fst.x (shapeE n a b).fst.c*n.nk*n.nk)) Tryz.func81 (.d7 oz0 hc0 oz2 hc1 hc2 oz5 oz6)).weak (Y_ _) (M_ (by (unfold costE;(repeat first|rw[i_ (by omega)]|rw[j_ (by omega)]))))
   ·have gc2:(¬n.kd=2∧¬n.kd=4)∧¬n.kd=5:=gc0_ hc2
    rcases bft (n.kd==3) with hc3|hc3
    ·have gc3:n.kd=3:=bet hc3
     have oz6:=@refElems_v (a.h) (a.x) (a.c) p1 p2 p3
     have oz7:=(i6n (elems (shapeE n a b).fst.h (shapeE n a b).fst.x (shapeE n a b).fst.c*elems a.h a.x a.c) (by omega))
     exact (cR_ [r_,.r [] [cr oz0],r_,d_,.r [] [cr oz2],r_,d_,.r [] [o_,o_,o_,.sel 1,o_,o_,o_,.sel 1],d_,r_,b_,.r [] [cr oz6,.n (nO oz7)]] (i64 (elems (shapeE n a b).fst.h (shapeE n a b).fst.x (shapeE n a b).fst.c*elems a.h a.x a.c)) Tryz.func81 (.d8 oz0 hc0 oz2 hc1 hc2 hc3 oz6 oz7)).weak (Y_ _) (M_ (by (unfold costE;(repeat first|rw[i_ (by omega)]|rw[j_ (by omega)]))))
    ·have gc3:¬n.kd=3:=bef hc3
     exact (cR_ [r_,.r [] [cr oz0],r_,d_,.r [] [cr oz2],r_,d_,.r [] [o_,o_,o_,.sel 1,o_,o_,o_,.sel 1],d_,r_,d_,r_] (i64 (elems (shapeE n a b).fst.h (shapeE n a b).fst.x (shapeE n a b).fst.c)) Tryz.func81 (.d6 oz0 hc0 oz2 hc1 hc2 hc3)).weak (Y_ _) (M_ (by (unfold costE;(repeat first|rw[i_ (by omega)]|rw[j_ (by omega)]))))
def costL (l:List Nod) (S:List Shp):Nat→Int
 | 0=>1
 | k+1=>costL l S k+costE (l.getD k default) (S.getD (l.getD k default).na.toNat default) (S.getD (secN (l.getD k default)).toNat default)
theorem costL_bd (l:List Nod) (S:List Shp):∀ k,1≤costL l S k∧costL l S k≤1+26214400*k
 | 0=>by simp[costL]
 | k+1=>by
  have h1:=costL_bd l S k
  have h2:=costE_bd (l.getD k default) (S.getD (l.getD k default).na.toNat default) (S.getD (secN (l.getD k default)).toNat default)
  rw[costL];omega
def exitC (x:Blc) (a:Shp) (cl:Int):Int:=if x.ex=true then min (max cl 0) 16*(elems (lastS x.n a).h (lastS x.n a).x (lastS x.n a).c+1) else 0
def blockC (x:Blc) (a:Shp) (cl:Int):Int:=costL x.n (shpsL x.n a) x.n.length+exitC x a cl
theorem shps_at {l:List Nod} {a:Shp} (h:SOK l a) {k:Nat} (hk:k<l.length):(0≤(l.getD k default).na∧(l.getD k default).na.toNat<(shpsL l a).length∧0≤secN (l.getD k default)∧(secN (l.getD k default)).toNat<(shpsL l a).length∧(l.getD k default).na<(shpsL l a).length∧secN (l.getD k default)<(shpsL l a).length)∧((shpsL l a).getD (l.getD k default).na.toNat default).Ok∧((shpsL l a).getD (secN (l.getD k default)).toNat default).Ok:=by
 have q:=h.k k hk
 unfold errL at q
 obtain ⟨_,c2,_⟩:=nextE_ok q
 have q2:=grow_ok (l:=l) h.i.ok k
 obtain ⟨c4,_,_⟩:=there_at q2 c2
 have q1:=growL_len nextE l a k
 have q3:(shpsL l a).length=l.length+1:=growL_len nextE l a l.length
 have q4:=grow_ok (l:=l) h.i.ok l.length
 exact ⟨⟨by omega,by omega,by omega,by omega,by omega,by omega⟩,getD_in q4 (s_ (_<(shpsL l a).length)),getD_in q4 (s_ (_<(shpsL l a).length))⟩
theorem minmax (c:Int):(if 16<(if 0>c then 0 else c) then 16 else (if 0>c then 0 else c))=min (max c 0) 16:=by omega
theorem exitC_bd (x:Blc) (a:Shp) (cl:Int):0≤exitC x a cl∧exitC x a cl≤16400:=by
 have q:=elems_in (lastS x.n a).h (lastS x.n a).x (lastS x.n a).c
 have:=mul_bd (A:=16) (B:=1025) (a:=min (max cl 0) 16) (b:=elems (lastS x.n a).h (lastS x.n a).x (lastS x.n a).c+1) (by omega) (by omega) (by omega) (by omega)
 unfold exitC;split<;>omega
theorem cblock_e {x:Blc} {a:Shp} {cl:Int} (f8:x.n.length≤8) (h:x.ex=true):IntKind.i64.wrap (costL x.n (shpsL x.n a) x.n.length+IntKind.i64.wrap ((if 16<if 0>cl then 0 else cl then 16 else if 0>cl then 0 else cl) *
  IntKind.i64.wrap (elems (lastS x.n a).h (lastS x.n a).x (lastS x.n a).c+1)))=blockC x a cl:=by
 have q:=elems_in (lastS x.n a).h (lastS x.n a).x (lastS x.n a).c
 have q2:=costL_bd x.n (shpsL x.n a) x.n.length
 have q3:=exitC_bd x a cl
 have e:exitC x a cl=min (max cl 0) 16*(elems (lastS x.n a).h (lastS x.n a).x (lastS x.n a).c+1):=i_ h
 rw[i6n (elems (lastS x.n a).h (lastS x.n a).x (lastS x.n a).c+1) (by omega),minmax,←e,i6n (exitC x a cl) (by omega),i6n (costL x.n (shpsL x.n a) x.n.length+exitC x a cl) (by omega)]
 rfl
theorem blockC_n {x:Blc} {a:Shp} {cl:Int} (h:x.ex=false):costL x.n (shpsL x.n a) x.n.length=blockC x a cl:=by
 unfold blockC exitC;rw[h];simp
theorem blockC_bd {x:Blc} {a:Shp} {cl:Int} (f8:x.n.length≤8):1≤blockC x a cl∧blockC x a cl≤300000000:=by
 have q2:=costL_bd x.n (shpsL x.n a) x.n.length
 have q3:=exitC_bd x a cl
 unfold blockC;omega
noncomputable def rcblock_l_I (x:Blc) (a:Shp) (cl:Int) (k:Nat):VS:=stt 90 [(2,i64 cl),(3,.ptr 3 0 0),(7,.ptr 7 0 0),(9,.sl 3 ((shpsL x.n a).map shpC)),(12,i64 (costL x.n (shpsL x.n a) k)),(13,i64 k)] [(3,.var (blcC x)),(7,.var [i64 0,i64 0,i64 0])]
noncomputable def rcblock_l_Z (x:Blc) (a:Shp) (cl:Int):VS:=rcblock_l_I x a cl (x.n.length)
theorem rcblock_l_s (x:Blc) (a:Shp) (cl:Int) (ok:x.Ok) (h:SOK x.n a) (k:Nat) (hk:k<x.n.length):VT N_ (fnC Tryz.f47 [1,1,1,1,0,1,0,0]) (rcblock_l_I x a cl k) .normal (rcblock_l_I x a cl (k+1)):=by
 have q1:=costL_bd x.n (shpsL x.n a) k
 have q2:=costE_bd (x.n.getD k default) ((shpsL x.n a).getD (x.n.getD k default).na.toNat default) ((shpsL x.n a).getD (secN (x.n.getD k default)).toNat default)
 have q3:=h.f
 obtain ⟨c4,c5,c6⟩:=shps_at h hk
 have q4:=getD_in ok.n hk
 have q5:(K_ shpC (shpsL x.n a)).length=(shpsL x.n a).length:=S_ _
 have q6:(x.n.getD k default).kd=6→secN (x.n.getD k default)=(x.n.getD k default).nb:=fun h=>i_ h
 have q7:¬ (x.n.getD k default).kd=6→secN (x.n.getD k default)=(x.n.getD k default).na:=fun h=>j_ h
 have q8:(x.n.getD k default).kd=6→((shpsL x.n a).getD (x.n.getD k default).nb.toNat default).Ok∧(x.n.getD k default).nb<(shpsL x.n a).length∧costE (x.n.getD k default) ((shpsL x.n a).getD (x.n.getD k default).na.toNat default) ((shpsL x.n a).getD (x.n.getD k default).nb.toNat default)≤26214400∧0≤costE (x.n.getD k default) ((shpsL x.n a).getD (x.n.getD k default).na.toNat default) ((shpsL x.n a).getD (x.n.getD k default).nb.toNat default)∧0≤(x.n.getD k default).nb:=fun h=>by rw[←q6 h];exact ⟨c6,by omega,q2.2,q2.1,by omega⟩
 have q9:¬ (x.n.getD k default).kd=6→costE (x.n.getD k default) ((shpsL x.n a).getD (x.n.getD k default).na.toNat default) ((shpsL x.n a).getD (x.n.getD k default).na.toNat default)≤26214400∧0≤costE (x.n.getD k default) ((shpsL x.n a).getD (x.n.getD k default).na.toNat default) ((shpsL x.n a).getD (x.n.getD k default).na.toNat default):=fun h=>by
  have q2:=q2;rw[q7 h] at q2;exact ⟨q2.2,q2.1⟩
 have oz0:=(show decide ((↑k:Int)<((K_ nodC x.n).length:Int))=true by (simp;omega))
 have oz1:=(s_ (0≤(↑k:Int)))
 have oz2:=(map_at (nodC) (default) (l:=x.n) (i:=k) hk)
 rcases bft ((x.n.getD k default).kd==6) with hc0|hc0
 ·have gc0:(x.n.getD k default).kd=6:=bet hc0
  have oz5:=(map_at (shpC) (default) (l:=shpsL x.n a) (i:=(x.n.getD k default).na.toNat) (by omega))
  have oz7:=(map_at (shpC) (default) (l:=shpsL x.n a) (i:=(x.n.getD k default).nb.toNat) (by omega))
  have oz8:=@refCostNode_v (x.n.getD k default) ((shpsL x.n a).getD (x.n.getD k default).na.toNat default) ((shpsL x.n a).getD (x.n.getD k default).nb.toNat default) q4 c5 (by (exact (q8 (by omega)).1))
  have oz9:=(i6n (costL x.n (shpsL x.n a) k+costE (x.n.getD k default) ((shpsL x.n a).getD (x.n.getD k default).na.toNat default) ((shpsL x.n a).getD (x.n.getD k default).nb.toNat default)) (by omega))
  have oz11:=(M_ (k:=.i64) (show ((costL x.n (shpsL x.n a) k+costE (x.n.getD k default) ((shpsL x.n a).getD (x.n.getD k default).na.toNat default) ((shpsL x.n a).getD (x.n.getD k default).nb.toNat default)):Int)=(costL x.n (shpsL x.n a) (k+1)) from (by (rw[costL,q6 (by omega)]))))
  exact tR_ [r_,b_,.r [] [.row (sO oz2)],r_,b_,.r [] [.row (sO oz5),.row (sO oz7),cr oz8,.n (nO oz9)],.r [] [.n ((↑k:Int)+1)]] [.any (rg [(14,1),(28,29)]),.drop [14],.weak 12 (wO oz11),.weak 13 (i64 (↑(k+1):Int)),.sort] (.c8 oz0 oz1 oz2 hc0 (s_ (0≤(x.n.getD k default).na)) oz5 (s_ (0≤(x.n.getD k default).nb)) oz7<|.d5 oz8 oz9 (i6n ((↑k:Int)+1) (by omega)) oz11 (wS_ k))
 ·have gc0:¬(x.n.getD k default).kd=6:=bef hc0
  have oz4:=(s_ (0≤(x.n.getD k default).na))
  have oz5:=(map_at (shpC) (default) (l:=shpsL x.n a) (i:=(x.n.getD k default).na.toNat) (by omega))
  have oz8:=@refCostNode_v (x.n.getD k default) ((shpsL x.n a).getD (x.n.getD k default).na.toNat default) ((shpsL x.n a).getD (x.n.getD k default).na.toNat default) q4 c5 c5
  have oz9:=(i6n (costL x.n (shpsL x.n a) k+costE (x.n.getD k default) ((shpsL x.n a).getD (x.n.getD k default).na.toNat default) ((shpsL x.n a).getD (x.n.getD k default).na.toNat default)) (by omega))
  have oz11:=(M_ (k:=.i64) (show ((costL x.n (shpsL x.n a) k+costE (x.n.getD k default) ((shpsL x.n a).getD (x.n.getD k default).na.toNat default) ((shpsL x.n a).getD (x.n.getD k default).na.toNat default)):Int)=(costL x.n (shpsL x.n a) (k+1)) from (by (rw[costL,q7 (by omega)]))))
  exact tR_ [r_,b_,.r [] [.row (sO oz2)],r_,d_,.r [] [.row (sO oz5),.row (sO oz5),cr oz8,.n (nO oz9)],.r [] [.n ((↑k:Int)+1)]] [.any (rg [(14,1),(28,15),(57,14)]),.drop [14],.weak 12 (wO oz11),.weak 13 (i64 (↑(k+1):Int)),.sort] (.c8 oz0 oz1 oz2 hc0 oz4 oz5 oz4 oz5<|.d5 oz8 oz9 (i6n ((↑k:Int)+1) (by omega)) oz11 (wS_ k))
theorem rcblock_l_e (x:Blc) (a:Shp) (cl:Int) (ok:x.Ok) (h:SOK x.n a):VT N_ (fnC Tryz.f47 [1,1,1,1,0,1,0,0]) (rcblock_l_I x a cl (x.n.length)) (.exit 0) (rcblock_l_Z x a cl):=by
 exact tR_ [r_,d_] [.any (rg [(28,5)]),.sort] (.d (show decide ((x.n.length:Int)<((K_ nodC x.n).length:Int))=false by (simp;done)))
theorem rcblock_l (x:Blc) (a:Shp) (cl:Int) (ok:x.Ok) (h:SOK x.n a):VT N_ (fnC Tryz.f47 [1,1,1,1,0,1,0]) (rcblock_l_I x a cl 0) (.exit 0) (rcblock_l_Z x a cl) :=
 VT.loop (fun k=>rcblock_l_I x a cl k) (x.n.length) (fun k hk=>rcblock_l_s x a cl ok h k hk) (rcblock_l_e x a cl ok h) (by intro h;cases h)
theorem rcblock_y (x:Blc) (a:Shp) (cl:Int) (ok:x.Ok) (ws:∀ n∈x.n,n.w.length≤100000∧n.b.length≤100000) (h:SOK x.n a):VC N_ 47 ([blc x,shp a,i64 cl]) (.tup [i64 (blockC x a cl),shp (lastS x.n a),i64 0]):=by
 have q1:=ok.n
 have q2:=costL_bd x.n (shpsL x.n a) x.n.length
 have q3:=h.f
 have l1:=shpsL_len x.n a
 have l3:(K_ shpC (shpsL x.n a)).length=(shpsL x.n a).length:=S_ _
 have ix:(((K_ shpC (shpsL x.n a)).length:Int)-1).toNat=x.n.length:=by omega
 have s3:=lastS_ok (l:=x.n) h.i.ok
 have s4:=@cblock_e x a cl q3
 have oz0:=@rshapes_y (x.n) (a) q1 ws h
 have oz1:=z2_
 have oz2:=(M_ (k:=.i64) (show ((1):Int)=(costL x.n (shpsL x.n a) 0) from (by rfl)))
 have oz3:=w0_
 have oz4:=@rcblock_l (x) (a) (cl) ok h
 have oz5:=(i6n (((K_ shpC (shpsL x.n a)).length:Int)-1) (by omega))
 have oz6:=(s_ (0≤((K_ shpC (shpsL x.n a)).length:Int)-1))
 have oz7:=(map_at (shpC) (default) (l:=shpsL x.n a) (i:=(((K_ shpC (shpsL x.n a)).length:Int)-1).toNat) (by omega))
 rcases bft (x.ex) with hc0|hc0
 ·have gc0:x.ex=true:=by first|exact hc0|exact of_decide_eq_true hc0|exact of_decide_eq_false hc0|simpa [eqNums] using hc0|(simp[eqNums] at hc0 ⊢;first|done|assumption|omega)
  have oz9:=@refElems_v (((shpsL x.n a).getD (((K_ shpC (shpsL x.n a)).length:Int)-1).toNat default).h) (((shpsL x.n a).getD (((K_ shpC (shpsL x.n a)).length:Int)-1).toNat default).x) (((shpsL x.n a).getD (((K_ shpC (shpsL x.n a)).length:Int)-1).toNat default).c) (by (rw[ix];exact s3.h)) (by (rw[ix];exact s3.x)) (by (rw[ix];exact s3.c))
  exact (cR_ [r_,.r [] [cr oz0],r_,d_,r_,r_,.code [.any (rg [(0,2),(4,1),(6,1),(8,1),(10,2),(16,10)]),.drop [4],.weak 12 (wO oz2),.weak 13 (wO oz3),.sort] (AA_ 0) (zO oz4),.r [] [.n (nO oz5),.row (sO oz7)],r_,b_,.r [] [cr oz9,.w,.w,.w],r_] (AV.tup [i64 (IntKind.i64.wrap (costL x.n (shpsL x.n a) x.n.length+IntKind.i64.wrap ((if 16<if 0>cl then 0 else cl then 16 else if 0>cl then 0 else cl)*IntKind.i64.wrap (elems ((shpsL x.n a).getD (((K_ shpC (shpsL x.n a)).length:Int)-1).toNat default).h ((shpsL x.n a).getD (((K_ shpC (shpsL x.n a)).length:Int)-1).toNat default).x ((shpsL x.n a).getD (((K_ shpC (shpsL x.n a)).length:Int)-1).toNat default).c+1)))),AV.agg [i64 ((shpsL x.n a).getD (((K_ shpC (shpsL x.n a)).length:Int)-1).toNat default).h,i64 ((shpsL x.n a).getD (((K_ shpC (shpsL x.n a)).length:Int)-1).toNat default).x,i64 ((shpsL x.n a).getD (((K_ shpC (shpsL x.n a)).length:Int)-1).toNat default).c],i64 0]) Tryz.func47 (.c8 oz0 oz1 oz2 oz3 oz4 oz5 oz6 oz7<|.d2 hc0 oz9)).weak (Y_ _) (AS_ (.cons (M_ (by (rw[ix];exact s4 (by assumption)))) (.cons (AV_ (.cons (M_ (by (rw[ix]<;>rfl))) (.cons (M_ (by (rw[ix]<;>rfl))) (.cons (M_ (by (rw[ix]<;>rfl))) .nil)))) (.cons (.refl _) .nil))))
 ·have gc0:x.ex=false:=by first|exact hc0|exact of_decide_eq_true hc0|exact of_decide_eq_false hc0|simpa [eqNums] using hc0|(simp[eqNums] at hc0 ⊢;first|done|assumption|omega)
  exact (cR_ [r_,.r [] [cr oz0],r_,d_,r_,r_,.code [.any (rg [(0,2),(4,1),(6,1),(8,1),(10,2),(16,10)]),.drop [4],.weak 12 (wO oz2),.weak 13 (wO oz3),.sort] (AA_ 0) (zO oz4),.r [] [.n (nO oz5),.row (sO oz7)],r_,d_,r_] (AV.tup [i64 (costL x.n (shpsL x.n a) x.n.length),AV.agg [i64 ((shpsL x.n a).getD (((K_ shpC (shpsL x.n a)).length:Int)-1).toNat default).h,i64 ((shpsL x.n a).getD (((K_ shpC (shpsL x.n a)).length:Int)-1).toNat default).x,i64 ((shpsL x.n a).getD (((K_ shpC (shpsL x.n a)).length:Int)-1).toNat default).c],i64 0]) Tryz.func47 (.c8 oz0 oz1 oz2 oz3 oz4 oz5 oz6 oz7<|.d hc0)).weak (Y_ _) (AS_ (.cons (M_ (by (exact blockC_n (by assumption)))) (.cons (AV_ (.cons (M_ (by (rw[ix]<;>rfl))) (.cons (M_ (by (rw[ix]<;>rfl))) (.cons (M_ (by (rw[ix]<;>rfl))) .nil)))) (.cons (.refl _) .nil))))
theorem exitE_a {x:Blc} {out:Shp} {r:Rng} {cl:Int} {last:Bool} (h:(!x.ex&&(last || (decide (((K_ (row1 .i8) x.w).length:Int)>0) || decide (((K_ (row1 .i32) x.b).length:Int)>0) || x.nd != 0)))=true):exitE x out r cl last=11:=by
 simp only[S_,O_,X_,E_,J_,U_] at h
 unfold exitE
 rw[i_ ⟨h.1,by rcases h.2 with h|h;exact .inl h;right;omega⟩]
theorem exitE_b {x:Blc} {out:Shp} {r:Rng} {cl:Int} {last:Bool} (h:(!x.ex&&(last || (decide (((K_ (row1 .i8) x.w).length:Int)>0) || decide (((K_ (row1 .i32) x.b).length:Int)>0) || x.nd != 0)))=false) (hx:x.ex=false):exitE x out r cl last=0:=by
 rw[hx] at h
 simp only[S_,BP_,BN_,Q_,F_,G_] at h
 unfold exitE
 rw[j_ (by rintro ⟨_,g|g⟩;(rw[h.1] at g;cases g);omega),i_ hx]
theorem exitE_c {x:Blc} {out:Shp} {r:Rng} {cl:Int} {last:Bool} (hx:x.ex=true):exitE x out r cl last=if verdE out x.w x.b x.nd cl≠0 then verdE out x.w x.b x.nd cl else headE x.w x.b r.lo r.hi:=by
 unfold exitE
 rw[j_ (by rw[hx];simp),j_ (by rw[hx];simp)]
theorem rvblock_s (x:Blc) (a:Shp) (cl:Int) (last:Bool) (ok:x.Ok) (oka:a.Ok) (sm:x.Sm) (h:¬ SOK x.n a):VC N_ 45 ([blc x,shp a,i64 cl,bv last]) (.tup [i64 (validE x a cl last).1,i64 (validE x a cl last).2]):=by
 have q1:=ok.n
 obtain ⟨q2,q3,q4,q5⟩:=id sm
 have q6:=shapesE_n h
 have q7:=@validE_s x a cl last h
 have oz0:=@rshapes_n (x.n) (a) q1 q3 oka (by omega) h
 exact (cR_ [r_,.r [] [cr oz0],r_,b_,r_] (AV.tup [i64 (shapesE x.n a).fst,i64 (shapesE x.n a).snd]) Tryz.func45 (.d2 oz0 (show ((shapesE x.n a).snd != 0)=true by (simp;omega)))).weak (Y_ _) (AS_ (.cons (M_ (by (rw[q7]))) (.cons (M_ (by (rw[q7]))) .nil)))
theorem rvblock_f (x:Blc) (a:Shp) (cl:Int) (last:Bool) (ok:x.Ok) (oka:a.Ok) (sm:x.Sm) (h:SOK x.n a) (g:¬ FOK x.n fullR):VC N_ 45 ([blc x,shp a,i64 cl,bv last]) (.tup [i64 (validE x a cl last).1,i64 (validE x a cl last).2]):=by
 have q1:=ok.n
 obtain ⟨q2,q3,q4,q5⟩:=id sm
 have q6:=flowE_n g
 have q7:=@validE_f x a cl last h g
 have q8:=fullR_in
 have oz0:=@rshapes_y (x.n) (a) q1 q3 h
 have oz2:=@rflow_n (x.n) (Rng.mk (-128) 127) q1 q3 q8 (by omega) g
 exact (cR_ [r_,.r [] [cr oz0],r_,d_,.r [] [cr oz2],r_,b_,r_] (AV.tup [i64 (flowE x.n (Rng.mk (-128) 127)).fst,i64 (flowE x.n (Rng.mk (-128) 127)).snd]) Tryz.func45 (.d4 oz0 z2_ oz2 (show ((flowE x.n (Rng.mk (-128) 127)).snd != 0)=true by (simp;omega)))).weak (Y_ _) (AS_ (.cons (M_ (by (rw[q7]))) (.cons (M_ (by (rw[q7]))) .nil)))
theorem rvblock_y (x:Blc) (a:Shp) (cl:Int) (last:Bool) (ok:x.Ok) (oka:a.Ok) (sm:x.Sm) (h:SOK x.n a) (g:FOK x.n fullR):VC N_ 45 ([blc x,shp a,i64 cl,bv last]) (.tup [i64 (validE x a cl last).1,i64 (validE x a cl last).2]):=by
 have q1:=ok.n
 have qw:=ok.w
 have qb:=ok.b
 obtain ⟨q2,q3,q4,q5⟩:=id sm
 have q7:=@validE_y x a cl last h g
 have q8:=fullR_in
 have l1:=growL_len nextE x.n a x.n.length
 have l2:=growL_len stepR x.n (Rng.mk (-128) 127) x.n.length
 have l3:(K_ shpC (growL nextE x.n a x.n.length)).length=(growL nextE x.n a x.n.length).length:=S_ _
 have l4:(K_ rchC (growL stepR x.n (Rng.mk (-128) 127) x.n.length)).length=(growL stepR x.n (Rng.mk (-128) 127) x.n.length).length:=S_ _
 have l5:(K_ nodC x.n).length=x.n.length:=S_ _
 have i1:(((K_ shpC (growL nextE x.n a x.n.length)).length:Int)-1).toNat=x.n.length:=by omega
 have i2:((↑(K_ rchC (growL stepR x.n (Rng.mk (-128) 127) x.n.length)).length:Int)-1).toNat=x.n.length:=by omega
 have s3:=lastS_ok (l:=x.n) oka
 have vq:(growL nextE x.n a x.n.length).getD (((K_ shpC (growL nextE x.n a x.n.length)).length:Int)-1).toNat default=lastS x.n a:=by rw[i1];rfl
 have vr:(growL stepR x.n (Rng.mk (-128) 127) x.n.length).getD ((↑(K_ rchC (growL stepR x.n (Rng.mk (-128) 127) x.n.length)).length:Int)-1).toNat default=lastR x.n:=by rw[i2];rfl
 obtain ⟨s4,s5⟩:=lastR_in q1
 have oz0:=@rshapes_y (x.n) (a) q1 q3 h
 have oz1:=z2_
 have oz2:=@rflow_y (x.n) (Rng.mk (-128) 127) q1 q3 q8 g
 rcases bft (!x.ex&&(last || (decide (((K_ (row1 .i8) x.w).length:Int)>0) || decide (((K_ (row1 .i32) x.b).length:Int)>0) || x.nd != 0))) with hc0|hc0
 ·have gc0:x.ex=false∧(last=true∨(((K_ (row1 .i8) x.w).length:Int)>0∨((K_ (row1 .i32) x.b).length:Int)>0)∨¬x.nd=0):=gc0_ hc0
  exact (cR_ [r_,.r [] [cr oz0],r_,d_,.r [] [cr oz2],r_,d_,.r [] [o_,o_,o_,o_,o_,.sel 1,o_,o_,o_,o_,.sel 1],.r [] [o_,o_,o_,o_,.sel 1,.sel 2],b_,r_] (AV.tup [i64 (-1),i64 11]) Tryz.func45 (.d5 oz0 oz1 oz2 oz1 hc0)).weak (Y_ _) (AS_ (.cons (M_ (by (rw[q7,exitE_a (by assumption),i_ (by decide)]))) (.cons (M_ (by (rw[q7,exitE_a (by assumption),i_ (by decide)]))) .nil)))
 ·have gc0:x.ex=true∨last=false∧(¬((K_ (row1 .i8) x.w).length:Int)>0∧¬((K_ (row1 .i32) x.b).length:Int)>0)∧x.nd=0:=gc0_ hc0
  rcases bft (x.ex) with hc1|hc1
  ·have gc1:x.ex=true:=by first|exact hc1|exact of_decide_eq_true hc1|exact of_decide_eq_false hc1|simpa [eqNums] using hc1|(simp[eqNums] at hc1 ⊢;first|done|assumption|omega)
   have oz6:=(i6n (((K_ shpC (growL nextE x.n a x.n.length)).length:Int)-1) (by omega))
   have oz7:=(s_ (0≤((K_ shpC (growL nextE x.n a x.n.length)).length:Int)-1))
   have oz8:=(map_at (shpC) (default) (l:=growL nextE x.n a x.n.length) (i:=(((K_ shpC (growL nextE x.n a x.n.length)).length:Int)-1).toNat) (by omega))
   have oz9:=@refVcheck_v ((growL nextE x.n a x.n.length).getD (((K_ shpC (growL nextE x.n a x.n.length)).length:Int)-1).toNat default) (x.w) (x.b) (x.nd) (cl) (by (rw[i1];exact s3)) q4 q5
   rcases bft (verdE ((growL nextE x.n a x.n.length).getD (((K_ shpC (growL nextE x.n a x.n.length)).length:Int)-1).toNat default) x.w x.b x.nd cl != 0) with hc2|hc2
   ·have gc2:¬verdE ((growL nextE x.n a x.n.length).getD (((K_ shpC (growL nextE x.n a x.n.length)).length:Int)-1).toNat default) x.w x.b x.nd cl=0:=bdt hc2
    exact (cR_ [r_,.r [] [cr oz0],r_,d_,.r [] [cr oz2],r_,d_,.r [] [o_,o_,o_,o_,o_,.sel 1,o_,o_,o_,o_,.sel 1],.r [] [o_,o_,o_,o_,.sel 1,.sel 2],d_,r_,b_,.r [] [.n (nO oz6),.row (sO oz8),cr oz9],r_,b_,r_] (AV.tup [i64 (-1),i64 (verdE ((growL nextE x.n a x.n.length).getD (((K_ shpC (growL nextE x.n a x.n.length)).length:Int)-1).toNat default) x.w x.b x.nd cl)]) Tryz.func45 (.c8 oz0 oz1 oz2 oz1 hc0 hc1 oz6 oz7<|.d3 oz8 oz9 hc2)).to (by (simp only[vq,vr] at *;rw[q7,exitE_c (by assumption)];simp_all;done))
   ·have gc2:verdE ((growL nextE x.n a x.n.length).getD (((K_ shpC (growL nextE x.n a x.n.length)).length:Int)-1).toNat default) x.w x.b x.nd cl=0:=bdf hc2
    have oz11:=(i6n ((↑(K_ rchC (growL stepR x.n (Rng.mk (-128) 127) x.n.length)).length:Int)-1) (by omega))
    have oz12:=(s_ (0≤(↑(K_ rchC (growL stepR x.n (Rng.mk (-128) 127) x.n.length)).length:Int)-1))
    have oz13:=(map_at (rchC) (default) (l:=growL stepR x.n (Rng.mk (-128) 127) x.n.length) (i:=((↑(K_ rchC (growL stepR x.n (Rng.mk (-128) 127) x.n.length)).length:Int)-1).toNat) (by omega))
    have oz14:=@refHead_v (x.w) (x.b) (x.nd) (((growL stepR x.n (Rng.mk (-128) 127) x.n.length).getD ((↑(K_ rchC (growL stepR x.n (Rng.mk (-128) 127) x.n.length)).length:Int)-1).toNat default).lo) (((growL stepR x.n (Rng.mk (-128) 127) x.n.length).getD ((↑(K_ rchC (growL stepR x.n (Rng.mk (-128) 127) x.n.length)).length:Int)-1).toNat default).hi) qw qb q4 q5 (by (rw[i2];exact s4)) (by (rw[i2];exact s5))
    rcases bft (headE x.w x.b ((growL stepR x.n (Rng.mk (-128) 127) x.n.length).getD ((↑(K_ rchC (growL stepR x.n (Rng.mk (-128) 127) x.n.length)).length:Int)-1).toNat default).lo ((growL stepR x.n (Rng.mk (-128) 127) x.n.length).getD ((↑(K_ rchC (growL stepR x.n (Rng.mk (-128) 127) x.n.length)).length:Int)-1).toNat default).hi != 0) with hc3|hc3
    ·have gc3:¬headE x.w x.b ((growL stepR x.n (Rng.mk (-128) 127) x.n.length).getD ((↑(K_ rchC (growL stepR x.n (Rng.mk (-128) 127) x.n.length)).length:Int)-1).toNat default).lo ((growL stepR x.n (Rng.mk (-128) 127) x.n.length).getD ((↑(K_ rchC (growL stepR x.n (Rng.mk (-128) 127) x.n.length)).length:Int)-1).toNat default).hi=0:=bdt hc3
     exact (cR_ [r_,.r [] [cr oz0],r_,d_,.r [] [cr oz2],r_,d_,.r [] [o_,o_,o_,o_,o_,.sel 1,o_,o_,o_,o_,.sel 1],.r [] [o_,o_,o_,o_,.sel 1,.sel 2],d_,r_,b_,.r [] [.n (nO oz6),.row (sO oz8),cr oz9],r_,d_,.r [] [.n (nO oz11),.row (sO oz13),cr oz14],r_,b_,r_] (AV.tup [i64 (-1),i64 (headE x.w x.b ((growL stepR x.n (Rng.mk (-128) 127) x.n.length).getD ((↑(K_ rchC (growL stepR x.n (Rng.mk (-128) 127) x.n.length)).length:Int)-1).toNat default).lo ((growL stepR x.n (Rng.mk (-128) 127) x.n.length).getD ((↑(K_ rchC (growL stepR x.n (Rng.mk (-128) 127) x.n.length)).length:Int)-1).toNat default).hi)]) Tryz.func45 (.c8 oz0 oz1 oz2 oz1 hc0 hc1 oz6 oz7<|.d8 oz8 oz9 hc2 oz11 oz12 oz13 oz14 hc3)).to (by (simp only[vq,vr] at *;rw[q7,exitE_c (by assumption)];simp_all;done))
    ·have gc3:headE x.w x.b ((growL stepR x.n (Rng.mk (-128) 127) x.n.length).getD ((↑(K_ rchC (growL stepR x.n (Rng.mk (-128) 127) x.n.length)).length:Int)-1).toNat default).lo ((growL stepR x.n (Rng.mk (-128) 127) x.n.length).getD ((↑(K_ rchC (growL stepR x.n (Rng.mk (-128) 127) x.n.length)).length:Int)-1).toNat default).hi=0:=bdf hc3
     exact (cR_ [r_,.r [] [cr oz0],r_,d_,.r [] [cr oz2],r_,d_,.r [] [o_,o_,o_,o_,o_,.sel 1,o_,o_,o_,o_,.sel 1],.r [] [o_,o_,o_,o_,.sel 1,.sel 2],d_,r_,b_,.r [] [.n (nO oz6),.row (sO oz8),cr oz9],r_,d_,.r [] [.n (nO oz11),.row (sO oz13),cr oz14],r_,d_,r_] (AV.tup [i64 ((K_ nodC x.n).length:Int),i64 0]) Tryz.func45 (.c8 oz0 oz1 oz2 oz1 hc0 hc1 oz6 oz7<|.d8 oz8 oz9 hc2 oz11 oz12 oz13 oz14 hc3)).to (by (simp only[vq,vr] at *;rw[q7,exitE_c (by assumption)];simp_all;done))
  ·have gc1:x.ex=false:=by first|exact hc1|exact of_decide_eq_true hc1|exact of_decide_eq_false hc1|simpa [eqNums] using hc1|(simp[eqNums] at hc1 ⊢;first|done|assumption|omega)
   exact (cR_ [r_,.r [] [cr oz0],r_,d_,.r [] [cr oz2],r_,d_,.r [] [o_,o_,o_,o_,o_,.sel 1,o_,o_,o_,o_,.sel 1],.r [] [o_,o_,o_,o_,.sel 1,.sel 2],d_,r_,d_,r_] (AV.tup [i64 ((K_ nodC x.n).length:Int),i64 0]) Tryz.func45 (.d6 oz0 oz1 oz2 oz1 hc0 hc1)).weak (Y_ _) (AS_ (.cons (M_ (by (rw[q7,exitE_b (by assumption) (by assumption),j_ (by simp),S_]))) (.cons (M_ (by (rw[q7,exitE_b (by assumption) (by assumption),j_ (by simp)]))) .nil)))
theorem vblock_v (x:Blc) (a:Shp) (cl:Int) (last:Bool) (ok:x.Ok) (oka:a.Ok) (sm:x.Sm):VC N_ 88 [blc x,shp a,i64 cl,bv last] (.tup [i64 (validE x a cl last).1,i64 (validE x a cl last).2]):=by
 by_cases h:SOK x.n a
 ·by_cases g:FOK x.n fullR
  ·exact vblock_y x a cl last ok oka sm h g
  ·exact vblock_f x a cl last ok oka sm h g
 ·exact vblock_s x a cl last ok oka sm h
theorem rvblock_v (x:Blc) (a:Shp) (cl:Int) (last:Bool) (ok:x.Ok) (oka:a.Ok) (sm:x.Sm):VC N_ 45 [blc x,shp a,i64 cl,bv last] (.tup [i64 (validE x a cl last).1,i64 (validE x a cl last).2]):=by
 by_cases h:SOK x.n a
 ·by_cases g:FOK x.n fullR
  ·exact rvblock_y x a cl last ok oka sm h g
  ·exact rvblock_f x a cl last ok oka sm h g
 ·exact rvblock_s x a cl last ok oka sm h
structure Flt where
 w:Int
 m:Int
 b:Int
 n:Int
abbrev fltC (f:Flt):List AV:=[i64 f.w,i64 f.m,i64 f.b,i64 f.n]
abbrev flt (f:Flt):AV:=.agg (fltC f)
def wholeE (u:Bun):Int:=if ¬ 0<elems u.h u.x u.c then 5 else if u.cl<2∨u.cl>16 then 2 else if u.m.length=0 then 12 else if 3<u.m.length then 4 else 0
theorem vwhole_v (u:Bun) (ok:u.Ok) (hl:u.m.length≤1000):VC N_ 53 ([bun u]) (i64 (wholeE u)):=by
 have q1:=elems_in u.h u.x u.c
 have q2:u.inp.Ok:=⟨ok.h,ok.x,ok.c⟩
 have oz0:=@sRight_v (Shp.mk u.h u.x u.c) q2
 rcases bft (!decide (0<elems u.h u.x u.c)) with hc0|hc0
 ·have gc0:=bnt hc0
  exact (cR_ [r_,.r [] [cr oz0],b_,r_] (i64 5) Tryz.func53 (.d2 oz0 hc0)).weak (Y_ _) (M_ (by (unfold wholeE;(try simp only[S_] at *);(repeat first|rw[i_ (by omega)]|rw[j_ (by omega)]))))
 ·have gc0:=bnf hc0
  rcases bft (decide (u.cl<2) || decide (u.cl>16)) with hc1|hc1
  ·have gc1:u.cl<2∨u.cl>16:=gc0_ hc1
   exact (cR_ [r_,.r [] [cr oz0],d_,.r [] [o_,o_,o_,.sel 1],b_,r_] (i64 2) Tryz.func53 (.d3 oz0 hc0 hc1)).weak (Y_ _) (M_ (by (unfold wholeE;(try simp only[S_] at *);(repeat first|rw[i_ (by omega)]|rw[j_ (by omega)]))))
  ·have gc1:¬u.cl<2∧¬u.cl>16:=gc0_ hc1
   rcases bft (((K_ mdlC u.m).length:Int)==0) with hc2|hc2
   ·have gc2:((K_ mdlC u.m).length:Int)=0:=bet hc2
    exact (cR_ [r_,.r [] [cr oz0],d_,.r [] [o_,o_,o_,.sel 1],d_,r_,b_,r_] (i64 12) Tryz.func53 (.d4 oz0 hc0 hc1 hc2)).weak (Y_ _) (M_ (by (unfold wholeE;(try simp only[S_] at *);(repeat first|rw[i_ (by omega)]|rw[j_ (by omega)]))))
   ·have gc2:¬((K_ mdlC u.m).length:Int)=0:=bef hc2
    rcases bft (decide (((K_ mdlC u.m).length:Int)>3)) with hc3|hc3
    ·have gc3:=of_decide_eq_true hc3
     exact (cR_ [r_,.r [] [cr oz0],d_,.r [] [o_,o_,o_,.sel 1],d_,r_,d_,r_,b_,r_] (i64 4) Tryz.func53 (.d5 oz0 hc0 hc1 hc2 hc3)).weak (Y_ _) (M_ (by (unfold wholeE;(try simp only[S_] at *);(repeat first|rw[i_ (by omega)]|rw[j_ (by omega)]))))
    ·have gc3:=of_decide_eq_false hc3
     exact (cR_ [r_,.r [] [cr oz0],d_,.r [] [o_,o_,o_,.sel 1],d_,r_,d_,r_,d_,r_] (i64 0) Tryz.func53 (.d5 oz0 hc0 hc1 hc2 hc3)).weak (Y_ _) (M_ (by (unfold wholeE;(try simp only[S_] at *);(repeat first|rw[i_ (by omega)]|rw[j_ (by omega)]))))
def inS (l:List Blc) (a:Shp):Nat→Shp
 | 0=>a
 | k+1=>lastS (l.getD k default).n (inS l a k)
theorem inS_ok {l:List Blc} {a:Shp} (h:a.Ok):∀ k,(inS l a k).Ok
 | 0=>h
 | k+1=>lastS_ok (inS_ok h k)
abbrev vB (l:List Blc) (a:Shp) (cl:Int) (k:Nat):Int×Int:=validE (l.getD k default) (inS l a k) cl ((k:Int)==((K_ blcC l).length:Int)-1)
theorem validE_ok {x:Blc} {a:Shp} {cl:Int} {last:Bool} (h:(validE x a cl last).2=0):SOK x.n a:=by
 by_cases g:SOK x.n a
 ·exact g
 ·rw[validE_s g] at h;exact absurd h (shapesE_n g)
noncomputable def vmodel_ly_I (u:Bun) (l:List Blc) (a:Shp) (j:Int) (k:Nat):VS:=stt 77 [(1,i64 j),(2,.ptr 2 0 0),(4,.ptr 4 0 0),(5,.sl 5 (l.map blcC)),(6,.ptr 6 0 0),(34,.sl 5 (l.map blcC)),(35,i64 l.length),(36,i64 k)] [(2,.var (bunC u)),(4,.var [i64 0,i64 0,i64 0,i64 0]),(6,.var (shpC (inS l a k)))]
noncomputable def vmodel_ly_Z (u:Bun) (l:List Blc) (a:Shp) (j:Int):VS:=vmodel_ly_I u l a j (l.length)
theorem vmodel_ly_s (u:Bun) (l:List Blc) (a:Shp) (j:Int) (ok:∀ d∈l,d.Ok) (sm:∀ d∈l,d.Sm) (oka:a.Ok) (hl:l.length≤6) (h:∀ k,k<l.length→(vB l a u.cl k).2=0) (k:Nat) (hk:k<l.length):VT N_ (fnC Tryz.f54 [1,1,1,1,0,1,0,0]) (vmodel_ly_I u l a j k) .normal (vmodel_ly_I u l a j (k+1)):=by
 have q:=h k hk
 have q1:=validE_ok q
 have q2:=getD_in ok hk
 have q3:=getD_in sm hk
 have q4:=inS_ok (l:=l) oka k
 have lb:(K_ blcC l).length=l.length:=S_ _
 have q5:=q2.n
 have q6:=q3.s
 have q7:=q3.l
 have l1:=growL_len nextE (l.getD k default).n (inS l a k) (l.getD k default).n.length
 have l3:(K_ shpC (growL nextE (l.getD k default).n (inS l a k) (l.getD k default).n.length)).length=(growL nextE (l.getD k default).n (inS l a k) (l.getD k default).n.length).length:=S_ _
 have i1:(((K_ shpC (growL nextE (l.getD k default).n (inS l a k) (l.getD k default).n.length)).length:Int)-1).toNat=(l.getD k default).n.length:=by omega
 have oz2:=(map_at (blcC) (default) (l:=l) (i:=k) hk)
 have oz3:=(i6n (((K_ blcC l).length:Int)-1) (by omega))
 have oz4:=@vblock_v (l.getD k default) (inS l a k) (u.cl) ((↑k:Int)==((K_ blcC l).length:Int)-1) q2 q4 q3
 have oz6:=@shapes_y ((l.getD k default).n) (inS l a k) q5 q6 q1
 have oz7:=(i6n (((K_ shpC (growL nextE (l.getD k default).n (inS l a k) (l.getD k default).n.length)).length:Int)-1) (by omega))
 have oz9:=(map_at (shpC) (default) (l:=growL nextE (l.getD k default).n (inS l a k) (l.getD k default).n.length) (i:=(((K_ shpC (growL nextE (l.getD k default).n (inS l a k) (l.getD k default).n.length)).length:Int)-1).toNat) (by omega))
 exact tR_ [r_,b_,.r [] [.row (sO oz2)],.r [] [.n (nO oz3),cr oz4],r_,d_,.r [] [cr oz6],.r [] [.n (nO oz7),.row (sO oz9)],.r [] [.n ((↑k:Int)+1)]] [.any (rg [(7,7),(37,19),(61,15)]),.drop [8],.weak 36 (i64 (↑(k+1):Int)),.blk 6 (Blk.var [i64 (inS l a (k+1)).h,i64 (inS l a (k+1)).x,i64 (inS l a (k+1)).c]),.sort] (.c8 (decide_eq_true (p:=((↑k:Int)<(l.length:Int))) (by omega)) (s_ (0≤(↑k:Int))) oz2 oz3 oz4 (show ((validE (l.getD k default) (inS l a k) u.cl ((↑k:Int)==((K_ blcC l).length:Int)-1)).snd != 0)=false by (rw[q];rfl)) oz6 oz7<|.d5 (s_ (0≤((K_ shpC (growL nextE (l.getD k default).n (inS l a k) (l.getD k default).n.length)).length:Int)-1)) oz9 (i6n ((↑k:Int)+1) (by omega)) (wS_ k) (show BlkW (Blk.var [i64 ((growL nextE (l.getD k default).n (inS l a k) (l.getD k default).n.length).getD (((K_ shpC (growL nextE (l.getD k default).n (inS l a k) (l.getD k default).n.length)).length:Int)-1).toNat default).h,i64 ((growL nextE (l.getD k default).n (inS l a k) (l.getD k default).n.length).getD (((K_ shpC (growL nextE (l.getD k default).n (inS l a k) (l.getD k default).n.length)).length:Int)-1).toNat default).x,i64 ((growL nextE (l.getD k default).n (inS l a k) (l.getD k default).n.length).getD (((K_ shpC (growL nextE (l.getD k default).n (inS l a k) (l.getD k default).n.length)).length:Int)-1).toNat default).c]) (Blk.var [i64 (inS l a (k+1)).h,i64 (inS l a (k+1)).x,i64 (inS l a (k+1)).c]) from (BlkW.var (m:=[i64 (inS l a (k+1)).h,i64 (inS l a (k+1)).x,i64 (inS l a (k+1)).c]) (.cons (M_ (by (rw[i1]<;>rfl))) (.cons (M_ (by (rw[i1]<;>rfl))) (.cons (M_ (by (rw[i1]<;>rfl))) .nil))))))
theorem vmodel_ly_e (u:Bun) (l:List Blc) (a:Shp) (j:Int) (ok:∀ d∈l,d.Ok) (sm:∀ d∈l,d.Sm) (oka:a.Ok) (hl:l.length≤6) (h:∀ k,k<l.length→(vB l a u.cl k).2=0):VT N_ (fnC Tryz.f54 [1,1,1,1,0,1,0,0]) (vmodel_ly_I u l a j (l.length)) (.exit 1) (vmodel_ly_Z u l a j):=by
 exact tR_ [r_,d_] [.any [37],.sort] (.d (decide_eq_false (p:=((l.length:Int)<(l.length:Int))) (by omega)))
theorem vmodel_ly (u:Bun) (l:List Blc) (a:Shp) (j:Int) (ok:∀ d∈l,d.Ok) (sm:∀ d∈l,d.Sm) (oka:a.Ok) (hl:l.length≤6) (h:∀ k,k<l.length→(vB l a u.cl k).2=0):VT N_ (fnC Tryz.f54 [1,1,1,1,0,1,0]) (vmodel_ly_I u l a j 0) (.exit 1) (vmodel_ly_Z u l a j) :=
 VT.loop (fun k=>vmodel_ly_I u l a j k) (l.length) (fun k hk=>vmodel_ly_s u l a j ok sm oka hl h k hk) (vmodel_ly_e u l a j ok sm oka hl h) (by intro h;cases h)
noncomputable def vmodel_ln_I (u:Bun) (l:List Blc) (a:Shp) (j:Int) (m:Nat) (k:Nat):VS:=stt 77 [(1,i64 j),(2,.ptr 2 0 0),(4,.ptr 4 0 0),(5,.sl 5 (l.map blcC)),(6,.ptr 6 0 0),(34,.sl 5 (l.map blcC)),(35,i64 l.length),(36,i64 k)] [(2,.var (bunC u)),(4,.var [i64 0,i64 0,i64 0,i64 0]),(6,.var (shpC (inS l a k)))]
noncomputable def vmodel_ln_Z (u:Bun) (l:List Blc) (a:Shp) (j:Int) (m:Nat):VS:=stt 77 [(4,.ptr 4 0 0)] [(4,.var [i64 (vB l a u.cl m).2,i64 j,i64 m,i64 (vB l a u.cl m).1])]
theorem vmodel_ln_s (u:Bun) (l:List Blc) (a:Shp) (j:Int) (m:Nat) (ok:∀ d∈l,d.Ok) (sm:∀ d∈l,d.Sm) (oka:a.Ok) (hl:l.length≤6) (hm:m<l.length) (hf:(vB l a u.cl m).2≠0) (h:∀ k,k<m→(vB l a u.cl k).2=0) (k:Nat) (hk:k<m):VT N_ (fnC Tryz.f54 [1,1,1,1,0,1,0,0]) (vmodel_ln_I u l a j m k) .normal (vmodel_ln_I u l a j m (k+1)):=by
 have q:=h k hk
 have q1:=validE_ok q
 have q2:=getD_in ok (s_ (k<l.length))
 have q3:=getD_in sm (s_ (k<l.length))
 have q4:=inS_ok (l:=l) oka k
 have lb:(K_ blcC l).length=l.length:=S_ _
 have q5:=q2.n
 have q6:=q3.s
 have q7:=q3.l
 have l1:=growL_len nextE (l.getD k default).n (inS l a k) (l.getD k default).n.length
 have l3:(K_ shpC (growL nextE (l.getD k default).n (inS l a k) (l.getD k default).n.length)).length=(growL nextE (l.getD k default).n (inS l a k) (l.getD k default).n.length).length:=S_ _
 have i1:(((K_ shpC (growL nextE (l.getD k default).n (inS l a k) (l.getD k default).n.length)).length:Int)-1).toNat=(l.getD k default).n.length:=by omega
 have oz2:=(map_at (blcC) (default) (l:=l) (i:=k) (by omega))
 have oz3:=(i6n (((K_ blcC l).length:Int)-1) (by omega))
 have oz4:=@vblock_v (l.getD k default) (inS l a k) (u.cl) ((↑k:Int)==((K_ blcC l).length:Int)-1) q2 q4 q3
 have oz6:=@shapes_y ((l.getD k default).n) (inS l a k) q5 q6 q1
 have oz7:=(i6n (((K_ shpC (growL nextE (l.getD k default).n (inS l a k) (l.getD k default).n.length)).length:Int)-1) (by omega))
 have oz9:=(map_at (shpC) (default) (l:=growL nextE (l.getD k default).n (inS l a k) (l.getD k default).n.length) (i:=(((K_ shpC (growL nextE (l.getD k default).n (inS l a k) (l.getD k default).n.length)).length:Int)-1).toNat) (by omega))
 exact tR_ [r_,b_,.r [] [.row (sO oz2)],.r [] [.n (nO oz3),cr oz4],r_,d_,.r [] [cr oz6],.r [] [.n (nO oz7),.row (sO oz9)],.r [] [.n ((↑k:Int)+1)]] [.any (rg [(7,7),(37,19),(61,15)]),.drop [8],.weak 36 (i64 (↑(k+1):Int)),.blk 6 (Blk.var [i64 (inS l a (k+1)).h,i64 (inS l a (k+1)).x,i64 (inS l a (k+1)).c]),.sort] (.c8 (decide_eq_true (p:=((↑k:Int)<(l.length:Int))) (by omega)) (s_ (0≤(↑k:Int))) oz2 oz3 oz4 (show ((validE (l.getD k default) (inS l a k) u.cl ((↑k:Int)==((K_ blcC l).length:Int)-1)).snd != 0)=false by (rw[q];rfl)) oz6 oz7<|.d5 (s_ (0≤((K_ shpC (growL nextE (l.getD k default).n (inS l a k) (l.getD k default).n.length)).length:Int)-1)) oz9 (i6n ((↑k:Int)+1) (by omega)) (wS_ k) (show BlkW (Blk.var [i64 ((growL nextE (l.getD k default).n (inS l a k) (l.getD k default).n.length).getD (((K_ shpC (growL nextE (l.getD k default).n (inS l a k) (l.getD k default).n.length)).length:Int)-1).toNat default).h,i64 ((growL nextE (l.getD k default).n (inS l a k) (l.getD k default).n.length).getD (((K_ shpC (growL nextE (l.getD k default).n (inS l a k) (l.getD k default).n.length)).length:Int)-1).toNat default).x,i64 ((growL nextE (l.getD k default).n (inS l a k) (l.getD k default).n.length).getD (((K_ shpC (growL nextE (l.getD k default).n (inS l a k) (l.getD k default).n.length)).length:Int)-1).toNat default).c]) (Blk.var [i64 (inS l a (k+1)).h,i64 (inS l a (k+1)).x,i64 (inS l a (k+1)).c]) from (BlkW.var (m:=[i64 (inS l a (k+1)).h,i64 (inS l a (k+1)).x,i64 (inS l a (k+1)).c]) (.cons (M_ (by (rw[i1]<;>rfl))) (.cons (M_ (by (rw[i1]<;>rfl))) (.cons (M_ (by (rw[i1]<;>rfl))) .nil))))))
theorem vmodel_ln_e (u:Bun) (l:List Blc) (a:Shp) (j:Int) (m:Nat) (ok:∀ d∈l,d.Ok) (sm:∀ d∈l,d.Sm) (oka:a.Ok) (hl:l.length≤6) (hm:m<l.length) (hf:(vB l a u.cl m).2≠0) (h:∀ k,k<m→(vB l a u.cl k).2=0):VT N_ (fnC Tryz.f54 [1,1,1,1,0,1,0,0]) (vmodel_ln_I u l a j m (m)) (.ret) (vmodel_ln_Z u l a j m):=by
 have q2:=getD_in ok hm
 have q3:=getD_in sm hm
 have q4:=inS_ok (l:=l) oka m
 have lb:(K_ blcC l).length=l.length:=S_ _
 have oz2:=(map_at (blcC) (default) (l:=l) (i:=m) hm)
 have oz3:=(i6n (((K_ blcC l).length:Int)-1) (by omega))
 have oz4:=@vblock_v (l.getD m default) (inS l a m) (u.cl) ((↑m:Int)==((K_ blcC l).length:Int)-1) q2 q4 q3
 exact tR_ [r_,b_,.r [] [.row (sO oz2)],.r [] [.n (nO oz3),cr oz4],r_,b_,r_] [.any (rg [(1,2),(5,6),(34,27)]),.drop [2,6,8],.sort] (.d6 (decide_eq_true (p:=((↑m:Int)<(l.length:Int))) (by omega)) (s_ (0≤(↑m:Int))) oz2 oz3 oz4 (show ((validE (l.getD m default) (inS l a m) u.cl ((↑m:Int)==((K_ blcC l).length:Int)-1)).snd != 0)=true by (rw[J_];exact hf)))
theorem vmodel_ln (u:Bun) (l:List Blc) (a:Shp) (j:Int) (m:Nat) (ok:∀ d∈l,d.Ok) (sm:∀ d∈l,d.Sm) (oka:a.Ok) (hl:l.length≤6) (hm:m<l.length) (hf:(vB l a u.cl m).2≠0) (h:∀ k,k<m→(vB l a u.cl k).2=0):VT N_ (fnC Tryz.f54 [1,1,1,1,0,1,0]) (vmodel_ln_I u l a j m 0) (.ret) (vmodel_ln_Z u l a j m) :=
 VT.loop (fun k=>vmodel_ln_I u l a j m k) (m) (fun k hk=>vmodel_ln_s u l a j m ok sm oka hl hm hf h k hk) (vmodel_ln_e u l a j m ok sm oka hl hm hf h) (by intro h;cases h)
def modelE (l:List Blc) (a:Shp) (cl j:Int):Flt :=
 if l.length=0 then ⟨12,j,-1,-1⟩ else if 6<l.length then ⟨4,j,-1,-1⟩
 else if firstBad (fun k=>(vB l a cl k).2==0) l.length<l.length then ⟨(vB l a cl (firstBad (fun k=>(vB l a cl k).2==0) l.length)).2,j,firstBad (fun k=>(vB l a cl k).2==0) l.length,(vB l a cl (firstBad (fun k=>(vB l a cl k).2==0) l.length)).1⟩
 else ⟨0,0,0,0⟩
theorem modelE_y {l:List Blc} {a:Shp} {cl j:Int} (h0:¬ l.length=0) (h6:l.length≤6) (h:∀ k,k<l.length→(vB l a cl k).2=0):modelE l a cl j=⟨0,0,0,0⟩:=by
 unfold modelE
 rw[j_ h0,j_ (by omega),firstBad_all fun k hk=>by simpa using h k hk,j_ (by omega)]
theorem modelE_m {l:List Blc} {a:Shp} {cl j:Int} {m:Nat} (h6:l.length≤6) (hm:m<l.length) (hf:(vB l a cl m).2≠0) (h:∀ k,k<m→(vB l a cl k).2=0):modelE l a cl j=⟨(vB l a cl m).2,j,m,(vB l a cl m).1⟩:=by
 have e:=firstBad_at (p:=fun k=>(vB l a cl k).2==0) (m:=m) (by simpa using hf) (fun k hk=>by simpa using h k hk) hm
 unfold modelE
 rw[j_ (by omega),j_ (by omega),e,i_ hm]
theorem modelE_cases (l:List Blc) (a:Shp) (cl:Int):(¬ l.length=0∧l.length≤6∧∀ k,k<l.length→(vB l a cl k).2=0)∨(l.length=0∨6<l.length)∨(l.length≤6∧∃ m,m<l.length∧(vB l a cl m).2≠0∧∀ k,k<m→(vB l a cl k).2=0):=by
 by_cases c:l.length=0∨6<l.length
 ·exact .inr (.inl c)
 ·rcases all_or (fun k=>(vB l a cl k).2==0) l.length with h|⟨m,h1,h2,h3⟩
  ·exact .inl ⟨by omega,by omega,fun k hk=>by simpa using h k hk⟩
  ·exact .inr (.inr ⟨by omega,m,h1,by simpa using h2,fun k hk=>by simpa using h3 k hk⟩)
structure Bun.Sm (u:Bun):Prop where
 l:u.m.length≤4
 m:∀ d∈u.m,d.l.length≤8∧∀ x∈d.l,x.Sm
theorem Bun.sm {u:Bun} (h:bunS u=true):u.Sm:=by
 simp only[bunS,mdlS,O_,E_,CZ_] at h
 exact ⟨h.1,fun d hd=>⟨(h.2 d hd).1,fun x hx=>Blc.sm ((h.2 d hd).2 x hx)⟩⟩
theorem vmodel_y (u:Bun) (j:Nat) (ok:u.Ok) (sm:u.Sm) (hj:j<u.m.length) (h0:¬ (u.m.getD j default).l.length=0) (h6:(u.m.getD j default).l.length≤6) (h:∀ k,k<(u.m.getD j default).l.length→(vB (u.m.getD j default).l u.inp u.cl k).2=0):VC N_ 54 ([bun u,i64 j]) (flt ⟨0,0,0,0⟩):=by
 have q2:u.inp.Ok:=⟨ok.h,ok.x,ok.c⟩
 have q3:=(getD_in ok.m hj).l
 have q4:=(getD_in sm.m hj).2
 have q5:=sm.l
 have oz1:=(map_at (mdlC) (default) (l:=u.m) (i:=j) hj)
 have oz4:=(M_ (k:=.i64) (show ((((K_ blcC (u.m.getD j default).l).length:Int)):Int)=((↑(u.m.getD j default).l.length:Int)) from (by (simp;done))))
 have oz6:=@vmodel_ly (u) ((u.m.getD j default).l) (Shp.mk u.1 u.2 u.3) ((↑j:Int)) q3 q4 q2 h6 h
 exact cR_ [r_,.r [] [.row (sO oz1)],r_,d_,r_,d_,r_,r_,.code [.any (rg [(0,1),(14,10),(26,4),(32,2)]),.weak 35 (wO oz4),.weak 36 (i64 (↑0:Int)),.sort] (AA_ 1) (zO oz6),r_] _ Tryz.func54 (.d7 (s_ (0≤(↑j:Int))) oz1 (show (((K_ blcC (u.m.getD j default).l).length:Int)==0)=false by (simp at *;omega)) (show decide (((K_ blcC (u.m.getD j default).l).length:Int)>6)=false by (simp at *;omega)) oz4 w0_ oz6)
theorem vmodel_m (u:Bun) (j m:Nat) (ok:u.Ok) (sm:u.Sm) (hj:j<u.m.length) (h6:(u.m.getD j default).l.length≤6) (hm:m<(u.m.getD j default).l.length) (hf:(vB (u.m.getD j default).l u.inp u.cl m).2≠0) (h:∀ k,k<m→(vB (u.m.getD j default).l u.inp u.cl k).2=0):VC N_ 54 ([bun u,i64 j]) (flt ⟨(vB (u.m.getD j default).l u.inp u.cl m).2,j,m,(vB (u.m.getD j default).l u.inp u.cl m).1⟩):=by
 have q2:u.inp.Ok:=⟨ok.h,ok.x,ok.c⟩
 have q3:=(getD_in ok.m hj).l
 have q4:=(getD_in sm.m hj).2
 have q5:=sm.l
 have oz1:=(map_at (mdlC) (default) (l:=u.m) (i:=j) hj)
 have oz4:=(M_ (k:=.i64) (show ((((K_ blcC (u.m.getD j default).l).length:Int)):Int)=((↑(u.m.getD j default).l.length:Int)) from (by (simp;done))))
 have oz6:=@vmodel_ln (u) ((u.m.getD j default).l) (Shp.mk u.1 u.2 u.3) ((↑j:Int)) (m) q3 q4 q2 h6 hm hf h
 exact cR_ [r_,.r [] [.row (sO oz1)],r_,d_,r_,d_,r_,r_,.code [.any (rg [(0,1),(14,10),(26,4),(32,2)]),.weak 35 (wO oz4),.weak 36 (i64 (↑0:Int)),.sort] (DN_) (zO oz6)] _ Tryz.func54 (.d7 (s_ (0≤(↑j:Int))) oz1 (show (((K_ blcC (u.m.getD j default).l).length:Int)==0)=false by (simp only[E_,F_,I_,J_,ne_eq,H_,G_,U_,T_,BL_,BS_,BP_,Classical.not_not,CO_,CF_,O_,P_,X_,Q_,B_,BN_,BR_,AD_,BW_,BT_,eqNums,S_,AX_,AJ_,BB_,BA_,AH_,AE_,BZ_,AG_,BO_,BX_,BQ_];(first|done|with_reducible assumption|omega|contradiction))) (show decide (((K_ blcC (u.m.getD j default).l).length:Int)>6)=false by (simp at *;omega)) oz4 w0_ oz6)
theorem vmodel_a (u:Bun) (j:Nat) (sm:u.Sm) (hj:j<u.m.length) (h:(u.m.getD j default).l.length=0∨6<(u.m.getD j default).l.length):VC N_ 54 ([bun u,i64 j]) (flt (modelE (u.m.getD j default).l u.inp u.cl j)):=by
 have q5:=sm.l
 have oz0:=(s_ (0≤(↑j:Int)))
 have oz1:=(map_at (mdlC) (default) (l:=u.m) (i:=j) hj)
 rcases bft (((K_ blcC (u.m.getD j default).l).length:Int)==0) with hc0|hc0
 ·have gc0:((K_ blcC (u.m.getD j default).l).length:Int)=0:=bet hc0
  exact (cR_ [r_,.r [] [.row (sO oz1)],r_,b_,r_] (AV.agg [i64 12,i64 (↑j:Int),i64 (-1),i64 (-1)]) Tryz.func54 (.d3 oz0 oz1 hc0)).weak (Y_ _) (AV_ (.cons (M_ (by (unfold modelE;(try simp only[S_] at *);(repeat first|rw[i_ (by omega)]|rw[j_ (by omega)])))) (.cons (M_ (by (unfold modelE;(try simp only[S_] at *);(repeat first|rw[i_ (by omega)]|rw[j_ (by omega)])))) (.cons (M_ (by (unfold modelE;(try simp only[S_] at *);(repeat first|rw[i_ (by omega)]|rw[j_ (by omega)])))) (.cons (M_ (by (unfold modelE;(try simp only[S_] at *);(repeat first|rw[i_ (by omega)]|rw[j_ (by omega)])))) .nil)))))
 ·have gc0:¬((K_ blcC (u.m.getD j default).l).length:Int)=0:=bef hc0
  exact (cR_ [r_,.r [] [.row (sO oz1)],r_,d_,r_,b_,r_] (AV.agg [i64 4,i64 (↑j:Int),i64 (-1),i64 (-1)]) Tryz.func54 (.d4 oz0 oz1 hc0 (show decide (((K_ blcC (u.m.getD j default).l).length:Int)>6)=true by (simp only[E_,F_,I_,J_,ne_eq,H_,G_,U_,T_,BL_,BS_,BP_,Classical.not_not,CO_,CF_,O_,P_,X_,Q_,B_,BN_,BR_,AD_,BW_,BT_,eqNums,S_,AX_,AJ_,BB_,BA_,AH_,AE_,BZ_,AG_,BO_,BX_,BQ_] at *;(first|done|with_reducible assumption|omega|contradiction))))).weak (Y_ _) (AV_ (.cons (M_ (by (unfold modelE;(try simp only[S_] at *);(repeat first|rw[i_ (by omega)]|rw[j_ (by omega)])))) (.cons (M_ (by (unfold modelE;(try simp only[S_] at *);(repeat first|rw[i_ (by omega)]|rw[j_ (by omega)])))) (.cons (M_ (by (unfold modelE;(try simp only[S_] at *);(repeat first|rw[i_ (by omega)]|rw[j_ (by omega)])))) (.cons (M_ (by (unfold modelE;(try simp only[S_] at *);(repeat first|rw[i_ (by omega)]|rw[j_ (by omega)])))) .nil)))))
theorem vmodel_v (u:Bun) (j:Nat) (ok:u.Ok) (sm:u.Sm) (hj:j<u.m.length):VC N_ 54 [bun u,i64 j] (flt (modelE (u.m.getD j default).l u.inp u.cl j)):=by
 rcases modelE_cases (u.m.getD j default).l u.inp u.cl with ⟨h0,h6,h⟩|h|⟨h6,m,h1,h2,h3⟩
 ·rw[modelE_y h0 h6 h];exact vmodel_y u j ok sm hj h0 h6 h
 ·exact vmodel_a u j sm hj h
 ·rw[modelE_m h6 h1 h2 h3];exact vmodel_m u j m ok sm hj h6 h1 h2 h3
theorem modelE_z {l:List Blc} {a:Shp} {cl j:Int} (h:(modelE l a cl j).w=0):modelE l a cl j=⟨0,0,0,0⟩:=by
 rcases modelE_cases l a cl with ⟨h0,h6,g⟩|g|⟨h6,m,h1,h2,h3⟩
 ·exact modelE_y h0 h6 g
 ·exfalso
  revert h
  unfold modelE
  by_cases c:l.length=0
  ·rw[i_ c];dsimp only;decide
  ·rw[j_ c,i_ (by omega)];dsimp only;decide
 ·rw[modelE_m h6 h1 h2 h3] at h;exact absurd h h2
abbrev intsC (l:List Int):List AV:=[ints .i64 l]
def rowK (l:List Blc) (a:Shp) (cl:Int):Nat→List Int
 | 0=>[]
 | k+1=>rowK l a cl k++[blockC (l.getD k default) (inS l a k) cl]
def tabK (u:Bun):Nat→List (List Int)
 | 0=>[]
 | k+1=>tabK u k++[rowK (u.m.getD k default).l u.inp u.cl (u.m.getD k default).l.length]
theorem rowK_len (l:List Blc) (a:Shp) (cl:Int):∀ k,(rowK l a cl k).length=k
 | 0=>rfl
 | k+1=>by rw[rowK,AX_,rowK_len l a cl k];rfl
theorem tabK_len (u:Bun):∀ k,(tabK u k).length=k
 | 0=>rfl
 | k+1=>by rw[tabK,AX_,tabK_len u k];rfl
def MOK (l:List Blc) (a:Shp):Prop:=∀ k,k<l.length→SOK (l.getD k default).n (inS l a k)
noncomputable def rtab_iy_I (u:Bun) (i:Nat) (l:List Blc) (a:Shp) (k:Nat):VS:=stt 59 [(1,.ptr 1 0 0),(4,.own 900),(5,i64 i),(6,.own 903),(7,.ptr 7 0 0),(8,.sl 5 (l.map blcC)),(9,i64 k)] [(1,.var (bunC u)),(7,.var (shpC (inS l a k))),(900,.slc 66 1 ((tabK u i).map intsC)),(903,.slc 3 1 ((rowK l a u.cl k).map (row1 .i64)))]
noncomputable def rtab_iy_Z (u:Bun) (i:Nat) (l:List Blc) (a:Shp):VS:=rtab_iy_I u i l a (l.length)
theorem rtab_iy_s (u:Bun) (i:Nat) (l:List Blc) (a:Shp) (ok:∀ d∈l,d.Ok) (sm:∀ d∈l,d.Sm) (oka:a.Ok) (hl:l.length≤8) (h:MOK l a) (k:Nat) (hk:k<l.length):VT N_ (fnC Tryz.f19 [1,1,0,1,0,0,1,0,0,1,1,1,0,1,0,0]) (rtab_iy_I u i l a k) .normal (rtab_iy_I u i l a (k+1)):=by
 have q:=h k hk
 have q2:=getD_in ok hk
 have q3:=(getD_in sm hk).s
 have q4:=inS_ok (l:=l) oka k
 have q5:=rowK_len l a u.cl k
 have oz2:=(map_at (blcC) (default) (l:=l) (i:=k) hk)
 have oz3:=@rcblock_y (l.getD k default) (inS l a k) (u.cl) q2 q3 q
 exact tR_ [r_,b_,.r [] [.row (sO oz2),cr oz3],r_,d_,r_,r_,.r [] [.n ((↑k:Int)+1)]] [.any (rg [(10,3),(28,20),(49,5)]),.drop [11,51],.ren 52 903,.weak 9 (i64 (↑(k+1):Int)),.blk 7 (Blk.var [i64 (inS l a (k+1)).h,i64 (inS l a (k+1)).x,i64 (inS l a (k+1)).c]),.blk 903 (Blk.slc 3 1 (K_ (row1 .i64) (rowK l a u.cl (k+1)))),.sort] (.c8 (show decide ((↑k:Int)<((K_ blcC l).length:Int))=true by (simp;omega)) (s_ (0≤(↑k:Int))) oz2 oz3 z2_ (show ((K_ (row1 .i64) (rowK l a u.cl k)).length+1)*8≤140737488355328 by (simp;omega)) (show (K_ (row1 .i64) (rowK l a u.cl k)).length+1≤9223372036854775807 by (simp;omega)) (i6n ((↑k:Int)+1) (by omega))<|.d3 (wS_ k) (show BlkW (Blk.var [i64 (lastS (l.getD k default).n (inS l a k)).h,i64 (lastS (l.getD k default).n (inS l a k)).x,i64 (lastS (l.getD k default).n (inS l a k)).c]) (Blk.var [i64 (inS l a (k+1)).h,i64 (inS l a (k+1)).x,i64 (inS l a (k+1)).c]) from (BlkW.var (m:=[i64 (inS l a (k+1)).h,i64 (inS l a (k+1)).x,i64 (inS l a (k+1)).c]) (.cons (M_ (by rfl)) (.cons (M_ (by rfl)) (.cons (M_ (by rfl)) .nil))))) (show BlkW (Blk.slc 3 1 (K_ (row1 .i64) (rowK l a u.cl k)++[[i64 (blockC (l.getD k default) (inS l a k) u.cl)]])) (Blk.slc 3 1 (K_ (row1 .i64) (rowK l a u.cl (k+1)))) from (BU_ (e:=3) (z:=1) (rows_to (row1 .i64) (r:=K_ (row1 .i64) (rowK l a u.cl k)++[[i64 (blockC (l.getD k default) (inS l a k) u.cl)]]) (l:=rowK l a u.cl k++[blockC (l.getD k default) (inS l a k) u.cl]) (m:=rowK l a u.cl (k+1)) (by first|(simp only[C_,D_,AM_,AN_,A_,AK_,AL_];done)|rfl|(simp only[C_,D_,AM_,AN_,A_,AK_,AL_];rfl)) (show (rowK l a u.cl k++[blockC (l.getD k default) (inS l a k) u.cl])=(rowK l a u.cl (k+1)) from (by rfl))))))
theorem rtab_iy_e (u:Bun) (i:Nat) (l:List Blc) (a:Shp) (ok:∀ d∈l,d.Ok) (sm:∀ d∈l,d.Sm) (oka:a.Ok) (hl:l.length≤8) (h:MOK l a):VT N_ (fnC Tryz.f19 [1,1,0,1,0,0,1,0,0,1,1,1,0,1,0,0]) (rtab_iy_I u i l a (l.length)) (.exit 2) (rtab_iy_Z u i l a):=by
 exact tR_ [r_,d_] [.any (rg [(28,4)]),.sort] (.d (show decide ((l.length:Int)<((K_ blcC l).length:Int))=false by (simp;done)))
theorem rtab_iy (u:Bun) (i:Nat) (l:List Blc) (a:Shp) (ok:∀ d∈l,d.Ok) (sm:∀ d∈l,d.Sm) (oka:a.Ok) (hl:l.length≤8) (h:MOK l a):VT N_ (fnC Tryz.f19 [1,1,0,1,0,0,1,0,0,1,1,1,0,1,0]) (rtab_iy_I u i l a 0) (.exit 2) (rtab_iy_Z u i l a) :=
 VT.loop (fun k=>rtab_iy_I u i l a k) (l.length) (fun k hk=>rtab_iy_s u i l a ok sm oka hl h k hk) (rtab_iy_e u i l a ok sm oka hl h) (by intro h;cases h)
noncomputable def rtab_oy_I (u:Bun) (k:Nat):VS:=stt 59 [(1,.ptr 1 0 0),(4,.own 900),(5,i64 k)] [(1,.var (bunC u)),(900,.slc 66 1 ((tabK u k).map intsC))]
noncomputable def rtab_oy_Z (u:Bun):VS:=rtab_oy_I u (u.m.length)
theorem rtab_oy_s (u:Bun) (ok:u.Ok) (sm:u.Sm) (h:∀ j,j<u.m.length→MOK (u.m.getD j default).l u.inp) (k:Nat) (hk:k<u.m.length):VT N_ (fnC Tryz.f19 [1,1,0,1,0,0]) (rtab_oy_I u k) .normal (rtab_oy_I u (k+1)):=by
 have q1:=h k hk
 have q2:=(getD_in ok.m hk).l
 have q3:=(getD_in sm.m hk).2
 have q4:=(getD_in sm.m hk).1
 have q5:=sm.l
 have q6:u.inp.Ok:=⟨ok.h,ok.x,ok.c⟩
 have q7:=tabK_len u k
 have oz2:=(map_at (mdlC) (default) (l:=u.m) (i:=k) hk)
 have oz4:=@rtab_iy (u) (k) ((u.m.getD k default).l) (Shp.mk u.1 u.2 u.3) q2 q3 q6 q4 q1
 exact tR_ [r_,b_,r_,r_,.r [] [.row (sO oz2)],r_,.code [.any (rg [(13,5),(20,8)]),.weak 9 (i64 (↑0:Int)),.nils 6 903 3 1,.sort] (AA_ 2) (zO oz4),.r [.frz 903] [],.r [] [.n ((↑k:Int)+1)]] [.any (rg [(6,4),(18,2),(54,4)]),.drop [7,56],.ren 57 900,.weak 5 (i64 (↑(k+1):Int)),.blk 900 (Blk.slc 66 1 (K_ intsC (tabK u (k+1)))),.sort] (.c8 (show decide ((↑k:Int)<((K_ mdlC u.m).length:Int))=true by (simp;omega)) (s_ (0≤(↑k:Int))) oz2 w0_ oz4 (show ((K_ intsC (tabK u k)).length+1)*24≤140737488355328 by (simp;omega)) (show (K_ intsC (tabK u k)).length+1≤9223372036854775807 by (simp;omega)) (i6n ((↑k:Int)+1) (by omega))<|.d2 (wS_ k) (show BlkW (Blk.slc 66 1 (K_ intsC (tabK u k)++[[AV.sl 1 (K_ (row1 .i64) (rowK (u.m.getD k default).l (Shp.mk u.1 u.2 u.3) u.cl (u.m.getD k default).l.length))]])) (Blk.slc 66 1 (K_ intsC (tabK u (k+1)))) from (BU_ (e:=66) (z:=1) (rows_to (intsC) (r:=K_ intsC (tabK u k)++[[AV.sl 1 (K_ (row1 .i64) (rowK (u.m.getD k default).l (Shp.mk u.1 u.2 u.3) u.cl (u.m.getD k default).l.length))]]) (l:=tabK u k++[rowK (u.m.getD k default).l (Shp.mk u.1 u.2 u.3) u.cl (u.m.getD k default).l.length]) (m:=tabK u (k+1)) (by first|(simp only[C_,D_,AM_,AN_,A_,AK_,AL_];done)|rfl|(simp only[C_,D_,AM_,AN_,A_,AK_,AL_];rfl)|(simp only[C_,D_,AM_,AN_,A_,AK_,AL_,intsC,ints];done)) (show (tabK u k++[rowK (u.m.getD k default).l (Shp.mk u.1 u.2 u.3) u.cl (u.m.getD k default).l.length])=(tabK u (k+1)) from (by rfl))))))
theorem rtab_oy_e (u:Bun) (ok:u.Ok) (sm:u.Sm) (h:∀ j,j<u.m.length→MOK (u.m.getD j default).l u.inp):VT N_ (fnC Tryz.f19 [1,1,0,1,0,0]) (rtab_oy_I u (u.m.length)) (.exit 0) (rtab_oy_Z u):=by
 exact tR_ [r_,d_] [.any (rg [(13,5)]),.sort] (.d (show decide ((u.m.length:Int)<((K_ mdlC u.m).length:Int))=false by (simp;done)))
theorem rtab_oy (u:Bun) (ok:u.Ok) (sm:u.Sm) (h:∀ j,j<u.m.length→MOK (u.m.getD j default).l u.inp):VT N_ (fnC Tryz.f19 [1,1,0,1,0]) (rtab_oy_I u 0) (.exit 0) (rtab_oy_Z u) :=
 VT.loop (fun k=>rtab_oy_I u k) (u.m.length) (fun k hk=>rtab_oy_s u ok sm h k hk) (rtab_oy_e u ok sm h) (by intro h;cases h)
theorem rtab_y (u:Bun) (ok:u.Ok) (sm:u.Sm) (h:∀ j,j<u.m.length→MOK (u.m.getD j default).l u.inp):VC N_ 19 ([bun u]) (.tup [.sl 1 ((tabK u u.m.length).map intsC),i64 0]):=by
 have q5:=sm.l
 have oz1:=@rtab_oy (u) ok sm h
 exact cR_ [r_,r_,r_,.code [.any [0,2,3],.weak 5 (i64 (↑0:Int)),.nils 4 900 66 1,.sort] (AA_ 0) (zO oz1),r_] _ Tryz.func19 (.d2 w0_ oz1)
theorem vals_of {l:List Nod} {x:Ten} (okl:∀ n∈l,n.Ok) (wl:∀ n∈l,n.w.length≤100000∧n.b.length≤100000) (ok:x.Ok) (r:tenRight x=true) (s:SOK l x.sh):Vals l x∧∀ v,v≤l.length→(gv valE l x v).sh=gv nextE l x.sh v:=by
 have vo:VOK l x:=⟨okl,wl,ok,s⟩
 have o:=vo.o
 have key:∀ k,k≤l.length→(∀ v,v≤k→tenRight (gv valE l x v)=true∧(gv valE l x v).sh=gv nextE l x.sh v)∧∀ j,j<k→errL valE l x j=0:=by
  intro k
  induction k with
  | zero=>intro _;exact ⟨fun v hv=>by
     have:v=0:=by omega
     subst this;exact ⟨r,rfl⟩,fun j hj=>by omega⟩
  | succ k ih =>
   intro hk
   obtain ⟨i1,i2⟩:=ih (by omega)
   have th:=ordered_there o (s_ (k<l.length))
   have t:=there_iff.1 th
   have e:=s.k k (by omega)
   rw[errL_step nextE_loc th] at e
   have c:checkE (l.getD k default)=0:=by
    apply cbc;intro q
    rw[i_ q] at e;exact q e
   rw[j_ (by simpa using c)] at e
   have gs:=gv_succ (x:=x.sh) nextE_loc th
   rw[j_ (by simpa using c)] at gs
   obtain ⟨a1,a2⟩:=i1 (l.getD k default).na.toNat (by omega)
   obtain ⟨b1,b2⟩:=i1 (secN (l.getD k default)).toNat (by omega)
   have f:=node_fits (t:=gv nextE l x.sh (k+1)) c a1 b1 (by rw[a2,b2,gs];exact Prod.ext rfl e)
   have okA:(gv valE l x (l.getD k default).na.toNat).Ok:=by
    have q:=val_ok okl ok (s_ (k≤l.length))
    rw[←growL_at k (s_ ((l.getD k default).na.toNat≤k))]
    exact getD_all (p:=Ten.Ok) ten0_ok q _
   have ev:gv valE l x (k+1)=(nodeOf (l.getD k default) (gv valE l x (l.getD k default).na.toNat) (gv valE l x (secN (l.getD k default)).toNat)).1:=gv_succ valE_loc th
   have ee:errL valE l x k=(nodeOf (l.getD k default) (gv valE l x (l.getD k default).na.toNat) (gv valE l x (secN (l.getD k default)).toNat)).2:=errL_step valE_loc th
   refine ⟨fun v hv=>?_,fun j hj=>?_⟩
   ·by_cases q:v=k+1
    ·subst q;rw[ev];exact ⟨nodeOf_right okA (getD_in okl (s_ (k<l.length))) f.1,f.2⟩
    ·exact i1 v (by omega)
   ·by_cases q:j=k
    ·subst q;rw[ee];exact f.1
    ·exact i2 j (by omega)
 obtain ⟨k1,k2⟩:=key l.length (AT_ _)
 exact ⟨⟨vo,r,k2⟩,fun v hv=>(k1 v hv).2⟩
def lastT (l:List Nod) (x:Ten):Ten:=gv valE l x l.length
theorem lastR_gv (l:List Nod):lastR l=gv stepR l fullR l.length:=rfl
def prB (x:Blc):Blc:=⟨pruneL x.n,x.ex,x.w,x.b,x.nd⟩
theorem sok_prune {l:List Nod} {a:Shp} (s:SOK l a):SOK (pruneL l) a∧lastS (pruneL l) a=lastS l a:=by
 have ne:l≠[]:=List.length_pos_iff.1 s.e
 exact ⟨⟨s.i,pruneL_ne ne,Nat.le_trans (pruneL_le l) s.f,pruned_err nextE_loc s.o s.k⟩,pruned_last nextE_loc s.o ne⟩
theorem fok_prune {l:List Nod} {a:Rng} (o:orderedB l=true) (s:FOK l a):FOK (pruneL l) a:=by
 obtain ⟨s1,s2,s3,s4⟩:=s
 have ne:l≠[]:=List.length_pos_iff.1 s1
 exact ⟨pruneL_ne ne,Nat.le_trans (pruneL_le l) s2,s3,pruned_err stepR_loc o s4⟩
theorem validE_0 {x:Blc} {a:Shp} {cl:Int} {last:Bool} (h:(validE x a cl last).2=0):SOK x.n a∧FOK x.n fullR∧exitE x (lastS x.n a) (lastR x.n) cl last=0:=by
 have s:=validE_ok h
 by_cases g:FOK x.n fullR
 ·rw[validE_y s g] at h
  refine ⟨s,g,?_⟩
  split at h
  ·rename_i q;exact absurd h q
  ·rename_i q;exact Classical.not_not.1 q
 ·rw[validE_f s g] at h;exact absurd h (flowE_n g)
theorem valid_prune {x:Blc} {a:Shp} {cl:Int} {last:Bool} (h:(validE x a cl last).2=0):(validE (prB x) a cl last).2=0∧lastS (prB x).n a=lastS x.n a:=by
 obtain ⟨s,f,e⟩:=validE_0 h
 obtain ⟨s1,s2⟩:=sok_prune s
 have ne:x.n≠[]:=List.length_pos_iff.1 s.e
 have r:lastR (pruneL x.n)=lastR x.n:=by rw[lastR_gv,lastR_gv];exact pruned_last stepR_loc s.o ne
 refine ⟨?_,s2⟩
 rw[validE_y (x:=prB x) s1 (fok_prune s.o f)]
 have e2:exitE (prB x) (lastS (prB x).n a) (lastR (prB x).n) cl last=0:=by
  show exitE (prB x) (lastS (pruneL x.n) a) (lastR (pruneL x.n)) cl last=0
  rw[s2,r];exact e
 rw[e2,j_ (by simp)]
def cstE (n:Nod) (L:List Shp):Shp×Int:=((nextE n L).1,costE n (L.getD n.na.toNat default) (L.getD (secN n).toNat default))
theorem cst_grow (l:List Nod) (a:Shp) (k:Nat):growL cstE l a k=growL nextE l a k:=by
 induction k with
 | zero=>rfl
 | succ k ih=>rw[growL,growL,ih];rfl
theorem cst_loc:Loc cstE fun n a b=>((if checkE n≠0 then ((⟨0,0,0⟩:Shp),checkE n) else shapeE n a b).1,costE n a b) where
 eq:=fun n L h=>by unfold cstE;rw[nextE_loc.eq n L h]
 ren:=fun n u v a b h=>by
  have:=nextE_loc.ren n u v a b h
  have h1:=congrArg Prod.fst this
  exact congr (congrArg Prod.mk h1) rfl
def sumI:List Int→Int
 | []=>0
 | a::l=>a+sumI l
theorem sumI_app (l m:List Int):sumI (l++m)=sumI l+sumI m:=by
 induction l with
 | nil=>simp[sumI]
 | cons a l ih=>rw[List.cons_append,sumI,sumI,ih];omega
theorem sumI_filter {c:Nat→Int} (h:∀ i,0≤c i) (p:Nat→Bool) (l:List Nat):sumI ((l.filter p).map c)≤sumI (l.map c):=by
 induction l with
 | nil=>exact Int.le_refl _
 | cons a l ih =>
  have:=h a
  rw[D_,sumI,List.filter_cons]
  split
  ·rw[D_,sumI];omega
  ·omega
theorem costL_sum {l:List Nod} {a:Shp} (o:orderedB l=true):∀ k,k≤l.length→costL l (shpsL l a) k=1+sumI ((BM_ k).map (errL cstE l a)):=by
 intro k
 induction k with
 | zero=>intro _;rfl
 | succ k ih =>
  intro hk
  have t:=there_iff.1 (ordered_there o (s_ (k<l.length)))
  rw[costL,ih (by omega),List.range_succ,C_,sumI_app]
  have e:costE (l.getD k default) ((shpsL l a).getD (l.getD k default).na.toNat default) ((shpsL l a).getD (secN (l.getD k default)).toNat default)=errL cstE l a k:=by
   show _=(cstE (l.getD k default) (growL cstE l a k)).2
   rw[cst_grow]
   show _=costE (l.getD k default) ((growL nextE l a k).getD (l.getD k default).na.toNat default) ((growL nextE l a k).getD (secN (l.getD k default)).toNat default)
   rw[growL_at l.length (s_ ((l.getD k default).na.toNat≤l.length)),growL_at l.length (s_ ((secN (l.getD k default)).toNat≤l.length)),growL_at k (s_ ((l.getD k default).na.toNat≤k)),growL_at k (s_ ((secN (l.getD k default)).toNat≤k))]
  rw[e]
  show _=1+(_+(errL cstE l a k+0))
  omega
theorem cost_prune {l:List Nod} {a:Shp} (s:SOK l a):costL (pruneL l) (shpsL (pruneL l) a) (pruneL l).length≤costL l (shpsL l a) l.length:=by
 have o:=s.o
 rw[costL_sum (pruned_ordered o) _ (AT_ _),costL_sum o _ (AT_ _),pruneL_len o]
 have e:(BM_ (usedL l).length).map (errL cstE (pruneL l) a)=(usedL l).map (errL cstE l a):=by
  apply List.ext_getElem (by simp)
  intro j h1 h2
  simp only[S_,AG_] at h1
  rw[List.getElem_map,List.getElem_range,List.getElem_map,(pruned_gv (x:=a) cst_loc o _ j rfl h1).2,Z_,W_ h1];rfl
 rw[e]
 have:=sumI_filter (c:=errL cstE l a) (fun i=>(costE_bd _ _ _).1) (usedB l) (BM_ l.length)
 unfold usedL;omega
abbrev mE (u:Bun) (j:Nat):Flt:=modelE (u.m.getD j default).l u.inp u.cl j
noncomputable def vbundle_ly_I (u:Bun) (k:Nat):VS:=stt 27 [(1,.ptr 1 0 0),(2,.ptr 2 0 0),(14,i64 u.m.length),(15,i64 k)] [(1,.var (bunC u)),(2,.var [i64 0,i64 0,i64 0,i64 0])]
noncomputable def vbundle_ly_Z (u:Bun):VS:=vbundle_ly_I u (u.m.length)
theorem vbundle_ly_s (u:Bun) (ok:u.Ok) (sm:u.Sm) (h:∀ j,j<u.m.length→mE u j=⟨0,0,0,0⟩) (k:Nat) (hk:k<u.m.length):VT N_ (fnC Tryz.f23 [1,1,0,1,0,0]) (vbundle_ly_I u k) .normal (vbundle_ly_I u (k+1)):=by
 have q:modelE (u.m.getD k default).l u.inp u.cl k=⟨0,0,0,0⟩:=h k hk
 have q5:=sm.l
 have oz1:=@vmodel_v (u) (k) ok sm hk
 exact tR_ [r_,b_,r_,.r [] [cr oz1],.r [] [.v (AI_ !eqNums [(L_,(modelE (u.m.getD k default).l u.inp u.cl (↑k:Int)).w,0),(L_,(modelE (u.m.getD k default).l u.inp u.cl (↑k:Int)).m,0),(L_,(modelE (u.m.getD k default).l u.inp u.cl (↑k:Int)).b,0),(L_,(modelE (u.m.getD k default).l u.inp u.cl (↑k:Int)).n,0)])],d_,.r [] [.n ((↑k:Int)+1)]] [.any (rg [(4,2),(16,8),(25,1)]),.drop [5],.weak 15 (i64 (↑(k+1):Int)),.sort] (.d6 (decide_eq_true (p:=((↑k:Int)<(u.m.length:Int))) (by omega)) oz1 (show BinTo N_ BinOp.neq 77 (Operand.tmp 21) (Operand.tmp 22) (BG_ #[AO_ L_ (modelE (u.m.getD k default).l u.inp u.cl (↑k:Int)).w,AO_ L_ (modelE (u.m.getD k default).l u.inp u.cl (↑k:Int)).m,AO_ L_ (modelE (u.m.getD k default).l u.inp u.cl (↑k:Int)).b,AO_ L_ (modelE (u.m.getD k default).l u.inp u.cl (↑k:Int)).n]) (BG_ #[AO_ L_ 0,AO_ L_ 0,AO_ L_ 0,AO_ L_ 0]) (AI_ !eqNums [(L_,(modelE (u.m.getD k default).l u.inp u.cl (↑k:Int)).w,0),(L_,(modelE (u.m.getD k default).l u.inp u.cl (↑k:Int)).m,0),(L_,(modelE (u.m.getD k default).l u.inp u.cl (↑k:Int)).b,0),(L_,(modelE (u.m.getD k default).l u.inp u.cl (↑k:Int)).n,0)]) from ((bin_nums (l:=[(L_,(modelE (u.m.getD k default).l u.inp u.cl (↑k:Int)).w,0),(L_,(modelE (u.m.getD k default).l u.inp u.cl (↑k:Int)).m,0),(L_,(modelE (u.m.getD k default).l u.inp u.cl (↑k:Int)).b,0),(L_,(modelE (u.m.getD k default).l u.inp u.cl (↑k:Int)).n,0)]) (by kernel_rfl) (by kernel_rfl) (by kernel_rfl) (by kernel_rfl) _ _).2)) (show (!eqNums [(L_,(modelE (u.m.getD k default).l u.inp u.cl (↑k:Int)).w,0),(L_,(modelE (u.m.getD k default).l u.inp u.cl (↑k:Int)).m,0),(L_,(modelE (u.m.getD k default).l u.inp u.cl (↑k:Int)).b,0),(L_,(modelE (u.m.getD k default).l u.inp u.cl (↑k:Int)).n,0)])=false by (rw[q];rfl)) (i6n ((↑k:Int)+1) (by omega)) (wS_ k))
theorem vbundle_ly_e (u:Bun) (ok:u.Ok) (sm:u.Sm) (h:∀ j,j<u.m.length→mE u j=⟨0,0,0,0⟩):VT N_ (fnC Tryz.f23 [1,1,0,1,0,0]) (vbundle_ly_I u (u.m.length)) (.exit 0) (vbundle_ly_Z u):=by
 exact tR_ [r_,d_] [.any [16],.sort] (.d (decide_eq_false (p:=((u.m.length:Int)<(u.m.length:Int))) (by omega)))
theorem vbundle_ly (u:Bun) (ok:u.Ok) (sm:u.Sm) (h:∀ j,j<u.m.length→mE u j=⟨0,0,0,0⟩):VT N_ (fnC Tryz.f23 [1,1,0,1,0]) (vbundle_ly_I u 0) (.exit 0) (vbundle_ly_Z u) :=
 VT.loop (fun k=>vbundle_ly_I u k) (u.m.length) (fun k hk=>vbundle_ly_s u ok sm h k hk) (vbundle_ly_e u ok sm h) (by intro h;cases h)
noncomputable def vbundle_ln_I (u:Bun) (m:Nat) (k:Nat):VS:=stt 27 [(1,.ptr 1 0 0),(2,.ptr 2 0 0),(14,i64 u.m.length),(15,i64 k)] [(1,.var (bunC u)),(2,.var [i64 0,i64 0,i64 0,i64 0])]
noncomputable def vbundle_ln_Z (u:Bun) (m:Nat):VS:=stt 27 [(2,.ptr 2 0 0)] [(2,.var (fltC (mE u m)))]
theorem vbundle_ln_s (u:Bun) (m:Nat) (ok:u.Ok) (sm:u.Sm) (hm:m<u.m.length) (hf:(mE u m).w≠0) (h:∀ j,j<m→mE u j=⟨0,0,0,0⟩) (k:Nat) (hk:k<m):VT N_ (fnC Tryz.f23 [1,1,0,1,0,0]) (vbundle_ln_I u m k) .normal (vbundle_ln_I u m (k+1)):=by
 have q:modelE (u.m.getD k default).l u.inp u.cl k=⟨0,0,0,0⟩:=h k hk
 have q5:=sm.l
 have oz1:=@vmodel_v (u) (k) ok sm (by omega)
 exact tR_ [r_,b_,r_,.r [] [cr oz1],.r [] [.v (AI_ !eqNums [(L_,(modelE (u.m.getD k default).l u.inp u.cl (↑k:Int)).w,0),(L_,(modelE (u.m.getD k default).l u.inp u.cl (↑k:Int)).m,0),(L_,(modelE (u.m.getD k default).l u.inp u.cl (↑k:Int)).b,0),(L_,(modelE (u.m.getD k default).l u.inp u.cl (↑k:Int)).n,0)])],d_,.r [] [.n ((↑k:Int)+1)]] [.any (rg [(4,2),(16,8),(25,1)]),.drop [5],.weak 15 (i64 (↑(k+1):Int)),.sort] (.d6 (decide_eq_true (p:=((↑k:Int)<(u.m.length:Int))) (by omega)) oz1 (show BinTo N_ BinOp.neq 77 (Operand.tmp 21) (Operand.tmp 22) (BG_ #[AO_ L_ (modelE (u.m.getD k default).l u.inp u.cl (↑k:Int)).w,AO_ L_ (modelE (u.m.getD k default).l u.inp u.cl (↑k:Int)).m,AO_ L_ (modelE (u.m.getD k default).l u.inp u.cl (↑k:Int)).b,AO_ L_ (modelE (u.m.getD k default).l u.inp u.cl (↑k:Int)).n]) (BG_ #[AO_ L_ 0,AO_ L_ 0,AO_ L_ 0,AO_ L_ 0]) (AI_ !eqNums [(L_,(modelE (u.m.getD k default).l u.inp u.cl (↑k:Int)).w,0),(L_,(modelE (u.m.getD k default).l u.inp u.cl (↑k:Int)).m,0),(L_,(modelE (u.m.getD k default).l u.inp u.cl (↑k:Int)).b,0),(L_,(modelE (u.m.getD k default).l u.inp u.cl (↑k:Int)).n,0)]) from ((bin_nums (l:=[(L_,(modelE (u.m.getD k default).l u.inp u.cl (↑k:Int)).w,0),(L_,(modelE (u.m.getD k default).l u.inp u.cl (↑k:Int)).m,0),(L_,(modelE (u.m.getD k default).l u.inp u.cl (↑k:Int)).b,0),(L_,(modelE (u.m.getD k default).l u.inp u.cl (↑k:Int)).n,0)]) (by kernel_rfl) (by kernel_rfl) (by kernel_rfl) (by kernel_rfl) _ _).2)) (show (!eqNums [(L_,(modelE (u.m.getD k default).l u.inp u.cl (↑k:Int)).w,0),(L_,(modelE (u.m.getD k default).l u.inp u.cl (↑k:Int)).m,0),(L_,(modelE (u.m.getD k default).l u.inp u.cl (↑k:Int)).b,0),(L_,(modelE (u.m.getD k default).l u.inp u.cl (↑k:Int)).n,0)])=false by (rw[q];rfl)) (i6n ((↑k:Int)+1) (by omega)) (wS_ k))
theorem vbundle_ln_e (u:Bun) (m:Nat) (ok:u.Ok) (sm:u.Sm) (hm:m<u.m.length) (hf:(mE u m).w≠0) (h:∀ j,j<m→mE u j=⟨0,0,0,0⟩):VT N_ (fnC Tryz.f23 [1,1,0,1,0,0]) (vbundle_ln_I u m (m)) (.ret) (vbundle_ln_Z u m):=by
 have q5:=sm.l
 have hg:¬ (modelE (u.m.getD m default).l u.inp u.cl m).w=0:=hf
 have oz1:=@vmodel_v (u) (m) ok sm hm
 exact tR_ [r_,b_,r_,.r [] [cr oz1],.r [] [.v (AI_ !eqNums [(L_,(modelE (u.m.getD m default).l u.inp u.cl (↑m:Int)).w,0),(L_,(modelE (u.m.getD m default).l u.inp u.cl (↑m:Int)).m,0),(L_,(modelE (u.m.getD m default).l u.inp u.cl (↑m:Int)).b,0),(L_,(modelE (u.m.getD m default).l u.inp u.cl (↑m:Int)).n,0)])],b_,r_] [.any (rg [(1,1),(4,2),(14,11)]),.drop [1,5],.sort] (.d4 (decide_eq_true (p:=((↑m:Int)<(u.m.length:Int))) (by omega)) oz1 (show BinTo N_ BinOp.neq 77 (Operand.tmp 21) (Operand.tmp 22) (BG_ #[AO_ L_ (modelE (u.m.getD m default).l u.inp u.cl (↑m:Int)).w,AO_ L_ (modelE (u.m.getD m default).l u.inp u.cl (↑m:Int)).m,AO_ L_ (modelE (u.m.getD m default).l u.inp u.cl (↑m:Int)).b,AO_ L_ (modelE (u.m.getD m default).l u.inp u.cl (↑m:Int)).n]) (BG_ #[AO_ L_ 0,AO_ L_ 0,AO_ L_ 0,AO_ L_ 0]) (AI_ !eqNums [(L_,(modelE (u.m.getD m default).l u.inp u.cl (↑m:Int)).w,0),(L_,(modelE (u.m.getD m default).l u.inp u.cl (↑m:Int)).m,0),(L_,(modelE (u.m.getD m default).l u.inp u.cl (↑m:Int)).b,0),(L_,(modelE (u.m.getD m default).l u.inp u.cl (↑m:Int)).n,0)]) from ((bin_nums (l:=[(L_,(modelE (u.m.getD m default).l u.inp u.cl (↑m:Int)).w,0),(L_,(modelE (u.m.getD m default).l u.inp u.cl (↑m:Int)).m,0),(L_,(modelE (u.m.getD m default).l u.inp u.cl (↑m:Int)).b,0),(L_,(modelE (u.m.getD m default).l u.inp u.cl (↑m:Int)).n,0)]) (by kernel_rfl) (by kernel_rfl) (by kernel_rfl) (by kernel_rfl) _ _).2)) (show (!eqNums [(L_,(modelE (u.m.getD m default).l u.inp u.cl (↑m:Int)).w,0),(L_,(modelE (u.m.getD m default).l u.inp u.cl (↑m:Int)).m,0),(L_,(modelE (u.m.getD m default).l u.inp u.cl (↑m:Int)).b,0),(L_,(modelE (u.m.getD m default).l u.inp u.cl (↑m:Int)).n,0)])=true by (simp only[eqNums];rw[beq_eq_false_iff_ne.2 hg];rfl)))
theorem vbundle_ln (u:Bun) (m:Nat) (ok:u.Ok) (sm:u.Sm) (hm:m<u.m.length) (hf:(mE u m).w≠0) (h:∀ j,j<m→mE u j=⟨0,0,0,0⟩):VT N_ (fnC Tryz.f23 [1,1,0,1,0]) (vbundle_ln_I u m 0) (.ret) (vbundle_ln_Z u m) :=
 VT.loop (fun k=>vbundle_ln_I u m k) (m) (fun k hk=>vbundle_ln_s u m ok sm hm hf h k hk) (vbundle_ln_e u m ok sm hm hf h) (by intro h;cases h)
def bunE (u:Bun):Flt:=if wholeE u≠0 then ⟨wholeE u,-1,-1,-1⟩ else if firstBad (fun j=>(mE u j).w==0) u.m.length<u.m.length then mE u (firstBad (fun j=>(mE u j).w==0) u.m.length) else ⟨0,0,0,0⟩
theorem bunE_y {u:Bun} (w:wholeE u=0) (h:∀ j,j<u.m.length→mE u j=⟨0,0,0,0⟩):bunE u=⟨0,0,0,0⟩:=by
 unfold bunE
 rw[j_ (by simp[w]),firstBad_all fun j hj=>by rw[h j hj];rfl,j_ (by omega)]
theorem bunE_m {u:Bun} {m:Nat} (w:wholeE u=0) (hm:m<u.m.length) (hf:(mE u m).w≠0) (h:∀ j,j<m→mE u j=⟨0,0,0,0⟩):bunE u=mE u m:=by
 have e:=firstBad_at (p:=fun j=>(mE u j).w==0) (m:=m) (by simpa using hf) (fun j hj=>by rw[h j hj];rfl) hm
 unfold bunE
 rw[j_ (by simp[w]),e,i_ hm]
theorem bunE_cases (u:Bun):wholeE u≠0∨(wholeE u=0∧∀ j,j<u.m.length→mE u j=⟨0,0,0,0⟩)∨(wholeE u=0∧∃ m,m<u.m.length∧(mE u m).w≠0∧∀ j,j<m→mE u j=⟨0,0,0,0⟩):=by
 by_cases w:wholeE u=0
 ·rcases all_or (fun j=>(mE u j).w==0) u.m.length with h|⟨m,h1,h2,h3⟩
  ·exact .inr (.inl ⟨w,fun j hj=>modelE_z (beq_iff_eq.1 (h j hj))⟩)
  ·exact .inr (.inr ⟨w,m,h1,by simpa using h2,fun j hj=>modelE_z (beq_iff_eq.1 (h3 j hj))⟩)
 ·exact .inl w
theorem vbundle_a (u:Bun) (ok:u.Ok) (sm:u.Sm) (h:wholeE u≠0):VC N_ 23 ([bun u]) (flt (bunE u)):=by
 have q5:=sm.l
 have oz0:=@vwhole_v (u) ok (by omega)
 exact (cR_ [r_,.r [] [cr oz0],r_,b_,r_] (AV.agg [i64 (wholeE u),i64 (-1),i64 (-1),i64 (-1)]) Tryz.func23 (.d2 oz0 (show (wholeE u != 0)=true by (simp;omega)))).weak (Y_ _) (AV_ (.cons (M_ (by (unfold bunE;rw[i_ h]))) (.cons (M_ (by (unfold bunE;rw[i_ h]))) (.cons (M_ (by (unfold bunE;rw[i_ h]))) (.cons (M_ (by (unfold bunE;rw[i_ h]))) .nil)))))
theorem vbundle_y (u:Bun) (ok:u.Ok) (sm:u.Sm) (w:wholeE u=0) (h:∀ j,j<u.m.length→mE u j=⟨0,0,0,0⟩):VC N_ 23 ([bun u]) (flt ⟨0,0,0,0⟩):=by
 have q5:=sm.l
 have oz0:=@vwhole_v (u) ok (by omega)
 have oz4:=@vbundle_ly (u) ok sm h
 exact cR_ [r_,.r [] [cr oz0],r_,d_,r_,.code [.any [0,3,6,7,8,9,12,13],.weak 14 (i64 (u.m.length:Int)),.weak 15 (i64 (↑0:Int)),.sort] (AA_ 0) (zO oz4),r_] _ Tryz.func23 (.d5 oz0 (show (wholeE u != 0)=false by (rw[w];rfl)) (M_ (k:=.i64) (show ((((K_ mdlC u.m).length:Int)):Int)=((u.m.length:Int)) from (by (simp;done)))) w0_ oz4)
theorem vbundle_m (u:Bun) (m:Nat) (ok:u.Ok) (sm:u.Sm) (w:wholeE u=0) (hm:m<u.m.length) (hf:(mE u m).w≠0) (h:∀ j,j<m→mE u j=⟨0,0,0,0⟩):VC N_ 23 ([bun u]) (flt (mE u m)):=by
 have q5:=sm.l
 have oz0:=@vwhole_v (u) ok (by omega)
 have oz4:=@vbundle_ln (u) (m) ok sm hm hf h
 exact cR_ [r_,.r [] [cr oz0],r_,d_,r_,.code [.any [0,3,6,7,8,9,12,13],.weak 14 (i64 (u.m.length:Int)),.weak 15 (i64 (↑0:Int)),.sort] (DN_) (zO oz4)] _ Tryz.func23 (.d5 oz0 (show (wholeE u != 0)=false by (rw[w];rfl)) (M_ (k:=.i64) (show ((((K_ mdlC u.m).length:Int)):Int)=((u.m.length:Int)) from (by (simp;done)))) w0_ oz4)
theorem vbundle_v (u:Bun) (ok:u.Ok) (sm:u.Sm):VC N_ 23 [bun u] (flt (bunE u)):=by
 rcases bunE_cases u with h|⟨w,h⟩|⟨w,m,h1,h2,h3⟩
 ·exact vbundle_a u ok sm h
 ·rw[bunE_y w h];exact vbundle_y u ok sm w h
 ·rw[bunE_m w h1 h2 h3];exact vbundle_m u m ok sm w h1 h2 h3
noncomputable def rvm_iy_I (u:Bun) (l:List Blc) (a:Shp) (j:Int) (k:Nat):VS:=stt 108 [(1,.ptr 1 0 0),(2,.ptr 2 0 0),(3,i64 j),(4,.sl 5 (l.map blcC)),(5,.ptr 5 0 0),(6,i64 k)] [(1,.var (bunC u)),(2,.var [i64 0,i64 0,i64 0,i64 0]),(5,.var (shpC (inS l a k)))]
noncomputable def rvm_iy_Z (u:Bun) (l:List Blc) (a:Shp) (j:Int):VS:=rvm_iy_I u l a j (l.length)
theorem rvm_iy_s (u:Bun) (l:List Blc) (a:Shp) (j:Int) (ok:∀ d∈l,d.Ok) (sm:∀ d∈l,d.Sm) (oka:a.Ok) (hl:l.length≤6) (h:∀ k,k<l.length→(vB l a u.cl k).2=0) (k:Nat) (hk:k<l.length):VT N_ (fnC Tryz.f17 [1,1,1,1,1,0,1,0,0,1,0,0,1,1,1,1,1,0,0]) (rvm_iy_I u l a j k) .normal (rvm_iy_I u l a j (k+1)):=by
 have q:=h k hk
 have q1:=validE_ok q
 have q2:=getD_in ok hk
 have q3:=getD_in sm hk
 have q4:=inS_ok (l:=l) oka k
 have lb:(K_ blcC l).length=l.length:=S_ _
 have q5:=q2.n
 have q6:=q3.s
 have q7:=q3.l
 have l1:=growL_len nextE (l.getD k default).n (inS l a k) (l.getD k default).n.length
 have l3:(K_ shpC (growL nextE (l.getD k default).n (inS l a k) (l.getD k default).n.length)).length=(growL nextE (l.getD k default).n (inS l a k) (l.getD k default).n.length).length:=S_ _
 have i1:(((K_ shpC (growL nextE (l.getD k default).n (inS l a k) (l.getD k default).n.length)).length:Int)-1).toNat=(l.getD k default).n.length:=by omega
 have oz1:=(s_ (0≤(↑k:Int)))
 have oz2:=(map_at (blcC) (default) (l:=l) (i:=k) hk)
 have oz3:=(i6n (((K_ blcC l).length:Int)-1) (by omega))
 have oz4:=@rvblock_v (l.getD k default) (inS l a k) (u.cl) ((↑k:Int)==((K_ blcC l).length:Int)-1) q2 q4 q3
 have oz8:=@rshapes_y ((l.getD k default).n) (inS l a k) q5 q6 q1
 have oz9:=(i6n (((K_ shpC (growL nextE (l.getD k default).n (inS l a k) (l.getD k default).n.length)).length:Int)-1) (by omega))
 have oz11:=(map_at (shpC) (default) (l:=growL nextE (l.getD k default).n (inS l a k) (l.getD k default).n.length) (i:=(((K_ shpC (growL nextE (l.getD k default).n (inS l a k) (l.getD k default).n.length)).length:Int)-1).toNat) (by omega))
 exact tR_ [r_,b_,.r [] [.row (sO oz2),.n (nO oz3),cr oz4],r_,d_,.r [] [.row (sO oz2),cr oz8],.r [] [.n (nO oz9),.row (sO oz11)],.r [] [.n ((↑k:Int)+1)]] [.any (rg [(7,5),(61,24),(90,17)]),.weak 6 (i64 (↑(k+1):Int)),.blk 5 (Blk.var [i64 (inS l a (k+1)).h,i64 (inS l a (k+1)).x,i64 (inS l a (k+1)).c]),.sort] (.c8 (decide_eq_true (p:=((↑k:Int)<((K_ blcC l).length:Int))) (by omega)) oz1 oz2 oz3 oz4 (show ((validE (l.getD k default) (inS l a k) u.cl ((↑k:Int)==((K_ blcC l).length:Int)-1)).snd != 0)=false by (rw[q];rfl)) oz1 oz2<|.d7 oz8 oz9 (s_ (0≤((K_ shpC (growL nextE (l.getD k default).n (inS l a k) (l.getD k default).n.length)).length:Int)-1)) oz11 (i6n ((↑k:Int)+1) (by omega)) (wS_ k) (show BlkW (Blk.var [i64 ((growL nextE (l.getD k default).n (inS l a k) (l.getD k default).n.length).getD (((K_ shpC (growL nextE (l.getD k default).n (inS l a k) (l.getD k default).n.length)).length:Int)-1).toNat default).h,i64 ((growL nextE (l.getD k default).n (inS l a k) (l.getD k default).n.length).getD (((K_ shpC (growL nextE (l.getD k default).n (inS l a k) (l.getD k default).n.length)).length:Int)-1).toNat default).x,i64 ((growL nextE (l.getD k default).n (inS l a k) (l.getD k default).n.length).getD (((K_ shpC (growL nextE (l.getD k default).n (inS l a k) (l.getD k default).n.length)).length:Int)-1).toNat default).c]) (Blk.var [i64 (inS l a (k+1)).h,i64 (inS l a (k+1)).x,i64 (inS l a (k+1)).c]) from (BlkW.var (m:=[i64 (inS l a (k+1)).h,i64 (inS l a (k+1)).x,i64 (inS l a (k+1)).c]) (.cons (M_ (by (rw[i1]<;>rfl))) (.cons (M_ (by (rw[i1]<;>rfl))) (.cons (M_ (by (rw[i1]<;>rfl))) .nil))))))
theorem rvm_iy_e (u:Bun) (l:List Blc) (a:Shp) (j:Int) (ok:∀ d∈l,d.Ok) (sm:∀ d∈l,d.Sm) (oka:a.Ok) (hl:l.length≤6) (h:∀ k,k<l.length→(vB l a u.cl k).2=0):VT N_ (fnC Tryz.f17 [1,1,1,1,1,0,1,0,0,1,0,0,1,1,1,1,1,0,0]) (rvm_iy_I u l a j (l.length)) (.exit 2) (rvm_iy_Z u l a j):=by
 exact tR_ [r_,d_] [.any (rg [(61,4)]),.sort] (.d (show decide ((l.length:Int)<((K_ blcC l).length:Int))=false by (simp;done)))
theorem rvm_iy (u:Bun) (l:List Blc) (a:Shp) (j:Int) (ok:∀ d∈l,d.Ok) (sm:∀ d∈l,d.Sm) (oka:a.Ok) (hl:l.length≤6) (h:∀ k,k<l.length→(vB l a u.cl k).2=0):VT N_ (fnC Tryz.f17 [1,1,1,1,1,0,1,0,0,1,0,0,1,1,1,1,1,0]) (rvm_iy_I u l a j 0) (.exit 2) (rvm_iy_Z u l a j) :=
 VT.loop (fun k=>rvm_iy_I u l a j k) (l.length) (fun k hk=>rvm_iy_s u l a j ok sm oka hl h k hk) (rvm_iy_e u l a j ok sm oka hl h) (by intro h;cases h)
noncomputable def rvm_in_I (u:Bun) (l:List Blc) (a:Shp) (j:Int) (m:Nat) (k:Nat):VS:=stt 108 [(1,.ptr 1 0 0),(2,.ptr 2 0 0),(3,i64 j),(4,.sl 5 (l.map blcC)),(5,.ptr 5 0 0),(6,i64 k)] [(1,.var (bunC u)),(2,.var [i64 0,i64 0,i64 0,i64 0]),(5,.var (shpC (inS l a k)))]
noncomputable def rvm_in_Z (u:Bun) (l:List Blc) (a:Shp) (j:Int) (m:Nat):VS:=stt 108 [(2,.ptr 2 0 0)] [(2,.var [i64 (vB l a u.cl m).2,i64 j,i64 m,i64 (vB l a u.cl m).1])]
theorem rvm_in_s (u:Bun) (l:List Blc) (a:Shp) (j:Int) (m:Nat) (ok:∀ d∈l,d.Ok) (sm:∀ d∈l,d.Sm) (oka:a.Ok) (hl:l.length≤6) (hm:m<l.length) (hf:(vB l a u.cl m).2≠0) (h:∀ k,k<m→(vB l a u.cl k).2=0) (k:Nat) (hk:k<m):VT N_ (fnC Tryz.f17 [1,1,1,1,1,0,1,0,0,1,0,0,1,1,1,1,1,0,0]) (rvm_in_I u l a j m k) .normal (rvm_in_I u l a j m (k+1)):=by
 have q:=h k hk
 have q1:=validE_ok q
 have q2:=getD_in ok (s_ (k<l.length))
 have q3:=getD_in sm (s_ (k<l.length))
 have q4:=inS_ok (l:=l) oka k
 have lb:(K_ blcC l).length=l.length:=S_ _
 have q5:=q2.n
 have q6:=q3.s
 have q7:=q3.l
 have l1:=growL_len nextE (l.getD k default).n (inS l a k) (l.getD k default).n.length
 have l3:(K_ shpC (growL nextE (l.getD k default).n (inS l a k) (l.getD k default).n.length)).length=(growL nextE (l.getD k default).n (inS l a k) (l.getD k default).n.length).length:=S_ _
 have i1:(((K_ shpC (growL nextE (l.getD k default).n (inS l a k) (l.getD k default).n.length)).length:Int)-1).toNat=(l.getD k default).n.length:=by omega
 have oz1:=(s_ (0≤(↑k:Int)))
 have oz2:=(map_at (blcC) (default) (l:=l) (i:=k) (by omega))
 have oz3:=(i6n (((K_ blcC l).length:Int)-1) (by omega))
 have oz4:=@rvblock_v (l.getD k default) (inS l a k) (u.cl) ((↑k:Int)==((K_ blcC l).length:Int)-1) q2 q4 q3
 have oz8:=@rshapes_y ((l.getD k default).n) (inS l a k) q5 q6 q1
 have oz9:=(i6n (((K_ shpC (growL nextE (l.getD k default).n (inS l a k) (l.getD k default).n.length)).length:Int)-1) (by omega))
 have oz11:=(map_at (shpC) (default) (l:=growL nextE (l.getD k default).n (inS l a k) (l.getD k default).n.length) (i:=(((K_ shpC (growL nextE (l.getD k default).n (inS l a k) (l.getD k default).n.length)).length:Int)-1).toNat) (by omega))
 exact tR_ [r_,b_,.r [] [.row (sO oz2),.n (nO oz3),cr oz4],r_,d_,.r [] [.row (sO oz2),cr oz8],.r [] [.n (nO oz9),.row (sO oz11)],.r [] [.n ((↑k:Int)+1)]] [.any (rg [(7,5),(61,24),(90,17)]),.weak 6 (i64 (↑(k+1):Int)),.blk 5 (Blk.var [i64 (inS l a (k+1)).h,i64 (inS l a (k+1)).x,i64 (inS l a (k+1)).c]),.sort] (.c8 (decide_eq_true (p:=((↑k:Int)<((K_ blcC l).length:Int))) (by omega)) oz1 oz2 oz3 oz4 (show ((validE (l.getD k default) (inS l a k) u.cl ((↑k:Int)==((K_ blcC l).length:Int)-1)).snd != 0)=false by (rw[q];rfl)) oz1 oz2<|.d7 oz8 oz9 (s_ (0≤((K_ shpC (growL nextE (l.getD k default).n (inS l a k) (l.getD k default).n.length)).length:Int)-1)) oz11 (i6n ((↑k:Int)+1) (by omega)) (wS_ k) (show BlkW (Blk.var [i64 ((growL nextE (l.getD k default).n (inS l a k) (l.getD k default).n.length).getD (((K_ shpC (growL nextE (l.getD k default).n (inS l a k) (l.getD k default).n.length)).length:Int)-1).toNat default).h,i64 ((growL nextE (l.getD k default).n (inS l a k) (l.getD k default).n.length).getD (((K_ shpC (growL nextE (l.getD k default).n (inS l a k) (l.getD k default).n.length)).length:Int)-1).toNat default).x,i64 ((growL nextE (l.getD k default).n (inS l a k) (l.getD k default).n.length).getD (((K_ shpC (growL nextE (l.getD k default).n (inS l a k) (l.getD k default).n.length)).length:Int)-1).toNat default).c]) (Blk.var [i64 (inS l a (k+1)).h,i64 (inS l a (k+1)).x,i64 (inS l a (k+1)).c]) from (BlkW.var (m:=[i64 (inS l a (k+1)).h,i64 (inS l a (k+1)).x,i64 (inS l a (k+1)).c]) (.cons (M_ (by (rw[i1]<;>rfl))) (.cons (M_ (by (rw[i1]<;>rfl))) (.cons (M_ (by (rw[i1]<;>rfl))) .nil))))))
theorem rvm_in_e (u:Bun) (l:List Blc) (a:Shp) (j:Int) (m:Nat) (ok:∀ d∈l,d.Ok) (sm:∀ d∈l,d.Sm) (oka:a.Ok) (hl:l.length≤6) (hm:m<l.length) (hf:(vB l a u.cl m).2≠0) (h:∀ k,k<m→(vB l a u.cl k).2=0):VT N_ (fnC Tryz.f17 [1,1,1,1,1,0,1,0,0,1,0,0,1,1,1,1,1,0,0]) (rvm_in_I u l a j m (m)) (.ret) (rvm_in_Z u l a j m):=by
 have q2:=getD_in ok hm
 have q3:=getD_in sm hm
 have q4:=inS_ok (l:=l) oka m
 have lb:(K_ blcC l).length=l.length:=S_ _
 have oz2:=(map_at (blcC) (default) (l:=l) (i:=m) hm)
 have oz3:=(i6n (((K_ blcC l).length:Int)-1) (by omega))
 have oz4:=@rvblock_v (l.getD m default) (inS l a m) (u.cl) ((↑m:Int)==((K_ blcC l).length:Int)-1) q2 q4 q3
 exact tR_ [r_,b_,.r [] [.row (sO oz2),.n (nO oz3),cr oz4],r_,b_,r_] [.any (rg [(1,1),(3,6),(61,4),(67,23)]),.drop [1,5],.sort] (.d6 (decide_eq_true (p:=((↑m:Int)<((K_ blcC l).length:Int))) (by omega)) (s_ (0≤(↑m:Int))) oz2 oz3 oz4 (show ((validE (l.getD m default) (inS l a m) u.cl ((↑m:Int)==((K_ blcC l).length:Int)-1)).snd != 0)=true by (rw[J_];exact hf)))
theorem rvm_in (u:Bun) (l:List Blc) (a:Shp) (j:Int) (m:Nat) (ok:∀ d∈l,d.Ok) (sm:∀ d∈l,d.Sm) (oka:a.Ok) (hl:l.length≤6) (hm:m<l.length) (hf:(vB l a u.cl m).2≠0) (h:∀ k,k<m→(vB l a u.cl k).2=0):VT N_ (fnC Tryz.f17 [1,1,1,1,1,0,1,0,0,1,0,0,1,1,1,1,1,0]) (rvm_in_I u l a j m 0) (.ret) (rvm_in_Z u l a j m) :=
 VT.loop (fun k=>rvm_in_I u l a j m k) (m) (fun k hk=>rvm_in_s u l a j m ok sm oka hl hm hf h k hk) (rvm_in_e u l a j m ok sm oka hl hm hf h) (by intro h;cases h)
theorem modelE_ok {l:List Blc} {a:Shp} {cl j:Int} (h:modelE l a cl j=⟨0,0,0,0⟩):¬ l.length=0∧l.length≤6∧∀ k,k<l.length→(vB l a cl k).2=0:=by
 rcases modelE_cases l a cl with g|g|⟨h6,m,h1,h2,h3⟩
 ·exact g
 ·exfalso
  revert h
  unfold modelE
  by_cases c:l.length=0
  ·rw[i_ c];intro h;injection h with h;revert h;decide
  ·rw[j_ c,i_ (by omega)];intro h;injection h with h;revert h;decide
 ·rw[modelE_m h6 h1 h2 h3] at h;injection h with h;exact absurd h h2
noncomputable def rvb_oy_I (u:Bun) (k:Nat):VS:=stt 108 [(1,.ptr 1 0 0),(2,.ptr 2 0 0),(3,i64 k)] [(1,.var (bunC u)),(2,.var [i64 0,i64 0,i64 0,i64 0])]
noncomputable def rvb_oy_Z (u:Bun):VS:=rvb_oy_I u (u.m.length)
theorem rvb_oy_s (u:Bun) (ok:u.Ok) (sm:u.Sm) (h:∀ j,j<u.m.length→mE u j=⟨0,0,0,0⟩) (k:Nat) (hk:k<u.m.length):VT N_ (fnC Tryz.f17 [1,1,1,1,1,0,1,0,0]) (rvb_oy_I u k) .normal (rvb_oy_I u (k+1)):=by
 obtain ⟨q1,q2,q3⟩:=modelE_ok (h k hk)
 have q4:=sm.l
 have q5:u.inp.Ok:=⟨ok.h,ok.x,ok.c⟩
 have q6:=(getD_in ok.m hk).l
 have q7:=(getD_in sm.m hk).2
 have oz2:=(map_at (mdlC) (default) (l:=u.m) (i:=k) hk)
 have oz6:=@rvm_iy (u) ((u.m.getD k default).l) (Shp.mk u.1 u.2 u.3) ((↑k:Int)) q6 q7 q5 q2 q3
 exact tR_ [r_,b_,.r [] [.row (sO oz2)],r_,d_,r_,d_,r_,r_,.code [.any (rg [(36,5),(43,9),(54,3),(59,2)]),.weak 6 (i64 (↑0:Int)),.sort] (AA_ 2) (zO oz6),.r [] [.n ((↑k:Int)+1)]] [.any [4,5,6,41,42],.drop [5],.weak 3 (i64 (↑(k+1):Int)),.sort] (.c8 (show decide ((↑k:Int)<((K_ mdlC u.m).length:Int))=true by (simp;omega)) (s_ (0≤(↑k:Int))) oz2 (show (((K_ blcC (u.m.getD k default).l).length:Int)==0)=false by (simp at *;omega)) (show decide (((K_ blcC (u.m.getD k default).l).length:Int)>6)=false by (simp at *;omega)) w0_ oz6 (i6n ((↑k:Int)+1) (by omega))<|.d (wS_ k))
theorem rvb_oy_e (u:Bun) (ok:u.Ok) (sm:u.Sm) (h:∀ j,j<u.m.length→mE u j=⟨0,0,0,0⟩):VT N_ (fnC Tryz.f17 [1,1,1,1,1,0,1,0,0]) (rvb_oy_I u (u.m.length)) (.exit 0) (rvb_oy_Z u):=by
 exact tR_ [r_,d_] [.any (rg [(36,5)]),.sort] (.d (show decide ((u.m.length:Int)<((K_ mdlC u.m).length:Int))=false by (simp;done)))
theorem rvb_oy (u:Bun) (ok:u.Ok) (sm:u.Sm) (h:∀ j,j<u.m.length→mE u j=⟨0,0,0,0⟩):VT N_ (fnC Tryz.f17 [1,1,1,1,1,0,1,0]) (rvb_oy_I u 0) (.exit 0) (rvb_oy_Z u) :=
 VT.loop (fun k=>rvb_oy_I u k) (u.m.length) (fun k hk=>rvb_oy_s u ok sm h k hk) (rvb_oy_e u ok sm h) (by intro h;cases h)
noncomputable def rvb_oa_I (u:Bun) (m:Nat) (k:Nat):VS:=stt 108 [(1,.ptr 1 0 0),(2,.ptr 2 0 0),(3,i64 k)] [(1,.var (bunC u)),(2,.var [i64 0,i64 0,i64 0,i64 0])]
noncomputable def rvb_oa_Z (u:Bun) (m:Nat):VS:=stt 108 [(2,.ptr 2 0 0)] [(2,.var (fltC (mE u m)))]
theorem rvb_oa_s (u:Bun) (m:Nat) (ok:u.Ok) (sm:u.Sm) (hm:m<u.m.length) (hf:(u.m.getD m default).l.length=0∨6<(u.m.getD m default).l.length) (h:∀ j,j<m→mE u j=⟨0,0,0,0⟩) (k:Nat) (hk:k<m):VT N_ (fnC Tryz.f17 [1,1,1,1,1,0,1,0,0]) (rvb_oa_I u m k) .normal (rvb_oa_I u m (k+1)):=by
 obtain ⟨q1,q2,q3⟩:=modelE_ok (h k hk)
 have q4:=sm.l
 have q5:u.inp.Ok:=⟨ok.h,ok.x,ok.c⟩
 have q6:=(getD_in ok.m (s_ (k<u.m.length))).l
 have q7:=(getD_in sm.m (s_ (k<u.m.length))).2
 have oz2:=(map_at (mdlC) (default) (l:=u.m) (i:=k) (by omega))
 have oz6:=@rvm_iy (u) ((u.m.getD k default).l) (Shp.mk u.1 u.2 u.3) ((↑k:Int)) q6 q7 q5 q2 q3
 exact tR_ [r_,b_,.r [] [.row (sO oz2)],r_,d_,r_,d_,r_,r_,.code [.any (rg [(36,5),(43,9),(54,3),(59,2)]),.weak 6 (i64 (↑0:Int)),.sort] (AA_ 2) (zO oz6),.r [] [.n ((↑k:Int)+1)]] [.any [4,5,6,41,42],.drop [5],.weak 3 (i64 (↑(k+1):Int)),.sort] (.c8 (show decide ((↑k:Int)<((K_ mdlC u.m).length:Int))=true by (simp;omega)) (s_ (0≤(↑k:Int))) oz2 (show (((K_ blcC (u.m.getD k default).l).length:Int)==0)=false by (simp at *;omega)) (show decide (((K_ blcC (u.m.getD k default).l).length:Int)>6)=false by (simp at *;omega)) w0_ oz6 (i6n ((↑k:Int)+1) (by omega))<|.d (wS_ k))
theorem rvb_oa_e (u:Bun) (m:Nat) (ok:u.Ok) (sm:u.Sm) (hm:m<u.m.length) (hf:(u.m.getD m default).l.length=0∨6<(u.m.getD m default).l.length) (h:∀ j,j<m→mE u j=⟨0,0,0,0⟩):VT N_ (fnC Tryz.f17 [1,1,1,1,1,0,1,0,0]) (rvb_oa_I u m (m)) (.ret) (rvb_oa_Z u m):=by
 have q4:=sm.l
 have oz0:=(show decide ((↑m:Int)<((K_ mdlC u.m).length:Int))=true by (simp;omega))
 have oz1:=(s_ (0≤(↑m:Int)))
 have oz2:=(map_at (mdlC) (default) (l:=u.m) (i:=m) hm)
 rcases bft (((K_ blcC (u.m.getD m default).l).length:Int)==0) with hc0|hc0
 ·have gc0:((K_ blcC (u.m.getD m default).l).length:Int)=0:=bet hc0
  exact tR_ [r_,b_,.r [] [.row (sO oz2)],r_,b_,r_] [.any (rg [(1,1),(3,2),(36,5),(43,11)]),.drop [1],.blk 2 (Blk.var [i64 (mE u m).w,i64 (mE u m).m,i64 (mE u m).b,i64 (mE u m).n]),.sort] (.d5 oz0 oz1 oz2 hc0 (show BlkW (Blk.var [i64 12,i64 (↑m:Int),i64 (-1),i64 (-1)]) (Blk.var [i64 (mE u m).w,i64 (mE u m).m,i64 (mE u m).b,i64 (mE u m).n]) from (BlkW.var (m:=[i64 (mE u m).w,i64 (mE u m).m,i64 (mE u m).b,i64 (mE u m).n]) (.cons (M_ (by (unfold mE modelE;(try simp only[S_] at *);(repeat first|rw[i_ (by omega)]|rw[j_ (by omega)])))) (.cons (M_ (by (unfold mE modelE;(try simp only[S_] at *);(repeat first|rw[i_ (by omega)]|rw[j_ (by omega)])))) (.cons (M_ (by (unfold mE modelE;(try simp only[S_] at *);(repeat first|rw[i_ (by omega)]|rw[j_ (by omega)])))) (.cons (M_ (by (unfold mE modelE;(try simp only[S_] at *);(repeat first|rw[i_ (by omega)]|rw[j_ (by omega)])))) .nil)))))))
 ·have gc0:¬((K_ blcC (u.m.getD m default).l).length:Int)=0:=bef hc0
  exact tR_ [r_,b_,.r [] [.row (sO oz2)],r_,d_,r_,b_,r_] [.any (rg [(1,1),(3,2),(36,5),(43,9),(54,5)]),.drop [1],.blk 2 (Blk.var [i64 (mE u m).w,i64 (mE u m).m,i64 (mE u m).b,i64 (mE u m).n]),.sort] (.d6 oz0 oz1 oz2 hc0 (show decide (((K_ blcC (u.m.getD m default).l).length:Int)>6)=true by (simp only[E_,F_,I_,J_,ne_eq,H_,G_,U_,T_,BL_,BS_,BP_,Classical.not_not,CO_,CF_,O_,P_,X_,Q_,B_,BN_,BR_,AD_,BW_,BT_,eqNums,S_,AX_,AJ_,BB_,BA_,AH_,AE_,BZ_,AG_,BO_,BX_,BQ_] at *;(first|done|with_reducible assumption|omega|contradiction))) (show BlkW (Blk.var [i64 4,i64 (↑m:Int),i64 (-1),i64 (-1)]) (Blk.var [i64 (mE u m).w,i64 (mE u m).m,i64 (mE u m).b,i64 (mE u m).n]) from (BlkW.var (m:=[i64 (mE u m).w,i64 (mE u m).m,i64 (mE u m).b,i64 (mE u m).n]) (.cons (M_ (by (unfold mE modelE;(try simp only[S_] at *);(repeat first|rw[i_ (by omega)]|rw[j_ (by omega)])))) (.cons (M_ (by (unfold mE modelE;(try simp only[S_] at *);(repeat first|rw[i_ (by omega)]|rw[j_ (by omega)])))) (.cons (M_ (by (unfold mE modelE;(try simp only[S_] at *);(repeat first|rw[i_ (by omega)]|rw[j_ (by omega)])))) (.cons (M_ (by (unfold mE modelE;(try simp only[S_] at *);(repeat first|rw[i_ (by omega)]|rw[j_ (by omega)])))) .nil)))))))
theorem rvb_oa (u:Bun) (m:Nat) (ok:u.Ok) (sm:u.Sm) (hm:m<u.m.length) (hf:(u.m.getD m default).l.length=0∨6<(u.m.getD m default).l.length) (h:∀ j,j<m→mE u j=⟨0,0,0,0⟩):VT N_ (fnC Tryz.f17 [1,1,1,1,1,0,1,0]) (rvb_oa_I u m 0) (.ret) (rvb_oa_Z u m) :=
 VT.loop (fun k=>rvb_oa_I u m k) (m) (fun k hk=>rvb_oa_s u m ok sm hm hf h k hk) (rvb_oa_e u m ok sm hm hf h) (by intro h;cases h)
noncomputable def rvb_ob_I (u:Bun) (m i:Nat) (k:Nat):VS:=stt 108 [(1,.ptr 1 0 0),(2,.ptr 2 0 0),(3,i64 k)] [(1,.var (bunC u)),(2,.var [i64 0,i64 0,i64 0,i64 0])]
noncomputable def rvb_ob_Z (u:Bun) (m i:Nat):VS:=stt 108 [(2,.ptr 2 0 0)] [(2,.var [i64 (vB (u.m.getD m default).l u.inp u.cl i).2,i64 m,i64 i,i64 (vB (u.m.getD m default).l u.inp u.cl i).1])]
theorem rvb_ob_s (u:Bun) (m i:Nat) (ok:u.Ok) (sm:u.Sm) (hm:m<u.m.length) (h6:(u.m.getD m default).l.length≤6) (hi:i<(u.m.getD m default).l.length) (hf:(vB (u.m.getD m default).l u.inp u.cl i).2≠0) (hb:∀ k,k<i→(vB (u.m.getD m default).l u.inp u.cl k).2=0) (h:∀ j,j<m→mE u j=⟨0,0,0,0⟩) (k:Nat) (hk:k<m):VT N_ (fnC Tryz.f17 [1,1,1,1,1,0,1,0,0]) (rvb_ob_I u m i k) .normal (rvb_ob_I u m i (k+1)):=by
 obtain ⟨q1,q2,q3⟩:=modelE_ok (h k hk)
 have q4:=sm.l
 have q5:u.inp.Ok:=⟨ok.h,ok.x,ok.c⟩
 have q6:=(getD_in ok.m (s_ (k<u.m.length))).l
 have q7:=(getD_in sm.m (s_ (k<u.m.length))).2
 have oz2:=(map_at (mdlC) (default) (l:=u.m) (i:=k) (by omega))
 have oz6:=@rvm_iy (u) ((u.m.getD k default).l) (Shp.mk u.1 u.2 u.3) ((↑k:Int)) q6 q7 q5 q2 q3
 exact tR_ [r_,b_,.r [] [.row (sO oz2)],r_,d_,r_,d_,r_,r_,.code [.any (rg [(36,5),(43,9),(54,3),(59,2)]),.weak 6 (i64 (↑0:Int)),.sort] (AA_ 2) (zO oz6),.r [] [.n ((↑k:Int)+1)]] [.any [4,5,6,41,42],.drop [5],.weak 3 (i64 (↑(k+1):Int)),.sort] (.c8 (show decide ((↑k:Int)<((K_ mdlC u.m).length:Int))=true by (simp;omega)) (s_ (0≤(↑k:Int))) oz2 (show (((K_ blcC (u.m.getD k default).l).length:Int)==0)=false by (simp at *;omega)) (show decide (((K_ blcC (u.m.getD k default).l).length:Int)>6)=false by (simp at *;omega)) w0_ oz6 (i6n ((↑k:Int)+1) (by omega))<|.d (wS_ k))
theorem rvb_ob_e (u:Bun) (m i:Nat) (ok:u.Ok) (sm:u.Sm) (hm:m<u.m.length) (h6:(u.m.getD m default).l.length≤6) (hi:i<(u.m.getD m default).l.length) (hf:(vB (u.m.getD m default).l u.inp u.cl i).2≠0) (hb:∀ k,k<i→(vB (u.m.getD m default).l u.inp u.cl k).2=0) (h:∀ j,j<m→mE u j=⟨0,0,0,0⟩):VT N_ (fnC Tryz.f17 [1,1,1,1,1,0,1,0,0]) (rvb_ob_I u m i (m)) (.ret) (rvb_ob_Z u m i):=by
 have q4:=sm.l
 have q5:u.inp.Ok:=⟨ok.h,ok.x,ok.c⟩
 have q6:=(getD_in ok.m hm).l
 have q7:=(getD_in sm.m hm).2
 have oz2:=(map_at (mdlC) (default) (l:=u.m) (i:=m) hm)
 have oz6:=@rvm_in (u) ((u.m.getD m default).l) (Shp.mk u.1 u.2 u.3) ((↑m:Int)) (i) q6 q7 q5 h6 hi hf hb
 exact tR_ [r_,b_,.r [] [.row (sO oz2)],r_,d_,r_,d_,r_,r_,.code [.any (rg [(36,5),(43,9),(54,3),(59,2)]),.weak 6 (i64 (↑0:Int)),.sort] (DN_) (zO oz6)] [.sort] (.d7 (show decide ((↑m:Int)<((K_ mdlC u.m).length:Int))=true by (simp;omega)) (s_ (0≤(↑m:Int))) oz2 (show (((K_ blcC (u.m.getD m default).l).length:Int)==0)=false by (simp only[E_,F_,I_,J_,ne_eq,H_,G_,U_,T_,BL_,BS_,BP_,Classical.not_not,CO_,CF_,O_,P_,X_,Q_,B_,BN_,BR_,AD_,BW_,BT_,eqNums,S_,AX_,AJ_,BB_,BA_,AH_,AE_,BZ_,AG_,BO_,BX_,BQ_];(first|done|with_reducible assumption|omega|contradiction))) (show decide (((K_ blcC (u.m.getD m default).l).length:Int)>6)=false by (simp at *;omega)) w0_ oz6)
theorem rvb_ob (u:Bun) (m i:Nat) (ok:u.Ok) (sm:u.Sm) (hm:m<u.m.length) (h6:(u.m.getD m default).l.length≤6) (hi:i<(u.m.getD m default).l.length) (hf:(vB (u.m.getD m default).l u.inp u.cl i).2≠0) (hb:∀ k,k<i→(vB (u.m.getD m default).l u.inp u.cl k).2=0) (h:∀ j,j<m→mE u j=⟨0,0,0,0⟩):VT N_ (fnC Tryz.f17 [1,1,1,1,1,0,1,0]) (rvb_ob_I u m i 0) (.ret) (rvb_ob_Z u m i) :=
 VT.loop (fun k=>rvb_ob_I u m i k) (m) (fun k hk=>rvb_ob_s u m i ok sm hm h6 hi hf hb h k hk) (rvb_ob_e u m i ok sm hm h6 hi hf hb h) (by intro h;cases h)
theorem wholeE_0 {u:Bun} (h:wholeE u=0):0<elems u.h u.x u.c∧2≤u.cl∧u.cl≤16∧0<u.m.length∧u.m.length≤3:=by
 unfold wholeE at h
 by_cases c1:¬ 0<elems u.h u.x u.c
 ·rw[i_ c1] at h;cases h
 ·rw[j_ c1] at h
  by_cases c2:u.cl<2∨u.cl>16
  ·rw[i_ c2] at h;cases h
  ·rw[j_ c2] at h
   by_cases c3:u.m.length=0
   ·rw[i_ c3] at h;cases h
   ·rw[j_ c3] at h
    by_cases c4:3<u.m.length
    ·rw[i_ c4] at h;cases h
    ·exact ⟨by omega,by omega,by omega,by omega,by omega⟩
theorem wholeE_n {u:Bun} (h:wholeE u≠0):¬ 0<elems u.h u.x u.c∨u.cl<2∨u.cl>16∨u.m.length=0∨3<u.m.length:=by
 apply cbc
 intro c
 apply h
 unfold wholeE
 rw[j_ (by omega),j_ (by omega),j_ (by omega),j_ (by omega)]
theorem rvbundle_a (u:Bun) (ok:u.Ok) (sm:u.Sm) (h:wholeE u≠0):VC N_ 17 ([bun u]) (flt (bunE u)):=by
 have q5:=sm.l
 have q1:=elems_in u.h u.x u.c
 obtain ⟨q2,q3,q4⟩:In64 u.h∧In64 u.x∧In64 u.c:=⟨ok.h,ok.x,ok.c⟩
 have e:bunE u=⟨wholeE u,-1,-1,-1⟩:=i_ h
 have w:=wholeE_n h
 have lm:(K_ mdlC u.m).length=u.m.length:=S_ _
 have oz0:=@refElems_v (u.h) (u.x) (u.c) q2 q3 q4
 rcases bft (elems u.h u.x u.c==0) with hc0|hc0
 ·have gc0:elems u.h u.x u.c=0:=bet hc0
  exact (cR_ [r_,.r [] [cr oz0],b_,r_] (AV.agg [i64 5,i64 (-1),i64 (-1),i64 (-1)]) Tryz.func17 (.d2 oz0 hc0)).weak (Y_ _) (AV_ (.cons (M_ (by (rw[e];unfold wholeE;(try simp only[S_] at *);(repeat first|rw[i_ (by omega)]|rw[j_ (by omega)])))) (.cons (M_ (by (simp_all;done))) (.cons (M_ (by (simp_all;done))) (.cons (M_ (by (simp_all;done))) .nil)))))
 ·have gc0:¬elems u.h u.x u.c=0:=bef hc0
  rcases bft (decide (u.cl<2) || decide (u.cl>16)) with hc1|hc1
  ·have gc1:u.cl<2∨u.cl>16:=gc0_ hc1
   exact (cR_ [r_,.r [] [cr oz0],d_,.r [] [o_,o_,o_,.sel 1],b_,r_] (AV.agg [i64 2,i64 (-1),i64 (-1),i64 (-1)]) Tryz.func17 (.d3 oz0 hc0 hc1)).weak (Y_ _) (AV_ (.cons (M_ (by (rw[e];unfold wholeE;(try simp only[S_] at *);(repeat first|rw[i_ (by omega)]|rw[j_ (by omega)])))) (.cons (M_ (by (simp_all;done))) (.cons (M_ (by (simp_all;done))) (.cons (M_ (by (simp_all;done))) .nil)))))
  ·have gc1:¬u.cl<2∧¬u.cl>16:=gc0_ hc1
   rcases bft (((K_ mdlC u.m).length:Int)==0) with hc2|hc2
   ·have gc2:((K_ mdlC u.m).length:Int)=0:=bet hc2
    exact (cR_ [r_,.r [] [cr oz0],d_,.r [] [o_,o_,o_,.sel 1],d_,r_,b_,r_] (AV.agg [i64 12,i64 (-1),i64 (-1),i64 (-1)]) Tryz.func17 (.d4 oz0 hc0 hc1 hc2)).weak (Y_ _) (AV_ (.cons (M_ (by (rw[e];unfold wholeE;(try simp only[S_] at *);(repeat first|rw[i_ (by omega)]|rw[j_ (by omega)])))) (.cons (M_ (by (simp_all;done))) (.cons (M_ (by (simp_all;done))) (.cons (M_ (by (simp_all;done))) .nil)))))
   ·have gc2:¬((K_ mdlC u.m).length:Int)=0:=bef hc2
    exact (cR_ [r_,.r [] [cr oz0],d_,.r [] [o_,o_,o_,.sel 1],d_,r_,d_,r_,b_,r_] (AV.agg [i64 4,i64 (-1),i64 (-1),i64 (-1)]) Tryz.func17 (.d5 oz0 hc0 hc1 hc2 (decide_eq_true (p:=(((K_ mdlC u.m).length:Int)>3)) (by omega)))).weak (Y_ _) (AV_ (.cons (M_ (by (rw[e];unfold wholeE;(try simp only[S_] at *);(repeat first|rw[i_ (by omega)]|rw[j_ (by omega)])))) (.cons (M_ (by (simp_all;done))) (.cons (M_ (by (simp_all;done))) (.cons (M_ (by (simp_all;done))) .nil)))))
theorem rvbundle_y (u:Bun) (ok:u.Ok) (sm:u.Sm) (w:wholeE u=0) (h:∀ j,j<u.m.length→mE u j=⟨0,0,0,0⟩):VC N_ 17 ([bun u]) (flt ⟨0,0,0,0⟩):=by
 have q5:=sm.l
 obtain ⟨w1,w2,w3,w4,w5⟩:=wholeE_0 w
 obtain ⟨w6,w7,w8⟩:In64 u.h∧In64 u.x∧In64 u.c:=⟨ok.h,ok.x,ok.c⟩
 have oz0:=@refElems_v (u.h) (u.x) (u.c) w6 w7 w8
 have oz2:=(decide_eq_false (p:=(u.cl<2)) (by omega))
 have oz10:=@rvb_oy (u) ok sm h
 exact cR_ [r_,.r [] [cr oz0],d_,.r [] [e_,e_,e_,f_],d_,r_,d_,r_,d_,r_,.code [.any (rg [(0,1),(12,4),(17,8),(26,4),(31,4)]),.weak 3 (i64 (↑0:Int)),.sort] (AA_ 0) (zO oz10),r_] _ Tryz.func17 (.c8 oz0 (show (elems u.h u.x u.c==0)=false by (refine decide_eq_false ?_;omega)) oz2 oz2 oz2 oz2 (decide_eq_false (p:=(u.cl>16)) (by omega)) (show (((K_ mdlC u.m).length:Int)==0)=false by (simp only[E_,F_,I_,J_,ne_eq,H_,G_,U_,T_,BL_,BS_,BP_,Classical.not_not,CO_,CF_,O_,P_,X_,Q_,B_,BN_,BR_,AD_,BW_,BT_,eqNums,S_,AX_,AJ_,BB_,BA_,AH_,AE_,BZ_,AG_,BO_,BX_,BQ_];(first|done|with_reducible assumption|omega|contradiction)))<|.d3 (show decide (((K_ mdlC u.m).length:Int)>3)=false by (simp;omega)) w0_ oz10)
theorem rvbundle_na (u:Bun) (m:Nat) (ok:u.Ok) (sm:u.Sm) (w:wholeE u=0) (hm:m<u.m.length) (hf:(u.m.getD m default).l.length=0∨6<(u.m.getD m default).l.length) (h:∀ j,j<m→mE u j=⟨0,0,0,0⟩):VC N_ 17 ([bun u]) (flt (mE u m)):=by
 have q5:=sm.l
 obtain ⟨w1,w2,w3,w4,w5⟩:=wholeE_0 w
 obtain ⟨w6,w7,w8⟩:In64 u.h∧In64 u.x∧In64 u.c:=⟨ok.h,ok.x,ok.c⟩
 have oz0:=@refElems_v (u.h) (u.x) (u.c) w6 w7 w8
 have oz2:=(decide_eq_false (p:=(u.cl<2)) (by omega))
 have oz10:=@rvb_oa (u) (m) ok sm hm hf h
 exact cR_ [r_,.r [] [cr oz0],d_,.r [] [e_,e_,e_,f_],d_,r_,d_,r_,d_,r_,.code [.any (rg [(0,1),(12,4),(17,8),(26,4),(31,4)]),.weak 3 (i64 (↑0:Int)),.sort] (DN_) (zO oz10)] _ Tryz.func17 (.c8 oz0 (show (elems u.h u.x u.c==0)=false by (refine decide_eq_false ?_;omega)) oz2 oz2 oz2 oz2 (decide_eq_false (p:=(u.cl>16)) (by omega)) (show (((K_ mdlC u.m).length:Int)==0)=false by (simp only[E_,F_,I_,J_,ne_eq,H_,G_,U_,T_,BL_,BS_,BP_,Classical.not_not,CO_,CF_,O_,P_,X_,Q_,B_,BN_,BR_,AD_,BW_,BT_,eqNums,S_,AX_,AJ_,BB_,BA_,AH_,AE_,BZ_,AG_,BO_,BX_,BQ_];(first|done|with_reducible assumption|omega|contradiction)))<|.d3 (show decide (((K_ mdlC u.m).length:Int)>3)=false by (simp;omega)) w0_ oz10)
theorem rvbundle_nb (u:Bun) (m i:Nat) (ok:u.Ok) (sm:u.Sm) (w:wholeE u=0) (hm:m<u.m.length) (h6:(u.m.getD m default).l.length≤6) (hi:i<(u.m.getD m default).l.length) (hf:(vB (u.m.getD m default).l u.inp u.cl i).2≠0) (hb:∀ k,k<i→(vB (u.m.getD m default).l u.inp u.cl k).2=0) (h:∀ j,j<m→mE u j=⟨0,0,0,0⟩):VC N_ 17 ([bun u]) (flt ⟨(vB (u.m.getD m default).l u.inp u.cl i).2,m,i,(vB (u.m.getD m default).l u.inp u.cl i).1⟩):=by
 have q5:=sm.l
 obtain ⟨w1,w2,w3,w4,w5⟩:=wholeE_0 w
 obtain ⟨w6,w7,w8⟩:In64 u.h∧In64 u.x∧In64 u.c:=⟨ok.h,ok.x,ok.c⟩
 have oz0:=@refElems_v (u.h) (u.x) (u.c) w6 w7 w8
 have oz2:=(decide_eq_false (p:=(u.cl<2)) (by omega))
 have oz10:=@rvb_ob (u) (m) (i) ok sm hm h6 hi hf hb h
 exact cR_ [r_,.r [] [cr oz0],d_,.r [] [e_,e_,e_,f_],d_,r_,d_,r_,d_,r_,.code [.any (rg [(0,1),(12,4),(17,8),(26,4),(31,4)]),.weak 3 (i64 (↑0:Int)),.sort] (DN_) (zO oz10)] _ Tryz.func17 (.c8 oz0 (show (elems u.h u.x u.c==0)=false by (refine decide_eq_false ?_;omega)) oz2 oz2 oz2 oz2 (decide_eq_false (p:=(u.cl>16)) (by omega)) (show (((K_ mdlC u.m).length:Int)==0)=false by (simp only[E_,F_,I_,J_,ne_eq,H_,G_,U_,T_,BL_,BS_,BP_,Classical.not_not,CO_,CF_,O_,P_,X_,Q_,B_,BN_,BR_,AD_,BW_,BT_,eqNums,S_,AX_,AJ_,BB_,BA_,AH_,AE_,BZ_,AG_,BO_,BX_,BQ_];(first|done|with_reducible assumption|omega|contradiction)))<|.d3 (show decide (((K_ mdlC u.m).length:Int)>3)=false by (simp;omega)) w0_ oz10)
theorem rvbundle_v (u:Bun) (ok:u.Ok) (sm:u.Sm):VC N_ 17 [bun u] (flt (bunE u)):=by
 rcases bunE_cases u with h|⟨w,h⟩|⟨w,m,h1,h2,h3⟩
 ·exact rvbundle_a u ok sm h
 ·rw[bunE_y w h];exact rvbundle_y u ok sm w h
 ·rw[bunE_m w h1 h2 h3]
  rcases modelE_cases (u.m.getD m default).l u.inp u.cl with ⟨g0,g6,g⟩|g|⟨g6,i,g1,g2,g3⟩
  ·exact absurd (by rw[show mE u m=⟨0,0,0,0⟩ from modelE_y g0 g6 g]) h2
  ·exact rvbundle_na u m ok sm w h1 g h3
  ·rw[show mE u m=_ from modelE_m g6 g1 g2 g3];exact rvbundle_nb u m i ok sm w h1 g6 g1 g2 g3 h3
theorem rvright_v (u:Bun) (ok:u.Ok) (sm:u.Sm):VC N_ 18 ([bun u]) (bv ((bunE u).w==0)):=by
 have oz0:=@rvbundle_v (u) ok sm
 exact cR_ [r_,.r [] [cr oz0]] _ Tryz.func18 (.d oz0)
structure Bun.Go (u:Bun):Prop where
 ok:u.Ok
 sm:u.Sm
 s:∀ j,j<u.m.length→MOK (u.m.getD j default).l u.inp
 v:∀ j,j<u.m.length→∀ k,k<(u.m.getD j default).l.length→(vB (u.m.getD j default).l u.inp u.cl k).2=0
noncomputable def win_l_I (u:Bun) (mo bl:Nat) (k:Nat):VS:=stt 38 [(1,i64 mo),(2,i64 bl),(3,.ptr 3 0 0),(6,.ptr 6 0 0),(7,.ptr 7 0 0),(8,i64 k)] [(3,.var (bunC u)),(6,.var [.any,.any,.any]),(7,.var (shpC (inS (u.m.getD mo default).l u.inp k)))]
noncomputable def win_l_Z (u:Bun) (mo bl:Nat):VS:=win_l_I u mo bl (bl)
theorem win_l_s (u:Bun) (mo bl:Nat) (g:u.Go) (hm:mo<u.m.length) (hb:bl≤(u.m.getD mo default).l.length) (k:Nat) (hk:k<bl):VT N_ (fnC Tryz.f119 [1,1,0,1,0,0]) (win_l_I u mo bl k) .normal (win_l_I u mo bl (k+1)):=by
 have q0:=g.s mo hm k (by omega)
 have q1:=(getD_in g.ok.m hm).l
 have q2:=getD_in q1 (s_ (k<(u.m.getD mo default).l.length))
 have q3:=(getD_in (getD_in g.sm.m hm).2 (s_ (k<(u.m.getD mo default).l.length))).s
 have q4:=inS_ok (l:=(u.m.getD mo default).l) (show u.inp.Ok from ⟨g.ok.h,g.ok.x,g.ok.c⟩) k
 have q5:=g.sm.l
 have q6:=(getD_in g.sm.m hm).1
 have oz2:=(map_at (mdlC) (default) (l:=u.m) (i:=mo) hm)
 have oz4:=(map_at (blcC) (default) (l:=(u.m.getD mo default).l) (i:=k) (by omega))
 have oz5:=@rcblock_y ((u.m.getD mo default).l.getD k default) (inS (u.m.getD mo default).l u.inp k) (u.cl) q2 q3 q0
 exact tR_ [r_,b_,.r [] [.row (sO oz2),.row (sO oz4),cr oz5],r_,.r [] [.n ((↑k:Int)+1)]] [.any (rg [(9,3),(14,23)]),.drop [10],.weak 8 (i64 (↑(k+1):Int)),.blk 7 (Blk.var [i64 (inS (u.m.getD mo default).l u.inp (k+1)).h,i64 (inS (u.m.getD mo default).l u.inp (k+1)).x,i64 (inS (u.m.getD mo default).l u.inp (k+1)).c]),.sort] (.c8 (decide_eq_true (p:=((↑k:Int)<(↑bl:Int))) (by omega)) (s_ (0≤(↑mo:Int))) oz2 (s_ (0≤(↑k:Int))) oz4 oz5 (i6n ((↑k:Int)+1) (by omega)) (wS_ k)<|.d (show BlkW (Blk.var [i64 (lastS ((u.m.getD mo default).l.getD k default).n (inS (u.m.getD mo default).l u.inp k)).h,i64 (lastS ((u.m.getD mo default).l.getD k default).n (inS (u.m.getD mo default).l u.inp k)).x,i64 (lastS ((u.m.getD mo default).l.getD k default).n (inS (u.m.getD mo default).l u.inp k)).c]) (Blk.var [i64 (inS (u.m.getD mo default).l u.inp (k+1)).h,i64 (inS (u.m.getD mo default).l u.inp (k+1)).x,i64 (inS (u.m.getD mo default).l u.inp (k+1)).c]) from (BlkW.var (m:=[i64 (inS (u.m.getD mo default).l u.inp (k+1)).h,i64 (inS (u.m.getD mo default).l u.inp (k+1)).x,i64 (inS (u.m.getD mo default).l u.inp (k+1)).c]) (.cons (M_ (by rfl)) (.cons (M_ (by rfl)) (.cons (M_ (by rfl)) .nil))))))
theorem win_l_e (u:Bun) (mo bl:Nat) (g:u.Go) (hm:mo<u.m.length) (hb:bl≤(u.m.getD mo default).l.length):VT N_ (fnC Tryz.f119 [1,1,0,1,0,0]) (win_l_I u mo bl (bl)) (.exit 0) (win_l_Z u mo bl):=by
 exact tR_ [r_,d_] [.any [14,15,16],.sort] (.d (decide_eq_false (p:=((↑bl:Int)<(↑bl:Int))) (by omega)))
theorem win_l (u:Bun) (mo bl:Nat) (g:u.Go) (hm:mo<u.m.length) (hb:bl≤(u.m.getD mo default).l.length):VT N_ (fnC Tryz.f119 [1,1,0,1,0]) (win_l_I u mo bl 0) (.exit 0) (win_l_Z u mo bl) :=
 VT.loop (fun k=>win_l_I u mo bl k) (bl) (fun k hk=>win_l_s u mo bl g hm hb k hk) (win_l_e u mo bl g hm hb) (by intro h;cases h)
theorem win_v (u:Bun) (mo bl:Nat) (g:u.Go) (hm:mo<u.m.length) (hb:bl≤(u.m.getD mo default).l.length):VC N_ 119 ([bun u,i64 mo,i64 bl]) (shp (inS (u.m.getD mo default).l u.inp bl)):=by
 have q5:=g.sm.l
 have q6:=(getD_in g.sm.m hm).1
 have oz3:=@win_l (u) (mo) (bl) g hm hb
 exact cR_ [r_,r_,r_,.code [.any [0,12,13],.weak 8 (i64 (↑0:Int)),.blk 6 (Blk.var [AV.any,AV.any,AV.any]),.blk 7 (Blk.var [i64 (inS (u.m.getD mo default).l u.inp 0).h,i64 (inS (u.m.getD mo default).l u.inp 0).x,i64 (inS (u.m.getD mo default).l u.inp 0).c]),.sort] (AA_ 0) (zO oz3),r_] _ Tryz.func119 (.d4 w0_ (show BlkW (Blk.var [i64 (0:Int),i64 (0:Int),i64 (0:Int)]) (Blk.var [AV.any,AV.any,AV.any]) from (BlkW.var (m:=[AV.any,AV.any,AV.any]) (.cons (Weak.any _) (.cons (Weak.any _) (.cons (Weak.any _) .nil))))) (show BlkW (Blk.var [i64 u.h,i64 u.x,i64 u.c]) (Blk.var [i64 (inS (u.m.getD mo default).l u.inp 0).h,i64 (inS (u.m.getD mo default).l u.inp 0).x,i64 (inS (u.m.getD mo default).l u.inp 0).c]) from (BlkW.var (m:=[i64 (inS (u.m.getD mo default).l u.inp 0).h,i64 (inS (u.m.getD mo default).l u.inp 0).x,i64 (inS (u.m.getD mo default).l u.inp 0).c]) (.cons (M_ (by rfl)) (.cons (M_ (by rfl)) (.cons (M_ (by rfl)) .nil))))) oz3)
theorem wcost_v (u:Bun) (mo bl:Nat) (g:u.Go) (hm:mo<u.m.length) (hb:bl<(u.m.getD mo default).l.length):VC N_ 83 ([bun u,i64 mo,i64 bl]) (i64 (blockC ((u.m.getD mo default).l.getD bl default) (inS (u.m.getD mo default).l u.inp bl) u.cl)):=by
 have q0:=g.s mo hm bl hb
 have q1:=(getD_in g.ok.m hm).l
 have q2:=getD_in q1 hb
 have q3:=(getD_in (getD_in g.sm.m hm).2 hb).s
 have q4:=inS_ok (l:=(u.m.getD mo default).l) (show u.inp.Ok from ⟨g.ok.h,g.ok.x,g.ok.c⟩) bl
 have q5:=g.sm.l
 have q6:=(getD_in g.sm.m hm).1
 have oz1:=(map_at (mdlC) (default) (l:=u.m) (i:=mo) hm)
 have oz3:=(map_at (blcC) (default) (l:=(u.m.getD mo default).l) (i:=bl) hb)
 have oz4:=@win_v (u) (mo) (bl) g hm (by omega)
 have oz5:=@rcblock_y ((u.m.getD mo default).l.getD bl default) (inS (u.m.getD mo default).l u.inp bl) (u.cl) q2 q3 q0
 exact cR_ [r_,.r [] [.row (sO oz1),.row (sO oz3),cr oz4,cr oz5],r_] _ Tryz.func83 (.d6 (s_ (0≤(↑mo:Int))) oz1 (s_ (0≤(↑bl:Int))) oz3 oz4 oz5)
theorem wsound_v (u:Bun) (mo bl:Nat) (sp:Int) (x v:Ten) (ok:x.Ok) (r:tenRight x=true) (hs:x.sh=u.inp) (h0:0≤sp) (h1:sp≤1099511627776):VC N_ 118 ([bun u,.agg [i64 mo,i64 bl,i64 sp,i64 x.h,i64 x.x,i64 x.c,ints .i8 x.d,i64 v.h,i64 v.x,i64 v.c,ints .i8 v.d]]) (bv true):=by
 have e1:x.h=u.h:=congrArg Shp.h hs
 have e2:x.x=u.x:=congrArg Shp.x hs
 have e3:x.c=u.c:=congrArg Shp.c hs
 have oz0:=(decide_eq_true (p:=(sp≥0)) (by omega))
 have oz4:=(decide_eq_true (p:=(sp≤1099511627776)) (by omega))
 have oz7:=@refTRight_v (x) ok
 exact (cR_ [r_,.r [] [e_,e_,e_,e_,e_,e_,e_,cr oz7,e_,e_,e_,e_,e_,e_,e_,.v (AI_ (eqNums [(L_,x.h,u.h),(L_,x.x,u.x),(L_,x.c,u.c)])),e_]] (bv (eqNums [(L_,x.h,u.h),(L_,x.x,u.x),(L_,x.c,u.c)])) Tryz.func118 (.c8 oz0 oz0 oz0 oz0 oz4 oz4 oz4 oz7<|.c8 oz4 r r r r r r (show BinTo N_ BinOp.eql 23 (Operand.tmp 21) (Operand.tmp 23) (BG_ #[AO_ L_ x.h,AO_ L_ x.x,AO_ L_ x.c]) (BG_ #[AO_ L_ u.h,AO_ L_ u.x,AO_ L_ u.c]) (AI_ (eqNums [(L_,x.h,u.h),(L_,x.x,u.x),(L_,x.c,u.c)])) from ((bin_nums (l:=[(L_,x.h,u.h),(L_,x.x,u.x),(L_,x.c,u.c)]) (by kernel_rfl) (by kernel_rfl) (by kernel_rfl) (by kernel_rfl) _ _).1))<|.d r)).weak (Y_ _) (DK_ (by (simp only[E_,F_,I_,J_,ne_eq,H_,G_,U_,T_,BL_,BS_,BP_,Classical.not_not,CO_,CF_,O_,P_,X_,Q_,B_,BN_,BR_,AD_,BW_,BT_,eqNums,S_,AX_,AJ_,BB_,BA_,AH_,AE_,BZ_,AG_,BO_,BX_,BQ_];(first|done|with_reducible assumption|omega|contradiction))))
structure IsAt (u:Bun) (mo bl:Nat) (sp:Int) (x v:Ten):Prop where
 g:u.Go
 m:mo<u.m.length
 b:bl<(u.m.getD mo default).l.length
 ok:x.Ok
 r:tenRight x=true
 s:x.sh=u.inp
 h0:0≤sp
 h1:sp≤1000000000000
 okv:v.Ok
 rv:tenRight v=true
 sv:v.sh=inS (u.m.getD mo default).l u.inp bl
abbrev poi (mo bl:Nat) (sp:Int) (x v:Ten):AV:=.agg [i64 mo,i64 bl,i64 sp,i64 x.h,i64 x.x,i64 x.c,ints .i8 x.d,i64 v.h,i64 v.x,i64 v.c,ints .i8 v.d]
theorem sh_eq {a b:Shp} (h:a=b):eqNums [(L_,a.h,b.h),(L_,a.x,b.x),(L_,a.c,b.c)]=true:=by subst h;simp[eqNums]
theorem wright_b (u:Bun) (mo bl:Nat) (sp:Int) (x v:Ten) (A:IsAt u mo bl sp x v) (hb:0<bl):VC N_ 82 ([bun u,poi mo bl sp x v]) (bv true):=by
 obtain ⟨g,hm,hl,ok,r,s,h0,h1,okv,rv,sv⟩:=A
 have q5:=g.sm.l
 have q6:=(getD_in g.sm.m hm).1
 have e1:v.h=(inS (u.m.getD mo default).l u.inp bl).h:=congrArg Shp.h sv
 have e2:v.x=(inS (u.m.getD mo default).l u.inp bl).x:=congrArg Shp.x sv
 have e3:v.c=(inS (u.m.getD mo default).l u.inp bl).c:=congrArg Shp.c sv
 have e4:eqNums [(L_,v.h,(inS (u.m.getD mo default).l u.inp bl).h),(L_,v.x,(inS (u.m.getD mo default).l u.inp bl).x),(L_,v.c,(inS (u.m.getD mo default).l u.inp bl).c)]=true:=sh_eq (a:=v.sh) sv
 have oz0:=(decide_eq_false (p:=((↑mo:Int)<0)) (by omega))
 have oz7:=(s_ (0≤(↑mo:Int)))
 have oz8:=(map_at (mdlC) (default) (l:=u.m) (i:=mo) hm)
 have oz9:=@wsound_v (u) (mo) (bl) (sp) (x) (v) ok r s h0 (by omega)
 have oz10:=(show (decide ((↑mo:Int)≥((K_ mdlC u.m).length:Int)) || decide ((↑bl:Int)<0) || decide ((↑bl:Int)≥((K_ blcC (u.m.getD mo default).l).length:Int)) || false)=false by (simp at *;omega))
 have oz11:=@refTRight_v (v) okv
 have oz12:=@win_v (u) (mo) (bl) g hm (by omega)
 have oz13:=(show BinTo N_ BinOp.neq 23 (Operand.tmp 47) (Operand.tmp 53) (BG_ #[AO_ L_ v.h,AO_ L_ v.x,AO_ L_ v.c]) (BG_ #[AO_ L_ (inS (u.m.getD mo default).l u.inp bl).h,AO_ L_ (inS (u.m.getD mo default).l u.inp bl).x,AO_ L_ (inS (u.m.getD mo default).l u.inp bl).c]) (AI_ !eqNums [(L_,v.h,(inS (u.m.getD mo default).l u.inp bl).h),(L_,v.x,(inS (u.m.getD mo default).l u.inp bl).x),(L_,v.c,(inS (u.m.getD mo default).l u.inp bl).c)]) from ((bin_nums (l:=[(L_,v.h,(inS (u.m.getD mo default).l u.inp bl).h),(L_,v.x,(inS (u.m.getD mo default).l u.inp bl).x),(L_,v.c,(inS (u.m.getD mo default).l u.inp bl).c)]) (by kernel_rfl) (by kernel_rfl) (by kernel_rfl) (by kernel_rfl) _ _).2))
 rcases bft (!tenRight v || !eqNums [(L_,v.h,(inS (u.m.getD mo default).l u.inp bl).h),(L_,v.x,(inS (u.m.getD mo default).l u.inp bl).x),(L_,v.c,(inS (u.m.getD mo default).l u.inp bl).c)]) with hc0|hc0
 ·have gc0:tenRight v=false∨¬(v.h=(inS (u.m.getD mo default).l u.inp bl).h∧v.x=(inS (u.m.getD mo default).l u.inp bl).x∧v.c=(inS (u.m.getD mo default).l u.inp bl).c):=gc0_ hc0
  exact (cR_ [r_,.r [] [e_,e_,e_,e_,e_,e_,f_,o_,o_,o_,.sel 1,o_,o_,o_,o_,o_,o_,o_,.row (sO oz8),o_,o_,o_,o_,.sel 1,o_,o_,o_,cr oz9,o_,.sel 1],d_,.r [] [cr oz11,o_,o_,o_,o_,o_,o_,o_,o_,o_,cr oz12,o_,.v (AI_ !eqNums [(L_,v.h,(inS (u.m.getD mo default).l u.inp bl).h),(L_,v.x,(inS (u.m.getD mo default).l u.inp bl).x),(L_,v.c,(inS (u.m.getD mo default).l u.inp bl).c)]),.sel 1],b_,r_] (bv false) Tryz.func82 (.c8 oz0 oz0 oz0 oz0 oz0 oz0 oz0 oz7<|.d7 oz8 oz9 oz10 oz11 oz12 oz13 hc0)).weak (Y_ _) (DK_ (by (simp_all;done)))
 ·have gc0:tenRight v=true∧v.h=(inS (u.m.getD mo default).l u.inp bl).h∧v.x=(inS (u.m.getD mo default).l u.inp bl).x∧v.c=(inS (u.m.getD mo default).l u.inp bl).c:=gc0_ hc0
  have oz15:=(show decide ((↑bl:Int)>0) = !false by (refine decide_eq_true ?_;omega))
  exact cR_ [r_,.r [] [e_,e_,e_,e_,e_,e_,f_,o_,o_,o_,.sel 1,o_,o_,o_,o_,o_,o_,o_,.row (sO oz8),o_,o_,o_,o_,.sel 1,o_,o_,o_,cr oz9,o_,.sel 1],d_,.r [] [cr oz11,o_,o_,o_,o_,o_,o_,o_,o_,o_,cr oz12,o_,.v (AI_ !eqNums [(L_,v.h,(inS (u.m.getD mo default).l u.inp bl).h),(L_,v.x,(inS (u.m.getD mo default).l u.inp bl).x),(L_,v.c,(inS (u.m.getD mo default).l u.inp bl).c)]),.sel 1],d_,.r [] [f_,f_,f_,f_,f_,e_]] _ Tryz.func82 (.c8 oz0 oz0 oz0 oz0 oz0 oz0 oz0 oz7<|.c8 oz8 oz9 oz10 oz11 oz12 oz13 hc0 oz15<|.d5 oz15 oz15 oz15 oz15 (decide_eq_true (p:=((↑bl:Int)>0)) (by omega)))
theorem wright_0 (u:Bun) (mo:Nat) (sp:Int) (x:Ten) (A:IsAt u mo 0 sp x x):VC N_ 82 ([bun u,poi mo 0 sp x x]) (bv true):=by
 obtain ⟨g,hm,hl,ok,r,s,h0,h1,okv,rv,sv⟩:=A
 have q5:=g.sm.l
 have q6:=(getD_in g.sm.m hm).1
 have t:=tenRight.rt r
 have d1:=t.dl
 have d2:=t.el
 have e1:x.h=u.h:=congrArg Shp.h s
 have e2:x.x=u.x:=congrArg Shp.x s
 have e3:x.c=u.c:=congrArg Shp.c s
 have oz0:=(decide_eq_false (p:=((↑mo:Int)<0)) (by omega))
 have oz7:=(s_ (0≤(↑mo:Int)))
 have oz8:=(map_at (mdlC) (default) (l:=u.m) (i:=mo) hm)
 have oz9:=@wsound_v (u) (mo) (0) (sp) (x) (x) ok r s h0 (by omega)
 have oz10:=(show (decide ((↑mo:Int)≥((K_ mdlC u.m).length:Int)) || false || decide ((↑0:Int)≥((K_ blcC (u.m.getD mo default).l).length:Int)) || false)=false by (simp only[E_,F_,I_,J_,ne_eq,H_,G_,U_,T_,BL_,BS_,BP_,Classical.not_not,CO_,CF_,O_,P_,X_,Q_,B_,BN_,BR_,AD_,BW_,BT_,eqNums,S_,AX_,AJ_,BB_,BA_,AH_,AE_,BZ_,AG_,BO_,BX_,BQ_];(first|done|with_reducible assumption|omega|contradiction)))
 have oz11:=@refTRight_v (x) ok
 have oz12:=@win_v (u) (mo) (0) g hm (by omega)
 have oz13:=(show BinTo N_ BinOp.neq 23 (Operand.tmp 47) (Operand.tmp 53) (BG_ #[AO_ L_ x.h,AO_ L_ x.x,AO_ L_ x.c]) (BG_ #[AO_ L_ (inS (u.m.getD mo default).l u.inp 0).h,AO_ L_ (inS (u.m.getD mo default).l u.inp 0).x,AO_ L_ (inS (u.m.getD mo default).l u.inp 0).c]) (AI_ !eqNums [(L_,x.h,(inS (u.m.getD mo default).l u.inp 0).h),(L_,x.x,(inS (u.m.getD mo default).l u.inp 0).x),(L_,x.c,(inS (u.m.getD mo default).l u.inp 0).c)]) from ((bin_nums (l:=[(L_,x.h,(inS (u.m.getD mo default).l u.inp 0).h),(L_,x.x,(inS (u.m.getD mo default).l u.inp 0).x),(L_,x.c,(inS (u.m.getD mo default).l u.inp 0).c)]) (by kernel_rfl) (by kernel_rfl) (by kernel_rfl) (by kernel_rfl) _ _).2))
 rcases bft (!tenRight x || !eqNums [(L_,x.h,(inS (u.m.getD mo default).l u.inp 0).h),(L_,x.x,(inS (u.m.getD mo default).l u.inp 0).x),(L_,x.c,(inS (u.m.getD mo default).l u.inp 0).c)]) with hc0|hc0
 ·have gc0:tenRight x=false∨¬(x.h=(inS (u.m.getD mo default).l u.inp 0).h∧x.x=(inS (u.m.getD mo default).l u.inp 0).x∧x.c=(inS (u.m.getD mo default).l u.inp 0).c):=gc0_ hc0
  exact (cR_ [r_,.r [] [e_,e_,e_,e_,e_,e_,f_,o_,o_,o_,.sel 1,o_,o_,o_,o_,o_,o_,o_,.row (sO oz8),o_,o_,o_,o_,.sel 1,o_,o_,o_,cr oz9,o_,.sel 1],d_,.r [] [cr oz11,o_,o_,o_,o_,o_,o_,o_,o_,o_,cr oz12,o_,.v (AI_ !eqNums [(L_,x.h,(inS (u.m.getD mo default).l u.inp 0).h),(L_,x.x,(inS (u.m.getD mo default).l u.inp 0).x),(L_,x.c,(inS (u.m.getD mo default).l u.inp 0).c)]),.sel 1],b_,r_] (bv false) Tryz.func82 (.c8 oz0 oz0 oz0 oz0 oz0 oz0 oz0 oz7<|.d7 oz8 oz9 oz10 oz11 oz12 oz13 hc0)).weak (Y_ _) (DK_ (by (simp_all;done)))
 ·have gc0:tenRight x=true∧x.h=(inS (u.m.getD mo default).l u.inp 0).h∧x.x=(inS (u.m.getD mo default).l u.inp 0).x∧x.c=(inS (u.m.getD mo default).l u.inp 0).c:=gc0_ hc0
  have oz15:=z2_
  have oz20:=@rtsame_v (x) (by omega)
  exact cR_ [r_,.r [] [e_,e_,e_,e_,e_,e_,f_,o_,o_,o_,.sel 1,o_,o_,o_,o_,o_,o_,o_,.row (sO oz8),o_,o_,o_,o_,.sel 1,o_,o_,o_,cr oz9,o_,.sel 1],d_,.r [] [cr oz11,o_,o_,o_,o_,o_,o_,o_,o_,o_,cr oz12,o_,.v (AI_ !eqNums [(L_,x.h,(inS (u.m.getD mo default).l u.inp 0).h),(L_,x.x,(inS (u.m.getD mo default).l u.inp 0).x),(L_,x.c,(inS (u.m.getD mo default).l u.inp 0).c)]),.sel 1],d_,.r [] [e_,e_,e_,e_,e_,cr oz20,f_]] _ Tryz.func82 (.c8 oz0 oz0 oz0 oz0 oz0 oz0 oz0 oz7<|.c8 oz8 oz9 oz10 oz11 oz12 oz13 hc0 oz15<|.d6 oz15 oz15 oz15 oz15 oz20 oz15)
end Go.Proofs.YtdfihaminnmgpaaGreat
