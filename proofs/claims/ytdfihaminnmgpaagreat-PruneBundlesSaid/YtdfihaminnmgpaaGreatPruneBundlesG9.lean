/- A part of this claim. No condition. -/
import Derived.Test.YtdfihaminnmgpaaGreatPruneBundlesG8
set_option maxRecDepth 100000
set_option maxHeartbeats 2000000
set_option linter.unusedVariables false
set_option linter.unusedSimpArgs false
set_option linter.unnecessarySimpa false
namespace Go.Proofs.YtdfihaminnmgpaaGreat
open Go.RowKit
open BlkW renaming rows→BU_
open Bool renaming and_eq_true→O_,and_eq_false_iff→P_,or_eq_false_iff→Q_,not_eq_false'→T_,not_eq_true'→U_,or_eq_true→X_,and_true→B_,false_and→AD_,true_and→BN_,or_true→DL_
open Exit renaming exit→AA_,ret→DN_
open IntKind renaming i64→L_
open List renaming map→K_,length_map→S_,getElem?_eq_getElem→W_,getD_eq_getElem?_getD→Z_,map_replicate→A_,map_append→C_,map_cons→D_,map_take→AK_,map_drop→AL_,map_nil→AM_,map_set→AN_,getElem?_map→AR_,length_append→AX_,range→BM_,getElem?_append_left→CN_,getElem?_append_right→CR_,all_eq_true→CZ_,getElem_mem→CD_
open Nat renaming le_refl→AT_
open Tryz renaming prog→N_
open Value renaming int→AO_,slice→AY_,bool→AI_,agg→BG_
open Weak renaming int→M_,tup→AS_,agg→AV_,rows→CM_,nilr→CJ_,bool→DK_
open WeakL renaming refl→Y_
def blkAt (u:Bun) (mo bl:Nat):Blc:=(u.m.getD mo default).l.getD bl default
def outAt (u:Bun) (mo bl:Nat) (v:Ten):Ten:=lastT (blkAt u mo bl).n v
def cstAt (u:Bun) (mo bl:Nat):Int:=blockC (blkAt u mo bl) (inS (u.m.getD mo default).l u.inp bl) u.cl
theorem getD_lt {α:Type} {l:List α} {i:Nat} {d:α} (h:i<l.length):l.getD i d∈l:=by
 rw[Z_,W_ h];exact CD_ h
structure StepF (u:Bun) (mo bl:Nat) (v:Ten):Prop where
 vals:Vals (blkAt u mo bl).n v
 ok:(outAt u mo bl v).Ok
 r:tenRight (outAt u mo bl v)=true
 s:(outAt u mo bl v).sh=inS (u.m.getD mo default).l u.inp (bl+1)
 c0:1≤cstAt u mo bl
 c1:cstAt u mo bl≤300000000
 w:∀ v∈(blkAt u mo bl).w,In8 v
 b:∀ v∈(blkAt u mo bl).b,In32 v
 nd:In32 (blkAt u mo bl).nd
 f:(blkAt u mo bl).n.length≤8
 ver:(blkAt u mo bl).ex=true→verdE (outAt u mo bl v).sh (blkAt u mo bl).w (blkAt u mo bl).b (blkAt u mo bl).nd u.cl=0
theorem exit_ver {x:Blc} {t:Shp} {r:Rng} {cl:Int} {last:Bool} (h:exitE x t r cl last=0) (e:x.ex=true):verdE t x.w x.b x.nd cl=0:=by
 unfold exitE at h
 rw[j_ (by simp[e]),j_ (by simp[e])] at h
 split at h
 ·rename_i q;exact absurd h q
 ·rename_i q;exact Classical.not_not.1 q
theorem IsAt.step {u:Bun} {mo bl:Nat} {sp:Int} {x v:Ten} (A:IsAt u mo bl sp x v):StepF u mo bl v:=by
 have so:=A.g.s mo A.m bl A.b
 have mem:=getD_lt (d:=(default:Blc)) A.b
 have okb:=(getD_in A.g.ok.m A.m).l _ mem
 have smb:=(getD_in A.g.sm.m A.m).2 _ mem
 have q:SOK (blkAt u mo bl).n v.sh:=by rw[A.sv];exact so
 obtain ⟨vs,sh⟩:=vals_of okb.n smb.s A.okv A.rv q
 have d:=vs.d (AT_ _)
 have va:=A.g.v mo A.m bl A.b
 obtain ⟨_,_,ex⟩:=validE_0 va
 have bd:=blockC_bd (x:=blkAt u mo bl) (a:=inS (u.m.getD mo default).l u.inp bl) (cl:=u.cl) q.f
 have s2:(outAt u mo bl v).sh=inS (u.m.getD mo default).l u.inp (bl+1):=by
  show (gv valE ((u.m.getD mo default).l.getD bl default).n v ((u.m.getD mo default).l.getD bl default).n.length).sh=_
  rw[sh _ (AT_ _),A.sv];rfl
 refine ⟨vs,d.1,d.2,s2,bd.1,bd.2,okb.w,okb.b,okb.nd,q.f,fun e=>?_⟩
 rw[s2]
 exact exit_ver ex e
abbrev zver:AV:=.agg [i64 0,i64 0,nilv,bv false]
theorem wstep_my (u:Bun) (mo bl:Nat) (sp:Int) (x v:Ten) (A:IsAt u mo bl sp x v) (F:StepF u mo bl v) (h:bl+1<(u.m.getD mo default).l.length) (he:((u.m.getD mo default).l.getD bl default).ex=true) (hr:VC N_ 82 [bun u,poi mo bl sp x v] (bv true)):VC N_ 50 ([bun u,poi mo bl sp x v]) (.tup [poi mo (bl+1) (sp+cstAt u mo bl) x (outAt u mo bl v),.agg (verC (outAt u mo bl v) (blkAt u mo bl).w (blkAt u mo bl).b (blkAt u mo bl).nd),bv true,i64 0]):=by
 obtain ⟨g,hm,hl,ok,r,s,h0,h1,okv,rv,sv⟩:=id A
 obtain ⟨f1,f2,f3,f4,f5,f6,f7,f8,f9,f10,f11⟩:=F
 have c0:1≤blockC ((u.m.getD mo default).l.getD bl default) (inS (u.m.getD mo default).l u.inp bl) u.cl:=f5
 have c1:blockC ((u.m.getD mo default).l.getD bl default) (inS (u.m.getD mo default).l u.inp bl) u.cl≤300000000:=f6
 have q5:=g.sm.l
 have q6:=(getD_in g.sm.m hm).1
 have l0:((u.m.getD mo default).l.map blcC).length=(u.m.getD mo default).l.length:=S_ _
 have l1:=growL_len valE ((u.m.getD mo default).l.getD bl default).n v ((u.m.getD mo default).l.getD bl default).n.length
 have l2:(K_ tnC (growL valE ((u.m.getD mo default).l.getD bl default).n v ((u.m.getD mo default).l.getD bl default).n.length)).length=((u.m.getD mo default).l.getD bl default).n.length+1:=by rw[S_,l1]
 have l3:((((K_ tnC (growL valE ((u.m.getD mo default).l.getD bl default).n v ((u.m.getD mo default).l.getD bl default).n.length)).length:Nat):Int)-1).toNat=((u.m.getD mo default).l.getD bl default).n.length:=by omega
 have e1:VOK ((u.m.getD mo default).l.getD bl default).n v:=f1.v
 have e2:∀ k,k<((u.m.getD mo default).l.getD bl default).n.length→errL valE ((u.m.getD mo default).l.getD bl default).n v k=0:=f1.e
 have hcl:=g.ok.cl
 have f7':∀ v∈((u.m.getD mo default).l.getD bl default).w,In8 v:=f7
 have f8':∀ v∈((u.m.getD mo default).l.getD bl default).b,In32 v:=f8
 have f9':In32 ((u.m.getD mo default).l.getD bl default).nd:=f9
 have f12:=f11 he
 have hz:(!((u.m.getD mo default).l.getD bl default).ex)=false:=by rw[he];rfl
 have f10':((u.m.getD mo default).l.getD bl default).n.length≤8:=f10
 have oz0:=@hr
 have oz1:=z2_
 have oz2:=@wcost_v (u) (mo) (bl) g hm hl
 have oz3:=(i6n (1099511627776-blockC ((u.m.getD mo default).l.getD bl default) (inS (u.m.getD mo default).l u.inp bl) u.cl) (by omega))
 have oz6:=(map_at (mdlC) (default) (l:=u.m) (i:=mo) hm)
 have oz8:=(map_at (blcC) (default) (l:=(u.m.getD mo default).l) (i:=bl) hl)
 have oz9:=@rvals_y (((u.m.getD mo default).l.getD bl default).n) (v) e1 rv e2
 have oz11:=(i6n ((↑(K_ tnC (growL valE ((u.m.getD mo default).l.getD bl default).n v ((u.m.getD mo default).l.getD bl default).n.length)).length:Int)-1) (by omega))
 have oz13:=(map_at (tnC) (default) (l:=growL valE ((u.m.getD mo default).l.getD bl default).n v ((u.m.getD mo default).l.getD bl default).n.length) (i:=((↑(K_ tnC (growL valE ((u.m.getD mo default).l.getD bl default).n v ((u.m.getD mo default).l.getD bl default).n.length)).length:Int)-1).toNat) (by omega))
 have oz15:=(i6n (sp+blockC ((u.m.getD mo default).l.getD bl default) (inS (u.m.getD mo default).l u.inp bl) u.cl) (by omega))
 have oz18:=@look_v ((growL valE ((u.m.getD mo default).l.getD bl default).n v ((u.m.getD mo default).l.getD bl default).n.length).getD ((↑(K_ tnC (growL valE ((u.m.getD mo default).l.getD bl default).n v ((u.m.getD mo default).l.getD bl default).n.length)).length:Int)-1).toNat default) (((u.m.getD mo default).l.getD bl default).w) (((u.m.getD mo default).l.getD bl default).b) (((u.m.getD mo default).l.getD bl default).nd) (u.cl) (by (rw[l3];exact f2)) (by (rw[l3];exact f3)) f7' f8' f9' hcl (by (rw[l3];exact f12))
 exact (cR_ [r_,.r [] [cr oz0],d_,.r [] [cr oz2],.r [] [.n (nO oz3)],d_,.r [] [.row (sO oz6)],.r [] [.row (sO oz8)],.r [] [cr oz9],r_,d_,.r [] [.n (nO oz11),.row (sO oz13)],.r [] [.n ((↑bl:Int)+1),.n (nO oz15)],r_,d_,r_,d_,.r [] [cr oz18],r_] (AV.tup [AV.agg [i64 (↑mo:Int),i64 ((↑bl:Int)+1),i64 (sp+blockC ((u.m.getD mo default).l.getD bl default) (inS (u.m.getD mo default).l u.inp bl) u.cl),i64 x.h,i64 x.x,i64 x.c,AV.sl 1 (K_ (row1 .i8) x.d),i64 ((growL valE ((u.m.getD mo default).l.getD bl default).n v ((u.m.getD mo default).l.getD bl default).n.length).getD ((↑(K_ tnC (growL valE ((u.m.getD mo default).l.getD bl default).n v ((u.m.getD mo default).l.getD bl default).n.length)).length:Int)-1).toNat default).h,i64 ((growL valE ((u.m.getD mo default).l.getD bl default).n v ((u.m.getD mo default).l.getD bl default).n.length).getD ((↑(K_ tnC (growL valE ((u.m.getD mo default).l.getD bl default).n v ((u.m.getD mo default).l.getD bl default).n.length)).length:Int)-1).toNat default).x,i64 ((growL valE ((u.m.getD mo default).l.getD bl default).n v ((u.m.getD mo default).l.getD bl default).n.length).getD ((↑(K_ tnC (growL valE ((u.m.getD mo default).l.getD bl default).n v ((u.m.getD mo default).l.getD bl default).n.length)).length:Int)-1).toNat default).c,AV.sl 1 (K_ (row1 .i8) ((growL valE ((u.m.getD mo default).l.getD bl default).n v ((u.m.getD mo default).l.getD bl default).n.length).getD ((↑(K_ tnC (growL valE ((u.m.getD mo default).l.getD bl default).n v ((u.m.getD mo default).l.getD bl default).n.length)).length:Int)-1).toNat default).d)],AV.agg [i64 (↑(bestE (logL ((growL valE ((u.m.getD mo default).l.getD bl default).n v ((u.m.getD mo default).l.getD bl default).n.length).getD ((↑(K_ tnC (growL valE ((u.m.getD mo default).l.getD bl default).n v ((u.m.getD mo default).l.getD bl default).n.length)).length:Int)-1).toNat default) ((u.m.getD mo default).l.getD bl default).w ((u.m.getD mo default).l.getD bl default).b)):Int),i64 (marE (logL ((growL valE ((u.m.getD mo default).l.getD bl default).n v ((u.m.getD mo default).l.getD bl default).n.length).getD ((↑(K_ tnC (growL valE ((u.m.getD mo default).l.getD bl default).n v ((u.m.getD mo default).l.getD bl default).n.length)).length:Int)-1).toNat default) ((u.m.getD mo default).l.getD bl default).w ((u.m.getD mo default).l.getD bl default).b)),AV.sl 1 (K_ (row1 .i32) (logL ((growL valE ((u.m.getD mo default).l.getD bl default).n v ((u.m.getD mo default).l.getD bl default).n.length).getD ((↑(K_ tnC (growL valE ((u.m.getD mo default).l.getD bl default).n v ((u.m.getD mo default).l.getD bl default).n.length)).length:Int)-1).toNat default) ((u.m.getD mo default).l.getD bl default).w ((u.m.getD mo default).l.getD bl default).b)),bv (decide (marE (logL ((growL valE ((u.m.getD mo default).l.getD bl default).n v ((u.m.getD mo default).l.getD bl default).n.length).getD ((↑(K_ tnC (growL valE ((u.m.getD mo default).l.getD bl default).n v ((u.m.getD mo default).l.getD bl default).n.length)).length:Int)-1).toNat default) ((u.m.getD mo default).l.getD bl default).w ((u.m.getD mo default).l.getD bl default).b)≥((u.m.getD mo default).l.getD bl default).nd))],bv true,i64 0]) Tryz.func50 (.c8 oz0 oz1 oz2 oz3 (decide_eq_false (p:=(sp>1099511627776-blockC ((u.m.getD mo default).l.getD bl default) (inS (u.m.getD mo default).l u.inp bl) u.cl)) (by omega)) (s_ (0≤(↑mo:Int))) oz6 (s_ (0≤(↑bl:Int)))<|.c8 oz8 oz9 oz1 oz11 (s_ (0≤(↑(K_ tnC (growL valE ((u.m.getD mo default).l.getD bl default).n v ((u.m.getD mo default).l.getD bl default).n.length)).length:Int)-1)) oz13 (i6n ((↑bl:Int)+1) (by omega)) oz15<|.d3 (show ((↑bl:Int)+1==((K_ blcC (u.m.getD mo default).l).length:Int))=false by (refine decide_eq_false ?_;omega)) hz oz18)).weak (Y_ _) (AS_ (.cons (AV_ (.cons (.refl _) (.cons (M_ (by omega)) (.cons (M_ (by rfl)) (.cons (.refl _) (.cons (.refl _) (.cons (.refl _) (.cons (.refl _) (.cons (M_ (by (rw[l3]<;>rfl))) (.cons (M_ (by (rw[l3]<;>rfl))) (.cons (M_ (by (rw[l3]<;>rfl))) (.cons (CM_ (rows_to (row1 .i8) (r:=K_ (row1 .i8) ((growL valE ((u.m.getD mo default).l.getD bl default).n v ((u.m.getD mo default).l.getD bl default).n.length).getD ((↑(K_ tnC (growL valE ((u.m.getD mo default).l.getD bl default).n v ((u.m.getD mo default).l.getD bl default).n.length)).length:Int)-1).toNat default).d) (l:=((growL valE ((u.m.getD mo default).l.getD bl default).n v ((u.m.getD mo default).l.getD bl default).n.length).getD ((↑(K_ tnC (growL valE ((u.m.getD mo default).l.getD bl default).n v ((u.m.getD mo default).l.getD bl default).n.length)).length:Int)-1).toNat default).d) (m:=(outAt u mo bl v).d) rfl (show (((growL valE ((u.m.getD mo default).l.getD bl default).n v ((u.m.getD mo default).l.getD bl default).n.length).getD ((↑(K_ tnC (growL valE ((u.m.getD mo default).l.getD bl default).n v ((u.m.getD mo default).l.getD bl default).n.length)).length:Int)-1).toNat default).d)=((outAt u mo bl v).d) from (by (rw[l3]<;>rfl))))) .nil)))))))))))) (.cons (AV_ (.cons (M_ (by (rw[l3]<;>rfl))) (.cons (M_ (by (rw[l3]<;>rfl))) (.cons (CM_ (rows_to (row1 .i32) (r:=K_ (row1 .i32) (logL ((growL valE ((u.m.getD mo default).l.getD bl default).n v ((u.m.getD mo default).l.getD bl default).n.length).getD ((↑(K_ tnC (growL valE ((u.m.getD mo default).l.getD bl default).n v ((u.m.getD mo default).l.getD bl default).n.length)).length:Int)-1).toNat default) ((u.m.getD mo default).l.getD bl default).w ((u.m.getD mo default).l.getD bl default).b)) (l:=logL ((growL valE ((u.m.getD mo default).l.getD bl default).n v ((u.m.getD mo default).l.getD bl default).n.length).getD ((↑(K_ tnC (growL valE ((u.m.getD mo default).l.getD bl default).n v ((u.m.getD mo default).l.getD bl default).n.length)).length:Int)-1).toNat default) ((u.m.getD mo default).l.getD bl default).w ((u.m.getD mo default).l.getD bl default).b) (m:=logL (outAt u mo bl v) (blkAt u mo bl).w (blkAt u mo bl).b) rfl (show (logL ((growL valE ((u.m.getD mo default).l.getD bl default).n v ((u.m.getD mo default).l.getD bl default).n.length).getD ((↑(K_ tnC (growL valE ((u.m.getD mo default).l.getD bl default).n v ((u.m.getD mo default).l.getD bl default).n.length)).length:Int)-1).toNat default) ((u.m.getD mo default).l.getD bl default).w ((u.m.getD mo default).l.getD bl default).b)=(logL (outAt u mo bl v) (blkAt u mo bl).w (blkAt u mo bl).b) from (by (rw[l3]<;>rfl))))) (.cons (DK_ (by (rw[l3]<;>rfl))) .nil))))) (.cons (.refl _) (.cons (.refl _) .nil)))))
theorem wstep_mn (u:Bun) (mo bl:Nat) (sp:Int) (x v:Ten) (A:IsAt u mo bl sp x v) (F:StepF u mo bl v) (h:bl+1<(u.m.getD mo default).l.length) (he:((u.m.getD mo default).l.getD bl default).ex=false) (hr:VC N_ 82 [bun u,poi mo bl sp x v] (bv true)):VC N_ 50 ([bun u,poi mo bl sp x v]) (.tup [poi mo (bl+1) (sp+cstAt u mo bl) x (outAt u mo bl v),zver,bv false,i64 0]):=by
 obtain ⟨g,hm,hl,ok,r,s,h0,h1,okv,rv,sv⟩:=id A
 obtain ⟨f1,f2,f3,f4,f5,f6,f7,f8,f9,f10,f11⟩:=F
 have c0:1≤blockC ((u.m.getD mo default).l.getD bl default) (inS (u.m.getD mo default).l u.inp bl) u.cl:=f5
 have c1:blockC ((u.m.getD mo default).l.getD bl default) (inS (u.m.getD mo default).l u.inp bl) u.cl≤300000000:=f6
 have q5:=g.sm.l
 have q6:=(getD_in g.sm.m hm).1
 have l0:((u.m.getD mo default).l.map blcC).length=(u.m.getD mo default).l.length:=S_ _
 have l1:=growL_len valE ((u.m.getD mo default).l.getD bl default).n v ((u.m.getD mo default).l.getD bl default).n.length
 have l2:(K_ tnC (growL valE ((u.m.getD mo default).l.getD bl default).n v ((u.m.getD mo default).l.getD bl default).n.length)).length=((u.m.getD mo default).l.getD bl default).n.length+1:=by rw[S_,l1]
 have l3:((((K_ tnC (growL valE ((u.m.getD mo default).l.getD bl default).n v ((u.m.getD mo default).l.getD bl default).n.length)).length:Nat):Int)-1).toNat=((u.m.getD mo default).l.getD bl default).n.length:=by omega
 have e1:VOK ((u.m.getD mo default).l.getD bl default).n v:=f1.v
 have e2:∀ k,k<((u.m.getD mo default).l.getD bl default).n.length→errL valE ((u.m.getD mo default).l.getD bl default).n v k=0:=f1.e
 have hcl:=g.ok.cl
 have f7':∀ v∈((u.m.getD mo default).l.getD bl default).w,In8 v:=f7
 have f8':∀ v∈((u.m.getD mo default).l.getD bl default).b,In32 v:=f8
 have f9':In32 ((u.m.getD mo default).l.getD bl default).nd:=f9
 have hz:(!((u.m.getD mo default).l.getD bl default).ex)=true:=by rw[he];rfl
 have f10':((u.m.getD mo default).l.getD bl default).n.length≤8:=f10
 have oz0:=@hr
 have oz1:=z2_
 have oz2:=@wcost_v (u) (mo) (bl) g hm hl
 have oz3:=(i6n (1099511627776-blockC ((u.m.getD mo default).l.getD bl default) (inS (u.m.getD mo default).l u.inp bl) u.cl) (by omega))
 have oz6:=(map_at (mdlC) (default) (l:=u.m) (i:=mo) hm)
 have oz8:=(map_at (blcC) (default) (l:=(u.m.getD mo default).l) (i:=bl) hl)
 have oz9:=@rvals_y (((u.m.getD mo default).l.getD bl default).n) (v) e1 rv e2
 have oz11:=(i6n ((↑(K_ tnC (growL valE ((u.m.getD mo default).l.getD bl default).n v ((u.m.getD mo default).l.getD bl default).n.length)).length:Int)-1) (by omega))
 have oz13:=(map_at (tnC) (default) (l:=growL valE ((u.m.getD mo default).l.getD bl default).n v ((u.m.getD mo default).l.getD bl default).n.length) (i:=((↑(K_ tnC (growL valE ((u.m.getD mo default).l.getD bl default).n v ((u.m.getD mo default).l.getD bl default).n.length)).length:Int)-1).toNat) (by omega))
 have oz15:=(i6n (sp+blockC ((u.m.getD mo default).l.getD bl default) (inS (u.m.getD mo default).l u.inp bl) u.cl) (by omega))
 exact (cR_ [r_,.r [] [cr oz0],d_,.r [] [cr oz2],.r [] [.n (nO oz3)],d_,.r [] [.row (sO oz6)],.r [] [.row (sO oz8)],.r [] [cr oz9],r_,d_,.r [] [.n (nO oz11),.row (sO oz13)],.r [] [.n ((↑bl:Int)+1),.n (nO oz15)],r_,d_,r_,b_,r_] (AV.tup [AV.agg [i64 (↑mo:Int),i64 ((↑bl:Int)+1),i64 (sp+blockC ((u.m.getD mo default).l.getD bl default) (inS (u.m.getD mo default).l u.inp bl) u.cl),i64 x.h,i64 x.x,i64 x.c,AV.sl 1 (K_ (row1 .i8) x.d),i64 ((growL valE ((u.m.getD mo default).l.getD bl default).n v ((u.m.getD mo default).l.getD bl default).n.length).getD ((↑(K_ tnC (growL valE ((u.m.getD mo default).l.getD bl default).n v ((u.m.getD mo default).l.getD bl default).n.length)).length:Int)-1).toNat default).h,i64 ((growL valE ((u.m.getD mo default).l.getD bl default).n v ((u.m.getD mo default).l.getD bl default).n.length).getD ((↑(K_ tnC (growL valE ((u.m.getD mo default).l.getD bl default).n v ((u.m.getD mo default).l.getD bl default).n.length)).length:Int)-1).toNat default).x,i64 ((growL valE ((u.m.getD mo default).l.getD bl default).n v ((u.m.getD mo default).l.getD bl default).n.length).getD ((↑(K_ tnC (growL valE ((u.m.getD mo default).l.getD bl default).n v ((u.m.getD mo default).l.getD bl default).n.length)).length:Int)-1).toNat default).c,AV.sl 1 (K_ (row1 .i8) ((growL valE ((u.m.getD mo default).l.getD bl default).n v ((u.m.getD mo default).l.getD bl default).n.length).getD ((↑(K_ tnC (growL valE ((u.m.getD mo default).l.getD bl default).n v ((u.m.getD mo default).l.getD bl default).n.length)).length:Int)-1).toNat default).d)],AV.agg [i64 0,i64 0,AV.lit (AY_ none 0 0),bv false],bv false,i64 0]) Tryz.func50 (.c8 oz0 oz1 oz2 oz3 (decide_eq_false (p:=(sp>1099511627776-blockC ((u.m.getD mo default).l.getD bl default) (inS (u.m.getD mo default).l u.inp bl) u.cl)) (by omega)) (s_ (0≤(↑mo:Int))) oz6 (s_ (0≤(↑bl:Int)))<|.c8 oz8 oz9 oz1 oz11 (s_ (0≤(↑(K_ tnC (growL valE ((u.m.getD mo default).l.getD bl default).n v ((u.m.getD mo default).l.getD bl default).n.length)).length:Int)-1)) oz13 (i6n ((↑bl:Int)+1) (by omega)) oz15<|.d2 (show ((↑bl:Int)+1==((K_ blcC (u.m.getD mo default).l).length:Int))=false by (refine decide_eq_false ?_;omega)) hz)).weak (Y_ _) (AS_ (.cons (AV_ (.cons (.refl _) (.cons (M_ (by omega)) (.cons (M_ (by rfl)) (.cons (.refl _) (.cons (.refl _) (.cons (.refl _) (.cons (.refl _) (.cons (M_ (by (rw[l3]<;>rfl))) (.cons (M_ (by (rw[l3]<;>rfl))) (.cons (M_ (by (rw[l3]<;>rfl))) (.cons (CM_ (rows_to (row1 .i8) (r:=K_ (row1 .i8) ((growL valE ((u.m.getD mo default).l.getD bl default).n v ((u.m.getD mo default).l.getD bl default).n.length).getD ((↑(K_ tnC (growL valE ((u.m.getD mo default).l.getD bl default).n v ((u.m.getD mo default).l.getD bl default).n.length)).length:Int)-1).toNat default).d) (l:=((growL valE ((u.m.getD mo default).l.getD bl default).n v ((u.m.getD mo default).l.getD bl default).n.length).getD ((↑(K_ tnC (growL valE ((u.m.getD mo default).l.getD bl default).n v ((u.m.getD mo default).l.getD bl default).n.length)).length:Int)-1).toNat default).d) (m:=(outAt u mo bl v).d) rfl (show (((growL valE ((u.m.getD mo default).l.getD bl default).n v ((u.m.getD mo default).l.getD bl default).n.length).getD ((↑(K_ tnC (growL valE ((u.m.getD mo default).l.getD bl default).n v ((u.m.getD mo default).l.getD bl default).n.length)).length:Int)-1).toNat default).d)=((outAt u mo bl v).d) from (by (rw[l3]<;>rfl))))) .nil)))))))))))) (.cons (.refl _) (.cons (.refl _) (.cons (.refl _) .nil)))))
theorem wstep_ey (u:Bun) (mo bl:Nat) (sp:Int) (x v:Ten) (A:IsAt u mo bl sp x v) (F:StepF u mo bl v) (h:bl+1=(u.m.getD mo default).l.length) (he:((u.m.getD mo default).l.getD bl default).ex=true) (hr:VC N_ 82 [bun u,poi mo bl sp x v] (bv true)):VC N_ 50 ([bun u,poi mo bl sp x v]) (.tup [poi (mo+1) 0 (sp+cstAt u mo bl) x x,.agg (verC (outAt u mo bl v) (blkAt u mo bl).w (blkAt u mo bl).b (blkAt u mo bl).nd),bv true,i64 0]):=by
 obtain ⟨g,hm,hl,ok,r,s,h0,h1,okv,rv,sv⟩:=id A
 obtain ⟨f1,f2,f3,f4,f5,f6,f7,f8,f9,f10,f11⟩:=F
 have c0:1≤blockC ((u.m.getD mo default).l.getD bl default) (inS (u.m.getD mo default).l u.inp bl) u.cl:=f5
 have c1:blockC ((u.m.getD mo default).l.getD bl default) (inS (u.m.getD mo default).l u.inp bl) u.cl≤300000000:=f6
 have q5:=g.sm.l
 have q6:=(getD_in g.sm.m hm).1
 have l0:((u.m.getD mo default).l.map blcC).length=(u.m.getD mo default).l.length:=S_ _
 have l1:=growL_len valE ((u.m.getD mo default).l.getD bl default).n v ((u.m.getD mo default).l.getD bl default).n.length
 have l2:(K_ tnC (growL valE ((u.m.getD mo default).l.getD bl default).n v ((u.m.getD mo default).l.getD bl default).n.length)).length=((u.m.getD mo default).l.getD bl default).n.length+1:=by rw[S_,l1]
 have l3:((((K_ tnC (growL valE ((u.m.getD mo default).l.getD bl default).n v ((u.m.getD mo default).l.getD bl default).n.length)).length:Nat):Int)-1).toNat=((u.m.getD mo default).l.getD bl default).n.length:=by omega
 have e1:VOK ((u.m.getD mo default).l.getD bl default).n v:=f1.v
 have e2:∀ k,k<((u.m.getD mo default).l.getD bl default).n.length→errL valE ((u.m.getD mo default).l.getD bl default).n v k=0:=f1.e
 have hcl:=g.ok.cl
 have f7':∀ v∈((u.m.getD mo default).l.getD bl default).w,In8 v:=f7
 have f8':∀ v∈((u.m.getD mo default).l.getD bl default).b,In32 v:=f8
 have f9':In32 ((u.m.getD mo default).l.getD bl default).nd:=f9
 have f12:=f11 he
 have hz:(!((u.m.getD mo default).l.getD bl default).ex)=false:=by rw[he];rfl
 have f10':((u.m.getD mo default).l.getD bl default).n.length≤8:=f10
 have oz0:=@hr
 have oz1:=z2_
 have oz2:=@wcost_v (u) (mo) (bl) g hm hl
 have oz3:=(i6n (1099511627776-blockC ((u.m.getD mo default).l.getD bl default) (inS (u.m.getD mo default).l u.inp bl) u.cl) (by omega))
 have oz6:=(map_at (mdlC) (default) (l:=u.m) (i:=mo) hm)
 have oz8:=(map_at (blcC) (default) (l:=(u.m.getD mo default).l) (i:=bl) hl)
 have oz9:=@rvals_y (((u.m.getD mo default).l.getD bl default).n) (v) e1 rv e2
 have oz11:=(i6n ((↑(K_ tnC (growL valE ((u.m.getD mo default).l.getD bl default).n v ((u.m.getD mo default).l.getD bl default).n.length)).length:Int)-1) (by omega))
 have oz13:=(map_at (tnC) (default) (l:=growL valE ((u.m.getD mo default).l.getD bl default).n v ((u.m.getD mo default).l.getD bl default).n.length) (i:=((↑(K_ tnC (growL valE ((u.m.getD mo default).l.getD bl default).n v ((u.m.getD mo default).l.getD bl default).n.length)).length:Int)-1).toNat) (by omega))
 have oz15:=(i6n (sp+blockC ((u.m.getD mo default).l.getD bl default) (inS (u.m.getD mo default).l u.inp bl) u.cl) (by omega))
 have oz20:=@look_v ((growL valE ((u.m.getD mo default).l.getD bl default).n v ((u.m.getD mo default).l.getD bl default).n.length).getD ((↑(K_ tnC (growL valE ((u.m.getD mo default).l.getD bl default).n v ((u.m.getD mo default).l.getD bl default).n.length)).length:Int)-1).toNat default) (((u.m.getD mo default).l.getD bl default).w) (((u.m.getD mo default).l.getD bl default).b) (((u.m.getD mo default).l.getD bl default).nd) (u.cl) (by (rw[l3];exact f2)) (by (rw[l3];exact f3)) f7' f8' f9' hcl (by (rw[l3];exact f12))
 exact (cR_ [r_,.r [] [cr oz0],d_,.r [] [cr oz2],.r [] [.n (nO oz3)],d_,.r [] [.row (sO oz6)],.r [] [.row (sO oz8)],.r [] [cr oz9],r_,d_,.r [] [.n (nO oz11),.row (sO oz13)],.r [] [.n ((↑bl:Int)+1),.n (nO oz15)],r_,b_,.r [] [.n ((↑mo:Int)+1),.n (nO oz15)],r_,d_,.r [] [cr oz20],r_] (AV.tup [AV.agg [i64 ((↑mo:Int)+1),i64 0,i64 (sp+blockC ((u.m.getD mo default).l.getD bl default) (inS (u.m.getD mo default).l u.inp bl) u.cl),i64 x.h,i64 x.x,i64 x.c,AV.sl 1 (K_ (row1 .i8) x.d),i64 x.h,i64 x.x,i64 x.c,AV.sl 1 (K_ (row1 .i8) x.d)],AV.agg [i64 (↑(bestE (logL ((growL valE ((u.m.getD mo default).l.getD bl default).n v ((u.m.getD mo default).l.getD bl default).n.length).getD ((↑(K_ tnC (growL valE ((u.m.getD mo default).l.getD bl default).n v ((u.m.getD mo default).l.getD bl default).n.length)).length:Int)-1).toNat default) ((u.m.getD mo default).l.getD bl default).w ((u.m.getD mo default).l.getD bl default).b)):Int),i64 (marE (logL ((growL valE ((u.m.getD mo default).l.getD bl default).n v ((u.m.getD mo default).l.getD bl default).n.length).getD ((↑(K_ tnC (growL valE ((u.m.getD mo default).l.getD bl default).n v ((u.m.getD mo default).l.getD bl default).n.length)).length:Int)-1).toNat default) ((u.m.getD mo default).l.getD bl default).w ((u.m.getD mo default).l.getD bl default).b)),AV.sl 1 (K_ (row1 .i32) (logL ((growL valE ((u.m.getD mo default).l.getD bl default).n v ((u.m.getD mo default).l.getD bl default).n.length).getD ((↑(K_ tnC (growL valE ((u.m.getD mo default).l.getD bl default).n v ((u.m.getD mo default).l.getD bl default).n.length)).length:Int)-1).toNat default) ((u.m.getD mo default).l.getD bl default).w ((u.m.getD mo default).l.getD bl default).b)),bv (decide (marE (logL ((growL valE ((u.m.getD mo default).l.getD bl default).n v ((u.m.getD mo default).l.getD bl default).n.length).getD ((↑(K_ tnC (growL valE ((u.m.getD mo default).l.getD bl default).n v ((u.m.getD mo default).l.getD bl default).n.length)).length:Int)-1).toNat default) ((u.m.getD mo default).l.getD bl default).w ((u.m.getD mo default).l.getD bl default).b)≥((u.m.getD mo default).l.getD bl default).nd))],bv true,i64 0]) Tryz.func50 (.c8 oz0 oz1 oz2 oz3 (decide_eq_false (p:=(sp>1099511627776-blockC ((u.m.getD mo default).l.getD bl default) (inS (u.m.getD mo default).l u.inp bl) u.cl)) (by omega)) (s_ (0≤(↑mo:Int))) oz6 (s_ (0≤(↑bl:Int)))<|.c8 oz8 oz9 oz1 oz11 (s_ (0≤(↑(K_ tnC (growL valE ((u.m.getD mo default).l.getD bl default).n v ((u.m.getD mo default).l.getD bl default).n.length)).length:Int)-1)) oz13 (i6n ((↑bl:Int)+1) (by omega)) oz15<|.d5 (show ((↑bl:Int)+1==((K_ blcC (u.m.getD mo default).l).length:Int))=true by (refine decide_eq_true ?_;omega)) (i6n ((↑mo:Int)+1) (by omega)) oz15 hz oz20)).weak (Y_ _) (AS_ (.cons (AV_ (.cons (M_ (by omega)) (.cons (M_ (by omega)) (.cons (M_ (by rfl)) (.cons (.refl _) (.cons (.refl _) (.cons (.refl _) (.cons (.refl _) (.cons (.refl _) (.cons (.refl _) (.cons (.refl _) (.cons (.refl _) .nil)))))))))))) (.cons (AV_ (.cons (M_ (by (rw[l3]<;>rfl))) (.cons (M_ (by (rw[l3]<;>rfl))) (.cons (CM_ (rows_to (row1 .i32) (r:=K_ (row1 .i32) (logL ((growL valE ((u.m.getD mo default).l.getD bl default).n v ((u.m.getD mo default).l.getD bl default).n.length).getD ((↑(K_ tnC (growL valE ((u.m.getD mo default).l.getD bl default).n v ((u.m.getD mo default).l.getD bl default).n.length)).length:Int)-1).toNat default) ((u.m.getD mo default).l.getD bl default).w ((u.m.getD mo default).l.getD bl default).b)) (l:=logL ((growL valE ((u.m.getD mo default).l.getD bl default).n v ((u.m.getD mo default).l.getD bl default).n.length).getD ((↑(K_ tnC (growL valE ((u.m.getD mo default).l.getD bl default).n v ((u.m.getD mo default).l.getD bl default).n.length)).length:Int)-1).toNat default) ((u.m.getD mo default).l.getD bl default).w ((u.m.getD mo default).l.getD bl default).b) (m:=logL (outAt u mo bl v) (blkAt u mo bl).w (blkAt u mo bl).b) rfl (show (logL ((growL valE ((u.m.getD mo default).l.getD bl default).n v ((u.m.getD mo default).l.getD bl default).n.length).getD ((↑(K_ tnC (growL valE ((u.m.getD mo default).l.getD bl default).n v ((u.m.getD mo default).l.getD bl default).n.length)).length:Int)-1).toNat default) ((u.m.getD mo default).l.getD bl default).w ((u.m.getD mo default).l.getD bl default).b)=(logL (outAt u mo bl v) (blkAt u mo bl).w (blkAt u mo bl).b) from (by (rw[l3]<;>rfl))))) (.cons (DK_ (by (rw[l3]<;>rfl))) .nil))))) (.cons (.refl _) (.cons (.refl _) .nil)))))
theorem wstep_en (u:Bun) (mo bl:Nat) (sp:Int) (x v:Ten) (A:IsAt u mo bl sp x v) (F:StepF u mo bl v) (h:bl+1=(u.m.getD mo default).l.length) (he:((u.m.getD mo default).l.getD bl default).ex=false) (hr:VC N_ 82 [bun u,poi mo bl sp x v] (bv true)):VC N_ 50 ([bun u,poi mo bl sp x v]) (.tup [poi (mo+1) 0 (sp+cstAt u mo bl) x x,zver,bv false,i64 0]):=by
 obtain ⟨g,hm,hl,ok,r,s,h0,h1,okv,rv,sv⟩:=id A
 obtain ⟨f1,f2,f3,f4,f5,f6,f7,f8,f9,f10,f11⟩:=F
 have c0:1≤blockC ((u.m.getD mo default).l.getD bl default) (inS (u.m.getD mo default).l u.inp bl) u.cl:=f5
 have c1:blockC ((u.m.getD mo default).l.getD bl default) (inS (u.m.getD mo default).l u.inp bl) u.cl≤300000000:=f6
 have q5:=g.sm.l
 have q6:=(getD_in g.sm.m hm).1
 have l0:((u.m.getD mo default).l.map blcC).length=(u.m.getD mo default).l.length:=S_ _
 have l1:=growL_len valE ((u.m.getD mo default).l.getD bl default).n v ((u.m.getD mo default).l.getD bl default).n.length
 have l2:(K_ tnC (growL valE ((u.m.getD mo default).l.getD bl default).n v ((u.m.getD mo default).l.getD bl default).n.length)).length=((u.m.getD mo default).l.getD bl default).n.length+1:=by rw[S_,l1]
 have l3:((((K_ tnC (growL valE ((u.m.getD mo default).l.getD bl default).n v ((u.m.getD mo default).l.getD bl default).n.length)).length:Nat):Int)-1).toNat=((u.m.getD mo default).l.getD bl default).n.length:=by omega
 have e1:VOK ((u.m.getD mo default).l.getD bl default).n v:=f1.v
 have e2:∀ k,k<((u.m.getD mo default).l.getD bl default).n.length→errL valE ((u.m.getD mo default).l.getD bl default).n v k=0:=f1.e
 have hcl:=g.ok.cl
 have f7':∀ v∈((u.m.getD mo default).l.getD bl default).w,In8 v:=f7
 have f8':∀ v∈((u.m.getD mo default).l.getD bl default).b,In32 v:=f8
 have f9':In32 ((u.m.getD mo default).l.getD bl default).nd:=f9
 have hz:(!((u.m.getD mo default).l.getD bl default).ex)=true:=by rw[he];rfl
 have f10':((u.m.getD mo default).l.getD bl default).n.length≤8:=f10
 have oz0:=@hr
 have oz1:=z2_
 have oz2:=@wcost_v (u) (mo) (bl) g hm hl
 have oz3:=(i6n (1099511627776-blockC ((u.m.getD mo default).l.getD bl default) (inS (u.m.getD mo default).l u.inp bl) u.cl) (by omega))
 have oz6:=(map_at (mdlC) (default) (l:=u.m) (i:=mo) hm)
 have oz8:=(map_at (blcC) (default) (l:=(u.m.getD mo default).l) (i:=bl) hl)
 have oz9:=@rvals_y (((u.m.getD mo default).l.getD bl default).n) (v) e1 rv e2
 have oz11:=(i6n ((↑(K_ tnC (growL valE ((u.m.getD mo default).l.getD bl default).n v ((u.m.getD mo default).l.getD bl default).n.length)).length:Int)-1) (by omega))
 have oz13:=(map_at (tnC) (default) (l:=growL valE ((u.m.getD mo default).l.getD bl default).n v ((u.m.getD mo default).l.getD bl default).n.length) (i:=((↑(K_ tnC (growL valE ((u.m.getD mo default).l.getD bl default).n v ((u.m.getD mo default).l.getD bl default).n.length)).length:Int)-1).toNat) (by omega))
 have oz15:=(i6n (sp+blockC ((u.m.getD mo default).l.getD bl default) (inS (u.m.getD mo default).l u.inp bl) u.cl) (by omega))
 exact (cR_ [r_,.r [] [cr oz0],d_,.r [] [cr oz2],.r [] [.n (nO oz3)],d_,.r [] [.row (sO oz6)],.r [] [.row (sO oz8)],.r [] [cr oz9],r_,d_,.r [] [.n (nO oz11),.row (sO oz13)],.r [] [.n ((↑bl:Int)+1),.n (nO oz15)],r_,b_,.r [] [.n ((↑mo:Int)+1),.n (nO oz15)],r_,b_,r_] (AV.tup [AV.agg [i64 ((↑mo:Int)+1),i64 0,i64 (sp+blockC ((u.m.getD mo default).l.getD bl default) (inS (u.m.getD mo default).l u.inp bl) u.cl),i64 x.h,i64 x.x,i64 x.c,AV.sl 1 (K_ (row1 .i8) x.d),i64 x.h,i64 x.x,i64 x.c,AV.sl 1 (K_ (row1 .i8) x.d)],AV.agg [i64 0,i64 0,AV.lit (AY_ none 0 0),bv false],bv false,i64 0]) Tryz.func50 (.c8 oz0 oz1 oz2 oz3 (decide_eq_false (p:=(sp>1099511627776-blockC ((u.m.getD mo default).l.getD bl default) (inS (u.m.getD mo default).l u.inp bl) u.cl)) (by omega)) (s_ (0≤(↑mo:Int))) oz6 (s_ (0≤(↑bl:Int)))<|.c8 oz8 oz9 oz1 oz11 (s_ (0≤(↑(K_ tnC (growL valE ((u.m.getD mo default).l.getD bl default).n v ((u.m.getD mo default).l.getD bl default).n.length)).length:Int)-1)) oz13 (i6n ((↑bl:Int)+1) (by omega)) oz15<|.d4 (show ((↑bl:Int)+1==((K_ blcC (u.m.getD mo default).l).length:Int))=true by (refine decide_eq_true ?_;omega)) (i6n ((↑mo:Int)+1) (by omega)) oz15 hz)).weak (Y_ _) (AS_ (.cons (AV_ (.cons (M_ (by omega)) (.cons (M_ (by omega)) (.cons (M_ (by rfl)) (.cons (.refl _) (.cons (.refl _) (.cons (.refl _) (.cons (.refl _) (.cons (.refl _) (.cons (.refl _) (.cons (.refl _) (.cons (.refl _) .nil)))))))))))) (.cons (.refl _) (.cons (.refl _) (.cons (.refl _) .nil)))))
abbrev exAt (u:Bun) (mo bl:Nat):Bool:=(blkAt u mo bl).ex
def vA (u:Bun) (mo bl:Nat) (v:Ten):Int:=if exAt u mo bl=true then (bestE (logL (outAt u mo bl v) (blkAt u mo bl).w (blkAt u mo bl).b):Nat) else 0
def vM (u:Bun) (mo bl:Nat) (v:Ten):Int:=if exAt u mo bl=true then marE (logL (outAt u mo bl v) (blkAt u mo bl).w (blkAt u mo bl).b) else 0
def vL (u:Bun) (mo bl:Nat) (v:Ten):List Int:=if exAt u mo bl=true then logL (outAt u mo bl v) (blkAt u mo bl).w (blkAt u mo bl).b else []
def vE (u:Bun) (mo bl:Nat) (v:Ten):Bool:=exAt u mo bl&&decide (marE (logL (outAt u mo bl v) (blkAt u mo bl).w (blkAt u mo bl).b)≥(blkAt u mo bl).nd)
abbrev verQ (u:Bun) (mo bl:Nat) (v:Ten):List AV:=[i64 (vA u mo bl v),i64 (vM u mo bl v),ints .i32 (vL u mo bl v),bv (vE u mo bl v)]
theorem IsAt.right {u:Bun} {mo bl:Nat} {sp:Int} {x v:Ten} (A:IsAt u mo bl sp x v) (h:bl=0→v=x):VC N_ 82 [bun u,poi mo bl sp x v] (bv true):=by
 cases bl with
 | zero=>obtain rfl:=h rfl;exact wright_0 u mo sp v A
 | succ b=>exact wright_b u mo (b+1) sp x v A (by omega)
structure Pnt where
 mo:Nat
 bl:Nat
 sp:Int
 v:Ten
def nxt (u:Bun) (x:Ten) (p:Pnt):Pnt:=if p.bl+1=(u.m.getD p.mo default).l.length then ⟨p.mo+1,0,p.sp+cstAt u p.mo p.bl,x⟩ else ⟨p.mo,p.bl+1,p.sp+cstAt u p.mo p.bl,outAt u p.mo p.bl p.v⟩
abbrev poiP (p:Pnt) (x:Ten):AV:=poi p.mo p.bl p.sp x p.v
theorem zver_w {P:Program} {f:Nat} {a:List AV} {q:AV} (h:VC P f a (.tup [q,zver,bv false,i64 0])):VC P f a (.tup [q,.agg [i64 0,i64 0,ints .i32 [],bv false],bv false,i64 0]) :=
 h.weak (Y_ _) (AS_ (.cons (.refl _) (.cons (AV_ (.cons (.refl _) (.cons (.refl _) (.cons (Weak.nil _) (.cons (.refl _) .nil))))) (.cons (.refl _) (.cons (.refl _) .nil)))))
theorem wstep_v {u:Bun} {x:Ten} (p:Pnt) (A:IsAt u p.mo p.bl p.sp x p.v) (h:p.bl=0→p.v=x):VC N_ 50 [bun u,poiP p x] (.tup [poiP (nxt u x p) x,.agg (verQ u p.mo p.bl p.v),bv (exAt u p.mo p.bl),i64 0]):=by
 have F:=A.step
 have R:=A.right h
 unfold nxt
 by_cases e:p.bl+1=(u.m.getD p.mo default).l.length
 ·rw[i_ e]
  cases q:exAt u p.mo p.bl with
  | true =>
   have:=wstep_ey u p.mo p.bl p.sp x p.v A F e q R
   unfold verQ vA vM vL vE
   rw[i_ q,i_ q,i_ q,q,BN_];exact this
  | false =>
   have:=zver_w (wstep_en u p.mo p.bl p.sp x p.v A F e q R)
   unfold verQ vA vM vL vE
   rw[j_ (by rw[q];simp),j_ (by rw[q];simp),j_ (by rw[q];simp),q,AD_];exact this
 ·rw[j_ e]
  have e:p.bl+1<(u.m.getD p.mo default).l.length:=by have:=A.b;omega
  cases q:exAt u p.mo p.bl with
  | true =>
   have:=wstep_my u p.mo p.bl p.sp x p.v A F e q R
   unfold verQ vA vM vL vE
   rw[i_ q,i_ q,i_ q,q,BN_];exact this
  | false =>
   have:=zver_w (wstep_mn u p.mo p.bl p.sp x p.v A F e q R)
   unfold verQ vA vM vL vE
   rw[j_ (by rw[q];simp),j_ (by rw[q];simp),j_ (by rw[q];simp),q,AD_];exact this
def stp (u:Bun):Nat→Nat
 | 0=>0
 | k+1=>stp u k+(u.m.getD k default).l.length
theorem stp_le {u:Bun} (sm:u.Sm):∀ k,k≤u.m.length→stp u k≤8*k
 | 0,_=>AT_ _
 | k+1,h=>by
  have:=stp_le sm k (by omega)
  have:=(getD_in sm.m (s_ (k<u.m.length))).1
  rw[stp];omega
noncomputable def steps_l_I (u:Bun) (k:Nat):VS:=stt 22 [(1,.ptr 1 0 0),(3,i64 (stp u k:Nat)),(4,i64 k)] [(1,.var (bunC u))]
noncomputable def steps_l_Z (u:Bun):VS:=steps_l_I u (u.m.length)
theorem steps_l_s (u:Bun) (sm:u.Sm) (k:Nat) (hk:k<u.m.length):VT N_ (fnC Tryz.f49 [1,1,0,1,0,0]) (steps_l_I u k) .normal (steps_l_I u (k+1)):=by
 have q1:=stp_le sm k (Nat.le_of_lt hk)
 have q2:=sm.l
 have q3:=(getD_in sm.m hk).1
 have q4:((u.m.getD k default).l.map blcC).length=(u.m.getD k default).l.length:=S_ _
 have oz2:=(map_at (mdlC) (default) (l:=u.m) (i:=k) hk)
 have oz3:=(i6n ((↑(stp u k):Int)+((K_ blcC (u.m.getD k default).l).length:Int)) (by omega))
 have oz5:=(M_ (k:=.i64) (show (((↑(stp u k):Int)+((K_ blcC (u.m.getD k default).l).length:Int)):Int)=((↑(stp u (k+1)):Int)) from (by (rw[stp];omega))))
 exact tR_ [r_,b_,.r [] [.row (sO oz2),.n (nO oz3)],.r [] [.n ((↑k:Int)+1)]] [.any (rg [(5,16)]),.weak 3 (wO oz5),.weak 4 (i64 (↑(k+1):Int)),.sort] (.d7 (show decide ((↑k:Int)<((K_ mdlC u.m).length:Int))=true by (simp;omega)) (s_ (0≤(↑k:Int))) oz2 oz3 (i6n ((↑k:Int)+1) (by omega)) oz5 (wS_ k))
theorem steps_l_e (u:Bun) (sm:u.Sm):VT N_ (fnC Tryz.f49 [1,1,0,1,0,0]) (steps_l_I u (u.m.length)) (.exit 0) (steps_l_Z u):=by
 exact tR_ [r_,d_] [.any (rg [(5,5)]),.sort] (.d (show decide ((u.m.length:Int)<((K_ mdlC u.m).length:Int))=false by (simp;done)))
theorem steps_l (u:Bun) (sm:u.Sm):VT N_ (fnC Tryz.f49 [1,1,0,1,0]) (steps_l_I u 0) (.exit 0) (steps_l_Z u) :=
 VT.loop (fun k=>steps_l_I u k) (u.m.length) (fun k hk=>steps_l_s u sm k hk) (steps_l_e u sm) (by intro h;cases h)
theorem steps36_v (u:Bun) (sm:u.Sm):VC N_ 49 ([bun u]) (i64 (stp u u.m.length:Nat)):=by
 have q2:=sm.l
 have oz2:=@steps_l (u) sm
 exact cR_ [r_,r_,r_,.code [.any [0,2],.weak 3 (i64 (↑(stp u 0):Int)),.weak 4 (i64 (↑0:Int)),.sort] (AA_ 0) (zO oz2),r_] _ Tryz.func49 (.d3 (M_ (k:=.i64) (show ((0):Int)=((↑(stp u 0):Int)) from (by rfl))) w0_ oz2)
def pnt (u:Bun) (x:Ten):Nat→Pnt
 | 0=>⟨0,0,0,x⟩
 | k+1=>nxt u x (pnt u x k)
def Bun.Full (u:Bun):Prop:=∀ j,j<u.m.length→0<(u.m.getD j default).l.length
structure PInv (u:Bun) (x:Ten) (k:Nat) (p:Pnt):Prop where
 e:k=stp u p.mo+p.bl
 l:p.mo≤u.m.length
 b:p.mo<u.m.length→p.bl<(u.m.getD p.mo default).l.length
 z:p.mo=u.m.length→p.bl=0
 s0:0≤p.sp
 s1:p.sp≤300000000*k
 v0:p.bl=0→p.v=x
 ok:p.v.Ok
 r:tenRight p.v=true
 s:p.mo<u.m.length→p.v.sh=inS (u.m.getD p.mo default).l u.inp p.bl
theorem pinv {u:Bun} {x:Ten} (g:u.Go) (fu:u.Full) (ok:x.Ok) (r:tenRight x=true) (s:x.sh=u.inp) (h1:0<u.m.length):∀ k,k≤stp u u.m.length→PInv u x k (pnt u x k):=by
 intro k
 induction k with
 | zero=>intro _;exact ⟨rfl,Nat.zero_le _,fun h=>fu 0 h,fun h=>rfl,Int.le_refl _,by simp[pnt],fun _=>rfl,ok,r,fun _=>s⟩
 | succ k ih =>
  intro hk
  have I:=ih (by omega)
  have km:=stp_le g.sm u.m.length (AT_ _)
  have hl:=g.sm.l
  have hm:(pnt u x k).mo<u.m.length:=by
   apply cbc;intro q
   have e:(pnt u x k).mo=u.m.length:=by have:=I.l;omega
   have:=I.e
   rw[e,I.z e] at this;omega
  have A:IsAt u (pnt u x k).mo (pnt u x k).bl (pnt u x k).sp x (pnt u x k).v:=⟨g,hm,I.b hm,ok,r,s,I.s0,by have:=I.s1;omega,I.ok,I.r,I.s hm⟩
  have F:=A.step
  have c0:=F.c0;have c1:=F.c1
  have e:=I.e;have s0:=I.s0;have s1:=I.s1
  show PInv u x (k+1) (nxt u x (pnt u x k))
  unfold nxt
  split
  ·rename_i q
   refine ⟨?_,by dsimp only;omega,fun h=>fu _ h,fun _=>rfl,by dsimp only;omega,by dsimp only;omega,fun _=>rfl,ok,r,fun _=>s⟩
   dsimp only;rw[stp];omega
  ·rename_i q
   have hb:=I.b hm
   refine ⟨by dsimp only;omega,by dsimp only;omega,fun _=>by dsimp only;omega,fun h=>by dsimp only at h;omega,by dsimp only;omega,by dsimp only;omega,fun h=>by dsimp only at h;omega,F.ok,F.r,fun _=>F.s⟩
theorem PInv.at {u:Bun} {x:Ten} (g:u.Go) (ok:x.Ok) (r:tenRight x=true) (s:x.sh=u.inp) {k:Nat} {p:Pnt} (I:PInv u x k p) (hk:k<stp u u.m.length):IsAt u p.mo p.bl p.sp x p.v:=by
 have km:=stp_le g.sm u.m.length (AT_ _)
 have hl:=g.sm.l
 have hm:p.mo<u.m.length:=by
  apply cbc;intro q
  have e:p.mo=u.m.length:=by have:=I.l;omega
  have:=I.e
  rw[e,I.z e] at this;omega
 exact ⟨g,hm,I.b hm,ok,r,s,I.s0,by have:=I.s1;omega,I.ok,I.r,I.s hm⟩
def exI (u:Bun) (x:Ten):Nat→List Nat
 | 0=>[]
 | k+1=>if exAt u (pnt u x k).mo (pnt u x k).bl=true then exI u x k++[k] else exI u x k
def exR (u:Bun) (x:Ten) (k:Nat):List AV:=[i64 (pnt u x k).mo,i64 (pnt u x k).bl,i64 ((k:Int)+1),i64 (pnt u x (k+1)).sp]++verQ u (pnt u x k).mo (pnt u x k).bl (pnt u x k).v
theorem exI_len (u:Bun) (x:Ten):∀ k,(exI u x k).length≤k
 | 0=>AT_ _
 | k+1=>by
  have:=exI_len u x k
  rw[exI];split
  ·rw[AX_,List.length_singleton];omega
  ·omega
noncomputable def all38_l_I (u:Bun) (x:Ten) (k:Nat):VS:=stt 56 [(2,.ptr 2 0 0),(6,.ptr 6 0 0),(7,.own 900),(8,i64 k)] [(2,.var (bunC u)),(6,.var [i64 (pnt u x k).mo,i64 (pnt u x k).bl,i64 (pnt u x k).sp,i64 x.h,i64 x.x,i64 x.c,ints .i8 x.d,i64 (pnt u x k).v.h,i64 (pnt u x k).v.x,i64 (pnt u x k).v.c,ints .i8 (pnt u x k).v.d]),(900,.slc 73 8 ((exI u x k).map (exR u x)))]
noncomputable def all38_l_Z (u:Bun) (x:Ten):VS:=all38_l_I u x (stp u u.m.length)
theorem all38_l_s (u:Bun) (x:Ten) (sm:u.Sm) (hS:∀ k,k<stp u u.m.length→VC N_ 50 [bun u,poiP (pnt u x k) x] (.tup [poiP (pnt u x (k+1)) x,.agg (verQ u (pnt u x k).mo (pnt u x k).bl (pnt u x k).v),bv (exAt u (pnt u x k).mo (pnt u x k).bl),i64 0])) (hn:stp u u.m.length≤100) (k:Nat) (hk:k<stp u u.m.length):VT N_ (fnC Tryz.f20 [1,1,1,1,0,1,0,0]) (all38_l_I u x k) .normal (all38_l_I u x (k+1)):=by
 have q:=hS k hk
 have q1:=exI_len u x k
 have oz0:=@steps36_v (u) sm
 have oz1:=(decide_eq_true (p:=((↑k:Int)<(↑(stp u u.m.length):Int))) (by omega))
 have oz2:=@hS (k) hk
 rcases bft (exAt u (pnt u x k).mo (pnt u x k).bl) with hc0|hc0
 ·have gc0:exAt u (pnt u x k).mo (pnt u x k).bl=true:=by first|exact hc0|exact of_decide_eq_true hc0|exact of_decide_eq_false hc0|simpa [eqNums] using hc0|(simp[eqNums] at hc0 ⊢;first|done|assumption|omega)
  have oz4:=(i6n ((↑k:Int)+1) (by omega))
  exact tR_ [.r [] [cr oz0],b_,.r [] [cr oz2],r_,b_,.r [] [.n (nO oz4)],r_,.r [] [.n (nO oz4)]] [.any (rg [(9,4),(26,29)]),.drop [9,10,52],.ren 53 900,.weak 8 (i64 (↑(k+1):Int)),.blk 900 (Blk.slc 73 8 (K_ (exR u x) (exI u x (k+1)))),.sort] (.c8 oz0 oz1 oz2 hc0 oz4 (show ((K_ (exR u x) (exI u x k)).length+1)*80≤140737488355328 by (simp;omega)) (show (K_ (exR u x) (exI u x k)).length+1≤9223372036854775807 by (simp;omega)) oz4<|.d2 (wS_ k) (show BlkW (Blk.slc 73 8 (K_ (exR u x) (exI u x k)++[[i64 (↑(pnt u x k).mo:Int),i64 (↑(pnt u x k).bl:Int),i64 ((↑k:Int)+1),i64 (pnt u x (k+1)).sp,i64 (vA u (pnt u x k).mo (pnt u x k).bl (pnt u x k).v),i64 (vM u (pnt u x k).mo (pnt u x k).bl (pnt u x k).v),AV.sl 1 (K_ (row1 .i32) (vL u (pnt u x k).mo (pnt u x k).bl (pnt u x k).v)),bv (vE u (pnt u x k).mo (pnt u x k).bl (pnt u x k).v)]])) (Blk.slc 73 8 (K_ (exR u x) (exI u x (k+1)))) from (BU_ (e:=73) (z:=8) (rows_to (exR u x) (r:=K_ (exR u x) (exI u x k)++[[i64 (↑(pnt u x k).mo:Int),i64 (↑(pnt u x k).bl:Int),i64 ((↑k:Int)+1),i64 (pnt u x (k+1)).sp,i64 (vA u (pnt u x k).mo (pnt u x k).bl (pnt u x k).v),i64 (vM u (pnt u x k).mo (pnt u x k).bl (pnt u x k).v),AV.sl 1 (K_ (row1 .i32) (vL u (pnt u x k).mo (pnt u x k).bl (pnt u x k).v)),bv (vE u (pnt u x k).mo (pnt u x k).bl (pnt u x k).v)]]) (l:=exI u x k++[k]) (m:=exI u x (k+1)) (by first|(simp only[C_,D_,AM_,AN_,A_,AK_,AL_];done)|rfl|(simp only[C_,D_,AM_,AN_,A_,AK_,AL_];rfl)) (show (exI u x k++[k])=(exI u x (k+1)) from (by (rw[exI,i_ (by assumption)])))))))
 ·have gc0:exAt u (pnt u x k).mo (pnt u x k).bl=false:=by first|exact hc0|exact of_decide_eq_true hc0|exact of_decide_eq_false hc0|simpa [eqNums] using hc0|(simp[eqNums] at hc0 ⊢;first|done|assumption|omega)
  exact tR_ [.r [] [cr oz0],b_,.r [] [cr oz2],r_,d_,r_,.r [] [.n ((↑k:Int)+1)]] [.any (rg [(9,4),(26,15),(54,1)]),.drop [9,10],.weak 8 (i64 (↑(k+1):Int)),.blk 900 (Blk.slc 73 8 (K_ (exR u x) (exI u x (k+1)))),.sort] (.d7 oz0 oz1 oz2 hc0 (i6n ((↑k:Int)+1) (by omega)) (wS_ k) (show BlkW (Blk.slc 73 8 (K_ (exR u x) (exI u x k))) (Blk.slc 73 8 (K_ (exR u x) (exI u x (k+1)))) from (BU_ (e:=73) (z:=8) (rows_to (exR u x) (r:=K_ (exR u x) (exI u x k)) (l:=exI u x k) (m:=exI u x (k+1)) rfl (show (exI u x k)=(exI u x (k+1)) from (by (rw[exI,j_ (by simp_all)])))))))
theorem all38_l_e (u:Bun) (x:Ten) (sm:u.Sm) (hS:∀ k,k<stp u u.m.length→VC N_ 50 [bun u,poiP (pnt u x k) x] (.tup [poiP (pnt u x (k+1)) x,.agg (verQ u (pnt u x k).mo (pnt u x k).bl (pnt u x k).v),bv (exAt u (pnt u x k).mo (pnt u x k).bl),i64 0])) (hn:stp u u.m.length≤100):VT N_ (fnC Tryz.f20 [1,1,1,1,0,1,0,0]) (all38_l_I u x (stp u u.m.length)) (.exit 0) (all38_l_Z u x):=by
 have oz0:=@steps36_v (u) sm
 exact tR_ [.r [] [cr oz0],d_] [.any (rg [(26,4)]),.sort] (.d2 oz0 (decide_eq_false (p:=((↑(stp u u.m.length):Int)<(↑(stp u u.m.length):Int))) (by omega)))
theorem all38_l (u:Bun) (x:Ten) (sm:u.Sm) (hS:∀ k,k<stp u u.m.length→VC N_ 50 [bun u,poiP (pnt u x k) x] (.tup [poiP (pnt u x (k+1)) x,.agg (verQ u (pnt u x k).mo (pnt u x k).bl (pnt u x k).v),bv (exAt u (pnt u x k).mo (pnt u x k).bl),i64 0])) (hn:stp u u.m.length≤100):VT N_ (fnC Tryz.f20 [1,1,1,1,0,1,0]) (all38_l_I u x 0) (.exit 0) (all38_l_Z u x) :=
 VT.loop (fun k=>all38_l_I u x k) (stp u u.m.length) (fun k hk=>all38_l_s u x sm hS hn k hk) (all38_l_e u x sm hS hn) (by intro h;cases h)
theorem all38_y (u:Bun) (x:Ten) (sm:u.Sm) (okx:x.Ok) (r:tenRight x=true) (s:x.sh=u.inp) (hS:∀ k,k<stp u u.m.length→VC N_ 50 [bun u,poiP (pnt u x k) x] (.tup [poiP (pnt u x (k+1)) x,.agg (verQ u (pnt u x k).mo (pnt u x k).bl (pnt u x k).v),bv (exAt u (pnt u x k).mo (pnt u x k).bl),i64 0])) (hn:stp u u.m.length≤100):VC N_ 20 ([bun u,ten .i8 x]) (.tup [.sl 8 ((exI u x (stp u u.m.length)).map (exR u x)),i64 0]):=by
 have e4:eqNums [(L_,x.h,u.h),(L_,x.x,u.x),(L_,x.c,u.c)]=true:=sh_eq (a:=x.sh) (b:=u.inp) s
 have q1:=exI_len u x (stp u u.m.length)
 have oz0:=@refTRight_v (x) okx
 have oz1:=(show BinTo N_ BinOp.neq 23 (Operand.tmp 18) (Operand.tmp 20) (BG_ #[AO_ L_ x.h,AO_ L_ x.x,AO_ L_ x.c]) (BG_ #[AO_ L_ u.h,AO_ L_ u.x,AO_ L_ u.c]) (AI_ !eqNums [(L_,x.h,u.h),(L_,x.x,u.x),(L_,x.c,u.c)]) from ((bin_nums (l:=[(L_,x.h,u.h),(L_,x.x,u.x),(L_,x.c,u.c)]) (by kernel_rfl) (by kernel_rfl) (by kernel_rfl) (by kernel_rfl) _ _).2))
 rcases bft (!tenRight x || !eqNums [(L_,x.h,u.h),(L_,x.x,u.x),(L_,x.c,u.c)]) with hc0|hc0
 ·have gc0:tenRight x=false∨¬(x.h=u.h∧x.x=u.x∧x.c=u.c):=gc0_ hc0
  exact (cR_ [r_,.r [] [cr oz0,o_,o_,o_,o_,o_,.v (AI_ !eqNums [(L_,x.h,u.h),(L_,x.x,u.x),(L_,x.c,u.c)]),.sel 1],b_,r_] (AV.tup [AV.lit (AY_ none 0 0),i64 5]) Tryz.func20 (.d3 oz0 oz1 hc0)).weak (Y_ _) (AS_ (.cons (CJ_ (show []=(K_ (exR u x) (exI u x (stp u u.m.length))) from (by (simp_all;done)))) (.cons (M_ (by (simp_all;done))) .nil)))
 ·have gc0:tenRight x=true∧x.h=u.h∧x.x=u.x∧x.c=u.c:=gc0_ hc0
  have oz5:=@all38_l (u) (x) sm hS hn
  exact cR_ [r_,.r [] [cr oz0,o_,o_,o_,o_,o_,.v (AI_ !eqNums [(L_,x.h,u.h),(L_,x.x,u.x),(L_,x.c,u.c)]),.sel 1],d_,r_,r_,r_,.code [.any (rg [(0,2),(3,3),(13,4),(22,4)]),.drop [3],.weak 8 (i64 (↑0:Int)),.nils 7 900 73 8,.blk 6 (Blk.var [i64 (↑(pnt u x 0).mo:Int),i64 (↑(pnt u x 0).bl:Int),i64 (pnt u x 0).sp,i64 x.h,i64 x.x,i64 x.c,AV.sl 1 (K_ (row1 .i8) x.d),i64 (pnt u x 0).v.h,i64 (pnt u x 0).v.x,i64 (pnt u x 0).v.c,AV.sl 1 (K_ (row1 .i8) (pnt u x 0).v.d)]),.sort] (AA_ 0) (zO oz5),r_] _ Tryz.func20 (.d6 oz0 oz1 hc0 w0_ (show BlkW (Blk.var [i64 0,i64 0,i64 0,i64 x.h,i64 x.x,i64 x.c,AV.sl 1 (K_ (row1 .i8) x.d),i64 x.h,i64 x.x,i64 x.c,AV.sl 1 (K_ (row1 .i8) x.d)]) (Blk.var [i64 (↑(pnt u x 0).mo:Int),i64 (↑(pnt u x 0).bl:Int),i64 (pnt u x 0).sp,i64 x.h,i64 x.x,i64 x.c,AV.sl 1 (K_ (row1 .i8) x.d),i64 (pnt u x 0).v.h,i64 (pnt u x 0).v.x,i64 (pnt u x 0).v.c,AV.sl 1 (K_ (row1 .i8) (pnt u x 0).v.d)]) from (BlkW.var (m:=[i64 (↑(pnt u x 0).mo:Int),i64 (↑(pnt u x 0).bl:Int),i64 (pnt u x 0).sp,i64 x.h,i64 x.x,i64 x.c,AV.sl 1 (K_ (row1 .i8) x.d),i64 (pnt u x 0).v.h,i64 (pnt u x 0).v.x,i64 (pnt u x 0).v.c,AV.sl 1 (K_ (row1 .i8) (pnt u x 0).v.d)]) (.cons (M_ (by rfl)) (.cons (M_ (by rfl)) (.cons (M_ (by rfl)) (.cons (.refl _) (.cons (.refl _) (.cons (.refl _) (.cons (.refl _) (.cons (M_ (by rfl)) (.cons (M_ (by rfl)) (.cons (M_ (by rfl)) (.cons (CM_ (rows_to (row1 .i8) (r:=K_ (row1 .i8) x.d) (l:=x.d) (m:=(pnt u x 0).v.d) rfl (show (x.d)=((pnt u x 0).v.d) from (by rfl)))) .nil))))))))))))) oz5)
theorem sh_ne {a b:Shp} (h:a≠b):eqNums [(L_,a.h,b.h),(L_,a.x,b.x),(L_,a.c,b.c)]=false:=by
 cases q:eqNums [(L_,a.h,b.h),(L_,a.x,b.x),(L_,a.c,b.c)] with
 | false=>rfl
 | true =>
  simp[eqNums] at q
  exact absurd (by obtain ⟨a1,a2,a3⟩:=a;obtain ⟨b1,b2,b3⟩:=b;simp at q;simp[q]) h
theorem all38_n (u:Bun) (x:Ten) (okx:x.Ok) (h:tenRight x=false∨x.sh≠u.inp):VC N_ 20 ([bun u,ten .i8 x]) (.tup [.sl 8 (([]:List Nat).map (exR u x)),i64 5]):=by
 have e4:(!tenRight x || !eqNums [(L_,x.h,u.h),(L_,x.x,u.x),(L_,x.c,u.c)])=true:=by
  rcases h with h|h
  ·rw[h];rfl
  ·rw[sh_ne (a:=x.sh) (b:=u.inp) h];simp
 have oz0:=@refTRight_v (x) okx
 exact (cR_ [r_,.r [] [cr oz0,o_,o_,o_,o_,o_,.v (AI_ !eqNums [(L_,x.h,u.h),(L_,x.x,u.x),(L_,x.c,u.c)]),.sel 1],b_,r_] (AV.tup [AV.lit (AY_ none 0 0),i64 5]) Tryz.func20 (.d3 oz0 (show BinTo N_ BinOp.neq 23 (Operand.tmp 18) (Operand.tmp 20) (BG_ #[AO_ L_ x.h,AO_ L_ x.x,AO_ L_ x.c]) (BG_ #[AO_ L_ u.h,AO_ L_ u.x,AO_ L_ u.c]) (AI_ !eqNums [(L_,x.h,u.h),(L_,x.x,u.x),(L_,x.c,u.c)]) from ((bin_nums (l:=[(L_,x.h,u.h),(L_,x.x,u.x),(L_,x.c,u.c)]) (by kernel_rfl) (by kernel_rfl) (by kernel_rfl) (by kernel_rfl) _ _).2)) e4)).weak (Y_ _) (AS_ (.cons (Weak.nil _) (.cons (.refl _) .nil)))
theorem phead_v (w b:List Int) (nd:Int) (wl:w.length≤100000) (bl:b.length≤100000):VC N_ 43 ([.agg (hedC w b nd)]) (.agg (hedC w b nd)):=by
 have oz0:=@clone8_v (w) (by omega)
 have oz1:=@clone32_v (b) (by omega)
 exact cR_ [r_,.r [] [cr oz0,cr oz1],r_] _ Tryz.func43 (.d2 oz0 oz1)
theorem pbun_x (u:Bun) (ok:u.Ok) (sm:u.Sm) (h:¬ (bunE u).w=0):VC N_ 16 ([bun u]) (.tup [.agg [i64 0,i64 0,i64 0,i64 0,nilv],i64 (bunE u).w]):=by
 have oz0:=@vbundle_v (u) ok sm
 exact cR_ [r_,.r [] [cr oz0],r_,b_,r_] _ Tryz.func16 (.d2 oz0 (show ((bunE u).w != 0)=true by (simp;omega)))
def prM (m:Mdl):Mdl:=⟨m.l.map prB⟩
def prU (u:Bun):Bun:=⟨u.h,u.x,u.c,u.cl,u.m.map prM⟩
def prBk (l:List Blc):Nat→List Blc
 | 0=>[]
 | k+1=>prBk l k++[prB (l.getD k default)]
def prMk (l:List Mdl):Nat→List Mdl
 | 0=>[]
 | k+1=>prMk l k++[⟨prBk (l.getD k default).l (l.getD k default).l.length⟩]
theorem prBk_take (l:List Blc):∀ k,k≤l.length→prBk l k=(l.take k).map prB
 | 0,_=>rfl
 | k+1,h=>by rw[prBk,prBk_take l k (by omega),List.take_succ_eq_append_getElem (by omega),C_,Z_,W_ (by omega)];rfl
theorem prBk_all (l:List Blc):prBk l l.length=l.map prB:=by rw[prBk_take l _ (AT_ _),List.take_length]
theorem prMk_take (l:List Mdl):∀ k,k≤l.length→prMk l k=(l.take k).map prM
 | 0,_=>rfl
 | k+1,h=>by rw[prMk,prMk_take l k (by omega),List.take_succ_eq_append_getElem (by omega),C_,Z_,W_ (by omega),prBk_all];rfl
theorem prMk_all (l:List Mdl):prMk l l.length=l.map prM:=by rw[prMk_take l _ (AT_ _),List.take_length]
theorem prBk_len (l:List Blc):∀ k,(prBk l k).length=k
 | 0=>rfl
 | k+1=>by rw[prBk,AX_,prBk_len l k];rfl
theorem prMk_len (l:List Mdl):∀ k,(prMk l k).length=k
 | 0=>rfl
 | k+1=>by rw[prMk,AX_,prMk_len l k];rfl
noncomputable def pbun_i_I (u:Bun) (l:List Blc) (K:Int) (X:List Mdl) (k:Nat):VS:=stt 61 [(2,.ptr 2 0 0),(5,.ptr 5 0 0),(8,.ptr 8 0 0),(25,.sl 1 (u.m.map mdlC)),(26,i64 u.m.length),(27,i64 K),(32,.sl 5 (l.map blcC)),(33,i64 (l.map blcC).length),(34,i64 k)] [(2,.var [.any,.any,.any,.any,.any]),(5,.var [i64 u.h,i64 u.x,i64 u.c,i64 u.cl,.own 900]),(8,.var [.own 901]),(900,.slc 44 1 (X.map mdlC)),(901,.slc 51 5 ((prBk l k).map blcC))]
noncomputable def pbun_i_Z (u:Bun) (l:List Blc) (K:Int) (X:List Mdl):VS:=pbun_i_I u l K X (l.length)
theorem pbun_i_s (u:Bun) (l:List Blc) (K:Int) (X:List Mdl) (hl:l.length≤8) (sm:∀ x∈l,x.Sm) (k:Nat) (hk:k<l.length):VT N_ (fnC Tryz.f16 [1,1,1,0,1,0,0,1,1,0,0,1,1,0,1,0,0]) (pbun_i_I u l K X k) .normal (pbun_i_I u l K X (k+1)):=by
 have q1:=prBk_len l k
 have q2:=getD_in sm hk
 obtain ⟨q3,q4,q5,q6⟩:=id q2
 have oz2:=(map_at (blcC) (default) (l:=l) (i:=k) hk)
 have oz3:=@pblock_v ((l.getD k default).n) (by omega) q4
 have oz4:=@phead_v ((l.getD k default).w) ((l.getD k default).b) ((l.getD k default).nd) q5 q6
 exact tR_ [r_,b_,.r [] [.row (sO oz2)],.r [] [cr oz3,cr oz4],.r [] [.n ((↑k:Int)+1)]] [.any (rg [(10,1),(35,18)]),.drop [10,49],.ren 50 901,.weak 34 (i64 (↑(k+1):Int)),.blk 901 (Blk.slc 51 5 (K_ blcC (prBk l (k+1)))),.sort] (.c8 (show decide ((↑k:Int)<((K_ blcC l).length:Int))=true by (simp;omega)) (s_ (0≤(↑k:Int))) oz2 oz3 oz4 (show ((K_ blcC (prBk l k)).length+1)*88≤140737488355328 by (simp;omega)) (show (K_ blcC (prBk l k)).length+1≤9223372036854775807 by (simp;omega)) (i6n ((↑k:Int)+1) (by omega))<|.d2 (wS_ k) (show BlkW (Blk.slc 51 5 (K_ blcC (prBk l k)++[[AV.sl 19 (K_ nodC (pruneL (l.getD k default).n)),bv (l.getD k default).ex,AV.sl 1 (K_ (row1 .i8) (l.getD k default).w),AV.sl 1 (K_ (row1 .i32) (l.getD k default).b),i32 (l.getD k default).nd]])) (Blk.slc 51 5 (K_ blcC (prBk l (k+1)))) from (BU_ (e:=51) (z:=5) (rows_to (blcC) (r:=K_ blcC (prBk l k)++[[AV.sl 19 (K_ nodC (pruneL (l.getD k default).n)),bv (l.getD k default).ex,AV.sl 1 (K_ (row1 .i8) (l.getD k default).w),AV.sl 1 (K_ (row1 .i32) (l.getD k default).b),i32 (l.getD k default).nd]]) (l:=prBk l k++[Blc.mk (pruneL (l.getD k default).n) (l.getD k default).ex (l.getD k default).w (l.getD k default).b (l.getD k default).nd]) (m:=prBk l (k+1)) (by first|(simp only[C_,D_,AM_,AN_,A_,AK_,AL_];done)|rfl|(simp only[C_,D_,AM_,AN_,A_,AK_,AL_];rfl)|(simp only[C_,D_,AM_,AN_,A_,AK_,AL_,blcC,ints];done)) (show (prBk l k++[Blc.mk (pruneL (l.getD k default).n) (l.getD k default).ex (l.getD k default).w (l.getD k default).b (l.getD k default).nd])=(prBk l (k+1)) from (by rfl))))))
theorem pbun_i_e (u:Bun) (l:List Blc) (K:Int) (X:List Mdl) (hl:l.length≤8) (sm:∀ x∈l,x.Sm):VT N_ (fnC Tryz.f16 [1,1,1,0,1,0,0,1,1,0,0,1,1,0,1,0,0]) (pbun_i_I u l K X (l.length)) (.exit 2) (pbun_i_Z u l K X):=by
 exact tR_ [r_,d_] [.any [35],.sort] (.d (show decide ((l.length:Int)<((K_ blcC l).length:Int))=false by (simp;done)))
theorem pbun_i (u:Bun) (l:List Blc) (K:Int) (X:List Mdl) (hl:l.length≤8) (sm:∀ x∈l,x.Sm):VT N_ (fnC Tryz.f16 [1,1,1,0,1,0,0,1,1,0,0,1,1,0,1,0]) (pbun_i_I u l K X 0) (.exit 2) (pbun_i_Z u l K X) :=
 VT.loop (fun k=>pbun_i_I u l K X k) (l.length) (fun k hk=>pbun_i_s u l K X hl sm k hk) (pbun_i_e u l K X hl sm) (by intro h;cases h)
noncomputable def pbun_o_I (u:Bun) (k:Nat):VS:=stt 61 [(2,.ptr 2 0 0),(5,.ptr 5 0 0),(25,.sl 1 (u.m.map mdlC)),(26,i64 u.m.length),(27,i64 k)] [(2,.var [.any,.any,.any,.any,.any]),(5,.var [i64 u.h,i64 u.x,i64 u.c,i64 u.cl,.own 900]),(900,.slc 44 1 ((prMk u.m k).map mdlC))]
noncomputable def pbun_o_Z (u:Bun):VS:=pbun_o_I u (u.m.length)
theorem pbun_o_s (u:Bun) (sm:u.Sm) (k:Nat) (hk:k<u.m.length):VT N_ (fnC Tryz.f16 [1,1,1,0,1,0,0]) (pbun_o_I u k) .normal (pbun_o_I u (k+1)):=by
 have q1:=prMk_len u.m k
 have q2:=sm.l
 have q3:=(getD_in sm.m hk).1
 have q4:=(getD_in sm.m hk).2
 have oz2:=(map_at (mdlC) (default) (l:=u.m) (i:=k) hk)
 have oz4:=@pbun_i (u) ((u.m.getD k default).l) ((↑k:Int)) (prMk u.m k) q3 q4
 exact tR_ [r_,b_,.r [] [.row (sO oz2)],r_,r_,.code [.any [7,28,29,30,31],.drop [7],.weak 34 (i64 (↑0:Int)),.nilc 901 51 5 8 0,.sort] (AA_ 2) (zO oz4),.r [.frz 901] [],.r [] [.n ((↑k:Int)+1)]] [.any (rg [(8,1),(32,3),(53,7)]),.drop [8,56],.ren 57 900,.weak 27 (i64 (↑(k+1):Int)),.blk 900 (Blk.slc 44 1 (K_ mdlC (prMk u.m (k+1)))),.sort] (.c8 (decide_eq_true (p:=((↑k:Int)<(u.m.length:Int))) (by omega)) (s_ (0≤(↑k:Int))) oz2 w0_ oz4 (show ((K_ mdlC (prMk u.m k)).length+1)*24≤140737488355328 by (simp;omega)) (show (K_ mdlC (prMk u.m k)).length+1≤9223372036854775807 by (simp;omega)) (i6n ((↑k:Int)+1) (by omega))<|.d2 (wS_ k) (show BlkW (Blk.slc 44 1 (K_ mdlC (prMk u.m k)++[[AV.sl 5 (K_ blcC (prBk (u.m.getD k default).l (u.m.getD k default).l.length))]])) (Blk.slc 44 1 (K_ mdlC (prMk u.m (k+1)))) from (BU_ (e:=44) (z:=1) (rows_to (mdlC) (r:=K_ mdlC (prMk u.m k)++[[AV.sl 5 (K_ blcC (prBk (u.m.getD k default).l (u.m.getD k default).l.length))]]) (l:=prMk u.m k++[Mdl.mk (prBk (u.m.getD k default).l (u.m.getD k default).l.length)]) (m:=prMk u.m (k+1)) (by first|(simp only[C_,D_,AM_,AN_,A_,AK_,AL_];done)|rfl|(simp only[C_,D_,AM_,AN_,A_,AK_,AL_];rfl)|(simp only[C_,D_,AM_,AN_,A_,AK_,AL_,mdlC,ints];done)) (show (prMk u.m k++[Mdl.mk (prBk (u.m.getD k default).l (u.m.getD k default).l.length)])=(prMk u.m (k+1)) from (by rfl))))))
theorem pbun_o_e (u:Bun) (sm:u.Sm):VT N_ (fnC Tryz.f16 [1,1,1,0,1,0,0]) (pbun_o_I u (u.m.length)) (.exit 0) (pbun_o_Z u):=by
 exact tR_ [r_,d_] [.any [28],.sort] (.d (decide_eq_false (p:=((u.m.length:Int)<(u.m.length:Int))) (by omega)))
theorem pbun_o (u:Bun) (sm:u.Sm):VT N_ (fnC Tryz.f16 [1,1,1,0,1,0]) (pbun_o_I u 0) (.exit 0) (pbun_o_Z u) :=
 VT.loop (fun k=>pbun_o_I u k) (u.m.length) (fun k hk=>pbun_o_s u sm k hk) (pbun_o_e u sm) (by intro h;cases h)
theorem pbun_k (u:Bun) (ok:u.Ok) (sm:u.Sm) (h:(bunE u).w=0):VC N_ 16 ([bun u]) (.tup [bun ⟨u.h,u.x,u.c,u.cl,prMk u.m u.m.length⟩,i64 0]):=by
 have q2:=sm.l
 have q1:=prMk_len u.m u.m.length
 have oz0:=@vbundle_v (u) ok sm
 have oz5:=@pbun_o (u) sm
 exact cR_ [r_,.r [] [cr oz0],r_,d_,r_,r_,.code [.any (rg [(0,2),(3,2),(11,5),(19,6)]),.drop [1,4],.weak 26 (i64 (u.m.length:Int)),.weak 27 (i64 (↑0:Int)),.nilc 900 44 1 5 4,.blk 2 (Blk.var [AV.any,AV.any,AV.any,AV.any,AV.any]),.sort] (AA_ 0) (zO oz5),r_] _ Tryz.func16 (.d6 oz0 (show ((bunE u).w != 0)=false by (simp;omega)) (M_ (k:=.i64) (show ((((K_ mdlC u.m).length:Int)):Int)=((u.m.length:Int)) from (by (simp;done)))) w0_ (show BlkW (Blk.var [i64 (0:Int),i64 (0:Int),i64 (0:Int),i64 (0:Int),AV.lit (AY_ none (0:Nat) (0:Nat))]) (Blk.var [AV.any,AV.any,AV.any,AV.any,AV.any]) from (BlkW.var (m:=[AV.any,AV.any,AV.any,AV.any,AV.any]) (.cons (Weak.any _) (.cons (Weak.any _) (.cons (Weak.any _) (.cons (Weak.any _) (.cons (Weak.any _) .nil))))))) oz5)
theorem pbun_y (u:Bun) (ok:u.Ok) (sm:u.Sm) (h:(bunE u).w=0):VC N_ 16 [bun u] (.tup [bun (prU u),i64 0]):=by
 have:=pbun_k u ok sm h
 rw[prMk_all] at this;exact this
theorem right_models {u:Bun} (h:(bunE u).w=0):wholeE u=0∧∀ j,j<u.m.length→mE u j=⟨0,0,0,0⟩:=by
 rcases bunE_cases u with g|g|⟨w,m,h1,h2,h3⟩
 ·have e:bunE u=⟨wholeE u,-1,-1,-1⟩:=i_ g
  rw[e] at h;exact absurd h g
 ·exact g
 ·rw[bunE_m w h1 h2 h3] at h;exact absurd h h2
theorem exitE_last {x:Blc} {out:Shp} {r:Rng} {cl:Int} {last:Bool} (h:exitE x out r cl last=0):exitE x out r cl true=if x.ex=true then 0 else 11:=by
 unfold exitE at h ⊢
 cases hx:x.ex with
 | false=>rw[i_ ⟨rfl,.inl rfl⟩];simp
 | true =>
  rw[hx] at h
  rw[j_ (by simp),j_ (by simp)] at h ⊢
  rw[i_ rfl];exact h
theorem map_at' {α β:Type} [Inhabited α] [Inhabited β] (f:α→β) {l:List α} {k:Nat} (h:k<l.length):(l.map f).getD k default=f (l.getD k default):=by
 rw[Z_,AR_,Z_,W_ h];rfl
def LV (l:List Blc) (a:Shp) (cl:Int):Prop:=∀ k,k<l.length→(vB l a cl k).2=0
theorem inS_prune {l:List Blc} {a:Shp} {cl:Int} (h:LV l a cl):∀ k,k≤l.length→inS (l.map prB) a k=inS l a k:=by
 intro k
 induction k with
 | zero=>intro _;rfl
 | succ k ih =>
  intro hk
  rw[inS,inS,ih (by omega),map_at' prB (s_ (k<l.length))]
  exact (valid_prune (h k (by omega))).2
theorem LV.prune {l:List Blc} {a:Shp} {cl:Int} (h:LV l a cl):LV (l.map prB) a cl:=by
 intro k hk
 rw[S_] at hk
 have q:=(valid_prune (h k hk)).1
 unfold vB
 rw[inS_prune h k (by omega),map_at' prB hk,S_,S_]
 rw[S_] at q
 exact q
theorem prB_ok {x:Blc} (o:orderedB x.n=true) (f:x.n.length≤1000) (h:x.Ok):(prB x).Ok:=⟨ok_prune o f h.n,h.w,h.b,h.nd⟩
theorem prB_sm {x:Blc} (h:x.Sm):(prB x).Sm:=⟨Nat.le_trans (pruneL_le _) h.l,pruneL_w h.s,h.w,h.b⟩
theorem exitC_prune {x:Blc} {a:Shp} {cl:Int} (s:SOK x.n a):exitC (prB x) a cl=exitC x a cl:=by
 unfold exitC
 show (if x.ex=true then min (max cl 0) 16*(elems (lastS (pruneL x.n) a).h (lastS (pruneL x.n) a).x (lastS (pruneL x.n) a).c+1) else 0)=_
 rw[(sok_prune s).2]
theorem blockC_prune {x:Blc} {a:Shp} {cl:Int} (s:SOK x.n a):blockC (prB x) a cl≤blockC x a cl:=by
 have:=cost_prune s
 unfold blockC
 rw[exitC_prune s]
 show costL (pruneL x.n) (shpsL (pruneL x.n) a) (pruneL x.n).length+_≤_
 omega
structure Bun.May (u:Bun):Prop where
 ok:u.Ok
 sm:u.Sm
 w:(bunE u).w=0
theorem Bun.May.lv {u:Bun} (h:u.May) {j:Nat} (hj:j<u.m.length):0<(u.m.getD j default).l.length∧(u.m.getD j default).l.length≤6∧LV (u.m.getD j default).l u.inp u.cl:=by
 obtain ⟨_,hm⟩:=right_models h.w
 obtain ⟨a,b,c⟩:=modelE_ok (hm j hj)
 exact ⟨by omega,b,c⟩
theorem Bun.May.go {u:Bun} (h:u.May):u.Go∧u.Full:=⟨⟨h.ok,h.sm,fun j hj k hk=>validE_ok ((h.lv hj).2.2 k hk),fun j hj=>(h.lv hj).2.2⟩,fun j hj=>(h.lv hj).1⟩
theorem prM_at (u:Bun) {j:Nat} (h:j<u.m.length):((prU u).m.getD j default).l=(u.m.getD j default).l.map prB:=by
 show ((u.m.map prM).getD j default).l=_
 rw[map_at' prM h];rfl
theorem Bun.May.prune {u:Bun} (h:u.May):(prU u).May:=by
 have g:=h.go.1
 have lm:(prU u).m.length=u.m.length:=S_ _
 refine ⟨⟨h.ok.h,h.ok.x,h.ok.c,h.ok.cl,fun d hd=>?_⟩,⟨by rw[lm];exact h.sm.l,fun d hd=>?_⟩,?_⟩
 ·obtain ⟨m,hm,rfl⟩:=List.mem_map.1 hd
  refine ⟨fun y hy=>?_⟩
  obtain ⟨x,hx,rfl⟩:=List.mem_map.1 hy
  obtain ⟨j,hj,ej⟩:=List.mem_iff_getElem.1 hm
  obtain ⟨k,hk,ek⟩:=List.mem_iff_getElem.1 hx
  have e1:u.m.getD j default=m:=by rw[Z_,W_ hj,ej];rfl
  have e2:m.l.getD k default=x:=by rw[Z_,W_ hk,ek];rfl
  have s:=g.s j hj k (by rw[e1];exact hk)
  rw[e1,e2] at s
  exact prB_ok s.o (by have:=s.f;omega) ((h.ok.m m hm).l x hx)
 ·obtain ⟨m,hm,rfl⟩:=List.mem_map.1 hd
  refine ⟨by show (m.l.map prB).length≤8;rw[S_];exact (h.sm.m m hm).1,fun y hy=>?_⟩
  obtain ⟨x,hx,rfl⟩:=List.mem_map.1 hy
  exact prB_sm ((h.sm.m m hm).2 x hx)
 ·obtain ⟨w,_⟩:=right_models h.w
  have w2:wholeE (prU u)=0:=by
   unfold wholeE at w ⊢
   rw[lm];exact w
  rw[bunE_y w2 fun j hj=>?_]
  rw[lm] at hj
  obtain ⟨l0,l6,lv⟩:=h.lv hj
  unfold mE
  rw[prM_at u hj]
  refine modelE_y (by rw[S_];omega) (by rw[S_];omega) fun k hk=>lv.prune k hk
theorem stp_prune (u:Bun):∀ k,k≤u.m.length→stp (prU u) k=stp u k
 | 0,_=>rfl
 | k+1,h=>by rw[stp,stp,stp_prune u k (by omega),prM_at u (by omega),S_]
theorem blkAt_prune {u:Bun} {mo bl:Nat} (hm:mo<u.m.length) (hb:bl<(u.m.getD mo default).l.length):blkAt (prU u) mo bl=prB (blkAt u mo bl):=by
 unfold blkAt
 rw[prM_at u hm,map_at' prB hb]
theorem outAt_prune {u:Bun} {mo bl:Nat} {v:Ten} (hm:mo<u.m.length) (hb:bl<(u.m.getD mo default).l.length) (F:StepF u mo bl v):outAt (prU u) mo bl v=outAt u mo bl v:=by
 unfold outAt
 rw[blkAt_prune hm hb]
 exact F.vals.left.2
structure PEq (p q:Pnt):Prop where
 mo:p.mo=q.mo
 bl:p.bl=q.bl
 v:p.v=q.v
theorem pnt_prune {u:Bun} (h:u.May) {x:Ten} (ok:x.Ok) (r:tenRight x=true) (s:x.sh=u.inp) (h1:0<u.m.length):∀ k,k≤stp u u.m.length→PEq (pnt (prU u) x k) (pnt u x k):=by
 intro k
 induction k with
 | zero=>intro _;exact ⟨rfl,rfl,rfl⟩
 | succ k ih =>
  intro hk
  obtain ⟨g,fu⟩:=h.go
  have I:=pinv g fu ok r s h1 k (by omega)
  have A:=I.at g ok r s (by omega)
  have F:=A.step
  obtain ⟨i1,i2,i3⟩:=ih (by omega)
  show PEq (nxt (prU u) x (pnt (prU u) x k)) (nxt u x (pnt u x k))
  unfold nxt
  rw[i1,i2,prM_at u A.m,S_]
  split
  ·exact ⟨rfl,rfl,rfl⟩
  ·refine ⟨rfl,rfl,?_⟩
   show outAt (prU u) (pnt u x k).mo (pnt u x k).bl (pnt (prU u) x k).v=_
   rw[i3,outAt_prune A.m A.b F]
theorem tell_prune {u:Bun} (h:u.May) {x:Ten} (ok:x.Ok) (r:tenRight x=true) (s:x.sh=u.inp) (h1:0<u.m.length) {k:Nat} (hk:k<stp u u.m.length):exAt (prU u) (pnt (prU u) x k).mo (pnt (prU u) x k).bl=exAt u (pnt u x k).mo (pnt u x k).bl∧verQ (prU u) (pnt (prU u) x k).mo (pnt (prU u) x k).bl (pnt (prU u) x k).v=verQ u (pnt u x k).mo (pnt u x k).bl (pnt u x k).v:=by
 obtain ⟨g,fu⟩:=h.go
 have I:=pinv g fu ok r s h1 k (by omega)
 have A:=I.at g ok r s hk
 have F:=A.step
 obtain ⟨i1,i2,i3⟩:=pnt_prune h ok r s h1 k (by omega)
 have eb:=blkAt_prune A.m A.b
 have eo:=outAt_prune A.m A.b F
 rw[i1,i2,i3]
 unfold verQ vA vM vL vE exAt
 rw[eo,eb]
 exact ⟨rfl,rfl⟩
theorem exI_prune {u:Bun} (h:u.May) {x:Ten} (ok:x.Ok) (r:tenRight x=true) (s:x.sh=u.inp) (h1:0<u.m.length):∀ k,k≤stp u u.m.length→exI (prU u) x k=exI u x k:=by
 intro k
 induction k with
 | zero=>intro _;rfl
 | succ k ih =>
  intro hk
  rw[exI,exI,ih (by omega),(tell_prune h ok r s h1 (s_ (k<stp u u.m.length))).1]
theorem exI_mem {u:Bun} {x:Ten}:∀ {n:Nat},∀ i∈exI u x n,i<n
 | 0=>fun i hi=>by cases hi
 | n+1=>fun i hi=>by
  rw[exI] at hi
  split at hi
  ·rcases List.mem_append.1 hi with q|q
   ·have:=exI_mem i q;omega
   ·rw[List.mem_singleton] at q;omega
  ·have:=exI_mem i hi;omega
def zipAll {α:Type} [Inhabited α] (p:α→α→Bool) (l m:List α):Bool:=decide (l.length=m.length)&&(BM_ l.length).all fun k=>p (l.getD k default) (m.getD k default)
theorem zip_cases {α:Type} [Inhabited α] (p:α→α→Bool) (l m:List α):(l.length≠m.length∧zipAll p l m=false)∨(l.length=m.length∧(∀ k,k<l.length→p (l.getD k default) (m.getD k default)=true)∧zipAll p l m=true) ∨
  (l.length=m.length∧∃ i,i<l.length∧p (l.getD i default) (m.getD i default)=false∧(∀ k,k<i→p (l.getD k default) (m.getD k default)=true)∧zipAll p l m=false):=by
 unfold zipAll
 by_cases hl:l.length=m.length
 ·rcases all_or (fun k=>p (l.getD k default) (m.getD k default)) l.length with h|⟨i,h1,h2,h3⟩
  ·refine .inr (.inl ⟨hl,h,?_⟩)
   rw[decide_eq_true hl,BN_,CZ_]
   exact fun k hk=>h k (by simpa using hk)
  ·refine .inr (.inr ⟨hl,i,h1,h2,h3,?_⟩)
   rw[decide_eq_true hl,BN_,Bool.eq_false_iff]
   intro h
   rw[CZ_] at h
   have:=h i (by simpa using h1)
   rw[h2] at this;cases this
 ·exact .inl ⟨hl,by rw[decide_eq_false hl,AD_]⟩
structure Blc.Sz (x:Blc):Prop where
 l:x.n.length≤1000
 n:∀ n∈x.n,n.w.length≤100000∧n.b.length≤100000
 w:x.w.length≤100000
 b:x.b.length≤100000
def blcEq (x y:Blc):Bool:=decide (x.w=y.w)&&decide (x.b=y.b)&&(x.nd==y.nd)&&(x.ex==y.ex)&&zipAll nodEq x.n y.n
structure Mdl.Sz (m:Mdl):Prop where
 l:m.l.length≤1000
 b:∀ x∈m.l,x.Sz
def mdlEq (a b:Mdl):Bool:=zipAll blcEq a.l b.l
structure Bun.Sz (u:Bun):Prop where
 l:u.m.length≤1000
 b:∀ x∈u.m,x.Sz
def bunEq (a b:Bun):Bool:=a.h==b.h&&a.x==b.x&&a.c==b.c&&a.cl==b.cl&&zipAll mdlEq a.m b.m
noncomputable def lbk_ly_I (x y:Blc) (k:Nat):VS:=stt 68 [(2,.ptr 2 0 0),(3,.ptr 3 0 0),(5,i64 k)] [(2,.var (blcC x)),(3,.var (blcC y))]
noncomputable def lbk_ly_Z (x y:Blc):VS:=lbk_ly_I x y (x.n.length)
theorem lbk_ly_s (x y:Blc) (sz:x.Sz) (hl:x.n.length=y.n.length) (h:∀ k,k<x.n.length→nodEq (x.n.getD k default) (y.n.getD k default)=true) (k:Nat) (hk:k<x.n.length):VT N_ (fnC Tryz.f62 [1,1,0,1,0,0]) (lbk_ly_I x y k) .normal (lbk_ly_I x y (k+1)):=by
 have q:=h k hk
 have qz:=id sz
 have qm:=getD_in qz.n hk
 obtain ⟨qn1,qn2⟩:=qm
 have qb:=qz.l
 have oz1:=(s_ (0≤(↑k:Int)))
 have oz2:=(map_at (nodC) (default) (l:=x.n) (i:=k) hk)
 have oz4:=(map_at (nodC) (default) (l:=y.n) (i:=k) (by omega))
 have oz5:=@refSame_v (x.n.getD k default) (y.n.getD k default) qn1 qn2
 exact tR_ [r_,b_,.r [] [.row (sO oz2),.row (sO oz4),cr oz5],d_,.r [] [.n ((↑k:Int)+1)]] [.any (rg [(49,19)]),.weak 5 (i64 (↑(k+1):Int)),.sort] (.c8 (show decide ((↑k:Int)<((K_ nodC x.n).length:Int))=true by (simp;omega)) oz1 oz2 oz1 oz4 oz5 (show (!nodEq (x.n.getD k default) (y.n.getD k default))=false by (simp at *;omega)) (i6n ((↑k:Int)+1) (by omega))<|.d (wS_ k))
theorem lbk_ly_e (x y:Blc) (sz:x.Sz) (hl:x.n.length=y.n.length) (h:∀ k,k<x.n.length→nodEq (x.n.getD k default) (y.n.getD k default)=true):VT N_ (fnC Tryz.f62 [1,1,0,1,0,0]) (lbk_ly_I x y (x.n.length)) (.exit 0) (lbk_ly_Z x y):=by
 exact tR_ [r_,d_] [.any (rg [(49,5)]),.sort] (.d (show decide ((x.n.length:Int)<((K_ nodC x.n).length:Int))=false by (simp;done)))
theorem lbk_ly (x y:Blc) (sz:x.Sz) (hl:x.n.length=y.n.length) (h:∀ k,k<x.n.length→nodEq (x.n.getD k default) (y.n.getD k default)=true):VT N_ (fnC Tryz.f62 [1,1,0,1,0]) (lbk_ly_I x y 0) (.exit 0) (lbk_ly_Z x y) :=
 VT.loop (fun k=>lbk_ly_I x y k) (x.n.length) (fun k hk=>lbk_ly_s x y sz hl h k hk) (lbk_ly_e x y sz hl h) (by intro h;cases h)
noncomputable def lbk_ln_I (x y:Blc) (i:Nat) (k:Nat):VS:=stt 68 [(2,.ptr 2 0 0),(3,.ptr 3 0 0),(5,i64 k)] [(2,.var (blcC x)),(3,.var (blcC y))]
noncomputable def lbk_ln_Z (x y:Blc) (i:Nat):VS:=stt 68 [(4,bv false)] []
theorem lbk_ln_s (x y:Blc) (i:Nat) (sz:x.Sz) (hl:x.n.length=y.n.length) (hi:i<x.n.length) (hf:nodEq (x.n.getD i default) (y.n.getD i default)=false) (h:∀ k,k<i→nodEq (x.n.getD k default) (y.n.getD k default)=true) (k:Nat) (hk:k<i):VT N_ (fnC Tryz.f62 [1,1,0,1,0,0]) (lbk_ln_I x y i k) .normal (lbk_ln_I x y i (k+1)):=by
 have q:=h k hk
 have qz:=id sz
 have qm:=getD_in qz.n (s_ (k<x.n.length))
 obtain ⟨qn1,qn2⟩:=qm
 have qb:=qz.l
 have oz1:=(s_ (0≤(↑k:Int)))
 have oz2:=(map_at (nodC) (default) (l:=x.n) (i:=k) (by omega))
 have oz4:=(map_at (nodC) (default) (l:=y.n) (i:=k) (by omega))
 have oz5:=@refSame_v (x.n.getD k default) (y.n.getD k default) qn1 qn2
 exact tR_ [r_,b_,.r [] [.row (sO oz2),.row (sO oz4),cr oz5],d_,.r [] [.n ((↑k:Int)+1)]] [.any (rg [(49,19)]),.weak 5 (i64 (↑(k+1):Int)),.sort] (.c8 (show decide ((↑k:Int)<((K_ nodC x.n).length:Int))=true by (simp;omega)) oz1 oz2 oz1 oz4 oz5 (show (!nodEq (x.n.getD k default) (y.n.getD k default))=false by (simp at *;omega)) (i6n ((↑k:Int)+1) (by omega))<|.d (wS_ k))
theorem lbk_ln_e (x y:Blc) (i:Nat) (sz:x.Sz) (hl:x.n.length=y.n.length) (hi:i<x.n.length) (hf:nodEq (x.n.getD i default) (y.n.getD i default)=false) (h:∀ k,k<i→nodEq (x.n.getD k default) (y.n.getD k default)=true):VT N_ (fnC Tryz.f62 [1,1,0,1,0,0]) (lbk_ln_I x y i (i)) (.ret) (lbk_ln_Z x y i):=by
 have qz:=id sz
 have qm:=getD_in qz.n hi
 obtain ⟨qn1,qn2⟩:=qm
 have qb:=qz.l
 have oz1:=(s_ (0≤(↑i:Int)))
 have oz2:=(map_at (nodC) (default) (l:=x.n) (i:=i) hi)
 have oz4:=(map_at (nodC) (default) (l:=y.n) (i:=i) (by omega))
 have oz5:=@refSame_v (x.n.getD i default) (y.n.getD i default) qn1 qn2
 exact tR_ [r_,b_,.r [] [.row (sO oz2),.row (sO oz4),cr oz5],b_,r_] [.any (rg [(2,2),(5,1),(49,5),(56,12)]),.drop [2,3],.sort] (.d7 (show decide ((↑i:Int)<((K_ nodC x.n).length:Int))=true by (simp;omega)) oz1 oz2 oz1 oz4 oz5 (show (!nodEq (x.n.getD i default) (y.n.getD i default))=true by (simp at *;omega)))
theorem lbk_ln (x y:Blc) (i:Nat) (sz:x.Sz) (hl:x.n.length=y.n.length) (hi:i<x.n.length) (hf:nodEq (x.n.getD i default) (y.n.getD i default)=false) (h:∀ k,k<i→nodEq (x.n.getD k default) (y.n.getD k default)=true):VT N_ (fnC Tryz.f62 [1,1,0,1,0]) (lbk_ln_I x y i 0) (.ret) (lbk_ln_Z x y i) :=
 VT.loop (fun k=>lbk_ln_I x y i k) (i) (fun k hk=>lbk_ln_s x y i sz hl hi hf h k hk) (lbk_ln_e x y i sz hl hi hf h) (by intro h;cases h)
theorem lbk_d (x y:Blc) (sz:x.Sz) (hl:x.n.length≠y.n.length):VC N_ 62 ([blc x,blc y]) (bv false):=by
 have hz:zipAll nodEq x.n y.n=false:=by unfold zipAll;rw[decide_eq_false hl,AD_]
 obtain ⟨qa,qb,qc,qd⟩:=id sz
 have oz0:=@rsame8_v (x.w) (y.w) (by omega)
 have oz1:=@rsame32_v (x.b) (y.b) (by omega)
 exact cR_ [r_,.r [] [o_,o_,o_,o_,o_,.sel 1,o_,o_,o_,o_,o_,o_,o_,.sel 1,o_,o_,o_,o_,o_,o_,o_,cr oz0,o_,.sel 1,o_,o_,o_,o_,o_,o_,o_,cr oz1,o_,.sel 1],b_,r_] _ Tryz.func62 (.d3 oz0 oz1 (show (((K_ nodC x.n).length:Int) != ((K_ nodC y.n).length:Int) || !x.ex==y.ex || x.nd != y.nd || !decide (x.w=y.w) || !decide (x.b=y.b))=true by (simp;omega)))
theorem lbk_y (x y:Blc) (sz:x.Sz) (hl:x.n.length=y.n.length) (h:∀ k,k<x.n.length→nodEq (x.n.getD k default) (y.n.getD k default)=true) (hz:zipAll nodEq x.n y.n=true):VC N_ 62 ([blc x,blc y]) (bv (blcEq x y)):=by
 obtain ⟨qa,qb,qc,qd⟩:=id sz
 have oz0:=@rsame8_v (x.w) (y.w) (by omega)
 have oz1:=@rsame32_v (x.b) (y.b) (by omega)
 rcases bft (((K_ nodC x.n).length:Int) != ((K_ nodC y.n).length:Int) || !x.ex==y.ex || x.nd != y.nd || !decide (x.w=y.w) || !decide (x.b=y.b)) with hc0|hc0
 ·have gc0:(((¬((K_ nodC x.n).length:Int)=((K_ nodC y.n).length:Int)∨¬(x.ex=true↔y.ex=true))∨¬x.nd=y.nd)∨¬x.w=y.w)∨¬x.b=y.b:=gc0_ hc0
  exact (cR_ [r_,.r [] [o_,o_,o_,o_,o_,.sel 1,o_,o_,o_,o_,o_,o_,o_,.sel 1,o_,o_,o_,o_,o_,o_,o_,cr oz0,o_,.sel 1,o_,o_,o_,o_,o_,o_,o_,cr oz1,o_,.sel 1],b_,r_] (bv false) Tryz.func62 (.d3 oz0 oz1 hc0)).weak (Y_ _) (DK_ (by (simp[blcEq,hz,eqNums] at *;intros;simp_all;done)))
 ·have gc0:(((((K_ nodC x.n).length:Int)=((K_ nodC y.n).length:Int)∧(x.ex=true↔y.ex=true))∧x.nd=y.nd)∧x.w=y.w)∧x.b=y.b:=gc0_ hc0
  have oz4:=@lbk_ly (x) (y) sz hl h
  exact (cR_ [r_,.r [] [o_,o_,o_,o_,o_,.sel 1,o_,o_,o_,o_,o_,o_,o_,.sel 1,o_,o_,o_,o_,o_,o_,o_,cr oz0,o_,.sel 1,o_,o_,o_,o_,o_,o_,o_,cr oz1,o_,.sel 1],d_,r_,.code [.any [0,1,4,6,7,8,9,10,11,12,13,19,20,28,29,38,39,48],.weak 5 (i64 (↑0:Int)),.sort] (AA_ 0) (zO oz4),r_] (bv true) Tryz.func62 (.d5 oz0 oz1 hc0 w0_ oz4)).weak (Y_ _) (DK_ (by (rw[Bool.eq_iff_iff];simp[blcEq,hz,eqNums] at *;simp_all;done)))
theorem lbk_n (x y:Blc) (i:Nat) (sz:x.Sz) (hl:x.n.length=y.n.length) (hi:i<x.n.length) (hf:nodEq (x.n.getD i default) (y.n.getD i default)=false) (h:∀ k,k<i→nodEq (x.n.getD k default) (y.n.getD k default)=true):VC N_ 62 ([blc x,blc y]) (bv false):=by
 obtain ⟨qa,qb,qc,qd⟩:=id sz
 have oz0:=@rsame8_v (x.w) (y.w) (by omega)
 have oz1:=@rsame32_v (x.b) (y.b) (by omega)
 rcases bft (((K_ nodC x.n).length:Int) != ((K_ nodC y.n).length:Int) || !x.ex==y.ex || x.nd != y.nd || !decide (x.w=y.w) || !decide (x.b=y.b)) with hc0|hc0
 ·have gc0:(((¬((K_ nodC x.n).length:Int)=((K_ nodC y.n).length:Int)∨¬(x.ex=true↔y.ex=true))∨¬x.nd=y.nd)∨¬x.w=y.w)∨¬x.b=y.b:=gc0_ hc0
  exact cR_ [r_,.r [] [o_,o_,o_,o_,o_,.sel 1,o_,o_,o_,o_,o_,o_,o_,.sel 1,o_,o_,o_,o_,o_,o_,o_,cr oz0,o_,.sel 1,o_,o_,o_,o_,o_,o_,o_,cr oz1,o_,.sel 1],b_,r_] _ Tryz.func62 (.d3 oz0 oz1 hc0)
 ·have gc0:(((((K_ nodC x.n).length:Int)=((K_ nodC y.n).length:Int)∧(x.ex=true↔y.ex=true))∧x.nd=y.nd)∧x.w=y.w)∧x.b=y.b:=gc0_ hc0
  have oz4:=@lbk_ln (x) (y) (i) sz hl hi hf h
  exact cR_ [r_,.r [] [o_,o_,o_,o_,o_,.sel 1,o_,o_,o_,o_,o_,o_,o_,.sel 1,o_,o_,o_,o_,o_,o_,o_,cr oz0,o_,.sel 1,o_,o_,o_,o_,o_,o_,o_,cr oz1,o_,.sel 1],d_,r_,.code [.any [0,1,4,6,7,8,9,10,11,12,13,19,20,28,29,38,39,48],.weak 5 (i64 (↑0:Int)),.sort] (DN_) (zO oz4)] _ Tryz.func62 (.d5 oz0 oz1 hc0 w0_ oz4)
theorem lbk_v (x y:Blc) (sz:x.Sz):VC N_ 62 [blc x,blc y] (bv (blcEq x y)):=by
 rcases zip_cases nodEq x.n y.n with ⟨h,e⟩|⟨h,q,e⟩|⟨h,i,hi,hf,q,e⟩
 ·rw[show blcEq x y=false by simp[blcEq,e]];exact lbk_d x y sz h
 ·exact lbk_y x y sz h q e
 ·rw[show blcEq x y=false by simp[blcEq,e]];exact lbk_n x y i sz h hi hf q
noncomputable def lmd_ly_I (x y:Mdl) (k:Nat):VS:=stt 32 [(2,.ptr 2 0 0),(3,.ptr 3 0 0),(5,i64 k)] [(2,.var (mdlC x)),(3,.var (mdlC y))]
noncomputable def lmd_ly_Z (x y:Mdl):VS:=lmd_ly_I x y (x.l.length)
theorem lmd_ly_s (x y:Mdl) (sz:x.Sz) (hl:x.l.length=y.l.length) (h:∀ k,k<x.l.length→blcEq (x.l.getD k default) (y.l.getD k default)=true) (k:Nat) (hk:k<x.l.length):VT N_ (fnC Tryz.f30 [1,1,0,1,0,0]) (lmd_ly_I x y k) .normal (lmd_ly_I x y (k+1)):=by
 have q:=h k hk
 have qz:=id sz
 have qm:=getD_in qz.b hk
 have qb:=qz.l
 have oz1:=(s_ (0≤(↑k:Int)))
 have oz2:=(map_at (blcC) (default) (l:=x.l) (i:=k) hk)
 have oz4:=(map_at (blcC) (default) (l:=y.l) (i:=k) (by omega))
 have oz5:=@lbk_v (x.l.getD k default) (y.l.getD k default) qm
 exact tR_ [r_,b_,.r [] [.row (sO oz2),.row (sO oz4),cr oz5],d_,.r [] [.n ((↑k:Int)+1)]] [.any (rg [(13,19)]),.weak 5 (i64 (↑(k+1):Int)),.sort] (.c8 (show decide ((↑k:Int)<((K_ blcC x.l).length:Int))=true by (simp;omega)) oz1 oz2 oz1 oz4 oz5 (show (!blcEq (x.l.getD k default) (y.l.getD k default))=false by (simp at *;omega)) (i6n ((↑k:Int)+1) (by omega))<|.d (wS_ k))
theorem lmd_ly_e (x y:Mdl) (sz:x.Sz) (hl:x.l.length=y.l.length) (h:∀ k,k<x.l.length→blcEq (x.l.getD k default) (y.l.getD k default)=true):VT N_ (fnC Tryz.f30 [1,1,0,1,0,0]) (lmd_ly_I x y (x.l.length)) (.exit 0) (lmd_ly_Z x y):=by
 exact tR_ [r_,d_] [.any (rg [(13,5)]),.sort] (.d (show decide ((x.l.length:Int)<((K_ blcC x.l).length:Int))=false by (simp;done)))
theorem lmd_ly (x y:Mdl) (sz:x.Sz) (hl:x.l.length=y.l.length) (h:∀ k,k<x.l.length→blcEq (x.l.getD k default) (y.l.getD k default)=true):VT N_ (fnC Tryz.f30 [1,1,0,1,0]) (lmd_ly_I x y 0) (.exit 0) (lmd_ly_Z x y) :=
 VT.loop (fun k=>lmd_ly_I x y k) (x.l.length) (fun k hk=>lmd_ly_s x y sz hl h k hk) (lmd_ly_e x y sz hl h) (by intro h;cases h)
noncomputable def lmd_ln_I (x y:Mdl) (i:Nat) (k:Nat):VS:=stt 32 [(2,.ptr 2 0 0),(3,.ptr 3 0 0),(5,i64 k)] [(2,.var (mdlC x)),(3,.var (mdlC y))]
noncomputable def lmd_ln_Z (x y:Mdl) (i:Nat):VS:=stt 32 [(4,bv false)] []
theorem lmd_ln_s (x y:Mdl) (i:Nat) (sz:x.Sz) (hl:x.l.length=y.l.length) (hi:i<x.l.length) (hf:blcEq (x.l.getD i default) (y.l.getD i default)=false) (h:∀ k,k<i→blcEq (x.l.getD k default) (y.l.getD k default)=true) (k:Nat) (hk:k<i):VT N_ (fnC Tryz.f30 [1,1,0,1,0,0]) (lmd_ln_I x y i k) .normal (lmd_ln_I x y i (k+1)):=by
 have q:=h k hk
 have qz:=id sz
 have qm:=getD_in qz.b (s_ (k<x.l.length))
 have qb:=qz.l
 have oz1:=(s_ (0≤(↑k:Int)))
 have oz2:=(map_at (blcC) (default) (l:=x.l) (i:=k) (by omega))
 have oz4:=(map_at (blcC) (default) (l:=y.l) (i:=k) (by omega))
 have oz5:=@lbk_v (x.l.getD k default) (y.l.getD k default) qm
 exact tR_ [r_,b_,.r [] [.row (sO oz2),.row (sO oz4),cr oz5],d_,.r [] [.n ((↑k:Int)+1)]] [.any (rg [(13,19)]),.weak 5 (i64 (↑(k+1):Int)),.sort] (.c8 (show decide ((↑k:Int)<((K_ blcC x.l).length:Int))=true by (simp;omega)) oz1 oz2 oz1 oz4 oz5 (show (!blcEq (x.l.getD k default) (y.l.getD k default))=false by (simp at *;omega)) (i6n ((↑k:Int)+1) (by omega))<|.d (wS_ k))
theorem lmd_ln_e (x y:Mdl) (i:Nat) (sz:x.Sz) (hl:x.l.length=y.l.length) (hi:i<x.l.length) (hf:blcEq (x.l.getD i default) (y.l.getD i default)=false) (h:∀ k,k<i→blcEq (x.l.getD k default) (y.l.getD k default)=true):VT N_ (fnC Tryz.f30 [1,1,0,1,0,0]) (lmd_ln_I x y i (i)) (.ret) (lmd_ln_Z x y i):=by
 have qz:=id sz
 have qm:=getD_in qz.b hi
 have qb:=qz.l
 have oz1:=(s_ (0≤(↑i:Int)))
 have oz2:=(map_at (blcC) (default) (l:=x.l) (i:=i) hi)
 have oz4:=(map_at (blcC) (default) (l:=y.l) (i:=i) (by omega))
 have oz5:=@lbk_v (x.l.getD i default) (y.l.getD i default) qm
 exact tR_ [r_,b_,.r [] [.row (sO oz2),.row (sO oz4),cr oz5],b_,r_] [.any (rg [(2,2),(5,1),(13,5),(20,12)]),.drop [2,3],.sort] (.d7 (show decide ((↑i:Int)<((K_ blcC x.l).length:Int))=true by (simp;omega)) oz1 oz2 oz1 oz4 oz5 (show (!blcEq (x.l.getD i default) (y.l.getD i default))=true by (simp at *;omega)))
theorem lmd_ln (x y:Mdl) (i:Nat) (sz:x.Sz) (hl:x.l.length=y.l.length) (hi:i<x.l.length) (hf:blcEq (x.l.getD i default) (y.l.getD i default)=false) (h:∀ k,k<i→blcEq (x.l.getD k default) (y.l.getD k default)=true):VT N_ (fnC Tryz.f30 [1,1,0,1,0]) (lmd_ln_I x y i 0) (.ret) (lmd_ln_Z x y i) :=
 VT.loop (fun k=>lmd_ln_I x y i k) (i) (fun k hk=>lmd_ln_s x y i sz hl hi hf h k hk) (lmd_ln_e x y i sz hl hi hf h) (by intro h;cases h)
theorem lmd_d (x y:Mdl) (sz:x.Sz) (hl:x.l.length≠y.l.length):VC N_ 30 ([.agg (mdlC x),.agg (mdlC y)]) (bv false):=by
 have hz:zipAll blcEq x.l y.l=false:=by unfold zipAll;rw[decide_eq_false hl,AD_]
 obtain ⟨qa,qb⟩:=id sz
 exact cR_ [r_,r_,b_,r_] _ Tryz.func30 (.d (show (((K_ blcC x.l).length:Int) != ((K_ blcC y.l).length:Int))=true by (simp;omega)))
theorem lmd_y (x y:Mdl) (sz:x.Sz) (hl:x.l.length=y.l.length) (h:∀ k,k<x.l.length→blcEq (x.l.getD k default) (y.l.getD k default)=true) (hz:zipAll blcEq x.l y.l=true):VC N_ 30 ([.agg (mdlC x),.agg (mdlC y)]) (bv (mdlEq x y)):=by
 obtain ⟨qa,qb⟩:=id sz
 have oz2:=@lmd_ly (Mdl.mk x.l) (Mdl.mk y.l) sz hl h
 exact (cR_ [r_,r_,d_,r_,.code [.any (rg [(0,2),(4,1),(6,7)]),.weak 5 (i64 (↑0:Int)),.sort] (AA_ 0) (zO oz2),r_] (bv true) Tryz.func30 (.d3 (show (((K_ blcC x.l).length:Int) != ((K_ blcC y.l).length:Int))=false by (simp;omega)) w0_ oz2)).weak (Y_ _) (DK_ (by (exact hz.symm)))
theorem lmd_n (x y:Mdl) (i:Nat) (sz:x.Sz) (hl:x.l.length=y.l.length) (hi:i<x.l.length) (hf:blcEq (x.l.getD i default) (y.l.getD i default)=false) (h:∀ k,k<i→blcEq (x.l.getD k default) (y.l.getD k default)=true):VC N_ 30 ([.agg (mdlC x),.agg (mdlC y)]) (bv false):=by
 obtain ⟨qa,qb⟩:=id sz
 have oz2:=@lmd_ln (Mdl.mk x.l) (Mdl.mk y.l) (i) sz hl hi hf h
 exact cR_ [r_,r_,d_,r_,.code [.any (rg [(0,2),(4,1),(6,7)]),.weak 5 (i64 (↑0:Int)),.sort] (DN_) (zO oz2)] _ Tryz.func30 (.d3 (show (((K_ blcC x.l).length:Int) != ((K_ blcC y.l).length:Int))=false by (simp;omega)) w0_ oz2)
theorem lmd_v (x y:Mdl) (sz:x.Sz):VC N_ 30 [.agg (mdlC x),.agg (mdlC y)] (bv (mdlEq x y)):=by
 rcases zip_cases blcEq x.l y.l with ⟨h,e⟩|⟨h,q,e⟩|⟨h,i,hi,hf,q,e⟩
 ·rw[show mdlEq x y=false by simp[mdlEq,e]];exact lmd_d x y sz h
 ·exact lmd_y x y sz h q e
 ·rw[show mdlEq x y=false by simp[mdlEq,e]];exact lmd_n x y i sz h hi hf q
noncomputable def lbn_ly_I (x y:Bun) (k:Nat):VS:=stt 46 [(2,.ptr 2 0 0),(3,.ptr 3 0 0),(5,i64 k)] [(2,.var (bunC x)),(3,.var (bunC y))]
noncomputable def lbn_ly_Z (x y:Bun):VS:=lbn_ly_I x y (x.m.length)
theorem lbn_ly_s (x y:Bun) (sz:x.Sz) (hl:x.m.length=y.m.length) (h:∀ k,k<x.m.length→mdlEq (x.m.getD k default) (y.m.getD k default)=true) (k:Nat) (hk:k<x.m.length):VT N_ (fnC Tryz.f11 [1,1,0,1,0,0]) (lbn_ly_I x y k) .normal (lbn_ly_I x y (k+1)):=by
 have q:=h k hk
 have qz:=id sz
 have qm:=getD_in qz.b hk
 have qb:=qz.l
 have oz1:=(s_ (0≤(↑k:Int)))
 have oz2:=(map_at (mdlC) (default) (l:=x.m) (i:=k) hk)
 have oz4:=(map_at (mdlC) (default) (l:=y.m) (i:=k) (by omega))
 have oz5:=@lmd_v (Mdl.mk (x.m.getD k default).l) (Mdl.mk (y.m.getD k default).l) qm
 exact tR_ [r_,b_,.r [] [.row (sO oz2),.row (sO oz4),cr oz5],d_,.r [] [.n ((↑k:Int)+1)]] [.any (rg [(27,19)]),.weak 5 (i64 (↑(k+1):Int)),.sort] (.c8 (show decide ((↑k:Int)<((K_ mdlC x.m).length:Int))=true by (simp;omega)) oz1 oz2 oz1 oz4 oz5 (show (!mdlEq (Mdl.mk (x.m.getD k default).l) (Mdl.mk (y.m.getD k default).l))=false by (simp at *;omega)) (i6n ((↑k:Int)+1) (by (try dsimp only)<;>omega))<|.d (M_ (k:=.i64) (show (((↑k:Int)+1):Int)=((↑(k+1):Int)) from (by (try dsimp only)<;>omega))))
theorem lbn_ly_e (x y:Bun) (sz:x.Sz) (hl:x.m.length=y.m.length) (h:∀ k,k<x.m.length→mdlEq (x.m.getD k default) (y.m.getD k default)=true):VT N_ (fnC Tryz.f11 [1,1,0,1,0,0]) (lbn_ly_I x y (x.m.length)) (.exit 0) (lbn_ly_Z x y):=by
 exact tR_ [r_,d_] [.any (rg [(27,5)]),.sort] (.d (show decide ((x.m.length:Int)<((K_ mdlC x.m).length:Int))=false by (simp;done)))
theorem lbn_ly (x y:Bun) (sz:x.Sz) (hl:x.m.length=y.m.length) (h:∀ k,k<x.m.length→mdlEq (x.m.getD k default) (y.m.getD k default)=true):VT N_ (fnC Tryz.f11 [1,1,0,1,0]) (lbn_ly_I x y 0) (.exit 0) (lbn_ly_Z x y) :=
 VT.loop (fun k=>lbn_ly_I x y k) (x.m.length) (fun k hk=>lbn_ly_s x y sz hl h k hk) (lbn_ly_e x y sz hl h) (by intro h;cases h)
noncomputable def lbn_ln_I (x y:Bun) (i:Nat) (k:Nat):VS:=stt 46 [(2,.ptr 2 0 0),(3,.ptr 3 0 0),(5,i64 k)] [(2,.var (bunC x)),(3,.var (bunC y))]
noncomputable def lbn_ln_Z (x y:Bun) (i:Nat):VS:=stt 46 [(4,bv false)] []
theorem lbn_ln_s (x y:Bun) (i:Nat) (sz:x.Sz) (hl:x.m.length=y.m.length) (hi:i<x.m.length) (hf:mdlEq (x.m.getD i default) (y.m.getD i default)=false) (h:∀ k,k<i→mdlEq (x.m.getD k default) (y.m.getD k default)=true) (k:Nat) (hk:k<i):VT N_ (fnC Tryz.f11 [1,1,0,1,0,0]) (lbn_ln_I x y i k) .normal (lbn_ln_I x y i (k+1)):=by
 have q:=h k hk
 have qz:=id sz
 have qm:=getD_in qz.b (s_ (k<x.m.length))
 have qb:=qz.l
 have oz1:=(s_ (0≤(↑k:Int)))
 have oz2:=(map_at (mdlC) (default) (l:=x.m) (i:=k) (by omega))
 have oz4:=(map_at (mdlC) (default) (l:=y.m) (i:=k) (by omega))
 have oz5:=@lmd_v (Mdl.mk (x.m.getD k default).l) (Mdl.mk (y.m.getD k default).l) qm
 exact tR_ [r_,b_,.r [] [.row (sO oz2),.row (sO oz4),cr oz5],d_,.r [] [.n ((↑k:Int)+1)]] [.any (rg [(27,19)]),.weak 5 (i64 (↑(k+1):Int)),.sort] (.c8 (show decide ((↑k:Int)<((K_ mdlC x.m).length:Int))=true by (simp;omega)) oz1 oz2 oz1 oz4 oz5 (show (!mdlEq (Mdl.mk (x.m.getD k default).l) (Mdl.mk (y.m.getD k default).l))=false by (simp at *;omega)) (i6n ((↑k:Int)+1) (by (try dsimp only)<;>omega))<|.d (M_ (k:=.i64) (show (((↑k:Int)+1):Int)=((↑(k+1):Int)) from (by (try dsimp only)<;>omega))))
theorem lbn_ln_e (x y:Bun) (i:Nat) (sz:x.Sz) (hl:x.m.length=y.m.length) (hi:i<x.m.length) (hf:mdlEq (x.m.getD i default) (y.m.getD i default)=false) (h:∀ k,k<i→mdlEq (x.m.getD k default) (y.m.getD k default)=true):VT N_ (fnC Tryz.f11 [1,1,0,1,0,0]) (lbn_ln_I x y i (i)) (.ret) (lbn_ln_Z x y i):=by
 have qz:=id sz
 have qm:=getD_in qz.b hi
 have qb:=qz.l
 have oz1:=(s_ (0≤(↑i:Int)))
 have oz2:=(map_at (mdlC) (default) (l:=x.m) (i:=i) hi)
 have oz4:=(map_at (mdlC) (default) (l:=y.m) (i:=i) (by omega))
 have oz5:=@lmd_v (Mdl.mk (x.m.getD i default).l) (Mdl.mk (y.m.getD i default).l) qm
 exact tR_ [r_,b_,.r [] [.row (sO oz2),.row (sO oz4),cr oz5],b_,r_] [.any (rg [(2,2),(5,1),(27,5),(34,12)]),.drop [2,3],.sort] (.d7 (show decide ((↑i:Int)<((K_ mdlC x.m).length:Int))=true by (simp;omega)) oz1 oz2 oz1 oz4 oz5 (show (!mdlEq (Mdl.mk (x.m.getD i default).l) (Mdl.mk (y.m.getD i default).l))=true by (simp at *;omega)))
theorem lbn_ln (x y:Bun) (i:Nat) (sz:x.Sz) (hl:x.m.length=y.m.length) (hi:i<x.m.length) (hf:mdlEq (x.m.getD i default) (y.m.getD i default)=false) (h:∀ k,k<i→mdlEq (x.m.getD k default) (y.m.getD k default)=true):VT N_ (fnC Tryz.f11 [1,1,0,1,0]) (lbn_ln_I x y i 0) (.ret) (lbn_ln_Z x y i) :=
 VT.loop (fun k=>lbn_ln_I x y i k) (i) (fun k hk=>lbn_ln_s x y i sz hl hi hf h k hk) (lbn_ln_e x y i sz hl hi hf h) (by intro h;cases h)
theorem lbn_d (x y:Bun) (sz:x.Sz) (hl:x.m.length≠y.m.length):VC N_ 11 ([bun x,bun y]) (bv false):=by
 have hz:zipAll mdlEq x.m y.m=false:=by unfold zipAll;rw[decide_eq_false hl,AD_]
 obtain ⟨qa,qb⟩:=id sz
 exact cR_ [r_,.r [] [.v (AI_ !eqNums [(L_,x.h,y.h),(L_,x.x,y.x),(L_,x.c,y.c)]),o_,o_,o_,o_,o_,.sel 1,o_,o_,o_,o_,o_,o_,o_,.sel 1],b_,r_] _ Tryz.func11 (.d2 (show BinTo N_ BinOp.neq 23 (Operand.tmp 7) (Operand.tmp 9) (BG_ #[AO_ L_ x.h,AO_ L_ x.x,AO_ L_ x.c]) (BG_ #[AO_ L_ y.h,AO_ L_ y.x,AO_ L_ y.c]) (AI_ !eqNums [(L_,x.h,y.h),(L_,x.x,y.x),(L_,x.c,y.c)]) from ((bin_nums (l:=[(L_,x.h,y.h),(L_,x.x,y.x),(L_,x.c,y.c)]) (by kernel_rfl) (by kernel_rfl) (by kernel_rfl) (by kernel_rfl) _ _).2)) (show (!eqNums [(L_,x.h,y.h),(L_,x.x,y.x),(L_,x.c,y.c)] || x.cl != y.cl || ((K_ mdlC x.m).length:Int) != ((K_ mdlC y.m).length:Int))=true by (simp;omega)))
theorem lbn_y (x y:Bun) (sz:x.Sz) (hl:x.m.length=y.m.length) (h:∀ k,k<x.m.length→mdlEq (x.m.getD k default) (y.m.getD k default)=true) (hz:zipAll mdlEq x.m y.m=true):VC N_ 11 ([bun x,bun y]) (bv (bunEq x y)):=by
 obtain ⟨qa,qb⟩:=id sz
 have oz0:=(show BinTo N_ BinOp.neq 23 (Operand.tmp 7) (Operand.tmp 9) (BG_ #[AO_ L_ x.h,AO_ L_ x.x,AO_ L_ x.c]) (BG_ #[AO_ L_ y.h,AO_ L_ y.x,AO_ L_ y.c]) (AI_ !eqNums [(L_,x.h,y.h),(L_,x.x,y.x),(L_,x.c,y.c)]) from ((bin_nums (l:=[(L_,x.h,y.h),(L_,x.x,y.x),(L_,x.c,y.c)]) (by kernel_rfl) (by kernel_rfl) (by kernel_rfl) (by kernel_rfl) _ _).2))
 rcases bft (!eqNums [(L_,x.h,y.h),(L_,x.x,y.x),(L_,x.c,y.c)] || x.cl != y.cl || ((K_ mdlC x.m).length:Int) != ((K_ mdlC y.m).length:Int)) with hc0|hc0
 ·have gc0:(¬(x.h=y.h∧x.x=y.x∧x.c=y.c)∨¬x.cl=y.cl)∨¬((K_ mdlC x.m).length:Int)=((K_ mdlC y.m).length:Int):=gc0_ hc0
  exact (cR_ [r_,.r [] [.v (AI_ !eqNums [(L_,x.h,y.h),(L_,x.x,y.x),(L_,x.c,y.c)]),o_,o_,o_,o_,o_,.sel 1,o_,o_,o_,o_,o_,o_,o_,.sel 1],b_,r_] (bv false) Tryz.func11 (.d2 oz0 hc0)).weak (Y_ _) (DK_ (by (simp[bunEq,hz,eqNums] at *;intros;simp_all;done)))
 ·have gc0:((x.h=y.h∧x.x=y.x∧x.c=y.c)∧x.cl=y.cl)∧((K_ mdlC x.m).length:Int)=((K_ mdlC y.m).length:Int):=gc0_ hc0
  have oz3:=@lbn_ly (x) (y) sz hl h
  exact (cR_ [r_,.r [] [.v (AI_ !eqNums [(L_,x.h,y.h),(L_,x.x,y.x),(L_,x.c,y.c)]),o_,o_,o_,o_,o_,.sel 1,o_,o_,o_,o_,o_,o_,o_,.sel 1],d_,r_,.code [.any [0,1,4,6,7,8,9,10,11,17,18,26],.weak 5 (i64 (↑0:Int)),.sort] (AA_ 0) (zO oz3),r_] (bv true) Tryz.func11 (.d4 oz0 hc0 w0_ oz3)).weak (Y_ _) (DK_ (by (rw[Bool.eq_iff_iff];simp[bunEq,hz,eqNums] at *;simp_all;done)))
theorem lbn_n (x y:Bun) (i:Nat) (sz:x.Sz) (hl:x.m.length=y.m.length) (hi:i<x.m.length) (hf:mdlEq (x.m.getD i default) (y.m.getD i default)=false) (h:∀ k,k<i→mdlEq (x.m.getD k default) (y.m.getD k default)=true):VC N_ 11 ([bun x,bun y]) (bv false):=by
 obtain ⟨qa,qb⟩:=id sz
 have oz0:=(show BinTo N_ BinOp.neq 23 (Operand.tmp 7) (Operand.tmp 9) (BG_ #[AO_ L_ x.h,AO_ L_ x.x,AO_ L_ x.c]) (BG_ #[AO_ L_ y.h,AO_ L_ y.x,AO_ L_ y.c]) (AI_ !eqNums [(L_,x.h,y.h),(L_,x.x,y.x),(L_,x.c,y.c)]) from ((bin_nums (l:=[(L_,x.h,y.h),(L_,x.x,y.x),(L_,x.c,y.c)]) (by kernel_rfl) (by kernel_rfl) (by kernel_rfl) (by kernel_rfl) _ _).2))
 rcases bft (!eqNums [(L_,x.h,y.h),(L_,x.x,y.x),(L_,x.c,y.c)] || x.cl != y.cl || ((K_ mdlC x.m).length:Int) != ((K_ mdlC y.m).length:Int)) with hc0|hc0
 ·have gc0:(¬(x.h=y.h∧x.x=y.x∧x.c=y.c)∨¬x.cl=y.cl)∨¬((K_ mdlC x.m).length:Int)=((K_ mdlC y.m).length:Int):=gc0_ hc0
  exact cR_ [r_,.r [] [.v (AI_ !eqNums [(L_,x.h,y.h),(L_,x.x,y.x),(L_,x.c,y.c)]),o_,o_,o_,o_,o_,.sel 1,o_,o_,o_,o_,o_,o_,o_,.sel 1],b_,r_] _ Tryz.func11 (.d2 oz0 hc0)
 ·have gc0:((x.h=y.h∧x.x=y.x∧x.c=y.c)∧x.cl=y.cl)∧((K_ mdlC x.m).length:Int)=((K_ mdlC y.m).length:Int):=gc0_ hc0
  have oz3:=@lbn_ln (x) (y) (i) sz hl hi hf h
  exact cR_ [r_,.r [] [.v (AI_ !eqNums [(L_,x.h,y.h),(L_,x.x,y.x),(L_,x.c,y.c)]),o_,o_,o_,o_,o_,.sel 1,o_,o_,o_,o_,o_,o_,o_,.sel 1],d_,r_,.code [.any [0,1,4,6,7,8,9,10,11,17,18,26],.weak 5 (i64 (↑0:Int)),.sort] (DN_) (zO oz3)] _ Tryz.func11 (.d4 oz0 hc0 w0_ oz3)
theorem lbn_v (x y:Bun) (sz:x.Sz):VC N_ 11 [bun x,bun y] (bv (bunEq x y)):=by
 rcases zip_cases mdlEq x.m y.m with ⟨h,e⟩|⟨h,q,e⟩|⟨h,i,hi,hf,q,e⟩
 ·rw[show bunEq x y=false by simp[bunEq,e]];exact lbn_d x y sz h
 ·exact lbn_y x y sz h q e
 ·rw[show bunEq x y=false by simp[bunEq,e]];exact lbn_n x y i sz h hi hf q
structure PX (u p:Bun) (x:Ten) (j:Nat):Prop where
 m:(pnt p x j).mo=(pnt u x j).mo
 b:(pnt p x j).bl=(pnt u x j).bl
 a:vA p (pnt p x j).mo (pnt p x j).bl (pnt p x j).v=vA u (pnt u x j).mo (pnt u x j).bl (pnt u x j).v
 g:vM p (pnt p x j).mo (pnt p x j).bl (pnt p x j).v=vM u (pnt u x j).mo (pnt u x j).bl (pnt u x j).v
 e:vE p (pnt p x j).mo (pnt p x j).bl (pnt p x j).v=vE u (pnt u x j).mo (pnt u x j).bl (pnt u x j).v
noncomputable def pkb_e_I (u p:Bun) (x:Ten) (I:List Nat) (k:Nat):VS:=stt 230 [(14,.sl 8 (I.map (exR u x))),(16,.sl 8 (I.map (exR p x))),(18,i64 k)] []
noncomputable def pkb_e_Z (u p:Bun) (x:Ten) (I:List Nat):VS:=pkb_e_I u p x I (I.length)
theorem pkb_e_s (u p:Bun) (x:Ten) (I:List Nat) (hI:∀ j∈I,PX u p x j) (hl:I.length≤100) (k:Nat) (hk:k<I.length):VT N_ (fnC Tryz.f6 [1,1,1,1,1,1,1,1,1,1,1,0,1,0,0]) (pkb_e_I u p x I k) .normal (pkb_e_I u p x I (k+1)):=by
 have q:=getD_in hI hk
 obtain ⟨q1,q2,q3,q4,q5⟩:=q
 have oz1:=(s_ (0≤(↑k:Int)))
 have oz2:=(map_at (exR u x) (default) (l:=I) (i:=k) hk)
 have oz4:=(map_at (exR p x) (default) (l:=I) (i:=k) hk)
 exact tR_ [r_,b_,.r [] [.row (sO oz2),.row (sO oz4),o_,o_,o_,.row (sO oz2),o_,o_,o_,o_,o_,.row (sO oz4),o_,o_,o_,.sel 1,o_,o_,o_,.row (sO oz2),o_,o_,o_,o_,o_,o_,.row (sO oz4),o_,o_,o_,o_,.sel 1,o_,o_,o_,.row (sO oz2),o_,o_,o_,o_,o_,o_,.row (sO oz4),o_,o_,o_,o_,.sel 1,o_,o_,o_,.row (sO oz2),o_,o_,o_,o_,o_,o_,.row (sO oz4),o_,o_,o_,o_,.sel 1],d_,.r [] [.n ((↑k:Int)+1)]] [.any (rg [(154,18),(183,2),(198,2),(213,2),(228,1)]),.weak 18 (i64 (↑(k+1):Int)),.sort] (.c8 (show decide ((↑k:Int)<((K_ (exR u x) I).length:Int))=true by (rw[q1,q2] at *;simp_all;done)) oz1 oz2 oz1 oz4 oz1 oz2 oz1<|.c8 oz4 oz1 oz2 oz1 oz4 oz1 oz2 oz1<|.d8 oz4 oz1 oz2 oz1 oz4 (show ((↑(pnt u x (I.getD k default)).mo:Int) != (↑(pnt p x (I.getD k default)).mo:Int) || (↑(pnt u x (I.getD k default)).bl:Int) != (↑(pnt p x (I.getD k default)).bl:Int) || vA u (pnt u x (I.getD k default)).mo (pnt u x (I.getD k default)).bl (pnt u x (I.getD k default)).v != vA p (pnt p x (I.getD k default)).mo (pnt p x (I.getD k default)).bl (pnt p x (I.getD k default)).v || vM u (pnt u x (I.getD k default)).mo (pnt u x (I.getD k default)).bl (pnt u x (I.getD k default)).v != vM p (pnt p x (I.getD k default)).mo (pnt p x (I.getD k default)).bl (pnt p x (I.getD k default)).v || !vE u (pnt u x (I.getD k default)).mo (pnt u x (I.getD k default)).bl (pnt u x (I.getD k default)).v==vE p (pnt p x (I.getD k default)).mo (pnt p x (I.getD k default)).bl (pnt p x (I.getD k default)).v)=false by (rw[q1,q2] at *;simp_all;done)) (i6n ((↑k:Int)+1) (by omega)) (wS_ k))
theorem pkb_e_e (u p:Bun) (x:Ten) (I:List Nat) (hI:∀ j∈I,PX u p x j) (hl:I.length≤100):VT N_ (fnC Tryz.f6 [1,1,1,1,1,1,1,1,1,1,1,0,1,0,0]) (pkb_e_I u p x I (I.length)) (.exit 4) (pkb_e_Z u p x I):=by
 exact tR_ [r_,d_] [.any (rg [(154,4)]),.sort] (.d (show decide ((I.length:Int)<((K_ (exR u x) I).length:Int))=false by (simp;done)))
theorem pkb_e (u p:Bun) (x:Ten) (I:List Nat) (hI:∀ j∈I,PX u p x j) (hl:I.length≤100):VT N_ (fnC Tryz.f6 [1,1,1,1,1,1,1,1,1,1,1,0,1,0]) (pkb_e_I u p x I 0) (.exit 4) (pkb_e_Z u p x I) :=
 VT.loop (fun k=>pkb_e_I u p x I k) (I.length) (fun k hk=>pkb_e_s u p x I hI hl k hk) (pkb_e_e u p x I hI hl) (by intro h;cases h)
structure PT (A B:List (List Int)):Prop where
 la:A.length≤4
 lab:B.length=A.length
 lr:∀ i,i<A.length→(A.getD i default).length≤8∧(B.getD i default).length=(A.getD i default).length
 le:∀ i,i<A.length→∀ k,k<(A.getD i default).length→(B.getD i default).getD k 0≤(A.getD i default).getD k 0
noncomputable def pkb_i_I (u p:Bun) (x:Ten) (A B:List (List Int)) (i:Nat) (k:Nat):VS:=stt 230 [(2,.ptr 2 0 0),(3,.ptr 3 0 0),(5,.ptr 5 0 0),(8,.sl 1 (A.map intsC)),(10,.sl 1 (B.map intsC)),(12,i64 i),(13,i64 k)] [(2,.var (bunC u)),(3,.var (tnC x)),(5,.var (bunC p))]
noncomputable def pkb_i_Z (u p:Bun) (x:Ten) (A B:List (List Int)) (i:Nat):VS:=pkb_i_I u p x A B i ((A.getD i default).length)
theorem pkb_i_s (u p:Bun) (x:Ten) (A B:List (List Int)) (i:Nat) (H:PT A B) (hi:i<A.length) (k:Nat) (hk:k<(A.getD i default).length):VT N_ (fnC Tryz.f6 [1,1,1,1,1,1,1,0,1,0,0,1,0,0,1,1,0,0]) (pkb_i_I u p x A B i k) .normal (pkb_i_I u p x A B i (k+1)):=by
 obtain ⟨la,lab,lr,le⟩:=id H
 obtain ⟨q1,q2⟩:=lr i hi
 have q3:=le i hi k hk
 have oz0:=(s_ (0≤(↑i:Int)))
 have oz1:=(map_at (intsC) (default) (l:=A) (i:=i) hi)
 have oz4:=(map_at (intsC) (default) (l:=B) (i:=i) (by omega))
 have oz5:=(s_ (0≤(↑k:Int)))
 have oz6:=(map_at (row1 .i64) (0) (l:=B.getD i default) (i:=k) (by omega))
 have oz10:=(map_at (row1 .i64) (0) (l:=A.getD i default) (i:=k) hk)
 exact tR_ [.r [] [.row (sO oz1)],b_,.r [] [.row (sO oz4),.row (sO oz6),.row (sO oz1),.row (sO oz10)],d_,.r [] [.n ((↑k:Int)+1)]] [.any (rg [(108,24)]),.weak 13 (i64 (↑(k+1):Int)),.sort] (.c8 oz0 oz1 (show decide ((↑k:Int)<((K_ (row1 .i64) (A.getD i default)).length:Int))=true by (simp at *;omega)) oz0 oz4 oz5 oz6 oz0<|.d6 oz1 oz5 oz10 (decide_eq_false (p:=((B.getD i default).getD k 0>(A.getD i default).getD k 0)) (by omega)) (i6n ((↑k:Int)+1) (by omega)) (wS_ k))
theorem pkb_i_e (u p:Bun) (x:Ten) (A B:List (List Int)) (i:Nat) (H:PT A B) (hi:i<A.length):VT N_ (fnC Tryz.f6 [1,1,1,1,1,1,1,0,1,0,0,1,0,0,1,1,0,0]) (pkb_i_I u p x A B i ((A.getD i default).length)) (.exit 2) (pkb_i_Z u p x A B i):=by
 obtain ⟨la,lab,lr,le⟩:=id H
 obtain ⟨q1,q2⟩:=lr i hi
 have oz1:=(map_at (intsC) (default) (l:=A) (i:=i) hi)
 exact tR_ [.r [] [.row (sO oz1)],d_] [.any (rg [(108,7)]),.sort] (.d3 (s_ (0≤(↑i:Int))) oz1 (show decide (((A.getD i default).length:Int)<((K_ (row1 .i64) (A.getD i default)).length:Int))=false by (simp;done)))
theorem pkb_i (u p:Bun) (x:Ten) (A B:List (List Int)) (i:Nat) (H:PT A B) (hi:i<A.length):VT N_ (fnC Tryz.f6 [1,1,1,1,1,1,1,0,1,0,0,1,0,0,1,1,0]) (pkb_i_I u p x A B i 0) (.exit 2) (pkb_i_Z u p x A B i) :=
 VT.loop (fun k=>pkb_i_I u p x A B i k) ((A.getD i default).length) (fun k hk=>pkb_i_s u p x A B i H hi k hk) (pkb_i_e u p x A B i H hi) (by intro h;cases h)
noncomputable def pkb_o_I (u p:Bun) (x:Ten) (A B:List (List Int)) (k:Nat):VS:=stt 230 [(2,.ptr 2 0 0),(3,.ptr 3 0 0),(5,.ptr 5 0 0),(8,.sl 1 (A.map intsC)),(10,.sl 1 (B.map intsC)),(12,i64 k)] [(2,.var (bunC u)),(3,.var (tnC x)),(5,.var (bunC p))]
noncomputable def pkb_o_Z (u p:Bun) (x:Ten) (A B:List (List Int)):VS:=pkb_o_I u p x A B (A.length)
theorem pkb_o_s (u p:Bun) (x:Ten) (A B:List (List Int)) (H:PT A B) (k:Nat) (hk:k<A.length):VT N_ (fnC Tryz.f6 [1,1,1,1,1,1,1,0,1,0,0]) (pkb_o_I u p x A B k) .normal (pkb_o_I u p x A B (k+1)):=by
 obtain ⟨la,lab,lr,le⟩:=id H
 obtain ⟨q1,q2⟩:=lr k hk
 have q3:=le k hk
 have oz1:=(s_ (0≤(↑k:Int)))
 have oz2:=(map_at (intsC) (default) (l:=A) (i:=k) hk)
 have oz4:=(map_at (intsC) (default) (l:=B) (i:=k) (by omega))
 have oz7:=@pkb_i (u) (p) (x) (A) (B) (k) H hk
 exact tR_ [r_,b_,.r [] [.row (sO oz2),.row (sO oz4)],d_,r_,.code [.any (rg [(91,4),(97,11)]),.weak 13 (i64 (↑0:Int)),.sort] (AA_ 2) (zO oz7),.r [] [.n ((↑k:Int)+1)]] [.any [13,95,96],.weak 12 (i64 (↑(k+1):Int)),.sort] (.c8 (show decide ((↑k:Int)<((K_ intsC A).length:Int))=true by (simp;omega)) oz1 oz2 oz1 oz4 (show (((K_ (row1 .i64) (A.getD k default)).length:Int) != ((K_ (row1 .i64) (B.getD k default)).length:Int))=false by (simp at *;omega)) w0_ oz7<|.d2 (i6n ((↑k:Int)+1) (by omega)) (wS_ k))
theorem pkb_o_e (u p:Bun) (x:Ten) (A B:List (List Int)) (H:PT A B):VT N_ (fnC Tryz.f6 [1,1,1,1,1,1,1,0,1,0,0]) (pkb_o_I u p x A B (A.length)) (.exit 0) (pkb_o_Z u p x A B):=by
 obtain ⟨la,lab,lr,le⟩:=id H
 exact tR_ [r_,d_] [.any (rg [(91,4)]),.sort] (.d (show decide ((A.length:Int)<((K_ intsC A).length:Int))=false by (simp;done)))
theorem pkb_o (u p:Bun) (x:Ten) (A B:List (List Int)) (H:PT A B):VT N_ (fnC Tryz.f6 [1,1,1,1,1,1,1,0,1,0]) (pkb_o_I u p x A B 0) (.exit 0) (pkb_o_Z u p x A B) :=
 VT.loop (fun k=>pkb_o_I u p x A B k) (A.length) (fun k hk=>pkb_o_s u p x A B H k hk) (pkb_o_e u p x A B H) (by intro h;cases h)
structure PK (u:Bun) (x:Ten) (A B:List (List Int)) (I:List Nat) (e:Int):Prop where
 hu:bunS u=true
 hd:x.d.length≤300
 h1:VC N_ 16 [bun u] (.tup [bun (prU u),i64 0])
 h2:VC N_ 17 [bun u] (.agg [i64 0,i64 0,i64 0,i64 0])
 h3:VC N_ 18 [bun (prU u)] (bv true)
 h4:VC N_ 19 [bun u] (.tup [.sl 1 (A.map intsC),i64 0])
 h5:VC N_ 19 [bun (prU u)] (.tup [.sl 1 (B.map intsC),i64 0])
 h6:VC N_ 20 [bun u,ten .i8 x] (.tup [.sl 8 (I.map (exR u x)),i64 e])
 h7:VC N_ 20 [bun (prU u),ten .i8 x] (.tup [.sl 8 (I.map (exR (prU u) x)),i64 e])
 hk:VC N_ 15 [] (bv true)
 li:I.length≤100
 hI:∀ j∈I,PX u (prU u) x j
 lm:u.m.length≤4
 q:(!bunS u || decide (((x.d.map (row1 .i8)).length:Int)>300))=false
 z:eqNums [(L_,(prU u).h,u.h),(L_,(prU u).x,u.x),(L_,(prU u).c,u.c)]=true
theorem pruneB_t (u:Bun) (x:Ten) (A B:List (List Int)) (I:List Nat) (e:Int) (H:PK u x A B I e) (T:PT A B):VC N_ 6 ([bun u,ten .i8 x]) (bv true):=by
 obtain ⟨hu,hd,h1,h2,h3,h4,h5,h6,h7,hk,li,hI,lm,q,z⟩:=H
 have lu:(prU u).m.length=u.m.length:=S_ _
 have z2:(!eqNums [(L_,(prU u).h,u.h),(L_,(prU u).x,u.x),(L_,(prU u).c,u.c)] || (prU u).cl != u.cl || (((prU u).m.map mdlC).length:Int) != ((u.m.map mdlC).length:Int))=false:=by
  rw[z,S_,S_,lu,show (prU u).cl=u.cl from rfl];simp
 have oz0:=@few31_v (u)
 have oz2:=@h1
 have oz3:=@h2
 have oz4:=z2_
 have oz7:=@h3
 have oz18:=@h4
 have oz19:=@h5
 have oz20:=w0_
 have oz21:=@pkb_o (u) (prU u) (x) (A) (B) T
 have oz22:=@h6
 have oz23:=@h7
 have oz26:=@pkb_e (u) (prU u) (x) (I) hI li
 have oz27:=@known51_v
 exact cR_ [r_,.r [] [cr oz0,o_,o_,o_,o_,.sel 1],d_,.r [] [cr oz2],.r [] [cr oz3],r_,d_,.r [] [e_,e_,cr oz7,e_,f_,e_,e_,e_,e_,e_,.v (AI_ !eqNums [(L_,(prU u).h,u.h),(L_,(prU u).x,u.x),(L_,(prU u).c,u.c)]),f_,o_,o_,o_,o_,o_,.sel 1,o_,o_,o_,o_,o_,o_,o_,.sel 1],d_,.r [] [cr oz18],.r [] [cr oz19],r_,.code [.any (rg [(0,2),(4,1),(6,2),(9,1),(11,1),(19,4),(27,1),(29,10),(51,15),(71,2),(80,11)]),.drop [7],.weak 12 (wO oz20),.sort] (AA_ 0) (zO oz21),.r [] [cr oz22],.r [] [cr oz23],.r [] [o_,o_,o_,o_,o_,.sel 1],d_,r_,.code [.any (rg [(2,2),(5,1),(8,1),(10,1),(12,1),(15,1),(17,1),(132,16),(153,1)]),.drop [2,3,5],.weak 18 (wO oz20),.sort] (AA_ 4) (zO oz26),.r [] [cr oz27]] _ Tryz.func6 (.c8 oz0 q oz2 oz3 oz4 oz4 oz4 oz7<|.c8 oz4 oz4 oz4 oz4 oz4 oz4 oz4 (show BinTo N_ BinOp.neq 23 (Operand.tmp 60) (Operand.tmp 62) (BG_ #[AO_ L_ (prU u).h,AO_ L_ (prU u).x,AO_ L_ (prU u).c]) (BG_ #[AO_ L_ u.h,AO_ L_ u.x,AO_ L_ u.c]) (AI_ !eqNums [(L_,(prU u).h,u.h),(L_,(prU u).x,u.x),(L_,(prU u).c,u.c)]) from ((bin_nums (l:=[(L_,(prU u).h,u.h),(L_,(prU u).x,u.x),(L_,(prU u).c,u.c)]) (by kernel_rfl) (by kernel_rfl) (by kernel_rfl) (by kernel_rfl) _ _).2))<|.c8 oz4 z2 oz18 oz19 oz20 oz21 oz22 oz23<|.d4 (show (e != e || ((K_ (exR u x) I).length:Int) != ((K_ (exR (prU u) x) I).length:Int))=false by (simp;done)) oz20 oz26 oz27)
theorem known51:VC N_ 15 [] (bv true):=known51_v
theorem pruneBundles_n (u:Bun) (x:Ten) (h:bunS u=false∨300<x.d.length) (hk:VC N_ 15 [] (bv true)):VC N_ 6 ([bun u,ten .i8 x]) (bv true):=by
 have q:(!bunS u || decide (((x.d.map (row1 .i8)).length:Int)>300))=true:=by
  rw[S_]
  rcases h with h|h
  ·rw[h];rfl
  ·rw[decide_eq_true (s_ (((x.d.length:Int)>300))),DL_]
 have oz0:=@few31_v (u)
 have oz2:=@hk
 exact cR_ [r_,.r [] [cr oz0,o_,o_,o_,o_,.sel 1],b_,.r [] [cr oz2]] _ Tryz.func6 (.d3 oz0 q oz2)
theorem pruneBundles_x (u:Bun) (x:Ten) (e a b c:Int) (q:(!bunS u || decide (((x.d.map (row1 .i8)).length:Int)>300))=false) (h:e≠0) (hp:VC N_ 16 [bun u] (.tup [.agg [i64 0,i64 0,i64 0,i64 0,nilv],i64 e])) (hv:VC N_ 17 [bun u] (.agg [i64 e,i64 a,i64 b,i64 c])) (hk:VC N_ 15 [] (bv true)):VC N_ 6 ([bun u,ten .i8 x]) (bv true):=by
 have z0:(Bun.mk 0 0 0 0 []).Sz:=⟨by simp,fun _ h=>by cases h⟩
 have z1:(e==e)=true:=by simp
 have z2:(e != 0)=true:=by simpa using h
 have oz0:=@few31_v (u)
 have oz2:=@hp
 have oz3:=@hv
 have oz9:=@lbn_v (Bun.mk 0 0 0 0 []) (Bun.mk 0 0 0 0 []) z0
 have oz11:=z1_
 have oz12:=@hk
 exact cR_ [r_,.r [] [cr oz0,o_,o_,o_,o_,.sel 1],d_,.r [] [cr oz2],.r [] [cr oz3],r_,b_,.r [] [e_,e_,e_,ca oz9,e_,e_,cr oz12,e_]] _ Tryz.func6 (.c8 oz0 q oz2 oz3 z2 z1 z1 z1<|.d6 (show WeakL [AV.agg [i64 0,i64 0,i64 0,i64 0,AV.lit (AY_ none 0 0)],AV.agg [i64 0,i64 0,i64 0,i64 0,AV.lit (AY_ none 0 0)]] [AV.agg [i64 (Bun.mk 0 0 0 0 []).h,i64 (Bun.mk 0 0 0 0 []).x,i64 (Bun.mk 0 0 0 0 []).c,i64 (Bun.mk 0 0 0 0 []).cl,AV.sl 1 []],AV.agg [i64 (Bun.mk 0 0 0 0 []).h,i64 (Bun.mk 0 0 0 0 []).x,i64 (Bun.mk 0 0 0 0 []).c,i64 (Bun.mk 0 0 0 0 []).cl,AV.sl 1 []]] from (.cons (AV_ (.cons (.refl _) (.cons (.refl _) (.cons (.refl _) (.cons (.refl _) (.cons (Weak.nil _) .nil)))))) (.cons (AV_ (.cons (.refl _) (.cons (.refl _) (.cons (.refl _) (.cons (.refl _) (.cons (Weak.nil _) .nil)))))) .nil))) oz9 z1 oz11 oz12 oz11)
theorem tab_at (u:Bun) {n i:Nat} (h:i<n):(tabK u n).getD i default=rowK (u.m.getD i default).l u.inp u.cl (u.m.getD i default).l.length:=by
 induction n with
 | zero=>omega
 | succ n ih =>
  rw[tabK,Z_]
  by_cases e:i=n
  ·subst e;rw[CR_ (by rw[tabK_len];omega),tabK_len,Nat.sub_self];rfl
  ·rw[CN_ (by rw[tabK_len];omega),←Z_];exact ih (by omega)
theorem row_at (l:List Blc) (a:Shp) (cl:Int) {n k:Nat} (h:k<n):(rowK l a cl n).getD k 0=blockC (l.getD k default) (inS l a k) cl:=by
 induction n with
 | zero=>omega
 | succ n ih =>
  rw[rowK,Z_]
  by_cases e:k=n
  ·subst e;rw[CR_ (by rw[rowK_len];omega),rowK_len,Nat.sub_self];rfl
  ·rw[CN_ (by rw[rowK_len];omega),←Z_];exact ih (by omega)
theorem pt_of {u:Bun} (h:u.May):PT (tabK u u.m.length) (tabK (prU u) (prU u).m.length):=by
 have lm:(prU u).m.length=u.m.length:=S_ _
 refine ⟨by rw[tabK_len];exact h.sm.l,by rw[tabK_len,tabK_len,lm],fun i hi=>?_,fun i hi k hk=>?_⟩
 ·rw[tabK_len] at hi
  rw[tab_at u hi,tab_at (prU u) (by omega),rowK_len,rowK_len,prM_at u hi,S_]
  exact ⟨(getD_in h.sm.m hi).1,rfl⟩
 ·rw[tabK_len] at hi
  obtain ⟨_,_,lv⟩:=h.lv hi
  rw[tab_at u hi,rowK_len] at hk
  rw[tab_at u hi,tab_at (prU u) (by omega),prM_at u hi,row_at _ _ _ hk,row_at _ _ _ (by rw[S_];exact hk),map_at' prB hk]
  show blockC (prB ((u.m.getD i default).l.getD k default)) (inS ((u.m.getD i default).l.map prB) u.inp k) u.cl≤_
  rw[inS_prune lv k (by omega)]
  exact blockC_prune (validE_ok (lv k hk))
theorem px_of {u:Bun} (h:u.May) {x:Ten} (ok:x.Ok) (r:tenRight x=true) (s:x.sh=u.inp) (h1:0<u.m.length) {k:Nat} (hk:k<stp u u.m.length):PX u (prU u) x k:=by
 obtain ⟨g,fu⟩:=h.go
 have I:=pinv g fu ok r s h1 k (by omega)
 have A:=I.at g ok r s hk
 have F:=A.step
 obtain ⟨i1,i2,i3⟩:=pnt_prune h ok r s h1 k (by omega)
 have eb:=blkAt_prune A.m A.b
 have eo:=outAt_prune A.m A.b F
 refine ⟨i1,i2,?_,?_,?_⟩
 ·rw[i1,i2,i3];unfold vA exAt;rw[eo,eb];rfl
 ·rw[i1,i2,i3];unfold vM exAt;rw[eo,eb];rfl
 ·rw[i1,i2,i3];unfold vE exAt;rw[eo,eb];rfl
theorem all_of {u:Bun} (h:u.May) {x:Ten} (ok:x.Ok) (r:tenRight x=true) (s:x.sh=u.inp) (h1:0<u.m.length):VC N_ 20 [bun u,ten .i8 x] (.tup [.sl 8 ((exI u x (stp u u.m.length)).map (exR u x)),i64 0]):=by
 obtain ⟨g,fu⟩:=h.go
 have km:=stp_le g.sm u.m.length (AT_ _)
 have hl:=g.sm.l
 refine all38_y u x g.sm ok r s (fun k hk=>?_) (by omega)
 have I:=pinv g fu ok r s h1 k (by omega)
 exact wstep_v (pnt u x k) (I.at g ok r s hk) I.v0
theorem pruneBundles_v (u:Bun) (x:Ten) (ok:u.Ok) (okx:x.Ok):VC N_ 6 [bun u,ten .i8 x] (bv true):=by
 by_cases h:bunS u=false∨300<x.d.length
 ·exact pruneBundles_n u x h known51
 ·have hu:bunS u=true:=by cases q:bunS u;exact absurd (.inl q) h;rfl
  have hd:x.d.length≤300:=by apply cbc;intro q;exact h (.inr (by omega))
  have sm:=Bun.sm hu
  have q:(!bunS u || decide (((x.d.map (row1 .i8)).length:Int)>300))=false:=by
   rw[hu,S_,decide_eq_false (by omega)];rfl
  by_cases hw:(bunE u).w=0
  ·have M:u.May:=⟨ok,sm,hw⟩
   have MP:=M.prune
   have g:=M.go.1
   have gp:=MP.go.1
   obtain ⟨w,hm⟩:=right_models hw
   have h1:0<u.m.length:=by
    unfold wholeE at w
    split at w
    ·cases w
    ·split at w
     ·cases w
     ·split at w
      ·cases w
      ·omega
   have lm:(prU u).m.length=u.m.length:=S_ _
   have v2:=rvbundle_v u ok sm
   rw[bunE_y w hm] at v2
   have v3:=rvright_v (prU u) MP.ok MP.sm
   rw[MP.w] at v3
   have z:eqNums [(L_,(prU u).h,u.h),(L_,(prU u).x,u.x),(L_,(prU u).c,u.c)]=true:=sh_eq (a:=(prU u).inp) (b:=u.inp) rfl
   have t4:=rtab_y u ok sm g.s
   have t5:=rtab_y (prU u) MP.ok MP.sm gp.s
   by_cases hx:tenRight x=true∧x.sh=u.inp
   ·have a6:=all_of M okx hx.1 hx.2 h1
    have a7:=all_of MP okx hx.1 hx.2 (by rw[lm];exact h1)
    rw[show stp (prU u) (prU u).m.length=stp u u.m.length from by rw[lm];exact stp_prune u _ (AT_ _),exI_prune M okx hx.1 hx.2 h1 _ (AT_ _)] at a7
    have km:=stp_le sm u.m.length (AT_ _)
    have hl:=sm.l
    have li:=exI_len u x (stp u u.m.length)
    exact pruneB_t u x _ _ _ 0 ⟨hu,hd,pbun_y u ok sm hw,v2,v3,t4,t5,a6,a7,known51,by omega,fun j hj=>px_of M okx hx.1 hx.2 h1 (exI_mem j hj),sm.l,q,z⟩ (pt_of M)
   ·have hx':tenRight x=false∨x.sh≠u.inp:=by
     cases r:tenRight x with
     | false=>exact .inl rfl
     | true=>exact .inr fun e=>hx ⟨r,e⟩
    exact pruneB_t u x _ _ [] 5 ⟨hu,hd,pbun_y u ok sm hw,v2,v3,t4,t5,all38_n u x okx hx',all38_n (prU u) x okx hx',known51,by simp,(fun j hj=>by cases hj),sm.l,q,z⟩ (pt_of M)
  ·exact pruneBundles_x u x (bunE u).w (bunE u).m (bunE u).b (bunE u).n q hw (pbun_x u ok sm hw) (rvbundle_v u ok sm) known51
end Go.Proofs.YtdfihaminnmgpaaGreat
