/- A part of this claim. No condition. -/
import Derived.Test.YtdfihaminnmgpaaGreatBundleBackG8
set_option maxRecDepth 100000
set_option maxHeartbeats 2000000
set_option linter.unusedVariables false
set_option linter.unusedSimpArgs false
set_option linter.unnecessarySimpa false
namespace Go.Proofs.YtdfihaminnmgpaaGreat
open Go.RowKit
open Bool renaming and_eq_true→N_,or_true→DM_
open Int renaming toNat_natCast→AJ_
open List renaming map→K_,length_append→P_,length_map→R_,map_append→B_,append_assoc→AZ_,eq_nil_of_length_eq_zero→AC_,length_cons→AE_,length_drop→BK_,length_take→BS_,mem_append→BH_,all_eq_true→CF_,mem_of_mem_take→CJ_
open Nat renaming le_trans→Y_,le_refl→AX_,zero_le→AD_
open Tryz renaming prog→L_
open Value renaming slice→AQ_
open Weak renaming nil→AG_,tup→AI_,agg→BL_
open WeakL renaming refl→AM_
theorem accM_rng (l:List Blc) {B:List Int} (h:ByR B) (k:Nat):ByR (accM l B k):=by
 induction k with
 | zero=>exact h
 | succ k ih=>exact ih.app (blockR_rng _)
theorem modelR_rng (m:Mdl):ByR (modelR m).1:=by
 unfold modelR
 split
 ·exact ByR.nil
 ·split
  ·exact ByR.nil
  ·exact accM_rng _ (ByR.put _) _
theorem hdK_rng (q:List Int) (k:Nat):ByR (hdK putN q k):=by
 induction k with
 | zero=>intro x hx;simp only[hdK,List.mem_cons,List.not_mem_nil,or_false] at hx;omega
 | succ k ih=>exact ih.app (ByR.put _)
theorem accU_rng (l:List Mdl) {B:List Int} (h:ByR B) (k:Nat):ByR (accU l B k):=by
 induction k with
 | zero=>exact h
 | succ k ih=>exact ih.app (modelR_rng _)
def bodyL (u:Bun):List Int:=accU u.m (hdF putN u.h u.x u.c u.cl ((u.m.map mdlC).length:Int)) u.m.length
theorem bodyL_rng (u:Bun):ByR (bodyL u):=accU_rng _ (hdK_rng _ _) _
def encR (u:Bun):List Int×Int:=if (bunE u).w≠0 then ([],(bunE u).w) else if 1048572<(bodyL u).length then ([],25) else (sealL (bodyL u),0)
theorem lay_k {u:Bun} (h:(bunE u).w=0):∀ k,k<u.m.length→(modelR (u.m.getD k default)).2=0:=fun k hk=>getD_in (bun_lay h) hk
theorem encR_x {u:Bun} (h:¬ (bunE u).w=0):encR u=([],(bunE u).w):=i_ h
theorem encR_l {u:Bun} (h:(bunE u).w=0) (g:1048572<(bodyL u).length):encR u=([],25):=by unfold encR;rw[j_ (by simpa using h),i_ g]
theorem encR_y {u:Bun} (h:(bunE u).w=0) (g:(bodyL u).length≤1048572):encR u=(sealL (bodyL u),0):=by unfold encR;rw[j_ (by simpa using h),j_ (by omega)]
theorem penc_v (u:Bun) (ok:u.Ok) (sm:u.Sm) (fw:∀ m∈u.m,m.Pk) (hl:u.m.length≤4):VC L_ 9 [bun u] (.tup [ints .u8 (encR u).1,i64 (encR u).2]):=by
 by_cases h:(bunE u).w=0
 ·by_cases g:1048572<(bodyL u).length
  ·rw[encR_l h g];exact penc_l u putN (hdF putN) ok sm puts (hds putN) h fw hl (lay_k h) g
  ·rw[encR_y h (by omega)];exact penc_y u putN (hdF putN) sealL ok sm puts (hds putN) seals h fw hl (lay_k h) (s_ ((bodyL u).length≤_)) (bodyL_rng u)
 ·rw[encR_x h];exact penc_x u ok sm h
theorem encR_len {u:Bun}:(encR u).1.length≤1048576:=by
 unfold encR
 split
 ·exact AD_ _
 ·split
  ·exact AD_ _
  ·dsimp only;rw[sealL_len];omega
theorem modelR_few {m:Mdl} (h:m.Fw):(modelR m).1.length≤1000000:=by
 have a:=accM_le h (putN (m.l.length:Int)) (AX_ _)
 have b:=putN_len (m.l.length:Int)
 have c:=h.l
 unfold modelR
 split
 ·exact AD_ _
 ·split
  ·exact AD_ _
  ·dsimp only;omega
theorem known35:VC L_ 8 [] (bv true) :=
 known35_v (sealL [1]) (sealL_len [1]) (seal_f p32L [1] p4 (by simp) (by simp)) (dec_o [] 20 (by decide) (open_s [] (by decide)))
structure Bun.Fw (u:Bun):Prop where
 sm:u.Sm
 l:u.m.length≤4
 m:∀ m∈u.m,m.Fw
theorem Bun.fw {u:Bun} (ok:u.Ok) (h:bunS u=true):u.Fw:=by
 have sm:=Bun.sm h
 unfold bunS at h
 simp only[N_,E_,CF_] at h
 refine ⟨sm,h.1,fun m hm=>?_⟩
 have q:=h.2 m hm
 unfold mdlS at q
 simp only[N_,E_,CF_] at q
 exact ⟨fun x hx=>(Blc.fw ((ok.m m hm).l x hx) (q.2 x hx)).fz,q.1⟩
theorem Bun.Fw.pk {u:Bun} (h:u.Fw):∀ m∈u.m,m.Pk:=fun m hm=>(h.m m hm).pk (modelR_few (h.m m hm))
theorem Blc.Sm.sz {x:Blc} (h:x.Sm):x.Sz:=⟨by have:=h.l;omega,h.s,h.w,h.b⟩
theorem Bun.Sm.sz {u:Bun} (h:u.Sm) (hl:u.m.length≤1000):u.Sz:=⟨hl,fun m hm=>⟨by have:=(h.m m hm).1;omega,fun x hx=>((h.m m hm).2 x hx).sz⟩⟩
theorem nodEq_rfl (n:Nod):nodEq n n=true:=(nodEq_iff _ _).2 rfl
theorem blcEq_rfl (x:Blc):blcEq x x=true:=by
 unfold blcEq
 rw[zip_refl fun n _=>nodEq_rfl n];simp
theorem mdlEq_rfl (m:Mdl):mdlEq m m=true:=zip_refl fun x _=>blcEq_rfl x
theorem bunEq_rfl (u:Bun):bunEq u u=true:=by
 unfold bunEq
 rw[zip_refl fun x _=>mdlEq_rfl x];simp
theorem mkL_mem {s:Rst} {n:Nat} {x:Blc} (h:x∈mkL s n):∃ k,k<n∧x=(blkT (mkS s k)).1.1:=by
 induction n with
 | zero=>cases h
 | succ n ih =>
  rw[mkL,BH_] at h
  rcases h with h|h
  ·obtain ⟨k,hk,e⟩:=ih h;exact ⟨k,by omega,e⟩
  ·exact ⟨n,by omega,List.mem_singleton.1 h⟩
theorem muL_mem {s:Rst} {n:Nat} {x:Mdl} (h:x∈muL s n):∃ k,k<n∧x=⟨(mdlT (muS s k)).1.1⟩:=by
 induction n with
 | zero=>cases h
 | succ n ih =>
  rw[muL,BH_] at h
  rcases h with h|h
  ·obtain ⟨k,hk,e⟩:=ih h;exact ⟨k,by omega,e⟩
  ·exact ⟨n,by omega,List.mem_singleton.1 h⟩
theorem tkL_ok {s:Rst} (h:s.Fit) (n:Nat):∀ y∈tkL s n,y.Ok:=by
 induction n with
 | zero=>intro y hy;cases hy
 | succ n ih =>
  intro y hy
  rw[tkL,BH_] at hy
  rcases hy with hy|hy
  ·exact ih y hy
  ·rw[List.mem_singleton.1 hy];exact takeR_ok _ (tkS_fit h n).i
theorem blk_ok {s:Rst} (h:s.Fit) (he:(blkT s).1.2=0):(blkT s).1.1.Ok∧(blkT s).1.1.n.length≤8:=by
 rcases blkT_cases s with ⟨m,hm,hf,hh⟩|⟨hh,hb⟩|⟨hh,hb⟩
 ·rw[blkT_f hm hf hh] at he;exact absurd he hf
 ·rw[blkT_b hh hb] at he;exact absurd he hb
 ·rw[blkT_y hh hb]
  have r:=cntV_rng (m:=8) h.i (by decide)
  have ln:(nodesT s).length=(cntV s 8).toNat:=tkL_len _ _
  have on:∀ n∈nodesT s,n.Ok:=tkL_ok (cnt_fit h 8) _
  have ist:(stB s).In:=(tkS_fit (cnt_fit h 8) (cntV s 8).toNat).i
  dsimp only
  unfold exN
  split
  ·exact ⟨⟨on,smlV8 _ _,widV32 _ _,cntV32 (lst_in (cnt_in ist _)) (by decide) (by decide)⟩,by dsimp only;omega⟩
  ·exact ⟨⟨on,nil8,nil32,z32⟩,by dsimp only;omega⟩
theorem mdlT_good {s:Rst} (h:s.Fit) (he:(mdlT s).1.2=0):(∀ x∈(mdlT s).1.1,x.Ok∧x.Sm)∧(mdlT s).1.1.length≤6:=by
 have q:=cntV_rng (m:=6) h.i (by decide)
 unfold mdlT at he ⊢
 rcases first_of (n:=(cntV s 6).toNat) (p:=fun k=>(blkT (mkS (cntS s 6) k)).1.2=0) with hh|⟨m,hm,hf,hh⟩
 ·rw[takeM_y hh,j_ (by simp)] at he ⊢
  by_cases hb:(mkS (cntS s 6) (cntV s 6).toNat).2=0
  ·rw[j_ (by simpa using hb)]
   refine ⟨fun x hx=>?_,by dsimp only;rw[mkL_len];omega⟩
   obtain ⟨k,hk,rfl⟩:=mkL_mem hx
   have fk:=mkS_fit (cnt_fit h 6) k
   obtain ⟨t4,t5⟩:=blk_ok fk (hh k hk)
   have sb:=blkT_SB fk
   exact ⟨t4,by omega,sb.n,sb.w,sb.b⟩
  ·rw[i_ hb] at he;exact absurd he hb
 ·rw[takeM_n hm hf hh,i_ (by exact hf)] at he;exact absurd he hf
theorem bunU_good {s:Rst} (h:s.Fit) (hh:∀ k,k<(hN s).toNat→(mdlT (muS (hS5 s) k)).1.2=0):(bunU s).Ok∧(bunU s).Sm:=by
 have f1:=cnt_fit h 16
 have f2:=cnt_fit f1 16
 have f3:=cnt_fit f2 1024
 have f4:=cnt_fit f3 16
 have f5:=cnt_fit f4 3
 have q:=cntV_rng (m:=3) f4.i (by decide)
 have good:∀ d∈muL (hS5 s) (hN s).toNat,(∀ x∈d.l,x.Ok∧x.Sm)∧d.l.length≤6:=fun d hd=>by
  obtain ⟨k,hk,rfl⟩:=muL_mem hd
  exact mdlT_good (muS_fit f5 k) (hh k hk)
 refine ⟨⟨cntV64 h.i (by decide) (by decide),cntV64 f1.i (by decide) (by decide),cntV64 f2.i (by decide) (by decide),cntV64 f3.i (by decide) (by decide),fun d hd=>⟨fun x hx=>((good d hd).1 x hx).1⟩⟩,?_,fun d hd=>⟨by have:=(good d hd).2;omega,fun x hx=>((good d hd).1 x hx).2⟩⟩
 show (muL (hS5 s) (hN s).toNat).length≤4
 rw[muL_len]
 have:hN s≤3:=q.2
 omega
abbrev bun0:Bun:=⟨0,0,0,0,[]⟩
theorem bunT_good {s:Rst} (h:s.Fit):(bunT s).1.Ok∧(bunT s).1.Sm:=by
 unfold bunT
 rcases first_of (n:=(hN s).toNat) (p:=fun k=>(mdlT (muS (hS5 s) k)).1.2=0) with hh|⟨m,hm,hf,hh⟩
 ·rw[takeU_y hh,j_ (by simp)];exact bunU_good h hh
 ·rw[takeU_n hm hf hh,i_ hf];exact ⟨bun0_ok,bun0_sm⟩
def inner (l:List Int):List Int:=(l.drop 4).take (l.length-8)
def openE (l:List Int):Int:=if 1048576<l.length then 25 else if l.length<8 then 20 else if l.take 4≠[83,84,87,49] then 22 else if sealL (l.take (l.length-4))≠l then 23 else 0
def decR (l:List Int):Bun×Int:=if openE l≠0 then (bun0,openE l) else if (bunT (inner l,0)).2≠0 then (bun0,(bunT (inner l,0)).2) else if (bunE (bunT (inner l,0)).1).w≠0 then (bun0,(bunE (bunT (inner l,0)).1).w) else ((bunT (inner l,0)).1,0)
theorem zw {P:Program} {f:Nat} {a:List AV} {e:Int} (h:VC P f a (.tup [.agg [i64 0,i64 0,i64 0,i64 0,nilv],i64 e])):VC P f a (.tup [bun bun0,i64 e]) :=
 h.weak (AM_ _) (AI_ (.cons (BL_ (.cons (.refl _) (.cons (.refl _) (.cons (.refl _) (.cons (.refl _) (.cons (AG_ _) .nil)))))) (.cons (.refl _) .nil)))
theorem inner_fit {l:List Int} (hx:∀ x∈l,0≤x∧x≤255) (hl:l.length≤1000000):Rst.Fit (inner l,0):=⟨fun x h=>hx x (List.mem_of_mem_drop (CJ_ h)),by
 have:(inner l).length≤l.length:=by unfold inner;rw[BS_,BK_];omega
 dsimp only;omega,by simp⟩
theorem inner_len (l:List Int):(inner l).length≤l.length:=by unfold inner;rw[BS_,BK_];omega
theorem pdec_v (l:List Int) (hx:∀ x∈l,0≤x∧x≤255) (hl:l.length≤1000000):VC L_ 10 [ints .u8 l] (.tup [bun (decR l).1,i64 (decR l).2]):=by
 unfold decR
 by_cases h8:l.length<8
 ·have e:openE l=20:=by unfold openE;rw[j_ (by omega),i_ h8]
  rw[e,i_ (by decide)];exact zw (dec_o l 20 (by decide) (open_s l h8))
 by_cases hm:l.take 4=[83,84,87,49]
 ·by_cases hs:sealL (l.take (l.length-4))=l
  ·have e:openE l=0:=by unfold openE;rw[j_ (by omega),j_ h8,j_ (by simpa using hm),j_ (by simpa using hs)]
   rw[e,j_ (by simp)]
   have ho:=open_y sealL l seals hx (by omega) (by omega) hm hs
   have ft:=inner_fit hx hl
   obtain ⟨z,ht⟩:=taken_v (inner l,0) ft
   obtain ⟨ok,sm⟩:=bunT_good ft
   have hd:(inner l).length≤1000000:=by have:=inner_len l;omega
   by_cases h1:(bunT (inner l,0)).2=0
   ·rw[j_ (by simpa using h1)]
    rw[h1] at ht
    by_cases h2:(bunE (bunT (inner l,0)).1).w=0
    ·rw[j_ (by simpa using h2)];exact dec_y l (inner l) _ z hd ho ht ok sm h2
    ·rw[i_ h2];exact zw (dec_w l (inner l) _ z hd ho ht ok sm h2)
   ·rw[i_ h1];exact zw (dec_t l (inner l) _ _ z hd ho ht h1)
  ·have e:openE l=23:=by unfold openE;rw[j_ (by omega),j_ h8,j_ (by simpa using hm),i_ hs]
   rw[e,i_ (by decide)];exact zw (dec_o l 23 (by decide) (open_u sealL l seals hx (by omega) (by omega) hm hs))
 ·have e:openE l=22:=by unfold openE;rw[j_ (by omega),j_ h8,i_ hm]
  rw[e,i_ (by decide)];exact zw (dec_o l 22 (by decide) (open_m l hx (by omega) (by omega) hm))
theorem p32L_rng {n:Int} (h:0≤n∧n≤4294967295):ByR (p32L n):=fun x hx=>by
 simp only[p32L,List.mem_cons,List.not_mem_nil,or_false] at hx
 rcases hx with rfl|rfl|rfl|rfl
 ·rw[IntKind.wrap_u8];omega
 ·rw[IntKind.wrap_u8];omega
 ·rw[IntKind.wrap_u8];omega
 ·omega
theorem sealL_rng {l:List Int} (h:∀ x∈l,0≤x∧x≤255):ByR (sealL l):=ByR.app h (p32L_rng (crcL_bd l))
theorem bun_sz {u:Bun} (h:u.Sm):u.Sz:=h.sz (by have:=h.l;omega)
theorem bun0_sz:bun0.Sz:=bun_sz bun0_sm
theorem rsealO_v (F:Int→List Int) (l:List Int) (hF:P4 F) (hx:∀ x∈l,0≤x∧x≤255) (hl:l.length≤10000000):VM L_ 12 ([.own 950]) ([(950,.slc 5 1 (l.map (row1 .u8)))]) (.sl 1 (l.map (row1 .u8)++(F (crcL l)).map (row1 .u8))) ([]):=by
 have q:=crcL_bd l
 have q4:=hF.l (crcL l)
 have oz2:=@rcrc_v (l) hx (by omega)
 have oz3:=@r4_v (F) hF (crcL l) (by omega) (by omega)
 exact mR_ [r_,r_,.r [] [cr oz2,cr oz3]] [.frz 11,.drop [950],.sort] _ Tryz.func12 (.d6 (show (0+(K_ (row1 .u8) l).length)*1≤140737488355328 by (simp;omega)) (show 0+(K_ (row1 .u8) l).length≤9223372036854775807 by (simp;omega)) oz2 oz3 (show (([]++K_ (row1 .u8) l).length+(K_ (row1 .u8) (F (crcL l))).length)*1≤140737488355328 by (simp;omega)) (show ([]++K_ (row1 .u8) l).length+(K_ (row1 .u8) (F (crcL l))).length≤9223372036854775807 by (simp;omega)))
theorem rsealO_w (F:Int→List Int) (l:List Int) (hF:P4 F) (hx:∀ x∈l,0≤x∧x≤255) (hl:l.length≤10000000):VM L_ 12 [.own 950] [(950,.slc 5 1 (l.map (row1 .u8)))] (ints .u8 (l++F (crcL l))) []:=by
 have:=rsealO_v F l hF hx hl
 rwa [←B_] at this
theorem blocksE_0 {l:List Blc}:blocksE l=0→∀ x∈l,(blockR x).2=0:=by
 induction l with
 | nil=>intro _ x hx;cases hx
 | cons x l ih =>
  intro h y hy
  by_cases q:(blockR x).2=0
  ·rw[blocksE,j_ (by simpa using q)] at h
   rcases List.mem_cons.1 hy with e|hy
   ·rw[e];exact q
   ·exact ih h y hy
  ·rw[blocksE,i_ q] at h;exact absurd h q
theorem blocksE_a {l:List Blc}:(∀ x∈l,(blockR x).2=0)→blocksE l=0:=fun h=>blocksE_y fun k hk=>getD_in h hk
def catM:List Blc→List Int
 | []=>[]
 | x::l=>(blockR x).1++catM l
theorem accM_cons (x:Blc) (l:List Blc) (B:List Int) (k:Nat):accM (x::l) B (k+1)=accM l (B++(blockR x).1) k:=by
 induction k with
 | zero=>rfl
 | succ k ih=>rw[accM,ih];rfl
theorem accM_cat (l:List Blc):∀ B,accM l B l.length=B++catM l:=by
 induction l with
 | nil=>intro B;simp[accM,catM]
 | cons x l ih=>intro B;rw[AE_,accM_cons,ih,catM,AZ_]
theorem mkL_succ (s:Rst) (k:Nat):mkL s (k+1)=(blkT s).1.1::mkL (blkT s).2 k:=by
 induction k with
 | zero=>rfl
 | succ k ih=>rw[mkL,ih,mkS_succ];rfl
theorem mk_there (l:List Blc):(∀ x∈l,x.Ok∧(blockR x).2=0)→∀ r,(∀ k,k<l.length→(blkT (mkS (catM l++r,0) k)).1.2=0)∧mkS (catM l++r,0) l.length=(r,0)∧mkL (catM l++r,0) l.length=l:=by
 induction l with
 | nil=>intro _ r;exact ⟨fun k hk=>by simp at hk,rfl,rfl⟩
 | cons x l ih =>
  intro h r
  obtain ⟨ok,e⟩:=h x (by simp)
  have a:=blk_there ok e (catM l++r)
  obtain ⟨b1,b2,b3⟩:=ih (fun y hy=>h y (by simp[hy])) r
  rw[catM,AZ_,AE_,mkS_succ,mkL_succ,a,b2,b3]
  refine ⟨fun k hk=>?_,rfl,rfl⟩
  cases k with
  | zero=>exact congrArg (fun z=>z.1.2) a
  | succ k=>rw[mkS_succ,a];exact b1 k (by omega)
theorem mk_back {n:Nat}:∀ {s:Rst},s.In→(∀ k,k<n→(blkT (mkS s k)).1.2=0)→s.1=catM (mkL s n)++(mkS s n).1∧∀ y∈mkL s n,(blockR y).2=0∧(blockR y).1.length≤s.1.length:=by
 induction n with
 | zero=>intro s _ _;exact ⟨rfl,fun y hy=>by cases hy⟩
 | succ n ih =>
  intro s h hh
  obtain ⟨a,b,-,-,-,-⟩:=blk_back h (hh 0 (by omega))
  have lb:=congrArg List.length b
  rw[P_] at lb
  have i2:(blkT s).2.In:=by
   have hb:=h.b;have hl:=h.l
   rw[b] at hb
   exact ⟨fun x hx=>hb x (by simp[hx]),by omega⟩
  obtain ⟨c,d⟩:=ih i2 fun k hk=>by rw[←mkS_succ];exact hh (k+1) (by omega)
  rw[mkL_succ,mkS_succ,catM,AZ_,←c]
  refine ⟨b,fun y hy=>?_⟩
  rcases List.mem_cons.1 hy with e|hy
  ·rw[e];exact ⟨a,by omega⟩
  ·have:=d y hy;exact ⟨this.1,by omega⟩
theorem modelR_0 {m:Mdl} (h:(modelR m).2=0):m.l.length≤6∧(∀ x∈m.l,(blockR x).2=0)∧modelR m=(putN (m.l.length:Int)++catM m.l,0):=by
 unfold modelR at h ⊢
 split at h
 ·cases h
 ·split at h
  ·rename_i q;exact absurd h q
  ·rename_i q1 q2
   rw[j_ q1,j_ q2,accM_cat]
   exact ⟨by omega,blocksE_0 (Classical.not_not.1 q2),rfl⟩
theorem mdl_there {m:Mdl} (ok:m.Ok) (h:(modelR m).2=0) (b:List Int):mdlT ((modelR m).1++b,0)=((m.l,0),(b,0)):=by
 obtain ⟨l6,hb,e⟩:=modelR_0 h
 rw[e]
 dsimp only
 rw[AZ_]
 obtain ⟨t1,t2,t3⟩:=mk_there m.l (fun x hx=>⟨ok.l x hx,hb x hx⟩) b
 have c:=cnt_there (v:=(m.l.length:Int)) (m:=6) (by omega) (by omega) (by decide) (catM m.l++b)
 unfold mdlT
 rw[c.1,c.2,AJ_,takeM_y t1,t2,t3,j_ (by simp),j_ (by simp)]
theorem mkS_ok {s:Rst} {n:Nat} (hh:∀ k,k<n→(blkT (mkS s k)).1.2=0) (i:∀ k,(mkS s k).In) (h0:(mkS s n).2=0):s.2=0:=by
 cases n with
 | zero=>exact h0
 | succ n =>
  have h:=hh 0 (by omega)
  rcases blkT_cases s with ⟨m,hm,hf,hg⟩|⟨hg,hb⟩|⟨hg,hb⟩
  ·have h:(blkT s).1.2=0:=h
   rw[blkT_f hm hf hg] at h;exact absurd h hf
  ·have h:(blkT s).1.2=0:=h
   rw[blkT_b hg hb] at h;exact absurd h hb
  ·exact cnt_ok (tkS_ok (exS_ok hb))
theorem mdl_back {s:Rst} (h:s.Fit) (he:(mdlT s).1.2=0):(modelR ⟨(mdlT s).1.1⟩).2=0∧s.1=(modelR ⟨(mdlT s).1.1⟩).1++(mdlT s).2.1∧(mdlT s).2.2=0∧s.2=0∧(mdlT s).1.1.length≤6∧∀ x∈(mdlT s).1.1,(blockR x).1.length≤s.1.length:=by
 have r:=cntV_rng (m:=6) h.i (by decide)
 have i1:=cnt_fit h 6
 unfold mdlT at he ⊢
 rcases first_of (n:=(cntV s 6).toNat) (p:=fun k=>(blkT (mkS (cntS s 6) k)).1.2=0) with hh|⟨m,hm,hf,hh⟩
 ·rw[takeM_y hh,j_ (by simp)] at he ⊢
  by_cases hb:(mkS (cntS s 6) (cntV s 6).toNat).2=0
  ·rw[j_ (by simpa using hb)]
   dsimp only
   have hc:=mkS_ok hh (fun k=>(mkS_fit i1 k).i) hb
   obtain ⟨a1,a2⟩:=mk_back i1.i hh
   have ln:=mkL_len (cntS s 6) (cntV s 6).toNat
   have l1:=cnt_le (s:=s) (AX_ _) 6
   have hE:blocksE (mkL (cntS s 6) (cntV s 6).toNat)=0:=blocksE_a fun x hx=>(a2 x hx).1
   have hR:modelR ⟨mkL (cntS s 6) (cntV s 6).toNat⟩=(putN (cntV s 6)++catM (mkL (cntS s 6) (cntV s 6).toNat),0):=by
    unfold modelR
    dsimp only
    rw[j_ (by omega),j_ (by simpa using hE),accM_cat,ln,Int.toNat_of_nonneg r.1]
   rw[hR]
   dsimp only
   rw[AZ_,←a1]
   exact ⟨rfl,cnt_back h.i hc,hb,cnt_ok hc,by omega,fun x hx=>by have:=(a2 x hx).2;omega⟩
  ·rw[i_ hb] at he;exact absurd he hb
 ·rw[takeM_n hm hf hh,i_ (by exact hf)] at he;exact absurd he hf
def catU:List Mdl→List Int
 | []=>[]
 | m::l=>(modelR m).1++catU l
theorem accU_cons (m:Mdl) (l:List Mdl) (B:List Int) (k:Nat):accU (m::l) B (k+1)=accU l (B++(modelR m).1) k:=by
 induction k with
 | zero=>rfl
 | succ k ih=>rw[accU,ih];rfl
theorem accU_cat (l:List Mdl):∀ B,accU l B l.length=B++catU l:=by
 induction l with
 | nil=>intro B;simp[accU,catU]
 | cons m l ih=>intro B;rw[AE_,accU_cons,ih,catU,AZ_]
theorem muL_succ (s:Rst) (k:Nat):muL s (k+1)=⟨(mdlT s).1.1⟩::muL (mdlT s).2 k:=by
 induction k with
 | zero=>rfl
 | succ k ih=>rw[muL,ih,muS_succ];rfl
theorem mu_there (l:List Mdl):(∀ m∈l,m.Ok∧(modelR m).2=0)→∀ r,(∀ k,k<l.length→(mdlT (muS (catU l++r,0) k)).1.2=0)∧muS (catU l++r,0) l.length=(r,0)∧muL (catU l++r,0) l.length=l:=by
 induction l with
 | nil=>intro _ r;exact ⟨fun k hk=>by simp at hk,rfl,rfl⟩
 | cons x l ih =>
  intro h r
  obtain ⟨ok,e⟩:=h x (by simp)
  have a:=mdl_there ok e (catU l++r)
  obtain ⟨b1,b2,b3⟩:=ih (fun y hy=>h y (by simp[hy])) r
  rw[catU,AZ_,AE_,muS_succ,muL_succ,a,b2,b3]
  refine ⟨fun k hk=>?_,rfl,rfl⟩
  cases k with
  | zero=>exact congrArg (fun z=>z.1.2) a
  | succ k=>rw[muS_succ,a];exact b1 k (by omega)
structure Mdl.Of (n:Nat) (m:Mdl):Prop where
 e:(modelR m).2=0
 l:m.l.length≤6
 b:∀ x∈m.l,(blockR x).1.length≤n
theorem mu_back {n:Nat}:∀ {s:Rst},s.Fit→(∀ k,k<n→(mdlT (muS s k)).1.2=0)→s.1=catU (muL s n)++(muS s n).1∧((muS s n).2=0→s.2=0)∧∀ y∈muL s n,y.Of s.1.length:=by
 induction n with
 | zero=>intro s _ _;exact ⟨rfl,id,fun y hy=>by cases hy⟩
 | succ n ih =>
  intro s h hh
  obtain ⟨a,b,c0,c1,c2,c3⟩:=mdl_back h (hh 0 (by omega))
  have lb:=congrArg List.length b
  rw[P_] at lb
  obtain ⟨c,_,d⟩:=ih (mdlT_fit h) fun k hk=>by rw[←muS_succ];exact hh (k+1) (by omega)
  rw[muL_succ,muS_succ,catU,AZ_,←c]
  refine ⟨b,fun _=>c1,fun y hy=>?_⟩
  rcases List.mem_cons.1 hy with e|hy
  ·rw[e];exact ⟨a,c2,c3⟩
  ·have:=d y hy;exact ⟨this.e,this.l,fun x hx=>by have:=this.b x hx;omega⟩
theorem hdF_eq (L:Int→List Int) (h x c cl m:Int):hdF L h x c cl m=[83,84,87,49]++(L h++(L x++(L c++(L cl++L m)))):=by
 simp[hdF,hdK,AZ_]
theorem bodyL_eq (u:Bun):bodyL u=[83,84,87,49]++(putN u.h++(putN u.x++(putN u.c++(putN u.cl++(putN (u.m.length:Int)++catU u.m))))):=by
 unfold bodyL
 rw[accU_cat,hdF_eq,R_]
 simp only[AZ_]
theorem endE_0 {s:Rst} (h:endE s=0):s.1=[]∧s.2=0:=by
 unfold endE at h
 split at h
 ·rename_i q;exact absurd h q
 ·rename_i q
  split at h
  ·cases h
  ·rename_i g;exact ⟨AC_ (by omega),Classical.not_not.1 q⟩
theorem bun_there {u:Bun} (ok:u.Ok) (h:(bunE u).w=0):bunT ((bodyL u).drop 4,0)=(u,0):=by
 obtain ⟨w,_⟩:=right_models h
 have hm:=bun_lay h
 have el:0<elems u.h u.x u.c∧(2≤u.cl∧u.cl≤16)∧u.m.length≤3:=by
  unfold wholeE at w
  split at w
  ·cases w
  ·split at w
   ·cases w
   ·split at w
    ·cases w
    ·split at w
     ·cases w
     ·exact ⟨by omega,by omega,by omega⟩
 obtain ⟨el,ec,lm⟩:=el
 have eo:=elems_ok el
 have ed:(bodyL u).drop 4=putN u.h++(putN u.x++(putN u.c++(putN u.cl++(putN (u.m.length:Int)++catU u.m)))):=by
  rw[bodyL_eq];exact List.drop_left' rfl
 rw[ed]
 have c1:=cnt_there (v:=u.h) (m:=16) (by omega) (by omega) (by decide) (putN u.x++(putN u.c++(putN u.cl++(putN (u.m.length:Int)++catU u.m))))
 have c2:=cnt_there (v:=u.x) (m:=16) (by omega) (by omega) (by decide) (putN u.c++(putN u.cl++(putN (u.m.length:Int)++catU u.m)))
 have c3:=cnt_there (v:=u.c) (m:=1024) (by omega) (by omega) (by decide) (putN u.cl++(putN (u.m.length:Int)++catU u.m))
 have c4:=cnt_there (v:=u.cl) (m:=16) (by omega) (by omega) (by decide) (putN (u.m.length:Int)++catU u.m)
 have c5:=cnt_there (v:=(u.m.length:Int)) (m:=3) (by omega) (by omega) (by decide) (catU u.m)
 obtain ⟨t1,t2,t3⟩:=mu_there u.m (fun m hmm=>⟨ok.m m hmm,hm m hmm⟩) []
 rw[List.append_nil] at t1 t2 t3
 unfold bunT bunU hS5 hN hS4
 rw[c1.1,c1.2,c2.1,c2.2,c3.1,c3.2,c4.1,c4.2,c5.1,c5.2,AJ_,takeU_y t1,t2,t3,j_ (by simp)]
 rfl
theorem bun_back {l:List Int} (ft:Rst.Fit (l,0)) (h:(bunT (l,0)).2=0):bodyL (bunT (l,0)).1=[83,84,87,49]++l∧∀ m∈(bunT (l,0)).1.m,m.Of l.length:=by
 have f1:=cnt_fit ft 16
 have f2:=cnt_fit f1 16
 have f3:=cnt_fit f2 1024
 have f4:=cnt_fit f3 16
 have f5:=cnt_fit f4 3
 have r:=cntV_rng (m:=3) f4.i (by decide)
 unfold bunT at h ⊢
 rcases first_of (n:=(hN (l,0)).toNat) (p:=fun k=>(mdlT (muS (hS5 (l,0)) k)).1.2=0) with hh|⟨m,hm,hf,hh⟩
 ·rw[takeU_y hh,j_ (by simp)] at h ⊢
  dsimp only at h ⊢
  obtain ⟨e1,e2⟩:=endE_0 h
  obtain ⟨a,b,c⟩:=mu_back (s:=hS5 (l,0)) f5 hh
  have h5:(cntS (cntS (cntS (cntS (cntS (l,0) 16) 16) 1024) 16) 3).2=0:=b e2
  have h4:=cnt_ok h5
  have h3:=cnt_ok h4
  have h2:=cnt_ok h3
  have h1:=cnt_ok h2
  have b1:=cnt_back ft.i h1
  have b2:=cnt_back f1.i h2
  have b3:=cnt_back f2.i h3
  have b4:=cnt_back f3.i h4
  have b5:=cnt_back f4.i h5
  have ln:((muL (hS5 (l,0)) (hN (l,0)).toNat).length:Int)=cntV (cntS (cntS (cntS (cntS (l,0) 16) 16) 1024) 16) 3:=by
   rw[muL_len];exact Int.toNat_of_nonneg r.1
  rw[e1,List.append_nil] at a
  refine ⟨?_,fun m hm=>?_⟩
  ·rw[bodyL_eq]
   congr 1
   show putN (cntV (l,0) 16)++(putN (cntV (cntS (l,0) 16) 16)++(putN (cntV (cntS (cntS (l,0) 16) 16) 1024)++(putN (cntV (cntS (cntS (cntS (l,0) 16) 16) 1024) 16)++(putN ((muL (hS5 (l,0)) (hN (l,0)).toNat).length:Int)++catU (muL (hS5 (l,0)) (hN (l,0)).toNat)))))=l
   rw[ln,←a]
   exact (b1.trans (congrArg (putN _ ++ ·) (b2.trans (congrArg (putN _ ++ ·) (b3.trans (congrArg (putN _ ++ ·) (b4.trans (congrArg (putN _ ++ ·) b5)))))))).symm
  ·have q:=c m hm
   have l1:(hS5 (l,0)).1.length≤l.length:=cnt_le (cnt_le (cnt_le (cnt_le (cnt_le (s:=(l,0)) (AX_ _) _) _) _) _) _
   exact ⟨q.e,q.l,fun x hx=>Y_ (q.b x hx) l1⟩
 ·rw[takeU_n hm hf hh,i_ hf] at h;exact absurd h hf
theorem mkS_sm {s:Rst} {k:Nat} (h:s.1.length≤k) (n:Nat):(mkS s n).1.length≤k:=by
 induction n with
 | zero=>exact h
 | succ n ih=>exact blkS_sm ih
theorem takeM_sm {k n:Nat}:∀ {s:Rst},s.1.length≤k→(takeM n s).2.1.length≤k:=by
 induction n with
 | zero=>intro s h;exact h
 | succ n ih =>
  intro s h
  rw[takeM]
  split
  ·exact blkS_sm h
  ·exact ih (blkS_sm h)
theorem mdlT_sm {s:Rst} {k:Nat} (h:s.1.length≤k):(mdlT s).2.1.length≤k:=by
 unfold mdlT
 split
 ·exact takeM_sm (cnt_le h 6)
 ·split
  ·exact mkS_sm (cnt_le h 6) _
  ·exact mkS_sm (cnt_le h 6) _
theorem mdlT_n3 {s:Rst} {k:Nat} (h:s.1.length≤k):∀ x∈(mdlT s).1.1,∀ n∈x.n,n.w.length≤k∧n.b.length≤k:=by
 unfold mdlT
 split
 ·intro x hx;cases hx
 ·split
  ·intro x hx;cases hx
  ·intro x hx
   obtain ⟨j,_,rfl⟩:=mkL_mem hx
   exact blkT_sm (mkS_sm (cnt_le h 6) j)
theorem muS_sm {s:Rst} {k:Nat} (h:s.1.length≤k) (n:Nat):(muS s n).1.length≤k:=by
 induction n with
 | zero=>exact h
 | succ n ih=>exact mdlT_sm ih
theorem bunT_n3 {s:Rst} {k:Nat} (h:s.1.length≤k):∀ m∈(bunT s).1.m,∀ x∈m.l,∀ n∈x.n,n.w.length≤k∧n.b.length≤k:=by
 unfold bunT
 split
 ·intro m hm;cases hm
 ·intro m hm
  obtain ⟨j,_,rfl⟩:=muL_mem hm
  exact mdlT_n3 (muS_sm (cnt_le (cnt_le (cnt_le (cnt_le (cnt_le h _) _) _) _) _) j)
theorem open_seal {B:List Int} (hm:B.take 4=[83,84,87,49]) (h4:4≤B.length) (hl:B.length≤1048572):openE (sealL B)=0:=by
 have ln:=sealL_len B
 have tk:(sealL B).take ((sealL B).length-4)=B:=by rw[ln,Nat.add_sub_cancel];unfold sealL;exact List.take_left' rfl
 have t4:(sealL B).take 4=[83,84,87,49]:=by unfold sealL;rw[List.take_append_of_le_length h4,hm]
 unfold openE
 rw[j_ (by omega),j_ (by omega),j_ (by simpa using t4),j_ (by rw[tk];simp)]
theorem inner_seal (B:List Int) (h4:4≤B.length):inner (sealL B)=B.drop 4:=by
 unfold inner
 rw[sealL_len]
 unfold sealL
 rw[List.drop_append_of_le_length h4]
 exact List.take_left' (by rw[BK_];omega)
theorem bodyL_4' (u:Bun):4≤(bodyL u).length:=by rw[bodyL_eq,P_];exact Nat.le_add_right 4 _
theorem bodyL_m (u:Bun):(bodyL u).take 4=[83,84,87,49]:=by rw[bodyL_eq];exact List.take_left' rfl
theorem accU_le {u:Bun} (fw:u.Fw) (h:(bunE u).w=0) (B:List Int) {k:Nat} (hk:k≤u.m.length):(accU u.m B k).length≤B.length+300010*k:=by
 induction k with
 | zero=>exact AX_ _
 | succ k ih =>
  have a:=ih (by omega)
  have hm:=getD_in (bun_lay h) (s_ (k<u.m.length))
  have fm:=getD_in fw.m (s_ (k<u.m.length))
  obtain ⟨l6,_,e⟩:=modelR_0 hm
  have b:=accM_le fm (putN ((u.m.getD k default).l.length:Int)) (AX_ _)
  have c:=putN_len ((u.m.getD k default).l.length:Int)
  rw[accM_cat] at b
  rw[accU,P_,e]
  dsimp only
  omega
theorem bodyL_le {u:Bun} (fw:u.Fw) (h:(bunE u).w=0):(bodyL u).length≤999990:=by
 have l3:u.m.length≤3:=by
  have w:=(right_models h).1
  unfold wholeE at w
  split at w
  ·cases w
  ·split at w
   ·cases w
   ·split at w
    ·cases w
    ·split at w
     ·cases w
     ·omega
 have a:=accU_le fw h (hdF putN u.h u.x u.c u.cl ((u.m.map mdlC).length:Int)) (AX_ _)
 have b:=(hds putN).len puts.l u.h u.x u.c u.cl ((u.m.map mdlC).length:Int)
 unfold bodyL
 omega
theorem dec_enc {u:Bun} (ok:u.Ok) (fw:u.Fw) (h:(bunE u).w=0):decR (sealL (bodyL u))=(u,0):=by
 have l4:=bodyL_4' u
 have ll:=bodyL_le fw h
 have e:=bun_there ok h
 unfold decR
 rw[open_seal (bodyL_m u) l4 (by omega),inner_seal _ l4,e]
 dsimp only
 rw[j_ (by simp),j_ (by simp),j_ (by rw[h];simp)]
theorem enc_dec {b:List Int} (hx:∀ x∈b,0≤x∧x≤255) (hl:b.length≤4000) (h:(decR (sealL ([83,84,87,49]++b))).2=0):encR (decR (sealL ([83,84,87,49]++b))).1=(sealL ([83,84,87,49]++b),0)∧(decR (sealL ([83,84,87,49]++b))).1.Fw∧(decR (sealL ([83,84,87,49]++b))).1.Ok:=by
 have lb:([83,84,87,49]++b:List Int).length=4+b.length:=by rw[P_];rfl
 have ho:openE (sealL ([83,84,87,49]++b))=0:=open_seal (List.take_left' rfl) (by omega) (by omega)
 have hi:inner (sealL ([83,84,87,49]++b))=b:=by rw[inner_seal _ (by omega)];exact List.drop_left' rfl
 have ft:Rst.Fit (b,0):=⟨hx,by dsimp only;omega,by simp⟩
 unfold decR at h ⊢
 rw[ho,hi,j_ (by simp)] at h ⊢
 by_cases h1:(bunT (b,0)).2=0
 ·rw[j_ (by simpa using h1)] at h ⊢
  by_cases h2:(bunE (bunT (b,0)).1).w=0
  ·rw[j_ (by simpa using h2)]
   dsimp only
   obtain ⟨e,of⟩:=bun_back ft h1
   obtain ⟨ok,sm⟩:=bunT_good ft
   have hE:encR (bunT (b,0)).1=(sealL ([83,84,87,49]++b),0):=by
    rw[encR_y h2 (by rw[e];omega),e]
   refine ⟨hE,⟨sm,sm.l,fun m hm=>⟨fun x hxm=>⟨(ok.m m hm).l x hxm,?_,by have:=(of m hm).b x hxm;omega⟩,by have:=(of m hm).l;omega⟩⟩,ok⟩
   exact bunT_n3 (k:=4100) (s_ (b.length≤4100)) m hm x hxm
  ·rw[i_ h2] at h;exact absurd h h2
 ·rw[i_ h1] at h;exact absurd h h1
theorem bundleBack_n (u:Bun) (d:List Int) (h:bunS u=false∨4000<d.length) (hk:VC L_ 8 [] (bv true)):VC L_ 3 ([bun u,ints .u8 d]) (bv true):=by
 have q:(!bunS u || decide (((d.map (row1 .u8)).length:Int)>4000))=true:=by
  rw[R_]
  rcases h with h|h
  ·rw[h];rfl
  ·rw[decide_eq_true (s_ (((d.length:Int)>4000))),DM_]
 have oz0:=@few31_v (u)
 have oz2:=@hk
 exact cR_ [r_,.r [] [cr oz0,o_,o_,o_,.sel 1],b_,.r [] [cr oz2]] _ Tryz.func3 (.d3 oz0 q oz2)
structure BK (u v:Bun) (d X S:List Int) (e f:Int):Prop where
 hu:bunS u=true
 hd:d.length≤4000
 hx:∀ x∈d,0≤x∧x≤255
 hX:X.length≤10000000
 hS:S.length≤10000
 hk:VC L_ 8 [] (bv true)
 h1:VC L_ 9 [bun u] (.tup [ints .u8 X,i64 e])
 h3:VM L_ 12 [.own 950] [(950,.slc 5 1 ([u8 83]::[u8 84]::[u8 87]::[u8 49]::d.map (row1 .u8)))] (ints .u8 S) []
 h4:VC L_ 10 [ints .u8 S] (.tup [bun v,i64 f])
 q:(!bunS u || decide (((d.map (row1 .u8)).length:Int)>4000))=false
 ql:(d.map (row1 .u8)).length=d.length
theorem bundleBack_xx (u:Bun) (d X S:List Int) (e f:Int) (H:BK u bun0 d X S e f) (he:e≠0) (hf:f≠0):VC L_ 3 ([bun u,ints .u8 d]) (bv true):=by
 obtain ⟨hu,hd,hx,hX,hS,hk,h1,h3,h4,q,ql⟩:=H
 have z0:bun0.Sz:=bun0_sz
 have oz0:=@few31_v (u)
 have oz2:=@h1
 have oz6:=@h3
 have oz7:=@h4
 have oz10:=@lbn_v (Bun.mk bun0.h bun0.x bun0.c bun0.cl []) (Bun.mk 0 0 0 0 []) z0
 have oz11:=z0_
 have oz12:=@hk
 exact cR_ [r_,.r [] [cr oz0,o_,o_,o_,.sel 1],d_,.r [] [cr oz2],r_,d_,.r [] [.callm [(45,950)] [] (rM oz6) (oM oz6)],.r [] [cr oz7],r_,b_,.r [] [ca oz10,e_,cr oz12,e_]] _ Tryz.func3 (.c8 oz0 q oz2 (show (e==0)=false by (refine decide_eq_false ?_;omega)) (s_ ((4+(K_ (row1 .u8) d).length)*1≤140737488355328)) (s_ (4+(K_ (row1 .u8) d).length≤9223372036854775807)) oz6 oz7<|.d6 (show (f != 0)=true by (simp;omega)) (show WeakL [AV.agg [i64 bun0.h,i64 bun0.x,i64 bun0.c,i64 bun0.cl,AV.sl 1 []],AV.agg [i64 0,i64 0,i64 0,i64 0,AV.lit (AQ_ none 0 0)]] [AV.agg [i64 (Bun.mk bun0.h bun0.x bun0.c bun0.cl []).h,i64 (Bun.mk bun0.h bun0.x bun0.c bun0.cl []).x,i64 (Bun.mk bun0.h bun0.x bun0.c bun0.cl []).c,i64 (Bun.mk bun0.h bun0.x bun0.c bun0.cl []).cl,AV.sl 1 []],AV.agg [i64 (Bun.mk 0 0 0 0 []).h,i64 (Bun.mk 0 0 0 0 []).x,i64 (Bun.mk 0 0 0 0 []).c,i64 (Bun.mk 0 0 0 0 []).cl,AV.sl 1 []]] from (.cons (.refl _) (.cons (BL_ (.cons (.refl _) (.cons (.refl _) (.cons (.refl _) (.cons (.refl _) (.cons (AG_ _) .nil)))))) .nil))) oz10 oz11 oz12 oz11)
theorem bundleBack_xy (u v:Bun) (d X S:List Int) (e:Int) (H:BK u v d X S e 0) (he:e≠0) (h5:VC L_ 9 [bun v] (.tup [ints .u8 S,i64 0])):VC L_ 3 ([bun u,ints .u8 d]) (bv true):=by
 obtain ⟨hu,hd,hx,hX,hS,hk,h1,h3,h4,q,ql⟩:=H
 have z9:((strOfNums S).toList==(strOfNums S).toList)=true:=beq_self_eq_true _
 have oz0:=@few31_v (u)
 have oz2:=@h1
 have oz6:=@h3
 have oz7:=@h4
 have oz9:=@h5
 have oz10:=z0_
 have oz12:=(show K_ (row1 .u8) S=K_ (fun (n:Int)=>[u8 n]) S from rfl)
 have oz19:=@hk
 exact cR_ [r_,.r [] [cr oz0,o_,o_,o_,.sel 1],d_,.r [] [cr oz2],r_,d_,.r [] [.callm [(45,950)] [] (rM oz6) (oM oz6)],.r [] [cr oz7],r_,d_,.r [] [cr oz9],.r [] [e_,e_,.il S,e_,e_,.il S,e_,e_,e_,cr oz19,e_]] _ Tryz.func3 (.c8 oz0 q oz2 (show (e==0)=false by (refine decide_eq_false ?_;omega)) (s_ ((4+(K_ (row1 .u8) d).length)*1≤140737488355328)) (s_ (4+(K_ (row1 .u8) d).length≤9223372036854775807)) oz6 oz7<|.c8 z1_ oz9 oz10 oz10 oz12 oz10 oz10 oz12<|.d5 oz10 oz10 z9 oz19 z9)
theorem bundleBack_yx (u:Bun) (d X S:List Int) (f:Int) (H:BK u bun0 d X S 0 f) (hf:f≠0) (h2:VC L_ 10 [ints .u8 X] (.tup [bun u,i64 0])) (h6:VC L_ 11 [bun u,bun u] (bv true)):VC L_ 3 ([bun u,ints .u8 d]) (bv true):=by
 obtain ⟨hu,hd,hx,hX,hS,hk,h1,h3,h4,q,ql⟩:=H
 have z0:bun0.Sz:=bun0_sz
 have oz0:=@few31_v (u)
 have oz2:=@h1
 have oz3:=z0_
 have oz4:=@h2
 have oz5:=z1_
 have oz8:=@h6
 have oz14:=@h3
 have oz15:=@h4
 have oz18:=@lbn_v (Bun.mk bun0.h bun0.x bun0.c bun0.cl []) (Bun.mk 0 0 0 0 []) z0
 have oz20:=@hk
 exact cR_ [r_,.r [] [cr oz0,o_,o_,o_,.sel 1],d_,.r [] [cr oz2],r_,b_,.r [] [cr oz4],.r [] [e_,e_,e_,cr oz8,e_,f_],d_,.r [] [.callm [(45,950)] [] (rM oz14) (oM oz14)],.r [] [cr oz15],r_,b_,.r [] [ca oz18,e_,cr oz20,e_]] _ Tryz.func3 (.c8 oz0 q oz2 oz3 oz4 oz5 oz5 oz5<|.c8 oz8 oz5 oz5 oz5 (s_ ((4+(K_ (row1 .u8) d).length)*1≤140737488355328)) (s_ (4+(K_ (row1 .u8) d).length≤9223372036854775807)) oz14 oz15<|.d6 (show (f != 0)=true by (simp;omega)) (show WeakL [AV.agg [i64 bun0.h,i64 bun0.x,i64 bun0.c,i64 bun0.cl,AV.sl 1 []],AV.agg [i64 0,i64 0,i64 0,i64 0,AV.lit (AQ_ none 0 0)]] [AV.agg [i64 (Bun.mk bun0.h bun0.x bun0.c bun0.cl []).h,i64 (Bun.mk bun0.h bun0.x bun0.c bun0.cl []).x,i64 (Bun.mk bun0.h bun0.x bun0.c bun0.cl []).c,i64 (Bun.mk bun0.h bun0.x bun0.c bun0.cl []).cl,AV.sl 1 []],AV.agg [i64 (Bun.mk 0 0 0 0 []).h,i64 (Bun.mk 0 0 0 0 []).x,i64 (Bun.mk 0 0 0 0 []).c,i64 (Bun.mk 0 0 0 0 []).cl,AV.sl 1 []]] from (.cons (.refl _) (.cons (BL_ (.cons (.refl _) (.cons (.refl _) (.cons (.refl _) (.cons (.refl _) (.cons (AG_ _) .nil)))))) .nil))) oz18 oz3 oz20 oz3)
theorem bundleBack_yy (u v:Bun) (d X S:List Int) (H:BK u v d X S 0 0) (h2:VC L_ 10 [ints .u8 X] (.tup [bun u,i64 0])) (h6:VC L_ 11 [bun u,bun u] (bv true)) (h5:VC L_ 9 [bun v] (.tup [ints .u8 S,i64 0])):VC L_ 3 ([bun u,ints .u8 d]) (bv true):=by
 obtain ⟨hu,hd,hx,hX,hS,hk,h1,h3,h4,q,ql⟩:=H
 have z9:((strOfNums S).toList==(strOfNums S).toList)=true:=beq_self_eq_true _
 have oz0:=@few31_v (u)
 have oz2:=@h1
 have oz3:=z0_
 have oz4:=@h2
 have oz5:=z1_
 have oz8:=@h6
 have oz14:=@h3
 have oz15:=@h4
 have oz17:=@h5
 have oz20:=(show K_ (row1 .u8) S=K_ (fun (n:Int)=>[u8 n]) S from rfl)
 have oz27:=@hk
 exact cR_ [r_,.r [] [cr oz0,o_,o_,o_,.sel 1],d_,.r [] [cr oz2],r_,b_,.r [] [cr oz4],.r [] [e_,e_,e_,cr oz8,e_,f_],d_,.r [] [.callm [(45,950)] [] (rM oz14) (oM oz14)],.r [] [cr oz15],r_,d_,.r [] [cr oz17],.r [] [e_,e_,.il S,e_,e_,.il S,e_,e_,e_,cr oz27,e_]] _ Tryz.func3 (.c8 oz0 q oz2 oz3 oz4 oz5 oz5 oz5<|.c8 oz8 oz5 oz5 oz5 (s_ ((4+(K_ (row1 .u8) d).length)*1≤140737488355328)) (s_ (4+(K_ (row1 .u8) d).length≤9223372036854775807)) oz14 oz15<|.c8 oz5 oz17 oz3 oz3 oz20 oz3 oz3 oz20<|.d5 oz3 oz3 z9 oz27 z9)
theorem decR_n {l:List Int} (h:(decR l).2≠0):(decR l).1=bun0:=by
 unfold decR at h ⊢
 split
 ·rfl
 ·split
  ·rfl
  ·split
   ·rfl
   ·rename_i a b c;rw[j_ a,j_ b,j_ c] at h;exact absurd rfl h
theorem bundleBack_v (u:Bun) (d:List Int) (ok:u.Ok) (hx:∀ x∈d,0≤x∧x≤255):VC L_ 3 [bun u,ints .u8 d] (bv true):=by
 by_cases h:bunS u=false∨4000<d.length
 ·exact bundleBack_n u d h known35
 ·have hu:bunS u=true:=by cases q:bunS u;exact absurd (.inl q) h;rfl
  have hd:d.length≤4000:=by apply cbc;intro q;exact h (.inr (by omega))
  have fu:=Bun.fw ok hu
  have hy:∀ x∈[83,84,87,49]++d,0≤x∧x≤255:=fun x q=>by
   rcases List.mem_append.1 q with q|q
   ·simp only[List.mem_cons,List.not_mem_nil,or_false] at q;omega
   ·exact hx x q
  have hz:∀ x∈sealL ([83,84,87,49]++d),0≤x∧x≤255:=sealL_rng hy
  have hl:(sealL ([83,84,87,49]++d)).length≤10000:=by rw[sealL_len,P_];simp;omega
  have H:BK u (decR (sealL ([83,84,87,49]++d))).1 d (encR u).1 (sealL ([83,84,87,49]++d)) (encR u).2 (decR (sealL ([83,84,87,49]++d))).2:=⟨hu,hd,hx,by have:=@encR_len u;omega,hl,known35,penc_v u ok fu.sm fu.pk fu.l,rsealO_w p32L _ p4 hy (by simp;omega),pdec_v _ hz (by omega),by rw[hu,R_,decide_eq_false (by omega)];rfl,R_ _⟩
  have h5:(decR (sealL ([83,84,87,49]++d))).2=0→VC L_ 9 [bun (decR (sealL ([83,84,87,49]++d))).1] (.tup [ints .u8 (sealL ([83,84,87,49]++d)),i64 0]):=fun q=>by
   obtain ⟨e,fv,okv⟩:=enc_dec hx hd q
   have:=penc_v _ okv fv.sm fv.pk fv.l
   rwa [e] at this
  have h2:(encR u).2=0→VC L_ 10 [ints .u8 (encR u).1] (.tup [bun u,i64 0]):=fun q=>by
   have hw:(bunE u).w=0:=by
    apply cbc;intro g;rw[encR_x g] at q;exact g q
   have ll:=bodyL_le fu hw
   rw[encR_y hw (by omega)]
   have:=pdec_v (sealL (bodyL u)) (sealL_rng (bodyL_rng u)) (by rw[sealL_len];omega)
   rwa [dec_enc ok fu hw] at this
  have h6:=lbn_v u u (fu.sm.sz (by have:=fu.l;omega))
  rw[bunEq_rfl] at h6
  by_cases he:(encR u).2=0
  ·rw[he] at H
   by_cases hf:(decR (sealL ([83,84,87,49]++d))).2=0
   ·rw[hf] at H;exact bundleBack_yy u _ d _ _ H (h2 he) h6 (h5 hf)
   ·rw[decR_n hf] at H;exact bundleBack_yx u d _ _ _ H hf (h2 he) h6
  ·by_cases hf:(decR (sealL ([83,84,87,49]++d))).2=0
   ·rw[hf] at H;exact bundleBack_xy u _ d _ _ _ H he (h5 hf)
   ·rw[decR_n hf] at H;exact bundleBack_xx u d _ _ _ _ H he hf
end Go.Proofs.YtdfihaminnmgpaaGreat
