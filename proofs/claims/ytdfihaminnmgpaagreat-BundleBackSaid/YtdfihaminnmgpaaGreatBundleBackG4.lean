/- A part of this claim. No condition. -/
import Derived.Outline
import Derived.Lib.SlBytesConst
import Derived.Test.YtdfihaminnmgpaaGreatBundleBackG3
set_option maxRecDepth 100000
set_option maxHeartbeats 2000000
set_option linter.unusedVariables false
set_option linter.unusedSimpArgs false
set_option linter.unnecessarySimpa false
namespace Go.Proofs.YtdfihaminnmgpaaGreat
open Go.RowKit
open Bool renaming and_eq_true→N_,and_eq_false_iff→T_,or_eq_false_iff→U_,not_eq_false'→X_,not_eq_true'→A_,or_eq_true→D_,and_true→AN_,false_eq_true→BN_,false_and→BP_,true_and→BY_,not_true→BZ_,false_or→BA_,not_false→BB_,and_false→BC_,or_false→CM_,true_eq_false→CZ_,or_true→DM_
open Exit renaming exit→BO_
open Int renaming reduceEq→BV_,natCast_nonpos_iff→CN_,not_lt→DR_
open IntKind renaming i64→O_,i8→S_,i32→V_
open IntWalk renaming i32_in→CR_
open List renaming map→K_,length_append→P_,length_map→R_,map_replicate→W_,getElem?_eq_getElem→Z_,map_append→B_,map_cons→C_,map_take→AK_,map_drop→AL_,map_nil→AO_,map_set→AP_,getD_eq_getElem?_getD→AU_,getElem?_map→AW_,eq_nil_of_length_eq_zero→AC_,length_cons→AE_,length_take→BS_,mem_append→BH_,length_eq_zero_iff→CK_,length_nil→CQ_,getElem_mem→CW_,mem_of_mem_take→CJ_,take_of_length_le→DN_
open Nat renaming le_refl→AX_,zero_le→AD_
open Tryz renaming prog→L_
open Value renaming slice→AQ_,int→AS_,bool→BD_,agg→CT_
open Weak renaming int→Q_,bool→AF_,nil→AG_,tup→AI_,agg→BL_,rows→BQ_
open WeakL renaming refl→AM_
theorem val_bound:∀ (xs:List Int) (k:Nat),xs.length≤k+1→(∀ h:k<xs.length,xs[k]≤1)→(∀ x∈xs,0≤x)→val xs<128 ^ k*2
 | [],k,_,_,_=>by have:=pow_pos128 k;simp[val];omega
 | c::r,0,hl,hx,h0=>by
  have:r=[]:=by simpa using hl
  subst this
  have:=hx (by simp);simp at this
  have:=h0 c (by simp)
  simp[val];omega
 | c::r,k+1,hl,hx,h0=>by
  have ih:=val_bound r k (by simpa using hl) (fun h=>hx (by simpa using h)) (fun x hx=>h0 x (by simp[hx]))
  rw[val,Int.pow_succ];omega
theorem val_u64 (xs:List Int) (j:Nat) (hj:j<xs.length) (hj9:j≤9) (hx:j=9→xs[j]≤1) (h0:∀ x∈xs,0≤x):val (xs.take (j+1))≤18446744073709551615:=by
 have h:=val_bound (xs.take (j+1)) 9 (by simp;omega) (fun h=>by
  have hl:9<j+1:=by simp at h;omega
  have e:j=9:=by omega
  subst e
  have:=hx rfl
  simpa using this) (fun x hx=>h0 x (CJ_ hx))
 omega
theorem getAt_range (xs:List Int) (hb:∀ x∈xs,0≤x∧x≤255):0≤(getAt xs 0 0).1∧(getAt xs 0 0).1≤18446744073709551615∧0≤(getAt xs 0 0).2.1∧(getAt xs 0 0).2.1≤10∧0≤(getAt xs 0 0).2.2∧(getAt xs 0 0).2.2≤21∧((getAt xs 0 0).2.2≠0→(getAt xs 0 0).1=0):=by
 rw[getAt_eq xs 0 0 (by omega),refGet]
 cases hf:fin xs 0 with
 | none=>simp;split<;>omega
 | some j =>
  have hj:=fin_lt xs 0 j hf
  simp only[Nat.add_zero]
  split
  ·simp
  ·rename_i hn
   have h1:=val_nonneg (xs.take (j+1))
   have h2:=val_u64 xs j hj.1 (by omega) (fun h=>by
    have:¬ 1<xs.getD j 0:=fun h1=>hn (.inl ⟨h,h1⟩)
    simp[List.getD,Z_ hj.1] at this
    exact this) (fun x hx=>(hb x hx).1)
   simp;omega
theorem xor_i64_zero (a:Int) (h0:0≤a) (h1:a≤9223372036854775807):bits BinOp.xor O_ a 0=a:=by
 show IntKind.i64.wrap ((BitVec.ofInt 64 a ^^^ 0#64).toNat:Int)=_
 rw[BitVec.xor_zero,BitVec.toNat_ofInt,IntKind.wrap_i64]
 omega
theorem xor_i64_ones (a:Int) (h0:0≤a) (h1:a≤9223372036854775807):bits BinOp.xor O_ a (-1) = -a-1:=by
 show IntKind.i64.wrap ((BitVec.ofInt 64 a ^^^ BitVec.allOnes 64).toNat:Int)=_
 rw[BitVec.xor_allOnes,BitVec.toNat_not,BitVec.toNat_ofInt,IntKind.wrap_i64]
 omega
theorem unf_bits (n:Int) (h0:0≤n) (h1:n≤18446744073709551615) :
  bits BinOp.xor O_ (n/2) (wrap64 (-wrap64 (bits BinOp.and IntKind.u64 n 1)))=unfoldN n:=by
 rw[and_one_u64 n h0 h1]
 by_cases he:n % 2=0
 ·rw[he,unfoldN,i_ he,show wrap64 (-wrap64 0)=0 from by decide +kernel,xor_i64_zero _ (by omega) (by omega)]
 ·rw[show n % 2=1 from by omega,unfoldN,j_ he,show wrap64 (-wrap64 1) = -1 from by decide +kernel,xor_i64_ones _ (by omega) (by omega)]
theorem getInt_any (v:Value) (xs:List Int) (w:World) (hv:Rd w v (xs.map (AS_ .u8))) (hb:∀ x∈xs,0≤x∧x≤255) (hx:xs.length≤1099511627776) :
  Calls L_ 253 #[v] w fun e w'=>e=.returned (.tuple #[.int .i64 (unfoldN (getAt xs 0 0).1),.int .i64 (getAt xs 0 0).2.1,.int .i64 (getAt xs 0 0).2.2])∧Below w.heap.size w w':=by
 obtain ⟨r0,r1,_⟩:=getAt_range xs hb
 go_enter Tryz.func253,Tryz.ntmps253
 go_wp2_with fail
 refine (get_any _ _ _ hv hb hx).mono ?_
 rintro e w1 ⟨rfl,hb1⟩
 unfold tup3
 go_wp2
 go_ret3
 refine ⟨?_,hb1⟩
 rw[←unf_bits _ r0 r1];rfl
theorem putL_rng:∀ (n:Nat),∀ x∈putL n,0≤x∧x≤255:=by
 intro n
 induction n using Nat.strongRecOn with
 | _ n ih =>
  intro x hx
  rw[putL] at hx
  split at hx
  ·simp at hx;omega
  ·simp at hx
   rcases hx with rfl|hx
   ·omega
   ·exact ih (n/128) (by omega) x hx
theorem got (n:Nat) (b:List Int) (hn:n<18446744073709551616):getAt (putL n++b) 0 0=((n:Int),((putL n).length:Int),0):=by
 rw[get_put b n 0 0 (by omega) (by omega) (.inl rfl)];simp
def wideL (xs:List Int):List Int:=(xs.map fun v=>putL (foldN v).toNat).flatten
theorem wideL_cons (x:Int) (xs:List Int):wideL (x::xs)=putL (foldN x).toNat++wideL xs:=rfl
theorem wideL_snoc (xs:List Int) (x:Int):wideL (xs++[x])=wideL xs++putL (foldN x).toNat:=by simp[wideL]
theorem wideL_len:∀ (xs:List Int),(∀ x∈xs,-2147483648≤x∧x≤2147483647)→(wideL xs).length≤10*xs.length
 | [],_=>by simp[wideL]
 | x::xs,h=>by
  have h1:=h x (by simp)
  have h2:=wideL_len xs (fun y hy=>h y (by simp[hy]))
  have hf:=foldN_bd x (by omega) (by omega)
  have h3:=putL_len10 (foldN x).toNat (by omega)
  rw[wideL_cons,P_,AE_];omega
theorem wideL_rng:∀ (xs:List Int),∀ y∈wideL xs,0≤y∧y≤255
 | [],y,h=>by simp[wideL] at h
 | x::xs,y,h=>by
  rw[wideL_cons,BH_] at h
  rcases h with h|h
  ·exact putL_rng _ y h
  ·exact wideL_rng xs y h
theorem wide_any (v:Value) (xs:List Int) (w:World) (hv:Rd w v (xs.map (AS_ .i32))) (hx:∀ x∈xs,-2147483648≤x∧x≤2147483647) (hl:xs.length≤1000000) :
  Calls L_ 241 #[v] w fun e w'=>∃ r,e=.returned r∧Own w.heap.size w' 5 r ((wideL xs).map (AS_ .u8))∧Below w.heap.size w w':=by
 obtain ⟨a,c,rfl,hle,hm,ha⟩:=hv.ints
 obtain ⟨i0,hi,hz0,hz1,hz2⟩:=info_parts (show (Tryz.prog.info? 5).map (fun i=>(i.zero,i.size,i.bytes))=some (some (.int .u8 0),1,1) from by kernel_rfl)
 have HX:=Lib.hid hx;clear hx
 go_enter Tryz.func241,Tryz.ntmps241
 go_wp2_with fail
 go_loopw [3,8] (fun r i wr=>∃ (k:Nat),i=.int .i64 k∧k≤xs.length∧Own w.heap.size wr 5 r ((wideL (xs.take k)).map (AS_ .u8))∧Below w.heap.size w wr) (fun _ i _=>xs.length-(intOf i).toNat)
 case atStart=>exact ⟨0,rfl,by omega,Own.nil _ _ _,Below.refl _ _⟩
 case round =>
  obtain ⟨k,rfl,hk,hown,hb⟩:=hrel
  by_cases hlt:k<xs.length
  ·obtain ⟨b,o,rfl,hc⟩:=ha (by intro h;subst h;simp at hlt)
   have hcell:=bl_get hb (hc k hlt)
   obtain ⟨x0,x1⟩:=HX.out xs[k] (CW_ hlt)
   have hst:(wideL (xs.take (k+1))).map (AS_ .u8)=(wideL (xs.take k)).map (AS_ .u8)++(putL (foldN xs[k]).toNat).map (AS_ .u8):=by
    rw[List.take_succ_eq_append_getElem hlt,wideL_snoc,B_]
   have hlk:((wideL (xs.take k)).map (AS_ .u8)).length≤10000000:=by
    have:=wideL_len (xs.take k) (fun y hy=>HX.out y (CJ_ hy))
    rw[BS_] at this;rw[R_];omega
   obtain ⟨x,hx⟩:∃ x,x=xs[k]:=⟨_,rfl⟩
   rw[←hx] at hcell hst x0 x1
   obtain ⟨f0,f1⟩:=foldN_bd x (by omega) (by omega)
   have hpl:=putL_len10 (foldN x).toNat (by omega)
   have HST:=Lib.hid hst;have HO:=Lib.hid hown;have HLK:=Lib.hid hlk;have HPL:=Lib.hid hpl
   have kk0:(0:Int)≤(k:Int):=by omega
   have kk1:(k:Int)<(xs.length:Int):=by omega
   clear hst hx hc ha hown hlk hpl
   go_wp2_with fail
   refine (putInt_any x _ (by omega) (by omega)).mono ?_
   rintro e w2 ⟨r,rfl,hr,hb2⟩
   have HR:=Lib.hid hr.rd
   have HO2:=Lib.hid (HO.out.below hb2 (AX_ _))
   clear hr
   have hbw:Below w.heap.size w w2:=bl_step hb hb2
   go_wp2_with (at_builtin;refine hold ?_)
   refine unheld ?_
   refine wpList_appS rfl _ _ 27 rfl w.heap.size 5 i0 (.int .u8 0) 1 Tryz.underlying27 hi hz0 hz1 hz2 (by decide) rfl _ _ _ _ HO2.out HR.out rfl rfl (ints_one _ _) (by have:=HLK.out;have:=HPL.out;simp only[R_] at *;omega) hbw.size ?_
   intro v' w' hown' hb'
   have HO3:=Lib.hid hown';clear hown'
   go_wp2_with fail
   go_roundw
   case rel=>exact ⟨k+1,by go_num,by omega,by rw[HST.out];exact HO3.out,hbw.trans hb'⟩
   case measure=>simp[intOf];omega
  ·have hkk:xs.take k=xs:=DN_ (by omega)
   rw[hkk] at hown
   go_wp2
   go_ret
   exact ⟨_,rfl,hown,hb⟩
theorem ownR_sl {S:Nat→Prop} {w:World} {B:Nat} {t:TypeId} {k:IntKind} {L:List Int} {v:Value} (hS:∀ b,S b→b<B) (h:Own B w t v (L.map (AS_ k))):Rel (fun _=>none) S w (.sl 1 (L.map (row1 k))) v:=by
 by_cases hne:L=[]
 ·subst hne
  obtain ⟨ao,cap,rfl,⟨_,hm,h0⟩,_⟩:=h.rd
  exact .pure (.nil 1 hm h0)
 ·obtain ⟨g,cap,rfl,hc,hm,hB,hg,hcell,_,_⟩:=h.form (by simpa using hne)
  rw[R_] at hc
  rw[R_,show L.length=(L.map (row1 k)).length from by rw[R_]]
  refine .pure (.sl (fun i _=>.int k (L.getD i 0)) (fun _ hs=>absurd (hS _ hs) (by omega)) (fun _=>hg) (by rw[R_];exact hc) hm (fun i r hr=>?_) (fun i r j c hr hc=>?_) (fun i r j c hr hc=>?_) (fun i r j c hr hc=>by simp[Value.oneCell']))
  ·rw[AW_] at hr
   cases q:L[i]? with
   | none=>rw[q] at hr;cases hr
   | some x=>rw[q] at hr;injection hr with hr;subst hr;rfl
  ·rw[AW_] at hr
   cases q:L[i]? with
   | none=>rw[q] at hr;cases hr
   | some x =>
    rw[q] at hr;injection hr with hr;subst hr
    obtain ⟨hi,e⟩:=List.getElem?_eq_some_iff.1 q
    cases j with
    | zero =>
     have:=hcell i (by rw[R_];exact hi)
     rw[show 0+i*1+0=i from by omega,this,List.getElem_map,AU_,q,e];rfl
    | succ j=>simp at hc
  ·rw[AW_] at hr
   cases q:L[i]? with
   | none=>rw[q] at hr;cases hr
   | some x =>
    rw[q] at hr;injection hr with hr;subst hr
    cases j with
    | zero=>simp at hc;subst hc;rw[AU_,q];exact .lit _
    | succ j=>simp at hc
theorem sl_rd {μ:Nat→Option OI} {S:Nat→Prop} {w:World} {k:IntKind} {L:List Int} {v:Value} (h:Rel μ S w (.sl 1 (L.map (row1 k))) v):Rd w v (L.map (AS_ k)):=by
 cases h with
 | pure h =>
  generalize hr:L.map (row1 k)=rows at h
  cases h with
  | nil _ hm h0 =>
   have:L=[]:=by simpa using hr
   subst this
   exact ⟨_,_,rfl,⟨AD_ _,hm,h0⟩,fun h=>absurd rfl h⟩
  | @sl _ _ b off cap cv hX hb hc hm hz h1 h2 h3 =>
   subst hr
   rw[R_] at hc ⊢
   refine ⟨some ⟨b,off,none⟩,cap,by rw[R_],⟨by rw[R_];exact hc,hm,by simp⟩,fun hne=>⟨b,off,rfl,fun j hj=>?_⟩⟩
   rw[R_] at hj
   have e:(L.map (row1 k))[j]? = some (row1 k L[j]):=by rw[AW_,Z_ hj];rfl
   have a1:=h1 j _ 0 (.lit (.int k L[j])) e rfl
   have a2:=h2 j _ 0 (.lit (.int k L[j])) e rfl
   rw[show off+j=off+j*1+0 from by omega,a1]
   generalize cv j 0=u at a2
   cases a2
   rw[List.getElem_map]
theorem put_v (n:Int) (h0:0≤n) (h1:n≤18446744073709551615):VC L_ 25 [.lit (.int .u64 n)] (.sl 1 ((putL n.toNat).map (row1 .u8))):=by
 intro S w xs hS hl hxs
 have:=valAll_eq (us:=[.int .u64 n]) hl hxs rfl
 subst this
 exact (put_any n w h0 h1).mono fun e w' ⟨v,he,ho,hb⟩=>⟨v,he,ownR_sl hS ho,hb⟩
theorem one_arg {μ:Nat→Option OI} {X:Nat→Prop} {w:World} {c:AV} {xs:List Value} (hl:xs.length=[c].length) (h:∀ (i:Nat) (c':AV) (v:Value),[c][i]? = some c'→xs[i]? = some v→Rel μ X w c' v):∃ v,xs=[v]∧Rel μ X w c v:=by
 match xs,hl with
 | [v],_=>exact ⟨v,rfl,h 0 c v rfl rfl⟩
theorem small_v (l:List Int) (hl:l.length≤1000000):VC L_ 240 [.sl 1 (l.map (row1 .i8))] (.sl 1 ((smallL l).map (row1 .u8))):=by
 intro S w xs hS hn hxs
 obtain ⟨v,rfl,hv⟩:=one_arg hn hxs
 exact (small_any v l w (sl_rd hv) hl).mono fun e w' ⟨v,he,ho,hb⟩=>⟨v,he,ownR_sl hS ho,hb⟩
theorem wide_v (l:List Int) (hx:∀ x∈l,-2147483648≤x∧x≤2147483647) (hl:l.length≤1000000):VC L_ 241 [.sl 1 (l.map (row1 .i32))] (.sl 1 ((wideL l).map (row1 .u8))):=by
 intro S w xs hS hn hxs
 obtain ⟨v,rfl,hv⟩:=one_arg hn hxs
 exact (wide_any v l w (sl_rd hv) hx hl).mono fun e w' ⟨v,he,ho,hb⟩=>⟨v,he,ownR_sl hS ho,hb⟩
theorem rel3 {μ:Nat→Option OI} {X:Nat→Prop} {w:World} (a b c:Value):Rel μ X w (.tup [.lit a,.lit b,.lit c]) (.tuple #[a,b,c]) :=
 .tup (vs:=[a,b,c]) rfl (fun i x v hx hv=>by
  match i with
  | 0=>simp at hx hv;subst hx hv;exact .pure (.lit _)
  | 1=>simp at hx hv;subst hx hv;exact .pure (.lit _)
  | 2=>simp at hx hv;subst hx hv;exact .pure (.lit _)
  | i+3=>simp at hx)
def getV (l:List Int):Int:=(getAt l 0 0).1
def getN (l:List Int):Int:=(getAt l 0 0).2.1
def getE (l:List Int):Int:=(getAt l 0 0).2.2
theorem get_v (l:List Int) (hb:∀ x∈l,0≤x∧x≤255) (hl:l.length≤1000000):VC L_ 95 [.sl 1 (l.map (row1 .u8))] (.tup [.lit (.int .u64 (getV l)),i64 (getN l),i64 (getE l)]):=by
 intro S w xs hS hn hxs
 obtain ⟨v,rfl,hv⟩:=one_arg hn hxs
 exact (get_any v l w (sl_rd hv) hb (by omega)).mono fun e w' ⟨he,hb⟩=>⟨_,he,rel3 _ _ _,hb⟩
theorem getInt_v (l:List Int) (hb:∀ x∈l,0≤x∧x≤255) (hl:l.length≤1000000):VC L_ 253 [.sl 1 (l.map (row1 .u8))] (.tup [i64 (unfoldN (getV l)),i64 (getN l),i64 (getE l)]):=by
 intro S w xs hS hn hxs
 obtain ⟨v,rfl,hv⟩:=one_arg hn hxs
 exact (getInt_any v l w (sl_rd hv) hb (by omega)).mono fun e w' ⟨he,hb⟩=>⟨_,he,rel3 _ _ _,hb⟩
end Go.Proofs.YtdfihaminnmgpaaGreat
namespace Go.Proofs.YtdfihaminnmgpaaGreat
open Bool renaming and_eq_true→N_,and_eq_false_iff→T_,or_eq_false_iff→U_,not_eq_false'→X_,not_eq_true'→A_,or_eq_true→D_,and_true→AN_,false_eq_true→BN_,false_and→BP_,true_and→BY_,not_true→BZ_,false_or→BA_,not_false→BB_,and_false→BC_,or_false→CM_,true_eq_false→CZ_,or_true→DM_
open Exit renaming exit→BO_
open Int renaming reduceEq→BV_,natCast_nonpos_iff→CN_,not_lt→DR_
open IntKind renaming i64→O_,i8→S_,i32→V_
open IntWalk renaming i32_in→CR_
open List renaming map→K_,length_append→P_,length_map→R_,map_replicate→W_,getElem?_eq_getElem→Z_,map_append→B_,map_cons→C_,map_take→AK_,map_drop→AL_,map_nil→AO_,map_set→AP_,getD_eq_getElem?_getD→AU_,getElem?_map→AW_,eq_nil_of_length_eq_zero→AC_,length_cons→AE_,length_take→BS_,mem_append→BH_,length_eq_zero_iff→CK_,length_nil→CQ_,getElem_mem→CW_,mem_of_mem_take→CJ_,take_of_length_le→DN_
open Nat renaming le_refl→AX_,zero_le→AD_
open Tryz renaming prog→L_
open Value renaming slice→AQ_,int→AS_,bool→BD_,agg→CT_
open Weak renaming int→Q_,bool→AF_,nil→AG_,tup→AI_,agg→BL_,rows→BQ_
open WeakL renaming refl→AM_
def poly:BitVec 32:=3988292384#32
def st (v:BitVec 32):BitVec 32:=(v >>> 1) ^^^ (if v.getLsbD 0 then poly else 0#32)
def stn:Nat→BitVec 32→BitVec 32
 | 0,v=>v
 | n+1,v=>stn n (st v)
def byte (v:BitVec 32) (c:Int):BitVec 32:=stn 8 (v ^^^ BitVec.ofInt 32 c)
def runB (v:BitVec 32) (l:List Int):BitVec 32:=l.foldl byte v
theorem st_xor (a b:BitVec 32):st (a ^^^ b)=st a ^^^ st b:=by
 unfold st
 rw[BitVec.ushiftRight_xor_distrib,BitVec.getLsbD_xor]
 cases ha:a.getLsbD 0<;>cases hb:b.getLsbD 0<;>simp
 ·rw[BitVec.xor_assoc]
 ·rw[BitVec.xor_assoc,BitVec.xor_comm (b >>> 1) poly,BitVec.xor_assoc]
 ·rw[BitVec.xor_assoc,←BitVec.xor_assoc poly,BitVec.xor_comm poly (b >>> 1),BitVec.xor_assoc (b >>> 1),BitVec.xor_self,BitVec.xor_zero]
theorem stn_xor:∀ (n:Nat) (a b:BitVec 32),stn n (a ^^^ b)=stn n a ^^^ stn n b
 | 0,_,_=>rfl
 | n+1,a,b=>by rw[stn,stn,stn,st_xor,stn_xor n]
theorem stn_add:∀ (m n:Nat) (v:BitVec 32),stn (m+n) v=stn n (stn m v)
 | 0,n,v=>by simp[stn]
 | m+1,n,v=>by rw[show m+1+n=(m+n)+1 from by omega,stn,stn_add m n,stn]
theorem stn_high (v:BitVec 32):stn 4 ((v >>> 4) <<< 4)=v >>> 4:=by
 have h:∀ (u:BitVec 32),u.getLsbD 0=false→st u=u >>> 1:=fun u hu=>by unfold st;rw[hu];simp
 have e1:st ((v >>> 4) <<< 4)=((v >>> 4) <<< 4) >>> 1:=h _ (by simp)
 have e2:st (((v >>> 4) <<< 4) >>> 1)=((v >>> 4) <<< 4) >>> 1 >>> 1:=h _ (by simp)
 have e3:st (((v >>> 4) <<< 4) >>> 1 >>> 1)=((v >>> 4) <<< 4) >>> 1 >>> 1 >>> 1:=h _ (by simp)
 have e4:st (((v >>> 4) <<< 4) >>> 1 >>> 1 >>> 1)=((v >>> 4) <<< 4) >>> 1 >>> 1 >>> 1 >>> 1:=h _ (by simp)
 show st (st (st (st ((v >>> 4) <<< 4))))=_
 rw[e1,e2,e3,e4]
 apply BitVec.eq_of_getLsbD_eq
 intro i hi
 simp only[BitVec.getLsbD_ushiftRight,BitVec.getLsbD_shiftLeft]
 by_cases h28:i<28
 ·have a1:1+(1+(1+(1+i)))=i+4:=by omega
  have a2:i+4<32:=by omega
  have a3:¬ (i+4<4):=by omega
  have a4:4+(i+4-4)=i+4:=by omega
  have a5:4+i=i+4:=by omega
  simp[a1,a2,a3,a5]
 ·have a1:1+(1+(1+(1+i)))=i+4:=by omega
  have a2:¬ i+4<32:=by omega
  have a5:v.getLsbD (4+i)=false:=BitVec.getLsbD_of_ge _ _ (by omega)
  simp[a1,a2,a5]
theorem low4:∀ i,i<32→(15#32:BitVec 32).getLsbD i=decide (i<4):=by decide
theorem split4 (v:BitVec 32):v=((v >>> 4) <<< 4) ^^^ (v &&& 15#32):=by
 apply BitVec.eq_of_getLsbD_eq
 intro i hi
 simp only[BitVec.getLsbD_xor,BitVec.getLsbD_and,BitVec.getLsbD_shiftLeft,low4 i hi,BitVec.getLsbD_ushiftRight]
 by_cases h:i<4
 ·simp[h]
 ·have:4+(i-4)=i:=by omega
  simp[h,this,hi]
theorem half_step (v:BitVec 32):stn 4 v=(v >>> 4) ^^^ stn 4 (v &&& 15#32):=by
 conv=>lhs;rw[split4 v]
 rw[stn_xor,stn_high]
theorem runB_append (v:BitVec 32) (a b:List Int):runB v (a++b)=runB (runB v a) b:=by simp[runB]
theorem byte_xor (a b:BitVec 32) (c:Int):byte (a ^^^ b) c=stn 8 a ^^^ byte b c:=by
 unfold byte;rw[BitVec.xor_assoc,stn_xor]
theorem runB_xor:∀ (l:List Int) (a b:BitVec 32),runB (a ^^^ b) l=stn (8*l.length) a ^^^ runB b l
 | [],a,b=>by simp[runB,stn]
 | c::l,a,b=>by
  show runB (byte (a ^^^ b) c) l=_
  rw[byte_xor,runB_xor l]
  rw[show 8*(c::l).length=8+8*l.length from by simp;omega,stn_add]
  rfl
theorem st_inj (v:BitVec 32) (h:st v=0#32):v=0#32:=by
 unfold st at h
 cases h0:v.getLsbD 0 with
 | true =>
  exfalso
  rw[h0] at h
  have:=congrArg (fun x:BitVec 32=>x.getLsbD 31) h
  simp[poly] at this
 | false =>
  rw[h0] at h
  simp at h
  ext i hi
  cases i with
  | zero=>simpa [BitVec.getLsbD_eq_getElem hi] using h0
  | succ i =>
   have:=congrArg (fun x:BitVec 32=>x.getLsbD i) h
   simp[BitVec.getLsbD_ushiftRight,Nat.add_comm 1 i,BitVec.getLsbD_eq_getElem hi] at this
   simpa using this
theorem stn_inj:∀ (n:Nat) (v:BitVec 32),stn n v=0#32→v=0#32
 | 0,_,h=>h
 | n+1,v,h=>st_inj v (stn_inj n _ h)
theorem run_inj (l:List Int) (a b:BitVec 32) (h:runB a l=runB b l):a=b:=by
 have e:a=(a ^^^ b) ^^^ b:=by rw[BitVec.xor_assoc,BitVec.xor_self,BitVec.xor_zero]
 have h1:=runB_xor l (a ^^^ b) b
 rw[←e,h] at h1
 have h2:stn (8*l.length) (a ^^^ b)=0#32:=by
  have:=congrArg (· ^^^ runB b l) h1
  simp only[BitVec.xor_self,BitVec.xor_assoc,BitVec.xor_zero] at this
  exact this.symm
 have h3:=stn_inj _ _ h2
 rw[e,h3,BitVec.zero_xor]
theorem byte_inj (v:BitVec 32) (c d:Int) (h:byte v c=byte v d):BitVec.ofInt 32 c=BitVec.ofInt 32 d:=by
 unfold byte at h
 rw[stn_xor,stn_xor] at h
 have h1:stn 8 (BitVec.ofInt 32 c ^^^ BitVec.ofInt 32 d)=0#32:=by
  rw[stn_xor]
  have:=congrArg (stn 8 v ^^^ ·) h
  simp only[←BitVec.xor_assoc,BitVec.xor_self,BitVec.zero_xor] at this
  rw[this,BitVec.xor_self]
 have h2:=stn_inj _ _ h1
 have e:BitVec.ofInt 32 c=(BitVec.ofInt 32 c ^^^ BitVec.ofInt 32 d) ^^^ BitVec.ofInt 32 d:=by rw[BitVec.xor_assoc,BitVec.xor_self,BitVec.xor_zero]
 rw[e,h2,BitVec.zero_xor]
theorem tells (v:BitVec 32) (a b:List Int) (c d:Int) (hc:0≤c∧c≤255) (hd:0≤d∧d≤255) (h:c≠d):runB v (a++c::b)≠runB v (a++d::b):=by
 intro he
 rw[runB_append,runB_append] at he
 have h1:=run_inj b _ _ (show runB (byte (runB v a) c) b=runB (byte (runB v a) d) b from he)
 have h2:=congrArg BitVec.toNat (byte_inj _ _ _ h1)
 rw[BitVec.toNat_ofInt,BitVec.toNat_ofInt] at h2
 omega
end Go.Proofs.YtdfihaminnmgpaaGreat
namespace Go.Proofs.YtdfihaminnmgpaaGreat
open Go.RowKit
open Bool renaming and_eq_true→N_,and_eq_false_iff→T_,or_eq_false_iff→U_,not_eq_false'→X_,not_eq_true'→A_,or_eq_true→D_,and_true→AN_,false_eq_true→BN_,false_and→BP_,true_and→BY_,not_true→BZ_,false_or→BA_,not_false→BB_,and_false→BC_,or_false→CM_,true_eq_false→CZ_,or_true→DM_
open Exit renaming exit→BO_
open Int renaming reduceEq→BV_,natCast_nonpos_iff→CN_,not_lt→DR_
open IntKind renaming i64→O_,i8→S_,i32→V_
open IntWalk renaming i32_in→CR_
open List renaming map→K_,length_append→P_,length_map→R_,map_replicate→W_,getElem?_eq_getElem→Z_,map_append→B_,map_cons→C_,map_take→AK_,map_drop→AL_,map_nil→AO_,map_set→AP_,getD_eq_getElem?_getD→AU_,getElem?_map→AW_,eq_nil_of_length_eq_zero→AC_,length_cons→AE_,length_take→BS_,mem_append→BH_,length_eq_zero_iff→CK_,length_nil→CQ_,getElem_mem→CW_,mem_of_mem_take→CJ_,take_of_length_le→DN_
open Nat renaming le_refl→AX_,zero_le→AD_
open Tryz renaming prog→L_
open Value renaming slice→AQ_,int→AS_,bool→BD_,agg→CT_
open Weak renaming int→Q_,bool→AF_,nil→AG_,tup→AI_,agg→BL_,rows→BQ_
open WeakL renaming refl→AM_
def uv (v:BitVec 32):Int:=(v.toNat:Int)
theorem uv_bd (v:BitVec 32):0≤uv v∧uv v≤4294967295:=by have:=v.isLt;unfold uv;omega
theorem uv_ofInt (v:BitVec 32):BitVec.ofInt 32 (uv v)=v:=by
 unfold uv;rw[BitVec.ofInt_natCast,BitVec.ofNat_toNat];simp
theorem of_uv (n:Int) (h0:0≤n) (h1:n≤4294967295):uv (BitVec.ofInt 32 n)=n:=by
 unfold uv;rw[BitVec.toNat_ofInt];omega
theorem wrap_uv (v:BitVec 32):IntKind.u32.wrap (uv v)=uv v:=by
 have:=v.isLt
 rw[IntKind.wrap_u32'];unfold uv;omega
theorem uv_xor (a b:BitVec 32):bits .xor .u32 (uv a) (uv b)=uv (a ^^^ b):=by
 show IntKind.u32.wrap ((BitVec.ofInt 32 (uv a) ^^^ BitVec.ofInt 32 (uv b)).toNat:Int)=_
 rw[uv_ofInt,uv_ofInt];exact wrap_uv _
theorem uv_and (a b:BitVec 32):bits .and .u32 (uv a) (uv b)=uv (a &&& b):=by
 show IntKind.u32.wrap ((BitVec.ofInt 32 (uv a) &&& BitVec.ofInt 32 (uv b)).toNat:Int)=_
 rw[uv_ofInt,uv_ofInt];exact wrap_uv _
theorem uv_half (v:BitVec 32):uv v/(2:Int)=uv (v >>> 1):=by
 unfold uv;rw[BitVec.toNat_ushiftRight,Nat.shiftRight_eq_div_pow];omega
theorem uv_16 (v:BitVec 32):uv v/(16:Int)=uv (v >>> 4):=by
 unfold uv;rw[BitVec.toNat_ushiftRight,Nat.shiftRight_eq_div_pow];omega
theorem uv_neg (v:BitVec 32) : -uv v % 4294967296=uv (-v):=by
 unfold uv;rw[BitVec.toNat_neg];have:=v.isLt;omega
theorem and_one (v:BitVec 32):v &&& 1#32=if v.getLsbD 0 then 1#32 else 0#32:=by
 apply BitVec.eq_of_getLsbD_eq
 intro i hi
 have h1:∀ i,i<32→(1#32:BitVec 32).getLsbD i=decide (i=0):=by decide
 rw[BitVec.getLsbD_and,h1 i hi]
 by_cases h:i=0
 ·subst h;cases hv:v.getLsbD 0<;>simp
 ·cases hv:v.getLsbD 0<;>simp[h,h1 i hi]
theorem uv_st (v:BitVec 32):bits .xor .u32 (uv v/2) (bits .and .u32 3988292384 (-bits .and .u32 (uv v) 1 % 4294967296))=uv (st v):=by
 have e1:(1:Int)=uv 1#32:=rfl
 have e2:(3988292384:Int)=uv poly:=rfl
 rw[uv_half,e1,uv_and,uv_neg,e2,uv_and,uv_xor]
 congr 1
 unfold st
 rw[and_one]
 cases v.getLsbD 0
 ·simp
 ·have:poly &&& 4294967295#32=poly:=by decide
  simp[this]
theorem stn_succ (m:Nat) (v:BitVec 32):stn (m+1) v=st (stn m v):=by rw[stn_add];rfl
def tblAt (i:Nat):Int:=uv (stn 4 (BitVec.ofNat 32 i))
def tbl (k:Nat):Array Value:=((List.range 16).map fun i=>AS_ .u32 (if i<k then tblAt i else 0)).toArray
theorem tbl_size (k:Nat):(tbl k).size=16:=by simp[tbl]
theorem tbl_zero:tbl 0 = #[.int .u32 0,.int .u32 0,.int .u32 0,.int .u32 0,.int .u32 0,.int .u32 0,.int .u32 0,.int .u32 0,.int .u32 0,.int .u32 0,.int .u32 0,.int .u32 0,.int .u32 0,.int .u32 0,.int .u32 0,.int .u32 0]:=rfl
theorem tbl_get (k i:Nat) (h:i<16):(tbl k)[i]? = some (.int .u32 (if i<k then tblAt i else 0)):=by
 unfold tbl;simp[h]
theorem tbl_no (k i:Nat) (h:¬ i<16):(tbl k)[i]? = none:=by
 rw[Array.getElem?_eq_none];rw[tbl_size];omega
theorem tbl_set (k:Nat):(tbl k).setIfInBounds k (.int .u32 (tblAt k))=tbl (k+1):=by
 apply Array.ext_getElem?
 intro i
 rw[Array.getElem?_setIfInBounds,tbl_size]
 by_cases hi:i<16
 ·rw[tbl_get _ _ hi,tbl_get _ _ hi]
  by_cases hik:k=i
  ·subst hik;simp[hi]
  ·rw[j_ hik]
   by_cases h:i<k
   ·rw[i_ h,i_ (by omega)]
   ·rw[j_ h,j_ (by omega)]
 ·rw[tbl_no _ _ hi,tbl_no _ _ hi];split<;>simp;omega
theorem table_any (w:World):Calls L_ 125 #[] w fun e w'=>e=.returned (.agg (tbl 16))∧Below w.heap.size w w':=by
 go_enter Tryz.func125,Tryz.ntmps125
 go_wp2_with fail
 go_loopw [4] (fun i wr=>∃ (k:Nat),i=.int .i64 k∧k≤16∧At wr w.heap.size 211 (tbl 0)∧At wr (w.heap.size+1) 211 (tbl k)∧Below w.heap.size w wr) (fun i _=>16-(intOf i).toNat)
 case atStart =>
  rw[←tbl_zero]
  refine ⟨0,rfl,by omega,(At.new _ _ _).alloc _,?_,((Below.refl _ _).alloc (AX_ _) _).alloc (by simp) _⟩
  have:=At.new (w.alloc (.cells (tbl 0) 211)) 211 (tbl 0)
  simpa using this
 case round =>
  obtain ⟨k,rfl,hk,h0,h1,hb⟩:=hrel
  by_cases hlt:k<16
  ·have c1:=h1.cell k
   have f1:=h1.free k
   rw[tbl_get k k hlt] at c1
   go_wp2_with fail
   go_loop [3,9] (fun v j=>∃ (m:Nat),j=.int .i64 m∧m≤4∧v=.int .u32 (uv (stn m (BitVec.ofNat 32 k)))) (fun _ j=>4-(intOf j).toNat)
   case atStart=>exact ⟨0,rfl,by omega,by rw[show uv (stn 0 (BitVec.ofNat 32 k))=(k:Int) from by unfold stn uv;rw[BitVec.toNat_ofNat];omega]⟩
   case round =>
    obtain ⟨m,rfl,hm,rfl⟩:=hrel
    by_cases hlt2:m<4
    ·go_wp2_with fail
     go_round
     case rel=>exact ⟨m+1,by go_num,by omega,by rw[uv_st,stn_succ]⟩
     case measure=>simp[intOf];omega
    ·obtain rfl:m=4:=by omega
     go_wp2_with fail
     go_roundw
     case rel =>
      refine ⟨k+1,by go_num,by omega,h0.other (by simp) _,?_,hb.setCell (by simp) _⟩
      rw[←tbl_set];exact h1.set k _
     case measure=>simp[intOf];omega
  ·obtain rfl:k=16:=by omega
   have hr:=(h0.row (tbl 16))
   go_wp2_with (first|(refine wpList_load_row rfl 211 _ rfl _ rfl _ _ _ _ h1 Tryz.underlying211 rfl (by kernel_rfl) ?_)|(refine wpList_store_row rfl 211 _ _ rfl _ _ rfl rfl _ _ h0 (by kernel_rfl) rfl (by kernel_rfl) ?_))
   refine bodyPost_ret (v:=.agg (tbl 16)) ?_ rfl ⟨rfl,bl_row hb (AX_ _) _⟩
   exact results_cell_row rfl _ _ w.heap.size 211 (tbl 16) (0,0) _ rfl hr Tryz.underlying211 rfl (by kernel_rfl)
theorem and15 (v:BitVec 32):bits .and .u32 (uv v) 15=((v &&& 15#32).toNat:Int)∧(v &&& 15#32).toNat<16:=by
 refine ⟨uv_and v 15#32,?_⟩
 rw[BitVec.toNat_and]
 exact Nat.lt_of_le_of_lt Nat.and_le_right (by decide)
theorem half_uv (v:BitVec 32):bits .xor .u32 (uv (v >>> 4)) (tblAt (v &&& 15#32).toNat)=uv (stn 4 v):=by
 unfold tblAt;rw[uv_xor,half_step v];simp
theorem xor_in (v:BitVec 32) (c:Int) (h0:0≤c) (h1:c≤255):bits .xor .u32 (uv v) c=uv (v ^^^ BitVec.ofInt 32 c):=by
 conv=>lhs;rw[←of_uv c h0 (by omega)]
 rw[uv_xor]
theorem runB_take (V:BitVec 32) (l:List Int) (k:Nat) (hk:k<l.length):runB V (l.take (k+1))=byte (runB V (l.take k)) l[k]:=by
 unfold runB;rw[List.take_succ_eq_append_getElem hk,List.foldl_append];rfl
theorem crcRun_any (V:BitVec 32) (v:Value) (l:List Int) (w:World) (hv:Rd w v (l.map (AS_ .u8))) (hl:l.length≤1099511627776) (hx:∀ x∈l,0≤x∧x≤255) :
  Calls L_ 86 #[.int .u32 (uv V),v] w fun e w'=>e=.returned (.int .u32 (uv (runB V l)))∧Below w.heap.size w w':=by
 obtain ⟨ao,ca,rfl,_,ha⟩:=hv
 simp only[R_]
 have HX:=Lib.hid hx;clear hx
 go_enter Tryz.func86,Tryz.ntmps86
 go_wp2_with fail
 refine (table_any _).mono ?_
 rintro e w1 ⟨rfl,hb1⟩
 have s1:=tbl_size 16
 go_wp2_with (refine wpList_storeNew _ (tbl 16) 211 rfl _ _ rfl rfl rfl (by kernel_rfl) rfl (by kernel_rfl) ?_)
 obtain ⟨w2,hw2⟩:∃ w2,w2=w1.alloc (.cells (tbl 16) 211):=⟨_,rfl⟩
 have ht:=At.new w1 211 (tbl 16)
 have hb2:Below w.heap.size w w2:=by rw[hw2];exact hb1.alloc hb1.size _
 rw[←hw2] at ht ⊢
 clear hw2 hb1
 go_loop [0,11] (fun r i=>∃ (k:Nat),i=.int .i64 k∧k≤l.length∧r=.int .u32 (uv (runB V (l.take k)))) (fun _ i=>l.length-(intOf i).toNat)
 case atStart=>exact ⟨0,rfl,by omega,by simp[runB]⟩
 case round =>
  obtain ⟨k,rfl,hk,rfl⟩:=hrel
  by_cases hlt:k<l.length
  ·obtain ⟨b,o,rfl,hc⟩:=ha (by intro h;simp at h;subst h;simp at hlt)
   have hcell:=bl_get hb2 (hc k (by simpa using hlt))
   simp only[List.getElem_map] at hcell
   obtain ⟨c0,c1⟩:=HX.out l[k] (CW_ hlt)
   have hrun:=runB_take V l k hlt
   obtain ⟨c,hc'⟩:∃ c,c=l[k]:=⟨_,rfl⟩
   rw[←hc'] at hcell c0 c1 hrun
   obtain ⟨X,hX⟩:∃ X,X=runB V (l.take k):=⟨_,rfl⟩
   rw[←hX] at hrun ⊢
   have HR:=Lib.hid hrun
   clear hX hrun hc' hc ha
   have e1:=xor_in X c c0 c1
   obtain ⟨Y,hY⟩:∃ Y,Y=X ^^^ BitVec.ofInt 32 c:=⟨_,rfl⟩
   rw[←hY] at e1
   obtain ⟨e2,n1⟩:=and15 Y
   have e3:=uv_16 Y
   have e4:=half_uv Y
   obtain ⟨i1,hi1⟩:∃ i,i=(Y &&& 15#32).toNat:=⟨_,rfl⟩
   rw[←hi1] at e2 n1 e4
   obtain ⟨Z,hZ⟩:∃ Z,Z=stn 4 Y:=⟨_,rfl⟩
   rw[←hZ] at e4
   obtain ⟨f2,n2⟩:=and15 Z
   have f3:=uv_16 Z
   have f4:=half_uv Z
   obtain ⟨i2,hi2⟩:∃ i,i=(Z &&& 15#32).toNat:=⟨_,rfl⟩
   rw[←hi2] at f2 n2 f4
   have d1:=ht.cell i1
   have d2:=ht.cell i2
   rw[tbl_get _ _ n1,i_ n1] at d1
   rw[tbl_get _ _ n2,i_ n2] at d2
   have HE:Hid (stn 4 Z=byte X c):=by rw[hZ,hY];exact (stn_add 4 4 _).symm
   clear hY hZ hi1 hi2
   go_wp2_with fail
   go_round
   case rel=>exact ⟨k+1,by go_num,by omega,by rw[HR.out,←HE.out]⟩
   case measure=>simp[intOf];omega
  ·have hkk:l.take k=l:=DN_ (by omega)
   rw[hkk]
   go_wp2
   go_ret
   exact ⟨rfl,hb2⟩
theorem refStep_any (V:BitVec 32) (w:World):Calls L_ 103 #[.int .u32 (uv V)] w fun e w'=>e=.returned (.int .u32 (uv (st V)))∧w=w':=by
 have hb:=uv_bd V
 have h2:uv V % 2=if V.getLsbD 0 then 1 else 0:=by
  unfold uv
  have:V.getLsbD 0=decide (V.toNat % 2=1):=by simp[BitVec.getLsbD,Nat.testBit_zero]
  rw[this]
  by_cases h:V.toNat % 2=1
  ·simp[h];omega
  ·simp[h];omega
 cases hv:V.getLsbD 0 with
 | true =>
  have e1:((uv V % 2)==1)=true:=by rw[h2,hv];rfl
  have e3:=uv_half V
  have e2:bits .xor .u32 (uv (V >>> 1)) 3988292384=uv (st V):=by
   rw[show (3988292384:Int)=uv poly from rfl,uv_xor];unfold st;rw[hv];rfl
  clear h2 hv
  go_enter Tryz.func103,Tryz.ntmps103
  go_wp2
  go_ret
  exact ⟨rfl,rfl⟩
 | false =>
  have e1:((uv V % 2)==1)=false:=by rw[h2,hv];rfl
  have e3:uv V/(2:Int)=uv (st V):=by rw[uv_half];unfold st;rw[hv];simp
  clear h2 hv
  go_enter Tryz.func103,Tryz.ntmps103
  go_wp2
  go_ret
  exact ⟨congrArg (fun n=>Ending.returned (.int .u32 n)) e3,rfl⟩
theorem refRun_any (V:BitVec 32) (v:Value) (l:List Int) (w:World) (hv:Rd w v (l.map (AS_ .u8))) (hl:l.length≤1099511627776) (hx:∀ x∈l,0≤x∧x≤255) :
  Calls L_ 63 #[.int .u32 (uv V),v] w fun e w'=>e=.returned (.int .u32 (uv (runB V l)))∧w=w':=by
 obtain ⟨ao,ca,rfl,_,ha⟩:=hv
 simp only[R_]
 have HX:=Lib.hid hx;clear hx
 go_enter Tryz.func63,Tryz.ntmps63
 go_wp2_with fail
 go_loop [0,5,6] (fun r i _=>∃ (k:Nat),i=.int .i64 k∧k≤l.length∧r=.int .u32 (uv (runB V (l.take k)))) (fun _ i _=>l.length-(intOf i).toNat)
 case atStart=>exact ⟨0,rfl,by omega,by simp[runB]⟩
 case round =>
  obtain ⟨k,rfl,hk,rfl⟩:=hrel
  by_cases hlt:k<l.length
  ·obtain ⟨b,o,rfl,hc⟩:=ha (by intro h;simp at h;subst h;simp at hlt)
   have hcell:=hc k (by simpa using hlt)
   simp only[List.getElem_map] at hcell
   obtain ⟨c0,c1⟩:=HX.out l[k] (CW_ hlt)
   have hrun:=runB_take V l k hlt
   obtain ⟨c,hc'⟩:∃ c,c=l[k]:=⟨_,rfl⟩
   rw[←hc'] at hcell c0 c1 hrun
   obtain ⟨X,hX⟩:∃ X,X=runB V (l.take k):=⟨_,rfl⟩
   rw[←hX] at hrun ⊢
   have HR:=Lib.hid hrun
   clear hX hrun hc' hc ha
   have e1:=xor_in X c c0 c1
   go_wp2_with fail
   go_loop [0,6] (fun r j=>∃ (m:Nat),j=.int .i64 m∧m≤8∧r=.int .u32 (uv (stn m (X ^^^ BitVec.ofInt 32 c)))) (fun _ j=>8-(intOf j).toNat)
   case atStart=>exact ⟨0,rfl,by omega,rfl⟩
   case round =>
    obtain ⟨m,rfl,hm,rfl⟩:=hrel
    by_cases hlt2:m<8
    ·go_wp2_with fail
     refine (refStep_any _ _).mono ?_
     rintro e w' ⟨rfl,rfl⟩
     go_wp2_with fail
     go_round
     case rel=>exact ⟨m+1,by go_num,by omega,by rw[stn_succ]⟩
     case measure=>simp[intOf];omega
    ·obtain rfl:m=8:=by omega
     go_wp2_with fail
     go_round
     case rel=>exact ⟨k+1,by go_num,by omega,by rw[HR.out];rfl⟩
     case measure=>simp[intOf];omega
  ·have hkk:l.take k=l:=DN_ (by omega)
   rw[hkk]
   go_wp2
   go_ret
   exact ⟨rfl,rfl⟩
def sumOf (l:List Int):BitVec 32 := ~~~ (runB (BitVec.allOnes 32) l)
theorem uv_not (v:BitVec 32):bits .xor .u32 IntKind.u32.max (uv v)=uv (~~~ v):=by
 rw[show IntKind.u32.max=uv (BitVec.allOnes 32) from rfl,uv_xor,BitVec.allOnes_xor]
theorem crcOf_any (v:Value) (l:List Int) (w:World) (hv:Rd w v (l.map (AS_ .u8))) (hl:l.length≤1099511627776) (hx:∀ x∈l,0≤x∧x≤255) :
  Calls L_ 52 #[v] w fun e w'=>e=.returned (.int .u32 (uv (sumOf l)))∧Below w.heap.size w w':=by
 have HC:=Lib.hid (crcRun_any (BitVec.allOnes 32) v l w hv hl hx)
 have hsg:IntKind.u32.signed=false:=rfl
 have hn:=uv_not (runB (BitVec.allOnes 32) l)
 obtain ⟨R,hR⟩:∃ R,R=runB (BitVec.allOnes 32) l:=⟨_,rfl⟩
 rw[←hR] at HC hn
 have e2 : ~~~ R=sumOf l:=by rw[hR];rfl
 clear hR
 go_enter Tryz.func52,Tryz.ntmps52
 go_wp2_with fail
 refine HC.out.mono ?_
 rintro e w1 ⟨rfl,hb1⟩
 go_wp2
 go_ret
 exact ⟨by rw[←e2];rfl,hb1⟩
theorem refOf_any (v:Value) (l:List Int) (w:World) (hv:Rd w v (l.map (AS_ .u8))) (hl:l.length≤1099511627776) (hx:∀ x∈l,0≤x∧x≤255) :
  Calls L_ 32 #[v] w fun e w'=>e=.returned (.int .u32 (uv (sumOf l)))∧w=w':=by
 have HC:=Lib.hid (refRun_any (BitVec.allOnes 32) v l w hv hl hx)
 have hsg:IntKind.u32.signed=false:=rfl
 have hn:=uv_not (runB (BitVec.allOnes 32) l)
 obtain ⟨R,hR⟩:∃ R,R=runB (BitVec.allOnes 32) l:=⟨_,rfl⟩
 rw[←hR] at HC hn
 have e2 : ~~~ R=sumOf l:=by rw[hR];rfl
 clear hR
 go_enter Tryz.func32,Tryz.ntmps32
 go_wp2_with fail
 refine HC.out.mono ?_
 rintro e w1 ⟨rfl,rfl⟩
 go_wp2
 go_ret
 exact ⟨by rw[←e2];rfl,rfl⟩
def crcL (l:List Int):Int:=uv (sumOf l)
theorem crcL_bd (l:List Int):0≤crcL l∧crcL l≤4294967295:=uv_bd _
theorem crc_v (l:List Int) (hx:∀ x∈l,0≤x∧x≤255) (hl:l.length≤20000000):VC L_ 52 [ints .u8 l] (u32 (crcL l)):=by
 intro S w xs hS hn hxs
 obtain ⟨v,rfl,hv⟩:=one_arg hn hxs
 exact (crcOf_any v l w (sl_rd hv) (by omega) hx).mono fun e w' ⟨he,hb⟩=>⟨_,he,.pure (.lit _),hb⟩
theorem rcrc_v (l:List Int) (hx:∀ x∈l,0≤x∧x≤255) (hl:l.length≤20000000):VC L_ 32 [ints .u8 l] (u32 (crcL l)):=by
 intro S w xs hS hn hxs
 obtain ⟨v,rfl,hv⟩:=one_arg hn hxs
 exact (refOf_any v l w (sl_rd hv) (by omega) hx).mono fun e w' ⟨he,hb⟩=>⟨_,he,.pure (.lit _),hb▸Below.refl _ _⟩
def P4V (F:Int→List Int):Prop:=∀ n:Int,0≤n→n≤4294967295→VC L_ 51 [u32 n] (ints .u8 (F n))
def R4V (F:Int→List Int):Prop:=∀ n:Int,0≤n→n≤4294967295→VC L_ 31 [u32 n] (ints .u8 (F n))
structure P4 (F:Int→List Int):Prop where
 v:P4V F
 r:R4V F
 l:∀ n,(F n).length=4
theorem p4_v (F:Int→List Int) (h:P4 F) (n:Int) (h0:0≤n) (h1:n≤4294967295):VC L_ 51 [u32 n] (ints .u8 (F n)):=h.v n h0 h1
theorem r4_v (F:Int→List Int) (h:P4 F) (n:Int) (h0:0≤n) (h1:n≤4294967295):VC L_ 31 [u32 n] (ints .u8 (F n)):=h.r n h0 h1
theorem p4:P4 p32L:=⟨put32_v,rput32_v,fun _=>rfl⟩
theorem seal_f (F:Int→List Int) (l:List Int) (hF:P4 F) (hx:∀ x∈l,0≤x∧x≤255) (hl:l.length≤10000000):VC L_ 22 ([ints .u8 l]) (ints .u8 (l++F (crcL l))):=by
 have q:=crcL_bd l
 have q4:=hF.l (crcL l)
 have oz0:=@crc_v (l) hx (by omega)
 have oz1:=@p4_v (F) hF (crcL l) (by omega) (by omega)
 have oz2:=@joined_v (l) (F (crcL l)) (by omega)
 exact cR_ [r_,.r [] [cr oz0,cr oz1,.frz 0,cr oz2]] _ Tryz.func22 (.d3 oz0 oz1 oz2)
theorem rseal_f (F:Int→List Int) (l:List Int) (hF:P4 F) (hx:∀ x∈l,0≤x∧x≤255) (hl:l.length≤10000000):VC L_ 12 ([ints .u8 l]) (ints .u8 (l++F (crcL l))):=by
 have q:=crcL_bd l
 have q4:=hF.l (crcL l)
 have oz2:=@rcrc_v (l) hx (by omega)
 have oz3:=@r4_v (F) hF (crcL l) (by omega) (by omega)
 exact (cR_ [r_,r_,.r [] [cr oz2,cr oz3]] (AV.sl 1 ([]++K_ (row1 .u8) l++K_ (row1 .u8) (F (crcL l)))) Tryz.func12 (.d6 (show (0+(K_ (row1 .u8) l).length)*1≤140737488355328 by (simp;omega)) (show 0+(K_ (row1 .u8) l).length≤9223372036854775807 by (simp;omega)) oz2 oz3 (show (([]++K_ (row1 .u8) l).length+(K_ (row1 .u8) (F (crcL l))).length)*1≤140737488355328 by (simp;omega)) (show ([]++K_ (row1 .u8) l).length+(K_ (row1 .u8) (F (crcL l))).length≤9223372036854775807 by (simp;omega)))).weak (AM_ _) (BQ_ (rows_to (row1 .u8) (r:=[]++K_ (row1 .u8) l++K_ (row1 .u8) (F (crcL l))) (l:=[]++l++F (crcL l)) (m:=l++F (crcL l)) (by first|(simp only[B_,C_,AO_,AP_,W_,AK_,AL_];done)|rfl|(simp only[B_,C_,AO_,AP_,W_,AK_,AL_];rfl)) (show ([]++l++F (crcL l))=(l++F (crcL l)) from (by (simp;done)))))
def sealL (l:List Int):List Int:=l++p32L (crcL l)
theorem sealL_len (l:List Int):(sealL l).length=l.length+4:=by rw[sealL,P_];rfl
def SealV (G:List Int→List Int):Prop:=∀ l:List Int,(∀ x∈l,0≤x∧x≤255)→l.length≤10000000→VC L_ 22 [ints .u8 l] (ints .u8 (G l))
def RSealV (G:List Int→List Int):Prop:=∀ l:List Int,(∀ x∈l,0≤x∧x≤255)→l.length≤10000000→VC L_ 12 [ints .u8 l] (ints .u8 (G l))
structure Seals (G:List Int→List Int):Prop where
 v:SealV G
 r:RSealV G
 l:∀ l,(G l).length=l.length+4
theorem seal_v (G:List Int→List Int) (h:Seals G) (l:List Int) (hx:∀ x∈l,0≤x∧x≤255) (hl:l.length≤10000000):VC L_ 22 [ints .u8 l] (ints .u8 (G l)):=h.v l hx hl
theorem seals:Seals sealL:=⟨fun l hx hl=>seal_f p32L l p4 hx hl,fun l hx hl=>rseal_f p32L l p4 hx hl,sealL_len⟩
theorem sumsK_v (k:Int)  : VC L_ 194 ([i64 k]) (bv ((k==1 || k==2) || k==3)):=by
 exact cR_ [r_,.r [] [o_,o_,.sel 1,o_,o_,.sel 1]] _ Tryz.func194 (.n)
theorem scaledK_v (k:Int)  : VC L_ 163 ([i64 k]) (bv (((k==1 || k==2) || k==3) || k==6 || k==7)):=by
 have oz0:=@sumsK_v (k)
 exact cR_ [r_,.r [] [cr oz0,o_,o_,.sel 1,o_,o_,.sel 1]] _ Tryz.func163 (.d oz0)
def plainN (n:Nod):Nod:=if n.kd=1 then ⟨n.kd,n.na,0,n.nk,n.ns,n.np,n.no,n.za,0,n.w,n.b,n.qm,n.qs,n.qz,0,0,0,n.lo,n.hi⟩ else if n.kd=2 then ⟨n.kd,n.na,0,n.nk,n.ns,n.np,0,n.za,0,n.w,n.b,n.qm,n.qs,n.qz,0,0,0,n.lo,n.hi⟩ else if n.kd=3 then ⟨n.kd,n.na,0,0,0,0,n.no,n.za,0,n.w,n.b,n.qm,n.qs,n.qz,0,0,0,n.lo,n.hi⟩ else if n.kd=4 then ⟨n.kd,n.na,0,n.nk,n.ns,n.np,0,0,0,[],[],0,0,0,0,0,0,0,0⟩ else if n.kd=5 then ⟨n.kd,n.na,0,n.nk,n.ns,n.np,0,0,0,[],[],0,0,0,0,0,0,0,0⟩ else if n.kd=6 then ⟨n.kd,n.na,n.nb,0,0,0,0,n.za,n.zb,[],[],n.qm,n.qs,n.qz,n.rm,n.rs,0,n.lo,n.hi⟩ else if n.kd=7 then ⟨n.kd,n.na,0,0,0,0,0,n.za,0,[],[],n.qm,n.qs,n.qz,0,0,0,n.lo,n.hi⟩ else if n.kd=8 then ⟨n.kd,n.na,0,0,0,n.np,0,n.za,0,[],[],0,0,0,0,0,0,0,0⟩ else ⟨n.kd,n.na,0,0,0,0,0,0,0,[],[],0,0,0,0,0,0,0,0⟩
theorem plain1 (n:Nod) (hk:n.kd=1) (hw:n.w.length≤100000) (hb:n.b.length≤100000):VC L_ 162 ([nod n]) (nod ⟨n.kd,n.na,0,n.nk,n.ns,n.np,n.no,n.za,0,n.w,n.b,n.qm,n.qs,n.qz,0,0,0,n.lo,n.hi⟩):=by
 have hk1:In64 n.kd:=⟨by omega,by omega⟩
 have hs:=nameEq_in (k:=n.kd) (by omega) (by omega)
 have oz0:=@name_v (n.kd) hk1
 have oz3:=@clone8_v (n.w) (by omega)
 have oz4:=@clone32_v (n.b) (by omega)
 have oz5:=@scaledK_v (n.kd)
 exact cR_ [r_,.r [] [cr oz0],d_,r_,r_,r_,b_,r_,.r [] [cr oz3,cr oz4],r_,.r [] [cr oz5],b_,r_,r_] _ Tryz.func162 (.d7 oz0 hs (show (n.kd==1)=true by (refine decide_eq_true ?_;omega)) oz3 oz4 oz5 (show (n.kd==1 || n.kd==2 || n.kd==3 || n.kd==6 || n.kd==7)=true by (simp;omega)))
theorem plain2 (n:Nod) (hk:n.kd=2) (hw:n.w.length≤100000) (hb:n.b.length≤100000):VC L_ 162 ([nod n]) (nod ⟨n.kd,n.na,0,n.nk,n.ns,n.np,0,n.za,0,n.w,n.b,n.qm,n.qs,n.qz,0,0,0,n.lo,n.hi⟩):=by
 have hk1:In64 n.kd:=⟨by omega,by omega⟩
 have hs:=nameEq_in (k:=n.kd) (by omega) (by omega)
 have oz0:=@name_v (n.kd) hk1
 have oz4:=@clone8_v (n.w) (by omega)
 have oz5:=@clone32_v (n.b) (by omega)
 have oz6:=@scaledK_v (n.kd)
 exact cR_ [r_,.r [] [cr oz0],d_,r_,r_,r_,d_,r_,b_,.r [] [cr oz4,cr oz5],r_,.r [] [cr oz6],b_,r_,r_] _ Tryz.func162 (.d8 oz0 hs (show (n.kd==1)=false by (refine decide_eq_false ?_;omega)) (show (n.kd==2)=true by (refine decide_eq_true ?_;omega)) oz4 oz5 oz6 (show (n.kd==1 || n.kd==2 || n.kd==3 || n.kd==6 || n.kd==7)=true by (simp;omega)))
theorem plain3 (n:Nod) (hk:n.kd=3) (hw:n.w.length≤100000) (hb:n.b.length≤100000):VC L_ 162 ([nod n]) (nod ⟨n.kd,n.na,0,0,0,0,n.no,n.za,0,n.w,n.b,n.qm,n.qs,n.qz,0,0,0,n.lo,n.hi⟩):=by
 have hk1:In64 n.kd:=⟨by omega,by omega⟩
 have hs:=nameEq_in (k:=n.kd) (by omega) (by omega)
 have oz0:=@name_v (n.kd) hk1
 have oz7:=@clone8_v (n.w) (by omega)
 have oz8:=@clone32_v (n.b) (by omega)
 have oz9:=@scaledK_v (n.kd)
 exact cR_ [r_,.r [] [cr oz0],d_,r_,r_,r_,d_,r_,d_,r_,d_,r_,d_,r_,b_,.r [] [cr oz7,cr oz8],.r [] [cr oz9],b_,r_,r_] _ Tryz.func162 (.c8 oz0 hs (show (n.kd==1)=false by (refine decide_eq_false ?_;omega)) (show (n.kd==2)=false by (refine decide_eq_false ?_;omega)) (show (n.kd==4)=false by (refine decide_eq_false ?_;omega)) (show (n.kd==5)=false by (refine decide_eq_false ?_;omega)) (show (n.kd==3)=true by (refine decide_eq_true ?_;omega)) oz7<|.d3 oz8 oz9 (show (n.kd==1 || n.kd==2 || n.kd==3 || n.kd==6 || n.kd==7)=true by (simp;omega)))
theorem plain4 (n:Nod) (hk:n.kd=4) (hw:n.w.length≤100000) (hb:n.b.length≤100000):VC L_ 162 ([nod n]) (nod ⟨n.kd,n.na,0,n.nk,n.ns,n.np,0,0,0,[],[],0,0,0,0,0,0,0,0⟩):=by
 have hk1:In64 n.kd:=⟨by omega,by omega⟩
 have hs:=nameEq_in (k:=n.kd) (by omega) (by omega)
 have oz0:=@name_v (n.kd) hk1
 have oz4:=(show (n.kd==4)=true by (refine decide_eq_true ?_;omega))
 have oz6:=@scaledK_v (n.kd)
 exact (cR_ [r_,.r [] [cr oz0],d_,r_,r_,r_,d_,r_,d_,r_,b_,b_,r_,.r [] [cr oz6],d_,r_] (AV.agg [i64 n.kd,i64 n.na,i64 0,i64 n.nk,i64 n.ns,i64 n.np,i64 0,i8 0,i8 0,AV.lit (AQ_ none 0 0),AV.lit (AQ_ none 0 0),i32 0,i64 0,i8 0,i32 0,i64 0,i8 0,i8 0,i8 0]) Tryz.func162 (.d8 oz0 hs (show (n.kd==1)=false by (refine decide_eq_false ?_;omega)) (show (n.kd==2)=false by (refine decide_eq_false ?_;omega)) oz4 oz4 oz6 (show (n.kd==1 || n.kd==2 || n.kd==3 || n.kd==6 || n.kd==7)=false by (simp;omega)))).weak (AM_ _) (BL_ (.cons (.refl _) (.cons (.refl _) (.cons (.refl _) (.cons (.refl _) (.cons (.refl _) (.cons (.refl _) (.cons (.refl _) (.cons (.refl _) (.cons (.refl _) (.cons (AG_ _) (.cons (AG_ _) (.cons (.refl _) (.cons (.refl _) (.cons (.refl _) (.cons (.refl _) (.cons (.refl _) (.cons (.refl _) (.cons (.refl _) (.cons (.refl _) .nil))))))))))))))))))))
theorem plain5 (n:Nod) (hk:n.kd=5) (hw:n.w.length≤100000) (hb:n.b.length≤100000):VC L_ 162 ([nod n]) (nod ⟨n.kd,n.na,0,n.nk,n.ns,n.np,0,0,0,[],[],0,0,0,0,0,0,0,0⟩):=by
 have hk1:In64 n.kd:=⟨by omega,by omega⟩
 have hs:=nameEq_in (k:=n.kd) (by omega) (by omega)
 have oz0:=@name_v (n.kd) hk1
 have oz6:=@scaledK_v (n.kd)
 exact (cR_ [r_,.r [] [cr oz0],d_,r_,r_,r_,d_,r_,d_,r_,d_,r_,b_,r_,.r [] [cr oz6],d_,r_] (AV.agg [i64 n.kd,i64 n.na,i64 0,i64 n.nk,i64 n.ns,i64 n.np,i64 0,i8 0,i8 0,AV.lit (AQ_ none 0 0),AV.lit (AQ_ none 0 0),i32 0,i64 0,i8 0,i32 0,i64 0,i8 0,i8 0,i8 0]) Tryz.func162 (.d8 oz0 hs (show (n.kd==1)=false by (refine decide_eq_false ?_;omega)) (show (n.kd==2)=false by (refine decide_eq_false ?_;omega)) (show (n.kd==4)=false by (refine decide_eq_false ?_;omega)) (show (n.kd==5)=true by (refine decide_eq_true ?_;omega)) oz6 (show (n.kd==1 || n.kd==2 || n.kd==3 || n.kd==6 || n.kd==7)=false by (simp;omega)))).weak (AM_ _) (BL_ (.cons (.refl _) (.cons (.refl _) (.cons (.refl _) (.cons (.refl _) (.cons (.refl _) (.cons (.refl _) (.cons (.refl _) (.cons (.refl _) (.cons (.refl _) (.cons (AG_ _) (.cons (AG_ _) (.cons (.refl _) (.cons (.refl _) (.cons (.refl _) (.cons (.refl _) (.cons (.refl _) (.cons (.refl _) (.cons (.refl _) (.cons (.refl _) .nil))))))))))))))))))))
theorem plain6 (n:Nod) (hk:n.kd=6) (hw:n.w.length≤100000) (hb:n.b.length≤100000):VC L_ 162 ([nod n]) (nod ⟨n.kd,n.na,n.nb,0,0,0,0,n.za,n.zb,[],[],n.qm,n.qs,n.qz,n.rm,n.rs,0,n.lo,n.hi⟩):=by
 have hk1:In64 n.kd:=⟨by omega,by omega⟩
 have hs:=nameEq_in (k:=n.kd) (by omega) (by omega)
 have oz0:=@name_v (n.kd) hk1
 have oz8:=@scaledK_v (n.kd)
 exact (cR_ [r_,.r [] [cr oz0],d_,r_,r_,r_,d_,r_,d_,r_,d_,r_,d_,r_,d_,r_,b_,r_,.r [] [cr oz8],b_,r_,r_] (AV.agg [i64 n.kd,i64 n.na,i64 n.nb,i64 0,i64 0,i64 0,i64 0,i8 n.za,i8 n.zb,AV.lit (AQ_ none 0 0),AV.lit (AQ_ none 0 0),i32 n.qm,i64 n.qs,i8 n.qz,i32 n.rm,i64 n.rs,i8 0,i8 n.lo,i8 n.hi]) Tryz.func162 (.c8 oz0 hs (show (n.kd==1)=false by (refine decide_eq_false ?_;omega)) (show (n.kd==2)=false by (refine decide_eq_false ?_;omega)) (show (n.kd==4)=false by (refine decide_eq_false ?_;omega)) (show (n.kd==5)=false by (refine decide_eq_false ?_;omega)) (show (n.kd==3)=false by (refine decide_eq_false ?_;omega)) (show (n.kd==6)=true by (refine decide_eq_true ?_;omega))<|.d2 oz8 (show (n.kd==1 || n.kd==2 || n.kd==3 || n.kd==6 || n.kd==7)=true by (simp;omega)))).weak (AM_ _) (BL_ (.cons (.refl _) (.cons (.refl _) (.cons (.refl _) (.cons (.refl _) (.cons (.refl _) (.cons (.refl _) (.cons (.refl _) (.cons (.refl _) (.cons (.refl _) (.cons (AG_ _) (.cons (AG_ _) (.cons (.refl _) (.cons (.refl _) (.cons (.refl _) (.cons (.refl _) (.cons (.refl _) (.cons (.refl _) (.cons (.refl _) (.cons (.refl _) .nil))))))))))))))))))))
theorem plain7 (n:Nod) (hk:n.kd=7) (hw:n.w.length≤100000) (hb:n.b.length≤100000):VC L_ 162 ([nod n]) (nod ⟨n.kd,n.na,0,0,0,0,0,n.za,0,[],[],n.qm,n.qs,n.qz,0,0,0,n.lo,n.hi⟩):=by
 have hk1:In64 n.kd:=⟨by omega,by omega⟩
 have hs:=nameEq_in (k:=n.kd) (by omega) (by omega)
 have oz0:=@name_v (n.kd) hk1
 have oz9:=@scaledK_v (n.kd)
 exact (cR_ [r_,.r [] [cr oz0],d_,r_,r_,r_,d_,r_,d_,r_,d_,r_,d_,r_,d_,r_,d_,r_,d_,.r [] [cr oz9],b_,r_,r_] (AV.agg [i64 n.kd,i64 n.na,i64 0,i64 0,i64 0,i64 0,i64 0,i8 n.za,i8 0,AV.lit (AQ_ none 0 0),AV.lit (AQ_ none 0 0),i32 n.qm,i64 n.qs,i8 n.qz,i32 0,i64 0,i8 0,i8 n.lo,i8 n.hi]) Tryz.func162 (.c8 oz0 hs (show (n.kd==1)=false by (refine decide_eq_false ?_;omega)) (show (n.kd==2)=false by (refine decide_eq_false ?_;omega)) (show (n.kd==4)=false by (refine decide_eq_false ?_;omega)) (show (n.kd==5)=false by (refine decide_eq_false ?_;omega)) (show (n.kd==3)=false by (refine decide_eq_false ?_;omega)) (show (n.kd==6)=false by (refine decide_eq_false ?_;omega))<|.d3 (show (n.kd==8)=false by (refine decide_eq_false ?_;omega)) oz9 (show (n.kd==1 || n.kd==2 || n.kd==3 || n.kd==6 || n.kd==7)=true by (simp;omega)))).weak (AM_ _) (BL_ (.cons (.refl _) (.cons (.refl _) (.cons (.refl _) (.cons (.refl _) (.cons (.refl _) (.cons (.refl _) (.cons (.refl _) (.cons (.refl _) (.cons (.refl _) (.cons (AG_ _) (.cons (AG_ _) (.cons (.refl _) (.cons (.refl _) (.cons (.refl _) (.cons (.refl _) (.cons (.refl _) (.cons (.refl _) (.cons (.refl _) (.cons (.refl _) .nil))))))))))))))))))))
theorem plain8 (n:Nod) (hk:n.kd=8) (hw:n.w.length≤100000) (hb:n.b.length≤100000):VC L_ 162 ([nod n]) (nod ⟨n.kd,n.na,0,0,0,n.np,0,n.za,0,[],[],0,0,0,0,0,0,0,0⟩):=by
 have hk1:In64 n.kd:=⟨by omega,by omega⟩
 have hs:=nameEq_in (k:=n.kd) (by omega) (by omega)
 have oz0:=@name_v (n.kd) hk1
 have oz9:=@scaledK_v (n.kd)
 exact (cR_ [r_,.r [] [cr oz0],d_,r_,r_,r_,d_,r_,d_,r_,d_,r_,d_,r_,d_,r_,d_,r_,b_,r_,.r [] [cr oz9],d_,r_] (AV.agg [i64 n.kd,i64 n.na,i64 0,i64 0,i64 0,i64 n.np,i64 0,i8 n.za,i8 0,AV.lit (AQ_ none 0 0),AV.lit (AQ_ none 0 0),i32 0,i64 0,i8 0,i32 0,i64 0,i8 0,i8 0,i8 0]) Tryz.func162 (.c8 oz0 hs (show (n.kd==1)=false by (refine decide_eq_false ?_;omega)) (show (n.kd==2)=false by (refine decide_eq_false ?_;omega)) (show (n.kd==4)=false by (refine decide_eq_false ?_;omega)) (show (n.kd==5)=false by (refine decide_eq_false ?_;omega)) (show (n.kd==3)=false by (refine decide_eq_false ?_;omega)) (show (n.kd==6)=false by (refine decide_eq_false ?_;omega))<|.d3 (show (n.kd==8)=true by (refine decide_eq_true ?_;omega)) oz9 (show (n.kd==1 || n.kd==2 || n.kd==3 || n.kd==6 || n.kd==7)=false by (simp;omega)))).weak (AM_ _) (BL_ (.cons (.refl _) (.cons (.refl _) (.cons (.refl _) (.cons (.refl _) (.cons (.refl _) (.cons (.refl _) (.cons (.refl _) (.cons (.refl _) (.cons (.refl _) (.cons (AG_ _) (.cons (AG_ _) (.cons (.refl _) (.cons (.refl _) (.cons (.refl _) (.cons (.refl _) (.cons (.refl _) (.cons (.refl _) (.cons (.refl _) (.cons (.refl _) .nil))))))))))))))))))))
theorem plain9 (n:Nod) (hk:n.kd=9) (hw:n.w.length≤100000) (hb:n.b.length≤100000):VC L_ 162 ([nod n]) (nod ⟨n.kd,n.na,0,0,0,0,0,0,0,[],[],0,0,0,0,0,0,0,0⟩):=by
 have hk1:In64 n.kd:=⟨by omega,by omega⟩
 have hs:=nameEq_in (k:=n.kd) (by omega) (by omega)
 have oz0:=@name_v (n.kd) hk1
 have oz9:=@scaledK_v (n.kd)
 exact (cR_ [r_,.r [] [cr oz0],d_,r_,r_,r_,d_,r_,d_,r_,d_,r_,d_,r_,d_,r_,d_,r_,d_,.r [] [cr oz9],d_,r_] (AV.agg [i64 n.kd,i64 n.na,i64 0,i64 0,i64 0,i64 0,i64 0,i8 0,i8 0,AV.lit (AQ_ none 0 0),AV.lit (AQ_ none 0 0),i32 0,i64 0,i8 0,i32 0,i64 0,i8 0,i8 0,i8 0]) Tryz.func162 (.c8 oz0 hs (show (n.kd==1)=false by (refine decide_eq_false ?_;omega)) (show (n.kd==2)=false by (refine decide_eq_false ?_;omega)) (show (n.kd==4)=false by (refine decide_eq_false ?_;omega)) (show (n.kd==5)=false by (refine decide_eq_false ?_;omega)) (show (n.kd==3)=false by (refine decide_eq_false ?_;omega)) (show (n.kd==6)=false by (refine decide_eq_false ?_;omega))<|.d3 (show (n.kd==8)=false by (refine decide_eq_false ?_;omega)) oz9 (show (n.kd==1 || n.kd==2 || n.kd==3 || n.kd==6 || n.kd==7)=false by (simp;omega)))).weak (AM_ _) (BL_ (.cons (.refl _) (.cons (.refl _) (.cons (.refl _) (.cons (.refl _) (.cons (.refl _) (.cons (.refl _) (.cons (.refl _) (.cons (.refl _) (.cons (.refl _) (.cons (AG_ _) (.cons (AG_ _) (.cons (.refl _) (.cons (.refl _) (.cons (.refl _) (.cons (.refl _) (.cons (.refl _) (.cons (.refl _) (.cons (.refl _) (.cons (.refl _) .nil))))))))))))))))))))
def nodEq (a b:Nod):Bool:=decide (a.w=b.w)&&decide (a.b=b.b)&&eqNums [(O_,a.kd,b.kd),(O_,a.na,b.na),(O_,a.nb,b.nb),(O_,a.nk,b.nk),(O_,a.ns,b.ns),(O_,a.np,b.np),(O_,a.no,b.no),(O_,0,0)] &&
 eqNums [(S_,a.za,b.za),(S_,a.zb,b.zb),(S_,a.lo,b.lo),(S_,a.hi,b.hi)]&&eqNums [(V_,a.qm,b.qm),(O_,a.qs,b.qs),(S_,a.qz,b.qz)]&&eqNums [(V_,a.rm,b.rm),(O_,a.rs,b.rs),(S_,a.rz,b.rz)]
theorem same_v (a b:Nod) (hw:a.w.length≤100000) (hb:a.b.length≤100000):VC L_ 161 ([nod a,nod b]) (bv (nodEq a b)):=by
 have oz0:=@eq8_v (a.w) (b.w) (by omega)
 have oz1:=@eq32_v (a.b) (b.b) (by omega)
 exact (cR_ [r_,.r [] [cr oz0,o_,o_,o_,o_,o_,cr oz1,.sel 2],.r [] [.v (BD_ (eqNums [(O_,a.kd,b.kd),(O_,a.na,b.na),(O_,a.nb,b.nb),(O_,a.nk,b.nk),(O_,a.ns,b.ns),(O_,a.np,b.np),(O_,a.no,b.no),(O_,0,0)]))],.r [] [.v (BD_ (eqNums [(S_,a.za,b.za),(S_,a.zb,b.zb),(S_,a.lo,b.lo),(S_,a.hi,b.hi)]))],.r [] [o_,.sel 2,o_,.sel 2,o_,o_,o_,o_,o_,.v (BD_ (eqNums [(V_,a.qm,b.qm),(O_,a.qs,b.qs),(S_,a.qz,b.qz)])),.sel 2,o_,o_,o_,o_,o_,.v (BD_ (eqNums [(V_,a.rm,b.rm),(O_,a.rs,b.rs),(S_,a.rz,b.rz)])),.sel 2]] (bv (decide (a.w=b.w)&&decide (a.b=b.b)&&eqNums [(O_,a.kd,b.kd),(O_,a.na,b.na),(O_,a.nb,b.nb),(O_,a.nk,b.nk),(O_,a.ns,b.ns),(O_,a.np,b.np),(O_,a.no,b.no),(O_,0,0)]&&eqNums [(S_,a.za,b.za),(S_,a.zb,b.zb),(S_,a.lo,b.lo),(S_,a.hi,b.hi)]&&eqNums [(V_,a.qm,b.qm),(O_,a.qs,b.qs),(S_,a.qz,b.qz)]&&eqNums [(V_,a.rm,b.rm),(O_,a.rs,b.rs),(S_,a.rz,b.rz)])) Tryz.func161 (.d6 oz0 oz1 (show BinTo L_ BinOp.eql 292 (Operand.tmp 34) (Operand.tmp 49) (CT_ #[AS_ O_ a.kd,AS_ O_ a.na,AS_ O_ a.nb,AS_ O_ a.nk,AS_ O_ a.ns,AS_ O_ a.np,AS_ O_ a.no,AS_ O_ 0]) (CT_ #[AS_ O_ b.kd,AS_ O_ b.na,AS_ O_ b.nb,AS_ O_ b.nk,AS_ O_ b.ns,AS_ O_ b.np,AS_ O_ b.no,AS_ O_ 0]) (BD_ (eqNums [(O_,a.kd,b.kd),(O_,a.na,b.na),(O_,a.nb,b.nb),(O_,a.nk,b.nk),(O_,a.ns,b.ns),(O_,a.np,b.np),(O_,a.no,b.no),(O_,0,0)])) from ((bin_arr (l:=[(O_,a.kd,b.kd),(O_,a.na,b.na),(O_,a.nb,b.nb),(O_,a.nk,b.nk),(O_,a.ns,b.ns),(O_,a.np,b.np),(O_,a.no,b.no),(O_,0,0)]) (by kernel_rfl) (by kernel_rfl) _ _).1)) (show BinTo L_ BinOp.eql 293 (Operand.tmp 59) (Operand.tmp 68) (CT_ #[AS_ S_ a.za,AS_ S_ a.zb,AS_ S_ a.lo,AS_ S_ a.hi]) (CT_ #[AS_ S_ b.za,AS_ S_ b.zb,AS_ S_ b.lo,AS_ S_ b.hi]) (BD_ (eqNums [(S_,a.za,b.za),(S_,a.zb,b.zb),(S_,a.lo,b.lo),(S_,a.hi,b.hi)])) from ((bin_arr (l:=[(S_,a.za,b.za),(S_,a.zb,b.zb),(S_,a.lo,b.lo),(S_,a.hi,b.hi)]) (by kernel_rfl) (by kernel_rfl) _ _).1)) (show BinTo L_ BinOp.eql 54 (Operand.tmp 79) (Operand.tmp 81) (CT_ #[AS_ V_ a.qm,AS_ O_ a.qs,AS_ S_ a.qz]) (CT_ #[AS_ V_ b.qm,AS_ O_ b.qs,AS_ S_ b.qz]) (BD_ (eqNums [(V_,a.qm,b.qm),(O_,a.qs,b.qs),(S_,a.qz,b.qz)])) from ((bin_nums (l:=[(V_,a.qm,b.qm),(O_,a.qs,b.qs),(S_,a.qz,b.qz)]) (by kernel_rfl) (by kernel_rfl) (by kernel_rfl) (by kernel_rfl) _ _).1)) (show BinTo L_ BinOp.eql 54 (Operand.tmp 86) (Operand.tmp 88) (CT_ #[AS_ V_ a.rm,AS_ O_ a.rs,AS_ S_ a.rz]) (CT_ #[AS_ V_ b.rm,AS_ O_ b.rs,AS_ S_ b.rz]) (BD_ (eqNums [(V_,a.rm,b.rm),(O_,a.rs,b.rs),(S_,a.rz,b.rz)])) from ((bin_nums (l:=[(V_,a.rm,b.rm),(O_,a.rs,b.rs),(S_,a.rz,b.rz)]) (by kernel_rfl) (by kernel_rfl) (by kernel_rfl) (by kernel_rfl) _ _).1)))).weak (AM_ _) (AF_ (by rfl))
theorem nodEq_iff (a b:Nod):nodEq a b=true↔a=b:=by
 obtain ⟨a1,a2,a3,a4,a5,a6,a7,a8,a9,a10,a11,a12,a13,a14,a15,a16,a17,a18,a19⟩:=a
 obtain ⟨b1,b2,b3,b4,b5,b6,b7,b8,b9,b10,b11,b12,b13,b14,b15,b16,b17,b18,b19⟩:=b
 simp only[nodEq,eqNums,N_,E_,I_,Nod.mk.injEq]
 constructor
 ·rintro ⟨⟨⟨⟨⟨h1,h2⟩,h3⟩,h4⟩,h5⟩,h6⟩
  exact ⟨h3.1,h3.2.1,h3.2.2.1,h3.2.2.2.1,h3.2.2.2.2.1,h3.2.2.2.2.2.1,h3.2.2.2.2.2.2.1,h4.1,h4.2.1,h1,h2,h5.1,h5.2.1,h5.2.2.1,h6.1,h6.2.1,h6.2.2.1,h4.2.2.1,h4.2.2.2.1⟩
 ·rintro ⟨h1,h2,h3,h4,h5,h6,h7,h8,h9,h10,h11,h12,h13,h14,h15,h16,h17,h18,h19⟩
  exact ⟨⟨⟨⟨⟨h10,h11⟩,h1,h2,h3,h4,h5,h6,h7,trivial,trivial⟩,h8,h9,h18,h19,trivial⟩,h12,h13,h14,trivial⟩,h15,h16,h17,trivial⟩
theorem refScaled_v (k:Int)  : VC L_ 112 ([i64 k]) (bv (((k==1 || k==2) || k==3) || k==6 || k==7)):=by
 exact cR_ [r_,.r [] [o_,o_,.sel 1,o_,o_,.sel 1,o_,o_,.sel 1,o_,o_,.sel 1]] _ Tryz.func112 (.n)
def scaledB (k:Int):Bool:=((k==1 || k==2) || k==3) || k==6 || k==7
def moreE (n:Nod):Bool :=
 (!(n.kd==1 || n.kd==2 || n.kd==3)&&(decide ((n.w.length:Int)>0) || decide ((n.b.length:Int)>0)) || n.kd != 1&&n.kd != 3&&n.no != 0) ||
 (!(n.kd==1 || n.kd==2 || n.kd==4 || n.kd==5)&&(n.nk != 0 || n.ns != 0) || !(n.kd==1 || n.kd==2 || n.kd==4 || n.kd==5)&&n.kd != 8&&n.np != 0) ||
 (n.kd != 6&&(n.nb != 0 || n.zb != 0 || n.rm != 0 || n.rs != 0) || n.rz != 0) ||
 (!scaledB n.kd&&(n.qm != 0 || n.qs != 0 || n.qz != 0 || n.lo != 0 || n.hi != 0)) || (!scaledB n.kd&&n.kd != 8&&n.za != 0)
theorem moreE_last {n:Nod} (h0:(!(n.kd==1 || n.kd==2 || n.kd==3)&&(decide (((K_ (row1 .i8) n.w).length:Int)>0) || decide (((K_ (row1 .i32) n.b).length:Int)>0)) || n.kd != 1&&n.kd != 3&&n.no != 0)=false) (h1:(!(n.kd==1 || n.kd==2 || n.kd==4 || n.kd==5)&&(n.nk != 0 || n.ns != 0) || !(n.kd==1 || n.kd==2 || n.kd==4 || n.kd==5)&&n.kd != 8&&n.np != 0)=false) (h2:(n.kd != 6&&(n.nb != 0 || n.zb != 0 || n.rm != 0 || n.rs != 0) || n.rz != 0)=false) (h3:(!(n.kd==1 || n.kd==2 || n.kd==3 || n.kd==6 || n.kd==7)&&(n.qm != 0 || n.qs != 0 || n.qz != 0 || n.lo != 0 || n.hi != 0))=false):(!(n.kd==1 || n.kd==2 || n.kd==3 || n.kd==6 || n.kd==7)&&n.kd != 8&&n.za != 0)=moreE n:=by
 rw[R_,R_] at h0
 unfold moreE scaledB
 rw[h0,h1,h2,h3];rfl
theorem moreE_0 {n:Nod} (h0:(!(n.kd==1 || n.kd==2 || n.kd==3)&&(decide (((K_ (row1 .i8) n.w).length:Int)>0) || decide (((K_ (row1 .i32) n.b).length:Int)>0)) || n.kd != 1&&n.kd != 3&&n.no != 0)=true):true=moreE n:=by
 rw[R_,R_] at h0
 unfold moreE
 rw[h0];rfl
theorem moreE_1 {n:Nod} (h1:(!(n.kd==1 || n.kd==2 || n.kd==4 || n.kd==5)&&(n.nk != 0 || n.ns != 0) || !(n.kd==1 || n.kd==2 || n.kd==4 || n.kd==5)&&n.kd != 8&&n.np != 0)=true):true=moreE n:=by
 unfold moreE
 rw[h1,DM_];rfl
theorem moreE_2 {n:Nod} (h1:(n.kd != 6&&(n.nb != 0 || n.zb != 0 || n.rm != 0 || n.rs != 0) || n.rz != 0)=true):true=moreE n:=by
 unfold moreE
 rw[h1,DM_];rfl
theorem moreE_3 {n:Nod} (h1:(!(n.kd==1 || n.kd==2 || n.kd==3 || n.kd==6 || n.kd==7)&&(n.qm != 0 || n.qs != 0 || n.qz != 0 || n.lo != 0 || n.hi != 0))=true):true=moreE n:=by
 unfold moreE scaledB
 rw[h1,DM_];rfl
theorem refMore_v (n:Nod) (hw:n.w.length≤100000) (hb:n.b.length≤100000):VC L_ 111 ([nod n]) (bv (moreE n)):=by
 rcases bft (!(n.kd==1 || n.kd==2 || n.kd==3)&&(decide (((K_ (row1 .i8) n.w).length:Int)>0) || decide (((K_ (row1 .i32) n.b).length:Int)>0)) || n.kd != 1&&n.kd != 3&&n.no != 0) with hc0|hc0
 ·have gc0:((¬n.kd=1∧¬n.kd=2)∧¬n.kd=3)∧(((K_ (row1 .i8) n.w).length:Int)>0∨((K_ (row1 .i32) n.b).length:Int)>0)∨(¬n.kd=1∧¬n.kd=3)∧¬n.no=0:=gc0_ hc0
  exact (cR_ [r_,r_,.r [] [o_,o_,.sel 1,o_,o_,.sel 1,o_,o_,.sel 1],.r [] [o_,o_,.sel 1,o_,o_,.sel 1],.r [] [o_,o_,o_,o_,o_,o_,o_,o_,o_,o_,.sel 1,.sel 2,o_,o_,o_,o_,o_,o_,.sel 2,o_,o_,o_,o_,o_,.sel 2,.sel 1],b_,r_] (bv true) Tryz.func111 (.d hc0)).weak (AM_ _) (AF_ (by (exact moreE_0 (by assumption))))
 ·have gc0:(((n.kd=1∨n.kd=2)∨n.kd=3)∨¬((K_ (row1 .i8) n.w).length:Int)>0∧¬((K_ (row1 .i32) n.b).length:Int)>0)∧((n.kd=1∨n.kd=3)∨n.no=0):=gc0_ hc0
  rcases bft (!(n.kd==1 || n.kd==2 || n.kd==4 || n.kd==5)&&(n.nk != 0 || n.ns != 0) || !(n.kd==1 || n.kd==2 || n.kd==4 || n.kd==5)&&n.kd != 8&&n.np != 0) with hc1|hc1
  ·have gc1:(((¬n.kd=1∧¬n.kd=2)∧¬n.kd=4)∧¬n.kd=5)∧(¬n.nk=0∨¬n.ns=0)∨((((¬n.kd=1∧¬n.kd=2)∧¬n.kd=4)∧¬n.kd=5)∧¬n.kd=8)∧¬n.np=0:=gc0_ hc1
   exact (cR_ [r_,r_,.r [] [o_,o_,.sel 1,o_,o_,.sel 1,o_,o_,.sel 1],.r [] [o_,o_,.sel 1,o_,o_,.sel 1],.r [] [o_,o_,o_,o_,o_,o_,o_,o_,o_,o_,.sel 1,.sel 2,o_,o_,o_,o_,o_,o_,.sel 2,o_,o_,o_,o_,o_,.sel 2,.sel 1],d_,.r [] [o_,o_,o_,o_,o_,o_,o_,o_,.sel 1,.sel 2,o_,o_,o_,o_,o_,o_,.sel 2,o_,o_,o_,o_,o_,.sel 2,.sel 1],b_,r_] (bv true) Tryz.func111 (.d2 hc0 hc1)).weak (AM_ _) (AF_ (by (exact moreE_1 (by assumption))))
  ·have gc1:((((n.kd=1∨n.kd=2)∨n.kd=4)∨n.kd=5)∨n.nk=0∧n.ns=0)∧(((((n.kd=1∨n.kd=2)∨n.kd=4)∨n.kd=5)∨n.kd=8)∨n.np=0):=gc0_ hc1
   rcases bft (n.kd != 6&&(n.nb != 0 || n.zb != 0 || n.rm != 0 || n.rs != 0) || n.rz != 0) with hc2|hc2
   ·have gc2:¬n.kd=6∧(((¬n.nb=0∨¬n.zb=0)∨¬n.rm=0)∨¬n.rs=0)∨¬n.rz=0:=gc0_ hc2
    exact (cR_ [r_,r_,.r [] [o_,o_,.sel 1,o_,o_,.sel 1,o_,o_,.sel 1],.r [] [o_,o_,.sel 1,o_,o_,.sel 1],.r [] [o_,o_,o_,o_,o_,o_,o_,o_,o_,o_,.sel 1,.sel 2,o_,o_,o_,o_,o_,o_,.sel 2,o_,o_,o_,o_,o_,.sel 2,.sel 1],d_,.r [] [o_,o_,o_,o_,o_,o_,o_,o_,.sel 1,.sel 2,o_,o_,o_,o_,o_,o_,.sel 2,o_,o_,o_,o_,o_,.sel 2,.sel 1],d_,.r [] [o_,o_,o_,o_,o_,o_,o_,o_,.sel 1,o_,o_,o_,o_,o_,o_,.sel 1,o_,o_,o_,o_,o_,o_,.sel 1,.sel 2,o_,o_,o_,o_,.sel 1],b_,r_] (bv true) Tryz.func111 (.d3 hc0 hc1 hc2)).weak (AM_ _) (AF_ (by (exact moreE_2 (by assumption))))
   ·have gc2:(n.kd=6∨((n.nb=0∧n.zb=0)∧n.rm=0)∧n.rs=0)∧n.rz=0:=gc0_ hc2
    have oz3:=@refScaled_v (n.kd)
    rcases bft (!(n.kd==1 || n.kd==2 || n.kd==3 || n.kd==6 || n.kd==7)&&(n.qm != 0 || n.qs != 0 || n.qz != 0 || n.lo != 0 || n.hi != 0)) with hc3|hc3
    ·have gc3:((((¬n.kd=1∧¬n.kd=2)∧¬n.kd=3)∧¬n.kd=6)∧¬n.kd=7)∧((((¬n.qm=0∨¬n.qs=0)∨¬n.qz=0)∨¬n.lo=0)∨¬n.hi=0):=gc0_ hc3
     exact (cR_ [r_,r_,.r [] [o_,o_,.sel 1,o_,o_,.sel 1,o_,o_,.sel 1],.r [] [o_,o_,.sel 1,o_,o_,.sel 1],.r [] [o_,o_,o_,o_,o_,o_,o_,o_,o_,o_,.sel 1,.sel 2,o_,o_,o_,o_,o_,o_,.sel 2,o_,o_,o_,o_,o_,.sel 2,.sel 1],d_,.r [] [o_,o_,o_,o_,o_,o_,o_,o_,.sel 1,.sel 2,o_,o_,o_,o_,o_,o_,.sel 2,o_,o_,o_,o_,o_,.sel 2,.sel 1],d_,.r [] [o_,o_,o_,o_,o_,o_,o_,o_,.sel 1,o_,o_,o_,o_,o_,o_,.sel 1,o_,o_,o_,o_,o_,o_,.sel 1,.sel 2,o_,o_,o_,o_,.sel 1],d_,.r [] [cr oz3,o_,o_,o_,o_,o_,o_,o_,o_,o_,o_,.sel 1,o_,o_,o_,o_,o_,o_,.sel 1,o_,o_,o_,o_,o_,.sel 1,o_,o_,o_,o_,o_,.sel 1,.sel 2],b_,r_] (bv true) Tryz.func111 (.d5 hc0 hc1 hc2 oz3 hc3)).weak (AM_ _) (AF_ (by (exact moreE_3 (by assumption))))
    ·have gc3:((((n.kd=1∨n.kd=2)∨n.kd=3)∨n.kd=6)∨n.kd=7)∨(((n.qm=0∧n.qs=0)∧n.qz=0)∧n.lo=0)∧n.hi=0:=gc0_ hc3
     exact (cR_ [r_,r_,.r [] [o_,o_,.sel 1,o_,o_,.sel 1,o_,o_,.sel 1],.r [] [o_,o_,.sel 1,o_,o_,.sel 1],.r [] [o_,o_,o_,o_,o_,o_,o_,o_,o_,o_,.sel 1,.sel 2,o_,o_,o_,o_,o_,o_,.sel 2,o_,o_,o_,o_,o_,.sel 2,.sel 1],d_,.r [] [o_,o_,o_,o_,o_,o_,o_,o_,.sel 1,.sel 2,o_,o_,o_,o_,o_,o_,.sel 2,o_,o_,o_,o_,o_,.sel 2,.sel 1],d_,.r [] [o_,o_,o_,o_,o_,o_,o_,o_,.sel 1,o_,o_,o_,o_,o_,o_,.sel 1,o_,o_,o_,o_,o_,o_,.sel 1,.sel 2,o_,o_,o_,o_,.sel 1],d_,.r [] [cr oz3,o_,o_,o_,o_,o_,o_,o_,o_,o_,o_,.sel 1,o_,o_,o_,o_,o_,o_,.sel 1,o_,o_,o_,o_,o_,.sel 1,o_,o_,o_,o_,o_,.sel 1,.sel 2],d_,.r [] [cr oz3,o_,o_,.sel 2,o_,o_,o_,.sel 2]] (bv (!(n.kd==1 || n.kd==2 || n.kd==3 || n.kd==6 || n.kd==7)&&n.kd != 8&&n.za != 0)) Tryz.func111 (.d6 hc0 hc1 hc2 oz3 hc3 oz3)).weak (AM_ _) (AF_ (by (exact moreE_last (by assumption) (by assumption) (by assumption) (by assumption))))
def checkE (n:Nod):Int:=if n.kd<1∨9<n.kd then 6 else if moreE n=true then 2 else if (scaledB n.kd && !rightQ n.qm n.qs || n.kd==6 && !rightQ n.rm n.rs)=true then 7 else if (scaledB n.kd&&decide (n.lo>n.hi))=true then 2 else 0
theorem more1 (n:Nod) (h:n.kd=1):n=(⟨n.kd,n.na,0,n.nk,n.ns,n.np,n.no,n.za,0,n.w,n.b,n.qm,n.qs,n.qz,0,0,0,n.lo,n.hi⟩:Nod)↔moreE n=false:=by
 unfold moreE scaledB
 cases n
 simp only at h
 subst h
 simp only[Nod.mk.injEq,true_and,and_true,U_,T_,G_,beq_self_eq_true,Bool.true_or,DM_,BZ_,BP_,CM_,BC_,true_or,or_true,and_self,Bool.or_self,BA_,X_,F_,Int.reduceBEq,Int.reduceBNe,BV_,BB_,BY_,AN_,false_or,or_false,DR_,gt_iff_lt,BN_,CZ_,CN_,CK_]
 first|done|(constructor<;>intro h<;>simp_all)|omega
theorem more2 (n:Nod) (h:n.kd=2):n=(⟨n.kd,n.na,0,n.nk,n.ns,n.np,0,n.za,0,n.w,n.b,n.qm,n.qs,n.qz,0,0,0,n.lo,n.hi⟩:Nod)↔moreE n=false:=by
 unfold moreE scaledB
 cases n
 simp only at h
 subst h
 simp only[Nod.mk.injEq,true_and,and_true,U_,T_,G_,beq_self_eq_true,Bool.true_or,DM_,BZ_,BP_,CM_,BC_,true_or,or_true,and_self,Bool.or_self,BA_,X_,F_,Int.reduceBEq,Int.reduceBNe,BV_,BB_,BY_,AN_,false_or,or_false,DR_,gt_iff_lt,BN_,CZ_,CN_,CK_]
 first|done|(constructor<;>intro h<;>simp_all)|omega
theorem more3 (n:Nod) (h:n.kd=3):n=(⟨n.kd,n.na,0,0,0,0,n.no,n.za,0,n.w,n.b,n.qm,n.qs,n.qz,0,0,0,n.lo,n.hi⟩:Nod)↔moreE n=false:=by
 unfold moreE scaledB
 cases n
 simp only at h
 subst h
 simp only[Nod.mk.injEq,true_and,and_true,U_,T_,G_,beq_self_eq_true,Bool.true_or,DM_,BZ_,BP_,CM_,BC_,true_or,or_true,and_self,Bool.or_self,BA_,X_,F_,Int.reduceBEq,Int.reduceBNe,BV_,BB_,BY_,AN_,false_or,or_false,DR_,gt_iff_lt,BN_,CZ_,CN_,CK_]
 first|done|(constructor<;>intro h<;>simp_all)|omega
theorem more4 (n:Nod) (h:n.kd=4):n=(⟨n.kd,n.na,0,n.nk,n.ns,n.np,0,0,0,[],[],0,0,0,0,0,0,0,0⟩:Nod)↔moreE n=false:=by
 unfold moreE scaledB
 cases n
 simp only at h
 subst h
 simp only[Nod.mk.injEq,true_and,and_true,U_,T_,G_,beq_self_eq_true,Bool.true_or,DM_,BZ_,BP_,CM_,BC_,true_or,or_true,and_self,Bool.or_self,BA_,X_,F_,Int.reduceBEq,Int.reduceBNe,BV_,BB_,BY_,AN_,false_or,or_false,DR_,gt_iff_lt,BN_,CZ_,CN_,CK_]
 first|done|(constructor<;>intro h<;>simp_all)|omega
theorem more5 (n:Nod) (h:n.kd=5):n=(⟨n.kd,n.na,0,n.nk,n.ns,n.np,0,0,0,[],[],0,0,0,0,0,0,0,0⟩:Nod)↔moreE n=false:=by
 unfold moreE scaledB
 cases n
 simp only at h
 subst h
 simp only[Nod.mk.injEq,true_and,and_true,U_,T_,G_,beq_self_eq_true,Bool.true_or,DM_,BZ_,BP_,CM_,BC_,true_or,or_true,and_self,Bool.or_self,BA_,X_,F_,Int.reduceBEq,Int.reduceBNe,BV_,BB_,BY_,AN_,false_or,or_false,DR_,gt_iff_lt,BN_,CZ_,CN_,CK_]
 first|done|(constructor<;>intro h<;>simp_all)|omega
theorem more6 (n:Nod) (h:n.kd=6):n=(⟨n.kd,n.na,n.nb,0,0,0,0,n.za,n.zb,[],[],n.qm,n.qs,n.qz,n.rm,n.rs,0,n.lo,n.hi⟩:Nod)↔moreE n=false:=by
 unfold moreE scaledB
 cases n
 simp only at h
 subst h
 simp only[Nod.mk.injEq,true_and,and_true,U_,T_,G_,beq_self_eq_true,Bool.true_or,DM_,BZ_,BP_,CM_,BC_,true_or,or_true,and_self,Bool.or_self,BA_,X_,F_,Int.reduceBEq,Int.reduceBNe,BV_,BB_,BY_,AN_,false_or,or_false,DR_,gt_iff_lt,BN_,CZ_,CN_,CK_]
 first|done|(constructor<;>intro h<;>simp_all)|omega
theorem more7 (n:Nod) (h:n.kd=7):n=(⟨n.kd,n.na,0,0,0,0,0,n.za,0,[],[],n.qm,n.qs,n.qz,0,0,0,n.lo,n.hi⟩:Nod)↔moreE n=false:=by
 unfold moreE scaledB
 cases n
 simp only at h
 subst h
 simp only[Nod.mk.injEq,true_and,and_true,U_,T_,G_,beq_self_eq_true,Bool.true_or,DM_,BZ_,BP_,CM_,BC_,true_or,or_true,and_self,Bool.or_self,BA_,X_,F_,Int.reduceBEq,Int.reduceBNe,BV_,BB_,BY_,AN_,false_or,or_false,DR_,gt_iff_lt,BN_,CZ_,CN_,CK_]
 first|done|(constructor<;>intro h<;>simp_all)|omega
theorem more8 (n:Nod) (h:n.kd=8):n=(⟨n.kd,n.na,0,0,0,n.np,0,n.za,0,[],[],0,0,0,0,0,0,0,0⟩:Nod)↔moreE n=false:=by
 unfold moreE scaledB
 cases n
 simp only at h
 subst h
 simp only[Nod.mk.injEq,true_and,and_true,U_,T_,G_,beq_self_eq_true,Bool.true_or,DM_,BZ_,BP_,CM_,BC_,true_or,or_true,and_self,Bool.or_self,BA_,X_,F_,Int.reduceBEq,Int.reduceBNe,BV_,BB_,BY_,AN_,false_or,or_false,DR_,gt_iff_lt,BN_,CZ_,CN_,CK_]
 first|done|(constructor<;>intro h<;>simp_all)|omega
theorem more9 (n:Nod) (h:n.kd=9):n=(⟨n.kd,n.na,0,0,0,0,0,0,0,[],[],0,0,0,0,0,0,0,0⟩:Nod)↔moreE n=false:=by
 unfold moreE scaledB
 cases n
 simp only at h
 subst h
 simp only[Nod.mk.injEq,true_and,and_true,U_,T_,G_,beq_self_eq_true,Bool.true_or,DM_,BZ_,BP_,CM_,BC_,true_or,or_true,and_self,Bool.or_self,BA_,X_,F_,Int.reduceBEq,Int.reduceBNe,BV_,BB_,BY_,AN_,false_or,or_false,DR_,gt_iff_lt,BN_,CZ_,CN_,CK_]
 first|done|(constructor<;>intro h<;>simp_all)|omega
theorem more_iff (n:Nod) (h0:1≤n.kd) (h9:n.kd≤9):nodEq n (plainN n) = !moreE n:=by
 have:n.kd=1∨n.kd=2∨n.kd=3∨n.kd=4∨n.kd=5∨n.kd=6∨n.kd=7∨n.kd=8∨n.kd=9:=by omega
 have key:n=plainN n↔moreE n=false:=by
  unfold plainN
  rcases this with h|h|h|h|h|h|h|h|h
  ·have e:=more1 n h;simp only[h,BV_,if_true,if_false] at e ⊢;exact e
  ·have e:=more2 n h;simp only[h,BV_,if_true,if_false] at e ⊢;exact e
  ·have e:=more3 n h;simp only[h,BV_,if_true,if_false] at e ⊢;exact e
  ·have e:=more4 n h;simp only[h,BV_,if_true,if_false] at e ⊢;exact e
  ·have e:=more5 n h;simp only[h,BV_,if_true,if_false] at e ⊢;exact e
  ·have e:=more6 n h;simp only[h,BV_,if_true,if_false] at e ⊢;exact e
  ·have e:=more7 n h;simp only[h,BV_,if_true,if_false] at e ⊢;exact e
  ·have e:=more8 n h;simp only[h,BV_,if_true,if_false] at e ⊢;exact e
  ·have e:=more9 n h;simp only[h,BV_,if_true,if_false] at e ⊢;exact e
 rw[Bool.eq_iff_iff,nodEq_iff,key,A_]
theorem ck_eq {n:Nod} (h0:1≤n.kd) (h9:n.kd≤9):checkE n=if moreE n=true then 2 else if (((n.kd==1 || n.kd==2 || n.kd==3 || n.kd==6 || n.kd==7) && !rightQ n.qm n.qs) || (n.kd==6 && !rightQ n.rm n.rs))=true then 7 else if ((n.kd==1 || n.kd==2 || n.kd==3 || n.kd==6 || n.kd==7)&&decide (n.lo>n.hi))=true then 2 else 0:=by
 unfold checkE;rw[j_ (by omega)];rfl
theorem ck2 {n:Nod} (h0:1≤n.kd) (h9:n.kd≤9) (h:moreE n=true):2=checkE n:=by rw[ck_eq h0 h9,i_ h]
theorem ck7 {n:Nod} (h0:1≤n.kd) (h9:n.kd≤9) (h:moreE n=false) (q:(((n.kd==1 || n.kd==2 || n.kd==3 || n.kd==6 || n.kd==7) && !rightQ n.qm n.qs) || (n.kd==6 && !rightQ n.rm n.rs))=true):7=checkE n:=by rw[ck_eq h0 h9,j_ (by simp[h]),i_ q]
theorem ck2b {n:Nod} (h0:1≤n.kd) (h9:n.kd≤9) (h:moreE n=false) (q:(((n.kd==1 || n.kd==2 || n.kd==3 || n.kd==6 || n.kd==7) && !rightQ n.qm n.qs) || (n.kd==6 && !rightQ n.rm n.rs))=false) (l:((n.kd==1 || n.kd==2 || n.kd==3 || n.kd==6 || n.kd==7)&&decide (n.lo>n.hi))=true):2=checkE n:=by rw[ck_eq h0 h9,j_ (by simp[h]),j_ (by rw[q];simp),i_ l]
theorem ck0 {n:Nod} (h0:1≤n.kd) (h9:n.kd≤9) (h:moreE n=false) (q:(((n.kd==1 || n.kd==2 || n.kd==3 || n.kd==6 || n.kd==7) && !rightQ n.qm n.qs) || (n.kd==6 && !rightQ n.rm n.rs))=false) (l:((n.kd==1 || n.kd==2 || n.kd==3 || n.kd==6 || n.kd==7)&&decide (n.lo>n.hi))=false):0=checkE n:=by rw[ck_eq h0 h9,j_ (by simp[h]),j_ (by rw[q];simp),j_ (by rw[l];simp)]
theorem nq {n:Nod} {b:Bool} (h2:nodEq n (plainN n) = !moreE n) (h:(!nodEq n (plainN n))=b):moreE n=b:=by rw[←h,h2,Bool.not_not]
theorem orf {a b:Bool} (h:a=false) (h':b=false):(a || b)=false:=by rw[h,h'];rfl
theorem orl {a b:Bool} (h:a=true):(a || b)=true:=by rw[h];rfl
theorem orr {a b:Bool} (h:b=true):(a || b)=true:=by rw[h,DM_]
theorem refCheck_n (n:Nod) (hk:In64 n.kd) (hn:n.kd<1∨9<n.kd):VC L_ 77 ([nod n]) (i64 (checkE n)):=by
 have h2:=nameEq_out hn
 have oz0:=@refName_v (n.kd) hk
 exact (cR_ [r_,.r [] [cr oz0],b_,r_] (i64 6) Tryz.func77 (.d2 oz0 h2)).to (by (simp only[checkE];rw[i_ hn]))
theorem refCheck_y (n:Nod) (hw:n.w.length≤100000) (hb:n.b.length≤100000) (hk:1≤n.kd) (hk9:n.kd≤9):VC L_ 77 ([nod n]) (i64 (checkE n)):=by
 have h1:=nameEq_in hk hk9
 have oz0:=@refName_v (n.kd) (by omega)
 have oz2:=@refMore_v (n) hw hb
 rcases bft (moreE n) with hc0|hc0
 ·have gc0:moreE n=true:=by first|exact hc0|exact of_decide_eq_true hc0|exact of_decide_eq_false hc0|simpa [eqNums] using hc0|(simp[eqNums] at hc0 ⊢;first|done|assumption|omega)
  exact (cR_ [r_,.r [] [cr oz0],d_,.r [] [cr oz2],b_,r_] (i64 2) Tryz.func77 (.d4 oz0 h1 oz2 hc0)).weak (AM_ _) (Q_ (by (exact ck2 hk hk9 (by assumption))))
 ·have gc0:moreE n=false:=by first|exact hc0|exact of_decide_eq_true hc0|exact of_decide_eq_false hc0|simpa [eqNums] using hc0|(simp[eqNums] at hc0 ⊢;first|done|assumption|omega)
  have oz4:=@refScaled_v (n.kd)
  have oz5:=@refRight_v (n.qm) (n.qs) (n.qz)
  have oz6:=@refRight_v (n.rm) (n.rs) (n.rz)
  rcases bft ((n.kd==1 || n.kd==2 || n.kd==3 || n.kd==6 || n.kd==7) && !rightQ n.qm n.qs || n.kd==6 && !rightQ n.rm n.rs) with hc1|hc1
  ·have gc1:((((n.kd=1∨n.kd=2)∨n.kd=3)∨n.kd=6)∨n.kd=7)∧rightQ n.qm n.qs=false∨n.kd=6∧rightQ n.rm n.rs=false:=gc0_ hc1
   exact (cR_ [r_,.r [] [cr oz0],d_,.r [] [cr oz2],d_,.r [] [cr oz4,o_,o_,o_,cr oz5,o_,.sel 2,o_,o_,o_,o_,o_,o_,o_,cr oz6,o_,o_,.sel 2,.sel 1],b_,r_] (i64 7) Tryz.func77 (.d8 oz0 h1 oz2 hc0 oz4 oz5 oz6 hc1)).weak (AM_ _) (Q_ (by (exact ck7 hk hk9 (by assumption) (by assumption))))
  ·have gc1:((((¬n.kd=1∧¬n.kd=2)∧¬n.kd=3)∧¬n.kd=6)∧¬n.kd=7∨rightQ n.qm n.qs=true)∧(¬n.kd=6∨rightQ n.rm n.rs=true):=gc0_ hc1
   rcases bft ((n.kd==1 || n.kd==2 || n.kd==3 || n.kd==6 || n.kd==7)&&decide (n.lo>n.hi)) with hc2|hc2
   ·have gc2:((((n.kd=1∨n.kd=2)∨n.kd=3)∨n.kd=6)∨n.kd=7)∧n.lo>n.hi:=gc0_ hc2
    exact (cR_ [r_,.r [] [cr oz0],d_,.r [] [cr oz2],d_,.r [] [cr oz4,o_,o_,o_,cr oz5,o_,.sel 2,o_,o_,o_,o_,o_,o_,o_,cr oz6,o_,o_,.sel 2,.sel 1],d_,.r [] [cr oz4,o_,o_,o_,o_,o_,.sel 2],b_,r_] (i64 2) Tryz.func77 (.c8 oz0 h1 oz2 hc0 oz4 oz5 oz6 hc1<|.d2 oz4 hc2)).weak (AM_ _) (Q_ (by (exact ck2b hk hk9 (by assumption) (by assumption) (by assumption))))
   ·have gc2:(((¬n.kd=1∧¬n.kd=2)∧¬n.kd=3)∧¬n.kd=6)∧¬n.kd=7∨¬n.lo>n.hi:=gc0_ hc2
    exact (cR_ [r_,.r [] [cr oz0],d_,.r [] [cr oz2],d_,.r [] [cr oz4,o_,o_,o_,cr oz5,o_,.sel 2,o_,o_,o_,o_,o_,o_,o_,cr oz6,o_,o_,.sel 2,.sel 1],d_,.r [] [cr oz4,o_,o_,o_,o_,o_,.sel 2],d_,r_] (i64 0) Tryz.func77 (.c8 oz0 h1 oz2 hc0 oz4 oz5 oz6 hc1<|.d2 oz4 hc2)).weak (AM_ _) (Q_ (by (exact ck0 hk hk9 (by assumption) (by assumption) (by assumption))))
theorem refCheck_v (n:Nod) (hw:n.w.length≤100000) (hb:n.b.length≤100000) (hk:In64 n.kd):VC L_ 77 [nod n] (i64 (checkE n)):=by
 by_cases h:n.kd<1∨9<n.kd
 ·exact refCheck_n n hk h
 ·exact refCheck_y n hw hb (by omega) (by omega)
theorem plain_v (n:Nod) (hw:n.w.length≤100000) (hb:n.b.length≤100000) (h0:1≤n.kd) (h9:n.kd≤9):VC L_ 162 [nod n] (nod (plainN n)):=by
 have:n.kd=1∨n.kd=2∨n.kd=3∨n.kd=4∨n.kd=5∨n.kd=6∨n.kd=7∨n.kd=8∨n.kd=9:=by omega
 unfold plainN
 rcases this with h|h|h|h|h|h|h|h|h
 ·have e:=plain1 n h hw hb;simp only[h,BV_,if_true,if_false] at e ⊢;exact e
 ·have e:=plain2 n h hw hb;simp only[h,BV_,if_true,if_false] at e ⊢;exact e
 ·have e:=plain3 n h hw hb;simp only[h,BV_,if_true,if_false] at e ⊢;exact e
 ·have e:=plain4 n h hw hb;simp only[h,BV_,if_true,if_false] at e ⊢;exact e
 ·have e:=plain5 n h hw hb;simp only[h,BV_,if_true,if_false] at e ⊢;exact e
 ·have e:=plain6 n h hw hb;simp only[h,BV_,if_true,if_false] at e ⊢;exact e
 ·have e:=plain7 n h hw hb;simp only[h,BV_,if_true,if_false] at e ⊢;exact e
 ·have e:=plain8 n h hw hb;simp only[h,BV_,if_true,if_false] at e ⊢;exact e
 ·have e:=plain9 n h hw hb;simp only[h,BV_,if_true,if_false] at e ⊢;exact e
theorem check_n (n:Nod) (hk:In64 n.kd) (hn:n.kd<1∨9<n.kd):VC L_ 130 ([nod n]) (i64 (checkE n)):=by
 have h2:=nameEq_out hn
 have oz0:=@name_v (n.kd) hk
 exact (cR_ [r_,.r [] [cr oz0],b_,r_] (i64 6) Tryz.func130 (.d2 oz0 h2)).to (by (simp only[checkE];rw[i_ hn]))
theorem check_y (n:Nod) (hw:n.w.length≤100000) (hb:n.b.length≤100000) (hk:1≤n.kd) (hk9:n.kd≤9):VC L_ 130 ([nod n]) (i64 (checkE n)):=by
 have h1:=nameEq_in hk hk9
 have h2:=more_iff n hk hk9
 have oz0:=@name_v (n.kd) (by omega)
 have oz2:=@plain_v (n) hw hb hk hk9
 have oz3:=@same_v (n) (plainN n) hw hb
 rcases bft (!nodEq n (plainN n)) with hc0|hc0
 ·have gc0:nodEq n (plainN n)=false:=by first|exact hc0|exact of_decide_eq_true hc0|exact of_decide_eq_false hc0|simpa [eqNums] using hc0|(simp[eqNums] at hc0 ⊢;first|done|assumption|omega)
  exact (cR_ [r_,.r [] [cr oz0],d_,.r [] [cr oz2,cr oz3],b_,r_] (i64 2) Tryz.func130 (.d5 oz0 h1 oz2 oz3 hc0)).weak (AM_ _) (Q_ (by (exact ck2 hk hk9 (nq h2 (by assumption)))))
 ·have gc0:nodEq n (plainN n)=true:=by first|exact hc0|exact of_decide_eq_true hc0|exact of_decide_eq_false hc0|simpa [eqNums] using hc0|(simp[eqNums] at hc0 ⊢;first|done|assumption|omega)
  have oz5:=@scaledK_v (n.kd)
  have oz6:=@right_v (n.qm) (n.qs) (n.qz)
  rcases bft ((n.kd==1 || n.kd==2 || n.kd==3 || n.kd==6 || n.kd==7) && !rightQ n.qm n.qs) with hc1|hc1
  ·have gc1:((((n.kd=1∨n.kd=2)∨n.kd=3)∨n.kd=6)∨n.kd=7)∧rightQ n.qm n.qs=false:=gc0_ hc1
   exact (cR_ [r_,.r [] [cr oz0],d_,.r [] [cr oz2,cr oz3],d_,.r [] [cr oz5,o_,o_,o_,cr oz6,o_,.sel 2],b_,b_,r_] (i64 7) Tryz.func130 (.c8 oz0 h1 oz2 oz3 hc0 oz5 oz6 hc1<|.d hc1)).weak (AM_ _) (Q_ (by (exact ck7 hk hk9 (nq h2 (by assumption)) (orl (by assumption)))))
  ·have gc1:(((¬n.kd=1∧¬n.kd=2)∧¬n.kd=3)∧¬n.kd=6)∧¬n.kd=7∨rightQ n.qm n.qs=true:=gc0_ hc1
   have oz8:=@right_v (n.rm) (n.rs) (n.rz)
   rcases bft (n.kd==6 && !rightQ n.rm n.rs) with hc2|hc2
   ·have gc2:n.kd=6∧rightQ n.rm n.rs=false:=gc0_ hc2
    exact (cR_ [r_,.r [] [cr oz0],d_,.r [] [cr oz2,cr oz3],d_,.r [] [cr oz5,o_,o_,o_,cr oz6,o_,.sel 2],d_,.r [] [o_,o_,o_,cr oz8,o_,.sel 2],b_,r_] (i64 7) Tryz.func130 (.c8 oz0 h1 oz2 oz3 hc0 oz5 oz6 hc1<|.d2 oz8 hc2)).weak (AM_ _) (Q_ (by (exact ck7 hk hk9 (nq h2 (by assumption)) (orr (by assumption)))))
   ·have gc2:¬n.kd=6∨rightQ n.rm n.rs=true:=gc0_ hc2
    rcases bft ((n.kd==1 || n.kd==2 || n.kd==3 || n.kd==6 || n.kd==7)&&decide (n.lo>n.hi)) with hc3|hc3
    ·have gc3:((((n.kd=1∨n.kd=2)∨n.kd=3)∨n.kd=6)∨n.kd=7)∧n.lo>n.hi:=gc0_ hc3
     exact (cR_ [r_,.r [] [cr oz0],d_,.r [] [cr oz2,cr oz3],d_,.r [] [cr oz5,o_,o_,o_,cr oz6,o_,.sel 2],d_,.r [] [o_,o_,o_,cr oz8,o_,.sel 2],d_,.r [] [cr oz5,o_,o_,o_,o_,o_,.sel 2],b_,r_] (i64 2) Tryz.func130 (.c8 oz0 h1 oz2 oz3 hc0 oz5 oz6 hc1<|.d4 oz8 hc2 oz5 hc3)).weak (AM_ _) (Q_ (by (exact ck2b hk hk9 (nq h2 (by assumption)) (orf (by assumption) (by assumption)) (by assumption))))
    ·have gc3:(((¬n.kd=1∧¬n.kd=2)∧¬n.kd=3)∧¬n.kd=6)∧¬n.kd=7∨¬n.lo>n.hi:=gc0_ hc3
     exact (cR_ [r_,.r [] [cr oz0],d_,.r [] [cr oz2,cr oz3],d_,.r [] [cr oz5,o_,o_,o_,cr oz6,o_,.sel 2],d_,.r [] [o_,o_,o_,cr oz8,o_,.sel 2],d_,.r [] [cr oz5,o_,o_,o_,o_,o_,.sel 2],d_,r_] (i64 0) Tryz.func130 (.c8 oz0 h1 oz2 oz3 hc0 oz5 oz6 hc1<|.d4 oz8 hc2 oz5 hc3)).weak (AM_ _) (Q_ (by (exact ck0 hk hk9 (nq h2 (by assumption)) (orf (by assumption) (by assumption)) (by assumption))))
theorem check_v (n:Nod) (hw:n.w.length≤100000) (hb:n.b.length≤100000) (hk:In64 n.kd):VC L_ 130 [nod n] (i64 (checkE n)):=by
 by_cases h:n.kd<1∨9<n.kd
 ·exact check_n n hk h
 ·exact check_y n hw hb (by omega) (by omega)
def depthE (t:Shp) (n:Nod):Shp×Int :=
 if (slideE t n.nk n.ns n.np t.c).2≠0 then (⟨0,0,0⟩,(slideE t n.nk n.ns n.np t.c).2)
 else if (n.w.length:Int)≠t.c*n.nk*n.nk∨16384<(n.w.length:Int)∨(n.b.length:Int)≠t.c then (⟨0,0,0⟩,9) else ((slideE t n.nk n.ns n.np t.c).1,0)
theorem depthShape_v (t:Shp) (n:Nod) (ok:t.Ok) (okn:n.Ok):VC L_ 188 ([shp t,nod n]) (.tup [shp (depthE t n).1,i64 (depthE t n).2]):=by
 have q2:=ok.c
 have q3:=fun h=>wts_bd (t:=t) (k:=n.nk) (s:=n.ns) (p:=n.np) (o:=t.c) h
 have oz0:=@slide_v (t) (n.nk) (n.ns) (n.np) (t.c) ok q2
 rcases bft ((slideE t n.nk n.ns n.np t.c).snd != 0) with hc0|hc0
 ·have gc0:¬(slideE t n.nk n.ns n.np t.c).snd=0:=bdt hc0
  exact (cR_ [r_,.r [] [cr oz0],r_,b_,r_] (AV.tup [AV.agg [i64 0,i64 0,i64 0],i64 (slideE t n.nk n.ns n.np t.c).snd]) Tryz.func188 (.d2 oz0 hc0)).to (by (simp only[depthE];rw[i_ (by omega)]))
 ·have gc0:(slideE t n.nk n.ns n.np t.c).snd=0:=bdf hc0
  have oz2:=(i6n (t.c*n.nk) (by omega))
  have oz3:=(i6n (t.c*n.nk*n.nk) (by omega))
  rcases bft (((K_ (row1 .i8) n.w).length:Int) != t.c*n.nk*n.nk || decide (((K_ (row1 .i8) n.w).length:Int)>16384) || ((K_ (row1 .i32) n.b).length:Int) != t.c) with hc1|hc1
  ·have gc1:(¬((K_ (row1 .i8) n.w).length:Int)=t.c*n.nk*n.nk∨((K_ (row1 .i8) n.w).length:Int)>16384)∨¬((K_ (row1 .i32) n.b).length:Int)=t.c:=gc0_ hc1
   exact (cR_ [r_,.r [] [cr oz0],r_,d_,.r [] [.n (nO oz2),.n (nO oz3),o_,o_,o_,o_,.sel 1,o_,o_,o_,o_,o_,o_,.sel 1],b_,r_] (AV.tup [AV.agg [i64 0,i64 0,i64 0],i64 9]) Tryz.func188 (.d5 oz0 hc0 oz2 oz3 hc1)).to (by (simp only[depthE,R_] at *;rw[j_ (by omega),i_ (by omega)]))
  ·have gc1:(((K_ (row1 .i8) n.w).length:Int)=t.c*n.nk*n.nk∧¬((K_ (row1 .i8) n.w).length:Int)>16384)∧((K_ (row1 .i32) n.b).length:Int)=t.c:=gc0_ hc1
   exact (cR_ [r_,.r [] [cr oz0],r_,d_,.r [] [.n (nO oz2),.n (nO oz3),o_,o_,o_,o_,.sel 1,o_,o_,o_,o_,o_,o_,.sel 1],d_,r_] (AV.tup [AV.agg [i64 (slideE t n.nk n.ns n.np t.c).fst.h,i64 (slideE t n.nk n.ns n.np t.c).fst.x,i64 (slideE t n.nk n.ns n.np t.c).fst.c],i64 0]) Tryz.func188 (.d5 oz0 hc0 oz2 oz3 hc1)).to (by (simp only[depthE,R_] at *;rw[j_ (by omega),j_ (by omega)]))
theorem elems_in (h x c:Int):0≤elems h x c∧elems h x c≤1024:=by
 unfold elems;split
 ·rename_i g
  have:=Int.mul_nonneg (Int.mul_nonneg (s_ (0≤h)) (s_ (0≤x))) (s_ (0≤c))
  omega
 ·omega
def denseE (t:Shp) (n:Nod):Shp×Int :=
 if elems t.h t.x t.c=0∨elems 1 1 n.no=0 then (⟨0,0,0⟩,5)
 else if (n.w.length:Int)≠n.no*elems t.h t.x t.c∨16384<(n.w.length:Int)∨(n.b.length:Int)≠n.no then (⟨0,0,0⟩,9) else (⟨1,1,n.no⟩,0)
theorem denseShape_v (t:Shp) (n:Nod) (ok:t.Ok) (okn:n.Ok):VC L_ 189 ([shp t,nod n]) (.tup [shp (denseE t n).1,i64 (denseE t n).2]):=by
 obtain ⟨p1,p2,p3⟩:=id ok
 have q2:=elems_in t.h t.x t.c
 have q3:=elems_in 1 1 n.no
 have q4:0<elems 1 1 n.no→1≤n.no∧n.no≤1024:=fun h=>by have:=elems_ok h;omega
 have q5:0<elems 1 1 n.no→0≤n.no*elems t.h t.x t.c∧n.no*elems t.h t.x t.c≤1024*1024:=fun h=>mul_bd (by have:=q4 h;omega) (q4 h).2 q2.1 q2.2
 have oz0:=@sRight_v (t) ok
 have oz1:=@sRight_v (Shp.mk 1 1 n.no) (by (exact Shp.mk_ok ⟨by decide,by decide⟩ ⟨by decide,by decide⟩ okn.no))
 rcases bft (!decide (0<elems t.h t.x t.c) || !decide (0<elems 1 1 n.no)) with hc0|hc0
 ·have gc0:¬0<elems t.h t.x t.c∨¬0<elems 1 1 n.no:=gc0_ hc0
  exact (cR_ [r_,r_,.r [] [cr oz0,o_,o_,cr oz1,o_,.sel 1],b_,r_] (AV.tup [AV.agg [i64 0,i64 0,i64 0],i64 5]) Tryz.func189 (.d3 oz0 oz1 hc0)).to (by (simp only[denseE];rw[i_ (by omega)]))
 ·have gc0:0<elems t.h t.x t.c∧0<elems 1 1 n.no:=gc0_ hc0
  have oz3:=@elems_v (t.h) (t.x) (t.c) p1 p2 p3
  have oz4:=(i6n (n.no*elems t.h t.x t.c) (by omega))
  rcases bft (((K_ (row1 .i8) n.w).length:Int) != n.no*elems t.h t.x t.c || decide (((K_ (row1 .i8) n.w).length:Int)>16384) || ((K_ (row1 .i32) n.b).length:Int) != n.no) with hc1|hc1
  ·have gc1:(¬((K_ (row1 .i8) n.w).length:Int)=n.no*elems t.h t.x t.c∨((K_ (row1 .i8) n.w).length:Int)>16384)∨¬((K_ (row1 .i32) n.b).length:Int)=n.no:=gc0_ hc1
   exact (cR_ [r_,r_,.r [] [cr oz0,o_,o_,cr oz1,o_,.sel 1],d_,.r [] [cr oz3,.n (nO oz4),o_,o_,o_,o_,.sel 1,o_,o_,o_,o_,o_,o_,.sel 1],b_,r_] (AV.tup [AV.agg [i64 0,i64 0,i64 0],i64 9]) Tryz.func189 (.d6 oz0 oz1 hc0 oz3 oz4 hc1)).to (by (simp only[denseE,R_] at *;rw[j_ (by omega),i_ (by omega)]))
  ·have gc1:(((K_ (row1 .i8) n.w).length:Int)=n.no*elems t.h t.x t.c∧¬((K_ (row1 .i8) n.w).length:Int)>16384)∧((K_ (row1 .i32) n.b).length:Int)=n.no:=gc0_ hc1
   exact (cR_ [r_,r_,.r [] [cr oz0,o_,o_,cr oz1,o_,.sel 1],d_,.r [] [cr oz3,.n (nO oz4),o_,o_,o_,o_,.sel 1,o_,o_,o_,o_,o_,o_,.sel 1],d_,r_] (AV.tup [AV.agg [i64 1,i64 1,i64 n.no],i64 0]) Tryz.func189 (.d6 oz0 oz1 hc0 oz3 oz4 hc1)).to (by (simp only[denseE,R_] at *;rw[j_ (by omega),j_ (by omega)]))
def aroundE (a:Shp) (p:Int):Shp×Int:=if p<0∨4<p then (⟨0,0,0⟩,2) else if elems (a.h+2*p) (a.x+2*p) a.c=0 then (⟨0,0,0⟩,5) else (⟨a.h+2*p,a.x+2*p,a.c⟩,0)
def shapeE (n:Nod) (a b:Shp):Shp×Int :=
 if n.kd=1 then convE a n else if n.kd=2 then depthE a n else if n.kd=3 then denseE a n else if n.kd=4∨n.kd=5 then slideE a n.nk n.ns n.np a.c
 else if n.kd<1∨9<n.kd then (⟨0,0,0⟩,6) else if elems a.h a.x a.c=0∨(n.kd=6∧¬(a.h=b.h∧a.x=b.x∧a.c=b.c)) then (⟨0,0,0⟩,5)
 else if n.kd=9 then (⟨1,1,elems a.h a.x a.c⟩,0) else if n.kd=8 then
  aroundE a n.np else (a,0)
theorem around_v (a:Shp) (p:Int) (ok:a.Ok) (h0:0<elems a.h a.x a.c):VC L_ 209 ([shp a,i64 p]) (.tup [shp (aroundE a p).1,i64 (aroundE a p).2]):=by
 have q:=elems_ok h0
 have q2:=elems_in (a.h+2*p) (a.x+2*p) a.c
 have q3:=ok.c
 rcases bft (decide (p<0) || decide (p>4)) with hc0|hc0
 ·have gc0:p<0∨p>4:=gc0_ hc0
  exact (cR_ [r_,.r [] [o_,o_,.sel 1],b_,r_] (AV.tup [AV.agg [i64 0,i64 0,i64 0],i64 2]) Tryz.func209 (.d hc0)).weak (AM_ _) (AI_ (.cons (BL_ (.cons (Q_ (by (unfold aroundE;(repeat first|rw[i_ (by omega)]|rw[j_ (by omega)])))) (.cons (Q_ (by (unfold aroundE;(repeat first|rw[i_ (by omega)]|rw[j_ (by omega)])))) (.cons (Q_ (by (unfold aroundE;(repeat first|rw[i_ (by omega)]|rw[j_ (by omega)])))) .nil)))) (.cons (Q_ (by (unfold aroundE;(repeat first|rw[i_ (by omega)]|rw[j_ (by omega)])))) .nil)))
 ·have gc0:¬p<0∧¬p>4:=gc0_ hc0
  have oz1:=(i6n (2*p) (by omega))
  have oz2:=(i6n (a.h+2*p) (by omega))
  have oz4:=(i6n (a.x+2*p) (by omega))
  have oz5:=@sRight_v (Shp.mk (a.h+2*p) (a.x+2*p) a.c) (by (exact Shp.mk_ok ⟨by omega,by omega⟩ ⟨by omega,by omega⟩ q3))
  rcases bft (!decide (0<elems (a.h+2*p) (a.x+2*p) a.c)) with hc1|hc1
  ·have gc1:=bnt hc1
   exact (cR_ [r_,.r [] [o_,o_,.sel 1],d_,.r [] [.n (nO oz1),.n (nO oz2),.n (nO oz1),.n (nO oz4)],.r [] [cr oz5],b_,r_] (AV.tup [AV.agg [i64 0,i64 0,i64 0],i64 5]) Tryz.func209 (.d7 hc0 oz1 oz2 oz1 oz4 oz5 hc1)).weak (AM_ _) (AI_ (.cons (BL_ (.cons (Q_ (by (unfold aroundE;(repeat first|rw[i_ (by omega)]|rw[j_ (by omega)])))) (.cons (Q_ (by (unfold aroundE;(repeat first|rw[i_ (by omega)]|rw[j_ (by omega)])))) (.cons (Q_ (by (unfold aroundE;(repeat first|rw[i_ (by omega)]|rw[j_ (by omega)])))) .nil)))) (.cons (Q_ (by (unfold aroundE;(repeat first|rw[i_ (by omega)]|rw[j_ (by omega)])))) .nil)))
  ·have gc1:=bnf hc1
   exact (cR_ [r_,.r [] [o_,o_,.sel 1],d_,.r [] [.n (nO oz1),.n (nO oz2),.n (nO oz1),.n (nO oz4)],.r [] [cr oz5],d_,r_] (AV.tup [AV.agg [i64 (a.h+2*p),i64 (a.x+2*p),i64 a.c],i64 0]) Tryz.func209 (.d7 hc0 oz1 oz2 oz1 oz4 oz5 hc1)).weak (AM_ _) (AI_ (.cons (BL_ (.cons (Q_ (by (unfold aroundE;(repeat first|rw[i_ (by omega)]|rw[j_ (by omega)])))) (.cons (Q_ (by (unfold aroundE;(repeat first|rw[i_ (by omega)]|rw[j_ (by omega)])))) (.cons (Q_ (by (unfold aroundE;(repeat first|rw[i_ (by omega)]|rw[j_ (by omega)])))) .nil)))) (.cons (Q_ (by (unfold aroundE;(repeat first|rw[i_ (by omega)]|rw[j_ (by omega)])))) .nil)))
theorem plainShape_v (n:Nod) (a b:Shp) (ok:a.Ok) (okb:b.Ok) (hk:6≤n.kd) (hk9:n.kd≤9):VC L_ 191 ([nod n,shp a,shp b]) (.tup [shp (shapeE n a b).1,i64 (shapeE n a b).2]):=by
 obtain ⟨p1,p2,p3⟩:=id ok
 have q2:=elems_in a.h a.x a.c
 have oz0:=@sRight_v (a) ok
 rcases bft (!decide (0<elems a.h a.x a.c)) with hc0|hc0
 ·have gc0:=bnt hc0
  exact (cR_ [r_,.r [] [cr oz0],b_,r_] (AV.tup [AV.agg [i64 0,i64 0,i64 0],i64 5]) Tryz.func191 (.d2 oz0 hc0)).weak (AM_ _) (AI_ (.cons (BL_ (.cons (Q_ (by (unfold shapeE;(repeat first|rw[i_ (by omega)]|rw[j_ (by omega)])))) (.cons (Q_ (by (unfold shapeE;(repeat first|rw[i_ (by omega)]|rw[j_ (by omega)])))) (.cons (Q_ (by (unfold shapeE;(repeat first|rw[i_ (by omega)]|rw[j_ (by omega)])))) .nil)))) (.cons (Q_ (by (unfold shapeE;(repeat first|rw[i_ (by omega)]|rw[j_ (by omega)])))) .nil)))
 ·have gc0:=bnf hc0
  rcases bft (n.kd==6) with hc1|hc1
  ·have gc1:n.kd=6:=bet hc1
   have oz3:=(show BinTo L_ BinOp.neq 23 (Operand.tmp 16) (Operand.tmp 17) (CT_ #[AS_ O_ a.h,AS_ O_ a.x,AS_ O_ a.c]) (CT_ #[AS_ O_ b.h,AS_ O_ b.x,AS_ O_ b.c]) (BD_ !eqNums [(O_,a.h,b.h),(O_,a.x,b.x),(O_,a.c,b.c)]) from ((bin_nums (l:=[(O_,a.h,b.h),(O_,a.x,b.x),(O_,a.c,b.c)]) (by kernel_rfl) (by kernel_rfl) (by kernel_rfl) (by kernel_rfl) _ _).2))
   rcases bft (!eqNums [(O_,a.h,b.h),(O_,a.x,b.x),(O_,a.c,b.c)]) with hc2|hc2
   ·have gc2:¬(a.h=b.h∧a.x=b.x∧a.c=b.c):=gc0_ hc2
    exact (cR_ [r_,.r [] [cr oz0],d_,r_,r_,b_,.r [] [.v (BD_ !eqNums [(O_,a.h,b.h),(O_,a.x,b.x),(O_,a.c,b.c)])],b_,r_] (AV.tup [AV.agg [i64 0,i64 0,i64 0],i64 5]) Tryz.func191 (.d5 oz0 hc0 hc1 oz3 hc2)).weak (AM_ _) (AI_ (.cons (BL_ (.cons (Q_ (by (unfold shapeE;(repeat first|rw[i_ (by omega)]|rw[j_ (by omega)])))) (.cons (Q_ (by (unfold shapeE;(repeat first|rw[i_ (by omega)]|rw[j_ (by omega)])))) (.cons (Q_ (by (unfold shapeE;(repeat first|rw[i_ (by omega)]|rw[j_ (by omega)])))) .nil)))) (.cons (Q_ (by (unfold shapeE;(repeat first|rw[i_ (by omega)]|rw[j_ (by omega)])))) .nil)))
   ·have gc2:a.h=b.h∧a.x=b.x∧a.c=b.c:=gc0_ hc2
    exact (cR_ [r_,.r [] [cr oz0],d_,r_,r_,b_,.r [] [.v (BD_ !eqNums [(O_,a.h,b.h),(O_,a.x,b.x),(O_,a.c,b.c)])],d_,r_] (AV.tup [AV.agg [i64 a.h,i64 a.x,i64 a.c],i64 0]) Tryz.func191 (.d5 oz0 hc0 hc1 oz3 hc2)).weak (AM_ _) (AI_ (.cons (BL_ (.cons (Q_ (by (unfold shapeE;(repeat first|rw[i_ (by omega)]|rw[j_ (by omega)])))) (.cons (Q_ (by (unfold shapeE;(repeat first|rw[i_ (by omega)]|rw[j_ (by omega)])))) (.cons (Q_ (by (unfold shapeE;(repeat first|rw[i_ (by omega)]|rw[j_ (by omega)])))) .nil)))) (.cons (Q_ (by (unfold shapeE;(repeat first|rw[i_ (by omega)]|rw[j_ (by omega)])))) .nil)))
  ·have gc1:¬n.kd=6:=bef hc1
   rcases bft (n.kd==8) with hc2|hc2
   ·have gc2:n.kd=8:=bet hc2
    have oz4:=@around_v (a) (n.np) ok gc0
    exact (cR_ [r_,.r [] [cr oz0],d_,r_,r_,d_,r_,b_,.r [] [cr oz4]] (AV.tup [AV.agg [i64 (aroundE a n.np).fst.h,i64 (aroundE a n.np).fst.x,i64 (aroundE a n.np).fst.c],i64 (aroundE a n.np).snd]) Tryz.func191 (.d5 oz0 hc0 hc1 hc2 oz4)).weak (AM_ _) (AI_ (.cons (BL_ (.cons (Q_ (by (unfold shapeE;(repeat first|rw[i_ (by omega)]|rw[j_ (by omega)])))) (.cons (Q_ (by (unfold shapeE;(repeat first|rw[i_ (by omega)]|rw[j_ (by omega)])))) (.cons (Q_ (by (unfold shapeE;(repeat first|rw[i_ (by omega)]|rw[j_ (by omega)])))) .nil)))) (.cons (Q_ (by (unfold shapeE;(repeat first|rw[i_ (by omega)]|rw[j_ (by omega)])))) .nil)))
   ·have gc2:¬n.kd=8:=bef hc2
    rcases bft (n.kd==9) with hc3|hc3
    ·have gc3:n.kd=9:=bet hc3
     have oz5:=@elems_v (a.h) (a.x) (a.c) p1 p2 p3
     exact (cR_ [r_,.r [] [cr oz0],d_,r_,r_,d_,r_,d_,r_,b_,.r [] [cr oz5]] (AV.tup [AV.agg [i64 1,i64 1,i64 (elems a.h a.x a.c)],i64 0]) Tryz.func191 (.d6 oz0 hc0 hc1 hc2 hc3 oz5)).weak (AM_ _) (AI_ (.cons (BL_ (.cons (Q_ (by (unfold shapeE;(repeat first|rw[i_ (by omega)]|rw[j_ (by omega)])))) (.cons (Q_ (by (unfold shapeE;(repeat first|rw[i_ (by omega)]|rw[j_ (by omega)])))) (.cons (Q_ (by (unfold shapeE;(repeat first|rw[i_ (by omega)]|rw[j_ (by omega)])))) .nil)))) (.cons (Q_ (by (unfold shapeE;(repeat first|rw[i_ (by omega)]|rw[j_ (by omega)])))) .nil)))
    ·have gc3:¬n.kd=9:=bef hc3
     exact (cR_ [r_,.r [] [cr oz0],d_,r_,r_,d_,r_,d_,r_,d_,r_] (AV.tup [AV.agg [i64 a.h,i64 a.x,i64 a.c],i64 0]) Tryz.func191 (.d5 oz0 hc0 hc1 hc2 hc3)).weak (AM_ _) (AI_ (.cons (BL_ (.cons (Q_ (by (unfold shapeE;(repeat first|rw[i_ (by omega)]|rw[j_ (by omega)])))) (.cons (Q_ (by (unfold shapeE;(repeat first|rw[i_ (by omega)]|rw[j_ (by omega)])))) (.cons (Q_ (by (unfold shapeE;(repeat first|rw[i_ (by omega)]|rw[j_ (by omega)])))) .nil)))) (.cons (Q_ (by (unfold shapeE;(repeat first|rw[i_ (by omega)]|rw[j_ (by omega)])))) .nil)))
theorem kshape_v (n:Nod) (a b:Shp) (ok:a.Ok) (okb:b.Ok) (okn:n.Ok):VC L_ 158 ([nod n,shp a,shp b]) (.tup [shp (shapeE n a b).1,i64 (shapeE n a b).2]):=by
 obtain ⟨p1,p2,p3⟩:=id ok
 rcases bft (n.kd==1) with hc0|hc0
 ·have gc0:n.kd=1:=bet hc0
  have oz1:=@convShape_v (a) (n) ok okn
  exact (cR_ [r_,r_,r_,b_,.r [] [cr oz1]] (AV.tup [AV.agg [i64 (convE a n).fst.h,i64 (convE a n).fst.x,i64 (convE a n).fst.c],i64 (convE a n).snd]) Tryz.func158 (.d2 hc0 oz1)).weak (AM_ _) (AI_ (.cons (BL_ (.cons (Q_ (by (unfold shapeE;(repeat first|rw[i_ (by omega)]|rw[j_ (by omega)])))) (.cons (Q_ (by (unfold shapeE;(repeat first|rw[i_ (by omega)]|rw[j_ (by omega)])))) (.cons (Q_ (by (unfold shapeE;(repeat first|rw[i_ (by omega)]|rw[j_ (by omega)])))) .nil)))) (.cons (Q_ (by (unfold shapeE;(repeat first|rw[i_ (by omega)]|rw[j_ (by omega)])))) .nil)))
 ·have gc0:¬n.kd=1:=bef hc0
  rcases bft (n.kd==2) with hc1|hc1
  ·have gc1:n.kd=2:=bet hc1
   have oz2:=@depthShape_v (a) (n) ok okn
   exact (cR_ [r_,r_,r_,d_,r_,b_,.r [] [cr oz2]] (AV.tup [AV.agg [i64 (depthE a n).fst.h,i64 (depthE a n).fst.x,i64 (depthE a n).fst.c],i64 (depthE a n).snd]) Tryz.func158 (.d3 hc0 hc1 oz2)).weak (AM_ _) (AI_ (.cons (BL_ (.cons (Q_ (by (unfold shapeE;(repeat first|rw[i_ (by omega)]|rw[j_ (by omega)])))) (.cons (Q_ (by (unfold shapeE;(repeat first|rw[i_ (by omega)]|rw[j_ (by omega)])))) (.cons (Q_ (by (unfold shapeE;(repeat first|rw[i_ (by omega)]|rw[j_ (by omega)])))) .nil)))) (.cons (Q_ (by (unfold shapeE;(repeat first|rw[i_ (by omega)]|rw[j_ (by omega)])))) .nil)))
  ·have gc1:¬n.kd=2:=bef hc1
   rcases bft (n.kd==3) with hc2|hc2
   ·have gc2:n.kd=3:=bet hc2
    have oz3:=@denseShape_v (a) (n) ok okn
    exact (cR_ [r_,r_,r_,d_,r_,d_,r_,b_,.r [] [cr oz3]] (AV.tup [AV.agg [i64 (denseE a n).fst.h,i64 (denseE a n).fst.x,i64 (denseE a n).fst.c],i64 (denseE a n).snd]) Tryz.func158 (.d4 hc0 hc1 hc2 oz3)).weak (AM_ _) (AI_ (.cons (BL_ (.cons (Q_ (by (unfold shapeE;(repeat first|rw[i_ (by omega)]|rw[j_ (by omega)])))) (.cons (Q_ (by (unfold shapeE;(repeat first|rw[i_ (by omega)]|rw[j_ (by omega)])))) (.cons (Q_ (by (unfold shapeE;(repeat first|rw[i_ (by omega)]|rw[j_ (by omega)])))) .nil)))) (.cons (Q_ (by (unfold shapeE;(repeat first|rw[i_ (by omega)]|rw[j_ (by omega)])))) .nil)))
   ·have gc2:¬n.kd=3:=bef hc2
    rcases bft (n.kd==4) with hc3|hc3
    ·have gc3:n.kd=4:=bet hc3
     have oz5:=@slide_v (a) (n.nk) (n.ns) (n.np) (a.c) ok p3
     exact (cR_ [r_,r_,r_,d_,r_,d_,r_,d_,r_,b_,b_,.r [] [cr oz5]] (AV.tup [AV.agg [i64 (slideE a n.nk n.ns n.np a.c).fst.h,i64 (slideE a n.nk n.ns n.np a.c).fst.x,i64 (slideE a n.nk n.ns n.np a.c).fst.c],i64 (slideE a n.nk n.ns n.np a.c).snd]) Tryz.func158 (.d6 hc0 hc1 hc2 hc3 hc3 oz5)).weak (AM_ _) (AI_ (.cons (BL_ (.cons (Q_ (by (unfold shapeE;(repeat first|rw[i_ (by omega)]|rw[j_ (by omega)])))) (.cons (Q_ (by (unfold shapeE;(repeat first|rw[i_ (by omega)]|rw[j_ (by omega)])))) (.cons (Q_ (by (unfold shapeE;(repeat first|rw[i_ (by omega)]|rw[j_ (by omega)])))) .nil)))) (.cons (Q_ (by (unfold shapeE;(repeat first|rw[i_ (by omega)]|rw[j_ (by omega)])))) .nil)))
    ·have gc3:¬n.kd=4:=bef hc3
     rcases bft (n.kd==5) with hc4|hc4
     ·have gc4:n.kd=5:=bet hc4
      have oz5:=@slide_v (a) (n.nk) (n.ns) (n.np) (a.c) ok p3
      exact (cR_ [r_,r_,r_,d_,r_,d_,r_,d_,r_,d_,r_,b_,.r [] [cr oz5]] (AV.tup [AV.agg [i64 (slideE a n.nk n.ns n.np a.c).fst.h,i64 (slideE a n.nk n.ns n.np a.c).fst.x,i64 (slideE a n.nk n.ns n.np a.c).fst.c],i64 (slideE a n.nk n.ns n.np a.c).snd]) Tryz.func158 (.d6 hc0 hc1 hc2 hc3 hc4 oz5)).weak (AM_ _) (AI_ (.cons (BL_ (.cons (Q_ (by (unfold shapeE;(repeat first|rw[i_ (by omega)]|rw[j_ (by omega)])))) (.cons (Q_ (by (unfold shapeE;(repeat first|rw[i_ (by omega)]|rw[j_ (by omega)])))) (.cons (Q_ (by (unfold shapeE;(repeat first|rw[i_ (by omega)]|rw[j_ (by omega)])))) .nil)))) (.cons (Q_ (by (unfold shapeE;(repeat first|rw[i_ (by omega)]|rw[j_ (by omega)])))) .nil)))
     ·have gc4:¬n.kd=5:=bef hc4
      rcases bft (n.kd==6) with hc5|hc5
      ·have gc5:n.kd=6:=bet hc5
       have oz7:=@plainShape_v (n) (a) (b) ok okb (by omega) (by omega)
       exact cR_ [r_,r_,r_,d_,r_,d_,r_,d_,r_,d_,r_,d_,r_,b_,b_,.r [] [cr oz7]] _ Tryz.func158 (.d8 hc0 hc1 hc2 hc3 hc4 hc5 hc5 oz7)
      ·have gc5:¬n.kd=6:=bef hc5
       rcases bft (n.kd==7) with hc6|hc6
       ·have gc6:n.kd=7:=bet hc6
        have oz8:=@plainShape_v (n) (a) (b) ok okb (by omega) (by omega)
        exact cR_ [r_,r_,r_,d_,r_,d_,r_,d_,r_,d_,r_,d_,r_,d_,r_,b_,b_,.r [] [cr oz8]] _ Tryz.func158 (.c8 hc0 hc1 hc2 hc3 hc4 hc5 hc6 hc6<|.d oz8)
       ·have gc6:¬n.kd=7:=bef hc6
        rcases bft (n.kd==8) with hc7|hc7
        ·have gc7:n.kd=8:=bet hc7
         have oz9:=@plainShape_v (n) (a) (b) ok okb (by omega) (by omega)
         exact cR_ [r_,r_,r_,d_,r_,d_,r_,d_,r_,d_,r_,d_,r_,d_,r_,d_,r_,b_,b_,.r [] [cr oz9]] _ Tryz.func158 (.c8 hc0 hc1 hc2 hc3 hc4 hc5 hc6 hc7<|.d2 hc7 oz9)
        ·have gc7:¬n.kd=8:=bef hc7
         rcases bft (n.kd==9) with hc8|hc8
         ·have gc8:n.kd=9:=bet hc8
          have oz9:=@plainShape_v (n) (a) (b) ok okb (by omega) (by omega)
          exact cR_ [r_,r_,r_,d_,r_,d_,r_,d_,r_,d_,r_,d_,r_,d_,r_,d_,r_,d_,r_,b_,.r [] [cr oz9]] _ Tryz.func158 (.c8 hc0 hc1 hc2 hc3 hc4 hc5 hc6 hc7<|.d2 hc8 oz9)
         ·have gc8:¬n.kd=9:=bef hc8
          exact (cR_ [r_,r_,r_,d_,r_,d_,r_,d_,r_,d_,r_,d_,r_,d_,r_,d_,r_,d_,r_,d_,r_] (AV.tup [AV.agg [i64 0,i64 0,i64 0],i64 6]) Tryz.func158 (.c8 hc0 hc1 hc2 hc3 hc4 hc5 hc6 hc7<|.d hc8)).weak (AM_ _) (AI_ (.cons (BL_ (.cons (Q_ (by (unfold shapeE;(repeat first|rw[i_ (by omega)]|rw[j_ (by omega)])))) (.cons (Q_ (by (unfold shapeE;(repeat first|rw[i_ (by omega)]|rw[j_ (by omega)])))) (.cons (Q_ (by (unfold shapeE;(repeat first|rw[i_ (by omega)]|rw[j_ (by omega)])))) .nil)))) (.cons (Q_ (by (unfold shapeE;(repeat first|rw[i_ (by omega)]|rw[j_ (by omega)])))) .nil)))
def oneN (v:Int) (n:Nod):Int:=heldQ (v-n.za) n.qm n.qs n.qz n.lo n.hi
theorem actOne_w (v:Int) (n:Nod) (ok:n.Ok) (hv:In8 v):VC L_ 205 ([i8 v,nod n]) (i8 (oneN v n)):=by
 obtain ⟨q1,q2⟩:=id hv
 obtain ⟨q3,q4⟩:=ok.za
 have oz3:=@held_v (v-n.za) (n.qm) (n.qs) (n.qz) (n.lo) (n.hi) (by omega) (by (exact ok.qm)) (by (exact ok.qz)) (by (exact ok.lo)) (by (exact ok.hi))
 exact (cR_ [r_,.r [] [.n v,.n n.za,.n (v-n.za),cr oz3]] (i8 (heldQ (v-n.za) n.qm n.qs n.qz n.lo n.hi)) Tryz.func205 (.d4 (CR_ v (by omega)) (CR_ n.za (by omega)) (CR_ (v-n.za) (by omega)) oz3)).weak (AM_ _) (Q_ (by rfl))
theorem upside_v (a b:Int)  : VC L_ 152 ([.agg [i8 a,i8 b]]) (bv (decide (a>b))):=by
 exact cR_ [r_,r_] _ Tryz.func152 (.n)
def headE (w b:List Int) (lo hi:Int):Int:=if sharedB w b=true then (if (allR w b lo hi 0 false b.length).all holdB=true then 0 else 10) else 9
abbrev hedC (w b:List Int) (nd:Int):List AV:=[ints .i8 w,ints .i32 b,i32 nd]
theorem hd_ok {w b:List Int} (hw:∀ v∈w,In8 v) (hb:∀ v∈b,In32 v):Nod.Ok ⟨0,0,0,0,0,0,0,0,0,w,b,0,0,0,0,0,0,0,0⟩:=by
 constructor<;>first|assumption|(constructor<;>(dsimp only;decide))
theorem hd_len (w b:List Int) (lo hi:Int):(allR w b lo hi 0 (decide ((0:Int)>0)) (if sharedB w b=true then b.length else 0)).length=if sharedB w b=true then b.length else 0:=by simp[allR]
theorem hd_pos {w b:List Int} (h:sharedB w b=true):0<b.length:=by
 simp only[sharedB,N_,E_] at h;exact h.1
theorem hd_le (w b:List Int) (lo hi:Int) (bl:b.length≤100000):(allR w b lo hi 0 (decide ((0:Int)>0)) (if sharedB w b=true then b.length else 0)).length≤1000000:=by rw[hd_len];split<;>omega
theorem hd_sh {w b:List Int} {lo hi:Int} {x:Bool} (h:(((K_ rngC (allR w b lo hi 0 (decide ((0:Int)>0)) (if sharedB w b=true then b.length else 0))).length:Int)==0)=x):sharedB w b = !x:=by
 rw[R_,hd_len] at h
 cases e:sharedB w b with
 | true =>
  have:=hd_pos e
  rw[e,i_ rfl] at h
  cases x with
  | true=>simp at h;subst h;simp at this
  | false=>rfl
 | false=>rw[e] at h;subst h;rfl
theorem hd9 {w b:List Int} {lo hi:Int} (h:(((K_ rngC (allR w b lo hi 0 (decide ((0:Int)>0)) (if sharedB w b=true then b.length else 0))).length:Int)==0)=true):9=headE w b lo hi:=by
 unfold headE;rw[hd_sh h];rfl
theorem hd10 {w b:List Int} {lo hi:Int} {y:Bool} (h:(((K_ rngC (allR w b lo hi 0 (decide ((0:Int)>0)) (if sharedB w b=true then b.length else 0))).length:Int)==0)=false) (h2:(!(allR w b lo hi 0 (decide ((0:Int)>0)) (if sharedB w b=true then b.length else 0)).all holdB)=y):(if y=true then 10 else 0)=headE w b lo hi:=by
 have e:=hd_sh h
 unfold headE
 rw[e] at h2 ⊢
 simp only[BB_,if_true] at h2 ⊢
 rw[show (false:Bool)=decide ((0:Int)>0) from rfl]
 cases y with
 | true=>rw[i_ rfl,j_ (by simpa using h2)]
 | false=>rw[j_ (by simp),i_ (by simpa using h2)]
theorem ghead_v (w b:List Int) (nd lo hi:Int) (hw:∀ v∈w,In8 v) (hb:∀ v∈b,In32 v) (wl:w.length≤100000) (bl:b.length≤100000) (h1:In8 lo) (h2:In8 hi):VC L_ 156 ([.agg (hedC w b nd),.agg [i8 lo,i8 hi]]) (i64 (headE w b lo hi)):=by
 have oz0:=@all_v (Nod.mk 0 0 0 0 0 0 0 0 0 w b 0 0 0 0 0 0 0 0) (lo) (hi) (by (exact hd_ok hw hb)) h1 h2 wl bl
 rcases bft ((↑(K_ rngC (allR w b lo hi 0 (decide (0>0)) (if sharedB w b=true then b.length else 0))).length:Int)==0) with hc0|hc0
 ·have gc0:(↑(K_ rngC (allR w b lo hi 0 (decide (0>0)) (if sharedB w b=true then b.length else 0))).length:Int)=0:=by first|exact hc0|exact of_decide_eq_true hc0|exact of_decide_eq_false hc0|simpa [eqNums] using hc0|(simp[eqNums] at hc0 ⊢;first|done|assumption|omega)
  exact (cR_ [r_,.r [] [cr oz0],r_,b_,r_] (i64 9) Tryz.func156 (.d2 oz0 hc0)).weak (AM_ _) (Q_ (by (exact hd9 (by assumption))))
 ·have gc0:¬(↑(K_ rngC (allR w b lo hi 0 (decide (0>0)) (if sharedB w b=true then b.length else 0))).length:Int)=0:=by first|exact hc0|exact of_decide_eq_true hc0|exact of_decide_eq_false hc0|simpa [eqNums] using hc0|(simp[eqNums] at hc0 ⊢;first|done|assumption|omega)
  have oz2:=@holds_v (allR w b lo hi 0 (decide (0>0)) (if sharedB w b=true then b.length else 0)) (by (exact hd_le w b lo hi bl))
  rcases bft (!(allR w b lo hi 0 (decide (0>0)) (if sharedB w b=true then b.length else 0)).all holdB) with hc1|hc1
  ·have gc1:(allR w b lo hi 0 (decide (0>0)) (if sharedB w b=true then b.length else 0)).all holdB=false:=by first|exact hc1|exact of_decide_eq_true hc1|exact of_decide_eq_false hc1|simpa [eqNums] using hc1|(simp[eqNums] at hc1 ⊢;first|done|assumption|omega)
   exact (cR_ [r_,.r [] [cr oz0],r_,d_,.r [] [cr oz2],b_,r_] (i64 10) Tryz.func156 (.d4 oz0 hc0 oz2 hc1)).weak (AM_ _) (Q_ (by (exact hd10 (y:=true) (by assumption) (by assumption))))
  ·have gc1:(allR w b lo hi 0 (decide (0>0)) (if sharedB w b=true then b.length else 0)).all holdB=true:=by first|exact hc1|exact of_decide_eq_true hc1|exact of_decide_eq_false hc1|simpa [eqNums] using hc1|(simp[eqNums] at hc1 ⊢;first|done|assumption|omega)
   exact (cR_ [r_,.r [] [cr oz0],r_,d_,.r [] [cr oz2],d_,r_] (i64 0) Tryz.func156 (.d4 oz0 hc0 oz2 hc1)).weak (AM_ _) (Q_ (by (exact hd10 (y:=false) (by assumption) (by assumption))))
abbrev rchC (r:Rng):List AV:=[i8 r.lo,i8 r.hi]
abbrev rch (r:Rng):AV:=.agg (rchC r)
def bothR (l:List Rng):Nat→Rng
 | 0=>l.getD 0 default
 | k+1=>⟨min (bothR l k).lo (l.getD k default).lo,max (bothR l k).hi (l.getD k default).hi⟩
noncomputable def both_l_I (l:List Rng) (k:Nat):VS:=stt 32 [(2,.ptr 2 0 0),(3,.ptr 3 0 0),(13,.sl 2 (l.map rngC)),(14,i64 l.length),(15,i64 k)] [(2,.var [i64 0,i64 0]),(3,.var (rngC (bothR l k)))]
noncomputable def both_l_Z (l:List Rng):VS:=both_l_I l (l.length)
theorem both_l_s (l:List Rng) (hl:l.length≤1000000) (k:Nat) (hk:k<l.length):VT L_ (fnC Tryz.f211 [1,1,1,0,1,0,0]) (both_l_I l k) .normal (both_l_I l (k+1)):=by
 have oz2:=(map_at (rngC) (default) (l:=l) (i:=k) hk)
 exact tR_ [r_,b_,.r [] [.row (sO oz2)],r_,.r [] [.n ((↑k:Int)+1)]] [.any (rg [(5,1),(16,15)]),.drop [5],.weak 15 (i64 (↑(k+1):Int)),.blk 3 (Blk.var [i64 (bothR l (k+1)).lo,i64 (bothR l (k+1)).hi]),.sort] (.d6 (decide_eq_true (p:=((↑k:Int)<(l.length:Int))) (by omega)) (s_ (0≤(↑k:Int))) oz2 (i6n ((↑k:Int)+1) (by omega)) (wS_ k) (show BlkW (Blk.var [i64 (if (l.getD k default).lo<(bothR l k).lo then (l.getD k default).lo else (bothR l k).lo),i64 (if (l.getD k default).hi>(bothR l k).hi then (l.getD k default).hi else (bothR l k).hi)]) (Blk.var [i64 (bothR l (k+1)).lo,i64 (bothR l (k+1)).hi]) from (BlkW.var (m:=[i64 (bothR l (k+1)).lo,i64 (bothR l (k+1)).hi]) (.cons (Q_ (by (simp only[bothR];split<;>omega))) (.cons (Q_ (by (simp only[bothR];split<;>omega))) .nil)))))
theorem both_l_e (l:List Rng) (hl:l.length≤1000000):VT L_ (fnC Tryz.f211 [1,1,1,0,1,0,0]) (both_l_I l (l.length)) (.exit 0) (both_l_Z l):=by
 exact tR_ [r_,d_] [.any [16],.sort] (.d (decide_eq_false (p:=((l.length:Int)<(l.length:Int))) (by omega)))
theorem both_l (l:List Rng) (hl:l.length≤1000000):VT L_ (fnC Tryz.f211 [1,1,1,0,1,0]) (both_l_I l 0) (.exit 0) (both_l_Z l) :=
 VT.loop (fun k=>both_l_I l k) (l.length) (fun k hk=>both_l_s l hl k hk) (both_l_e l hl) (by intro h;cases h)
theorem z3_:(0:Int)≤(0:Int):=by omega
theorem both_v (l:List Rng) (hl:l.length≤1000000):VC L_ 211 ([.sl 2 (l.map rngC)]) (rng (bothR l l.length)):=by
 rcases bft (((K_ rngC l).length:Int)==0) with hc0|hc0
 ·have gc0:((K_ rngC l).length:Int)=0:=bet hc0
  exact (cR_ [r_,r_,b_,r_] (AV.agg [i64 0,i64 0]) Tryz.func211 (.d hc0)).weak (AM_ _) (BL_ (.cons (Q_ (by (have:l=[]:=AC_ (by simp only[R_] at *;omega);subst this;rfl))) (.cons (Q_ (by (have:l=[]:=AC_ (by simp only[R_] at *;omega);subst this;rfl))) .nil)))
 ·have gc0:¬((K_ rngC l).length:Int)=0:=bef hc0
  have oz2:=(map_at (rngC) (default) (l:=l) (i:=0) (by (simp only[R_] at *;omega)))
  have oz6:=@both_l (l) hl
  exact cR_ [r_,r_,d_,.r [] [.row (sO oz2)],r_,.code [.any [0,6,7,8,10,11,12],.weak 14 (i64 (l.length:Int)),.weak 15 (i64 (↑0:Int)),.blk 3 (Blk.var [i64 (bothR l 0).lo,i64 (bothR l 0).hi]),.sort] (BO_ 0) (zO oz6),r_] _ Tryz.func211 (.d7 hc0 z3_ oz2 (Q_ (k:=.i64) (show ((((K_ rngC l).length:Int)):Int)=((l.length:Int)) from (by (simp;done)))) w0_ (show BlkW (Blk.var [i64 (l.getD 0 default).lo,i64 (l.getD 0 default).hi]) (Blk.var [i64 (bothR l 0).lo,i64 (bothR l 0).hi]) from (BlkW.var (m:=[i64 (bothR l 0).lo,i64 (bothR l 0).hi]) (.cons (Q_ (by rfl)) (.cons (Q_ (by rfl)) .nil)))) oz6)
def held32 (v:Int):Int:=if 2147483647<if -2147483648>v then -2147483648 else v then 2147483647 else if -2147483648>v then -2147483648 else v
theorem held32_in (v:Int):In32 (held32 v):=by unfold held32 In32;omega
theorem min_if (a b:Int):(if b<a then b else a)=min a b:=by omega
theorem max_if (a b:Int):(if b>a then b else a)=max a b:=by omega
def afterE (r:Rng) (n:Nod):Rng:=⟨min (heldQ (held32 r.lo) n.qm n.qs n.qz n.lo n.hi) (heldQ (held32 r.hi) n.qm n.qs n.qz n.lo n.hi),max (heldQ (held32 r.lo) n.qm n.qs n.qz n.lo n.hi) (heldQ (held32 r.hi) n.qm n.qs n.qz n.lo n.hi)⟩
theorem after_v (r:Rng) (n:Nod) (ok:n.Ok):VC L_ 210 ([rng r,.agg [i32 n.qm,i64 n.qs,i8 n.qz],i8 n.lo,i8 n.hi]) (.tup [i8 (afterE r n).lo,i8 (afterE r n).hi]):=by
 have ok_qm:=ok.qm
 have ok_qz:=ok.qz
 have ok_lo:=ok.lo
 have ok_hi:=ok.hi
 have q1:=held32_in r.lo
 have q2:=held32_in r.hi
 have oz0:=(CR_ (if 2147483647<if -2147483648>r.lo then -2147483648 else r.lo then 2147483647 else if -2147483648>r.lo then -2147483648 else r.lo) (by omega))
 have oz1:=@held_v (if 2147483647<if -2147483648>r.lo then -2147483648 else r.lo then 2147483647 else if -2147483648>r.lo then -2147483648 else r.lo) (n.qm) (n.qs) (n.qz) (n.lo) (n.hi) (by omega) ok_qm ok_qz ok_lo ok_hi
 have oz2:=(CR_ (if 2147483647<if -2147483648>r.hi then -2147483648 else r.hi then 2147483647 else if -2147483648>r.hi then -2147483648 else r.hi) (by omega))
 have oz3:=@held_v (if 2147483647<if -2147483648>r.hi then -2147483648 else r.hi then 2147483647 else if -2147483648>r.hi then -2147483648 else r.hi) (n.qm) (n.qs) (n.qz) (n.lo) (n.hi) (by omega) ok_qm ok_qz ok_lo ok_hi
 exact (cR_ [r_,.r [] [.n (nO oz0),cr oz1],.r [] [.n (nO oz2),cr oz3],r_] (AV.tup [i8 (if heldQ (if 2147483647<if -2147483648>r.hi then -2147483648 else r.hi then 2147483647 else if -2147483648>r.hi then -2147483648 else r.hi) n.qm n.qs n.qz n.lo n.hi<heldQ (if 2147483647<if -2147483648>r.lo then -2147483648 else r.lo then 2147483647 else if -2147483648>r.lo then -2147483648 else r.lo) n.qm n.qs n.qz n.lo n.hi then heldQ (if 2147483647<if -2147483648>r.hi then -2147483648 else r.hi then 2147483647 else if -2147483648>r.hi then -2147483648 else r.hi) n.qm n.qs n.qz n.lo n.hi else heldQ (if 2147483647<if -2147483648>r.lo then -2147483648 else r.lo then 2147483647 else if -2147483648>r.lo then -2147483648 else r.lo) n.qm n.qs n.qz n.lo n.hi),i8 (if heldQ (if 2147483647<if -2147483648>r.hi then -2147483648 else r.hi then 2147483647 else if -2147483648>r.hi then -2147483648 else r.hi) n.qm n.qs n.qz n.lo n.hi>heldQ (if 2147483647<if -2147483648>r.lo then -2147483648 else r.lo then 2147483647 else if -2147483648>r.lo then -2147483648 else r.lo) n.qm n.qs n.qz n.lo n.hi then heldQ (if 2147483647<if -2147483648>r.hi then -2147483648 else r.hi then 2147483647 else if -2147483648>r.hi then -2147483648 else r.hi) n.qm n.qs n.qz n.lo n.hi else heldQ (if 2147483647<if -2147483648>r.lo then -2147483648 else r.lo then 2147483647 else if -2147483648>r.lo then -2147483648 else r.lo) n.qm n.qs n.qz n.lo n.hi)]) Tryz.func210 (.d4 oz0 oz1 oz2 oz3)).weak (AM_ _) (AI_ (.cons (Q_ (by (exact min_if _ _))) (.cons (Q_ (by (exact max_if _ _))) .nil)))
theorem clamp_in (v:Int) {lo hi:Int} (h1:In8 lo) (h2:In8 hi):In8 (clampI v lo hi):=by
 unfold clampI;split
 ·exact h1
 ·split
  ·exact h2
  ·omega
def joinE (x y:Int) (n:Nod):Int:=if (rightQ n.qm n.qs&&rightQ n.rm n.rs)=true then clampI (rnd ((x-n.za)*n.qm) n.qs+rnd ((y-n.zb)*n.rm) n.rs+n.qz) n.lo n.hi else 0
theorem mul_bd9 (a m:Int) (a0 : -255≤a) (a1:a≤255) (hm:In32 m) : -547608330240≤a*m∧a*m≤547608330240:=by
 obtain ⟨m0,m1⟩:=hm
 have h1:(a.natAbs*m.natAbs:Nat)≤255*2147483648:=Nat.mul_le_mul (by omega) (by omega)
 have:=Int.natAbs_mul a m
 omega
theorem joinP (v z m s:Int) (h1:In8 v) (h2:In8 z) (h3:In32 m):(-547608330240≤(v-z)*m∧(v-z)*m≤547608330240) ∧ -547608330240≤rnd ((v-z)*m) s∧rnd ((v-z)*m) s≤547608330240:=by
 have q:=mul_bd9 (v-z) m (by omega) (by omega) h3
 exact ⟨q,rnd_bd _ s _ q.1 q.2⟩
theorem joinMay_v (n:Nod)  : VC L_ 212 ([nod n]) (bv (rightQ n.qm n.qs&&rightQ n.rm n.rs)):=by
 have oz0:=@right_v (n.qm) (n.qs) (n.qz)
 have oz1:=@right_v (n.rm) (n.rs) (n.rz)
 exact cR_ [r_,.r [] [cr oz0,o_,o_,o_,cr oz1,.sel 2]] _ Tryz.func212 (.d2 oz0 oz1)
theorem joinScaled_v (v z m s z2:Int) (h1:In8 v) (h2:In8 z) (h3:In32 m):VC L_ 214 ([i8 v,i8 z,.agg [i32 m,i64 s,i8 z2]]) (i64 (rnd ((v-z)*m) s)):=by
 have oz3:=@scale_v (v-z) (m) (s) (by omega) h3
 exact cR_ [r_,.r [] [.n v,.n z,.n (v-z),cr oz3]] _ Tryz.func214 (.d4 (CR_ v (by omega)) (CR_ z (by omega)) (CR_ (v-z) (by omega)) oz3)
theorem joinOne_v (x y:Int) (n:Nod) (ok:n.Ok) (hx:In8 x) (hy:In8 y):VC L_ 204 ([i8 x,i8 y,nod n]) (i8 (joinE x y n)):=by
 have ok_za:=ok.za
 have ok_zb:=ok.zb
 have ok_qm:=ok.qm
 have ok_rm:=ok.rm
 have ok_lo:=ok.lo
 have ok_hi:=ok.hi
 have ok_qz:=ok.qz
 have q1:=joinP x n.za n.qm n.qs hx ok.za ok.qm
 have q2:=joinP y n.zb n.rm n.rs hy ok.zb ok.rm
 have oz0:=@joinMay_v (n)
 rcases bft (!(rightQ n.qm n.qs&&rightQ n.rm n.rs)) with hc0|hc0
 ·have gc0:rightQ n.qm n.qs=false∨rightQ n.rm n.rs=false:=gc0_ hc0
  exact (cR_ [r_,.r [] [cr oz0],b_,r_] (i8 0) Tryz.func204 (.d2 oz0 hc0)).weak (AM_ _) (Q_ (by (unfold joinE;rw[j_ (by intro hh;simp only[N_] at hh;simp_all)])))
 ·have gc0:rightQ n.qm n.qs=true∧rightQ n.rm n.rs=true:=gc0_ hc0
  have oz2:=@joinScaled_v (x) (n.za) (n.qm) (n.qs) (n.qz) hx ok_za ok_qm
  have oz3:=@joinScaled_v (y) (n.zb) (n.rm) (n.rs) (n.rz) hy ok_zb ok_rm
  have oz4:=(i6n (rnd ((x-n.za)*n.qm) n.qs+rnd ((y-n.zb)*n.rm) n.rs) (by omega))
  have oz6:=(i6n (rnd ((x-n.za)*n.qm) n.qs+rnd ((y-n.zb)*n.rm) n.rs+n.qz) (by omega))
  have oz7:=@clamp_v (rnd ((x-n.za)*n.qm) n.qs+rnd ((y-n.zb)*n.rm) n.rs+n.qz) (n.lo) (n.hi) ok_lo ok_hi
  exact (cR_ [r_,.r [] [cr oz0],d_,.r [] [cr oz2,cr oz3,.n (nO oz4),.n n.qz,.n (nO oz6),cr oz7]] (i8 (clampI (rnd ((x-n.za)*n.qm) n.qs+rnd ((y-n.zb)*n.rm) n.rs+n.qz) n.lo n.hi)) Tryz.func204 (.d8 oz0 hc0 oz2 oz3 oz4 (i6n n.qz (by omega)) oz6 oz7)).weak (AM_ _) (Q_ (by (unfold joinE;rw[i_ (by simp_all)])))
theorem all_le (w b:List Int) (lo hi z:Int) (g:Bool) (bl:b.length≤100000):(allR w b lo hi z g (if sharedB w b=true then b.length else 0)).length≤1000000:=by
 have:(allR w b lo hi z g (if sharedB w b=true then b.length else 0)).length=if sharedB w b=true then b.length else 0:=by simp[allR]
 rw[this];split<;>omega
def spansN (n:Nod) (a:Rng):List Rng:=allR n.w n.b a.lo a.hi n.za (decide (n.np>0)) (if sharedB n.w n.b=true then n.b.length else 0)
def sumG (n:Nod) (a:Rng):Rng×Int:=if (spansN n a).all holdB=true then (afterE (bothR (spansN n a) (spansN n a).length) n,0) else (⟨0,0⟩,10)
theorem sumG_y {n:Nod} {a:Rng} (h:(allR n.w n.b a.lo a.hi n.za (decide (n.np>0)) (if sharedB n.w n.b=true then n.b.length else 0)).all holdB=true):sumG n a=(afterE (bothR (spansN n a) (spansN n a).length) n,0):=i_ h
theorem summed_v (n:Nod) (a:Rng) (ok:n.Ok) (h1:In8 a.lo) (h2:In8 a.hi) (wl:n.w.length≤100000) (bl:n.b.length≤100000):VC L_ 203 ([nod n,rch a]) (.tup [rch (sumG n a).1,i64 (sumG n a).2]):=by
 have q:=all_le n.w n.b a.lo a.hi n.za (decide (n.np>0)) bl
 have oz0:=@all_v (n) (a.lo) (a.hi) ok h1 h2 wl bl
 have oz1:=@holds_v (allR n.w n.b a.lo a.hi n.za (decide (n.np>0)) (if sharedB n.w n.b=true then n.b.length else 0)) q
 rcases bft (!(allR n.w n.b a.lo a.hi n.za (decide (n.np>0)) (if sharedB n.w n.b=true then n.b.length else 0)).all holdB) with hc0|hc0
 ·have gc0:(allR n.w n.b a.lo a.hi n.za (decide (n.np>0)) (if sharedB n.w n.b=true then n.b.length else 0)).all holdB=false:=by first|exact hc0|exact of_decide_eq_true hc0|exact of_decide_eq_false hc0|simpa [eqNums] using hc0|(simp[eqNums] at hc0 ⊢;first|done|assumption|omega)
  exact (cR_ [r_,.r [] [cr oz0],.r [] [cr oz1],b_,r_] (AV.tup [AV.agg [i8 0,i8 0],i64 10]) Tryz.func203 (.d3 oz0 oz1 hc0)).weak (AM_ _) (AI_ (.cons (BL_ (.cons (Q_ (by (unfold sumG spansN;rw[j_ (by simp_all)]))) (.cons (Q_ (by (unfold sumG spansN;rw[j_ (by simp_all)]))) .nil))) (.cons (Q_ (by (unfold sumG spansN;rw[j_ (by simp_all)]))) .nil)))
 ·have gc0:(allR n.w n.b a.lo a.hi n.za (decide (n.np>0)) (if sharedB n.w n.b=true then n.b.length else 0)).all holdB=true:=by first|exact hc0|exact of_decide_eq_true hc0|exact of_decide_eq_false hc0|simpa [eqNums] using hc0|(simp[eqNums] at hc0 ⊢;first|done|assumption|omega)
  have oz3:=@both_v (allR n.w n.b a.lo a.hi n.za (decide (n.np>0)) (if sharedB n.w n.b=true then n.b.length else 0)) q
  have oz4:=@after_v (bothR (allR n.w n.b a.lo a.hi n.za (decide (n.np>0)) (if sharedB n.w n.b=true then n.b.length else 0)) (allR n.w n.b a.lo a.hi n.za (decide (n.np>0)) (if sharedB n.w n.b=true then n.b.length else 0)).length) (n) ok
  exact (cR_ [r_,.r [] [cr oz0],.r [] [cr oz1],d_,.r [] [cr oz3,cr oz4],r_] (AV.tup [AV.agg [i8 (afterE (bothR (allR n.w n.b a.lo a.hi n.za (decide (n.np>0)) (if sharedB n.w n.b=true then n.b.length else 0)) (allR n.w n.b a.lo a.hi n.za (decide (n.np>0)) (if sharedB n.w n.b=true then n.b.length else 0)).length) n).lo,i8 (afterE (bothR (allR n.w n.b a.lo a.hi n.za (decide (n.np>0)) (if sharedB n.w n.b=true then n.b.length else 0)) (allR n.w n.b a.lo a.hi n.za (decide (n.np>0)) (if sharedB n.w n.b=true then n.b.length else 0)).length) n).hi],i64 0]) Tryz.func203 (.d5 oz0 oz1 hc0 oz3 oz4)).weak (AM_ _) (AI_ (.cons (BL_ (.cons (Q_ (by (rw[sumG_y (by assumption)]<;>rfl))) (.cons (Q_ (by (rw[sumG_y (by assumption)]<;>rfl))) .nil))) (.cons (Q_ (by (rw[sumG_y (by assumption)]<;>rfl))) .nil)))
instance:Inhabited Nod:=⟨⟨0,0,0,0,0,0,0,0,0,[],[],0,0,0,0,0,0,0,0⟩⟩
instance:Inhabited Shp:=⟨⟨0,0,0⟩⟩
abbrev shpC (s:Shp):List AV:=[i64 s.h,i64 s.x,i64 s.c]
def firstBad (p:Nat→Bool):Nat→Nat
 | 0=>0
 | n+1=>if firstBad p n<n then firstBad p n else if p n=true then n+1 else n
theorem firstBad_all {p:Nat→Bool}:∀ {n},(∀ k,k<n→p k=true)→firstBad p n=n
 | 0,_=>rfl
 | n+1,h=>by rw[firstBad,firstBad_all fun k hk=>h k (by omega),j_ (by omega),i_ (h n (by omega))]
theorem firstBad_at {p:Nat→Bool} {m:Nat} (hp:p m=false) (h:∀ k,k<m→p k=true):∀ {n},m<n→firstBad p n=m
 | n+1,hm=>by
  by_cases e:m=n
  ·subst e;rw[firstBad,firstBad_all h,j_ (by omega),j_ (by simp[hp])]
  ·rw[firstBad,firstBad_at hp h (s_ (m<n)),i_ (by omega)]
theorem firstBad_le {p:Nat→Bool}:∀ n,firstBad p n≤n
 | 0=>AX_ _
 | n+1=>by have:=firstBad_le (p:=p) n;rw[firstBad];split<;>(try split)<;>omega
def growL {α:Type} (f:Nod→List α→α×Int) (l:List Nod) (x:α):Nat→List α
 | 0=>[x]
 | k+1=>growL f l x k++[(f (l.getD k default) (growL f l x k)).1]
def errL {α:Type} (f:Nod→List α→α×Int) (l:List Nod) (x:α) (k:Nat):Int:=(f (l.getD k default) (growL f l x k)).2
theorem growL_len {α:Type} (f:Nod→List α→α×Int) (l:List Nod) (x:α):∀ k,(growL f l x k).length=k+1
 | 0=>rfl
 | k+1=>by rw[growL,P_,growL_len f l x k];rfl
theorem growL_all {α:Type} {f:Nod→List α→α×Int} {l:List Nod} {x:α} {p:α→Prop} (h0:p x) {n:Nat} (h:∀ k,k<n→(∀ y∈growL f l x k,p y)→p (f (l.getD k default) (growL f l x k)).1):∀ k,k≤n→∀ y∈growL f l x k,p y
 | 0,_=>by intro y hy;simp only[growL,List.mem_singleton] at hy;subst hy;exact h0
 | k+1,hk=>by
  have ih:=growL_all h0 h k (by omega)
  intro y hy
  rw[growL,BH_,List.mem_singleton] at hy
  rcases hy with hy|rfl
  ·exact ih y hy
  ·exact h k (by omega) ih
theorem getD_in {α:Type} [Inhabited α] {l:List α} {p:α→Prop} (h:∀ y∈l,p y) {i:Nat} (hi:i<l.length):p (l.getD i default):=by
 rw[AU_,Z_ hi];exact h _ (CW_ hi)
def takesL (n:Nod):List Int:=if n.kd=6 then [n.na,n.nb] else [n.na]
def secN (n:Nod):Int:=if n.kd=6 then n.nb else n.na
def thereB (n:Nod) (m:Int):Bool:=decide (0≤n.na)&&decide (n.na<m)&&decide (0≤secN n)&&decide (secN n<m)
theorem takes_v (n:Nod)  : VC L_ 186 ([nod n]) (ints .i64 (takesL n)):=by
 rcases bft (n.kd==6) with hc0|hc0
 ·have gc0:n.kd=6:=bet hc0
  exact (cR_ [r_,r_,b_,r_] (AV.sl 1 [[i64 n.na],[i64 n.nb]]) Tryz.func186 (.d hc0)).weak (AM_ _) (BQ_ (rows_to (row1 .i64) (r:=[[i64 n.na],[i64 n.nb]]) (l:=[n.na,n.nb]) (m:=takesL n) (by first|(simp only[B_,C_,AO_,AP_,W_,AK_,AL_];done)|rfl|(simp only[B_,C_,AO_,AP_,W_,AK_,AL_];rfl)) (show ([n.na,n.nb])=(takesL n) from (by (unfold takesL;rw[i_ (by simp_all)])))))
 ·have gc0:¬n.kd=6:=bef hc0
  exact (cR_ [r_,r_,d_,r_] (AV.sl 1 [[i64 n.na]]) Tryz.func186 (.d hc0)).weak (AM_ _) (BQ_ (rows_to (row1 .i64) (r:=[[i64 n.na]]) (l:=[n.na]) (m:=takesL n) (by first|(simp only[B_,C_,AO_,AP_,W_,AK_,AL_];done)|rfl|(simp only[B_,C_,AO_,AP_,W_,AK_,AL_];rfl)) (show ([n.na])=(takesL n) from (by (unfold takesL;rw[j_ (by simp_all)])))))
theorem takes_len (n:Nod):1≤(takesL n).length∧(takesL n).length≤2:=by unfold takesL;split<;>simp
theorem takes_last (n:Nod) {i:Nat} (hi:i=(takesL n).length-1):(takesL n).getD i 0=secN n:=by subst hi;unfold takesL secN;split<;>rfl
theorem takes_there (n:Nod) (m:Int):(∀ k,k<(takesL n).length→decide (0≤(takesL n).getD k 0∧(takesL n).getD k 0<m)=true)↔thereB n m=true:=by
 unfold takesL thereB secN
 split
 ·simp only[AE_,CQ_,N_,E_]
  constructor
  ·intro h
   have h0:=h 0 (by omega);have h1:=h 1 (by omega)
   simp only[List.getD_cons_zero,List.getD_cons_succ] at h0 h1
   omega
  ·intro h k hk
   match k,hk with
   | 0,_=>simp only[List.getD_cons_zero];omega
   | 1,_=>simp only[List.getD_cons_zero,List.getD_cons_succ];omega
   | k+2,hk=>omega
 ·simp only[AE_,CQ_,N_,E_]
  constructor
  ·intro h
   have h0:=h 0 (by omega)
   simp only[List.getD_cons_zero] at h0
   omega
  ·intro h k hk
   have:k=0:=by omega
   subst this
   simp only[List.getD_cons_zero];omega
noncomputable def there_ly_I (l:List Int) (m:Int) (k:Nat):VS:=stt 22 [(1,i64 m),(8,ints .i64 l),(9,i64 l.length),(10,i64 k)] []
noncomputable def there_ly_Z (l:List Int) (m:Int):VS:=there_ly_I l m (l.length)
theorem there_ly_s (l:List Int) (m:Int) (hl:l.length≤1000) (h:∀ k,k<l.length→0≤l.getD k 0∧l.getD k 0<m) (k:Nat) (hk:k<l.length):VT L_ (fnC Tryz.f157 [1,0,1,0,0]) (there_ly_I l m k) .normal (there_ly_I l m (k+1)):=by
 have q:=h k hk
 have oz3:=(decide_eq_false (p:=(l.getD k 0<0)) (by omega))
 exact tR_ [r_,b_,.r [] [.row [i64 (l.getD k 0)]],.r [] [e_,e_,e_,f_],d_,.r [] [.n ((↑k:Int)+1)]] [.any (rg [(6,1),(11,11)]),.weak 10 (i64 (↑(k+1):Int)),.sort] (.c8 (decide_eq_true (p:=((↑k:Int)<(l.length:Int))) (by omega)) (s_ (0≤(↑k:Int))) (map_at (row1 .i64) (0) (l:=l) (i:=k) hk) oz3 oz3 oz3 oz3 (decide_eq_false (p:=(l.getD k 0≥m)) (by omega))<|.d2 (i6n ((↑k:Int)+1) (by omega)) (wS_ k))
theorem there_ly_e (l:List Int) (m:Int) (hl:l.length≤1000) (h:∀ k,k<l.length→0≤l.getD k 0∧l.getD k 0<m):VT L_ (fnC Tryz.f157 [1,0,1,0,0]) (there_ly_I l m (l.length)) (.exit 0) (there_ly_Z l m):=by
 exact tR_ [r_,d_] [.any [11],.sort] (.d (decide_eq_false (p:=((l.length:Int)<(l.length:Int))) (by omega)))
theorem there_ly (l:List Int) (m:Int) (hl:l.length≤1000) (h:∀ k,k<l.length→0≤l.getD k 0∧l.getD k 0<m):VT L_ (fnC Tryz.f157 [1,0,1,0]) (there_ly_I l m 0) (.exit 0) (there_ly_Z l m) :=
 VT.loop (fun k=>there_ly_I l m k) (l.length) (fun k hk=>there_ly_s l m hl h k hk) (there_ly_e l m hl h) (by intro h;cases h)
noncomputable def there_ln_I (l:List Int) (m:Int) (j:Nat) (k:Nat):VS:=stt 22 [(1,i64 m),(8,ints .i64 l),(9,i64 l.length),(10,i64 k)] []
noncomputable def there_ln_Z (l:List Int) (m:Int) (j:Nat):VS:=stt 22 [(4,bv false)] []
theorem there_ln_s (l:List Int) (m:Int) (j:Nat) (hl:l.length≤1000) (hj:j<l.length) (hf:¬ (0≤l.getD j 0∧l.getD j 0<m)) (h:∀ k,k<j→0≤l.getD k 0∧l.getD k 0<m) (k:Nat) (hk:k<j):VT L_ (fnC Tryz.f157 [1,0,1,0,0]) (there_ln_I l m j k) .normal (there_ln_I l m j (k+1)):=by
 have q:=h k hk
 have oz3:=(decide_eq_false (p:=(l.getD k 0<0)) (by omega))
 exact tR_ [r_,b_,.r [] [.row [i64 (l.getD k 0)]],.r [] [e_,e_,e_,f_],d_,.r [] [.n ((↑k:Int)+1)]] [.any (rg [(6,1),(11,11)]),.weak 10 (i64 (↑(k+1):Int)),.sort] (.c8 (decide_eq_true (p:=((↑k:Int)<(l.length:Int))) (by omega)) (s_ (0≤(↑k:Int))) (map_at (row1 .i64) (0) (l:=l) (i:=k) (by omega)) oz3 oz3 oz3 oz3 (decide_eq_false (p:=(l.getD k 0≥m)) (by omega))<|.d2 (i6n ((↑k:Int)+1) (by omega)) (wS_ k))
theorem there_ln_e (l:List Int) (m:Int) (j:Nat) (hl:l.length≤1000) (hj:j<l.length) (hf:¬ (0≤l.getD j 0∧l.getD j 0<m)) (h:∀ k,k<j→0≤l.getD k 0∧l.getD k 0<m):VT L_ (fnC Tryz.f157 [1,0,1,0,0]) (there_ln_I l m j (j)) (.ret) (there_ln_Z l m j):=by
 exact tR_ [r_,b_,.r [] [.row [i64 (l.getD j 0)]],.r [] [o_,o_,o_,.sel 1],b_,r_] [.any (rg [(1,1),(6,1),(8,9),(20,1)]),.sort] (.d4 (decide_eq_true (p:=((↑j:Int)<(l.length:Int))) (by omega)) (s_ (0≤(↑j:Int))) (map_at (row1 .i64) (0) (l:=l) (i:=j) hj) (show (decide (l.getD j 0<0) || decide (l.getD j 0≥m))=true by (simp at *;omega)))
theorem there_ln (l:List Int) (m:Int) (j:Nat) (hl:l.length≤1000) (hj:j<l.length) (hf:¬ (0≤l.getD j 0∧l.getD j 0<m)) (h:∀ k,k<j→0≤l.getD k 0∧l.getD k 0<m):VT L_ (fnC Tryz.f157 [1,0,1,0]) (there_ln_I l m j 0) (.ret) (there_ln_Z l m j) :=
 VT.loop (fun k=>there_ln_I l m j k) (j) (fun k hk=>there_ln_s l m j hl hj hf h k hk) (there_ln_e l m j hl hj hf h) (by intro h;cases h)
theorem there_y (n:Nod) (m:Int) (h:∀ k,k<(takesL n).length→0≤(takesL n).getD k 0∧(takesL n).getD k 0<m):VC L_ 157 ([nod n,i64 m]) (bv true):=by
 have q:=takes_len n
 have oz0:=@takes_v (n)
 have oz1:=(Q_ (k:=.i64) (show ((((K_ (row1 .i64) (takesL n)).length:Int)):Int)=(((takesL n).length:Int)) from (by (simp;done))))
 have oz3:=@there_ly (takesL n) (m) (by omega) h
 exact cR_ [r_,.r [] [cr oz0],.code [.any [0,2,4,7],.drop [2],.weak 9 (wO oz1),.weak 10 (i64 (↑0:Int)),.sort] (BO_ 0) (zO oz3),r_] _ Tryz.func157 (.d4 oz0 oz1 w0_ oz3)
theorem there_n (n:Nod) (m:Int) (j:Nat) (hj:j<(takesL n).length) (hf:¬ (0≤(takesL n).getD j 0∧(takesL n).getD j 0<m)) (h:∀ k,k<j→0≤(takesL n).getD k 0∧(takesL n).getD k 0<m):VC L_ 157 ([nod n,i64 m]) (bv false):=by
 have q:=takes_len n
 have oz0:=@takes_v (n)
 have oz1:=(Q_ (k:=.i64) (show ((((K_ (row1 .i64) (takesL n)).length:Int)):Int)=(((takesL n).length:Int)) from (by (simp;done))))
 have oz3:=@there_ln (takesL n) (m) (j) (by omega) hj hf h
 exact cR_ [r_,.r [] [cr oz0],.code [.any [0,2,4,7],.drop [2],.weak 9 (wO oz1),.weak 10 (i64 (↑0:Int)),.sort] (Exit.ret) (zO oz3)] _ Tryz.func157 (.d4 oz0 oz1 w0_ oz3)
theorem there_v (n:Nod) (m:Int):VC L_ 157 [nod n,i64 m] (bv (thereB n m)):=by
 rcases all_or (fun k=>decide (0≤(takesL n).getD k 0∧(takesL n).getD k 0<m)) (takesL n).length with h|⟨j,h1,h2,h3⟩
 ·rw[(takes_there n m).1 h];exact there_y n m fun k hk=>of_decide_eq_true (h k hk)
 ·have:thereB n m=false:=by
   cases e:thereB n m with
   | false=>rfl
   | true=>have:=(takes_there n m).2 e j h1;rw[h2] at this;cases this
  rw[this];exact there_n n m j h1 (of_decide_eq_false h2) fun k hk=>of_decide_eq_true (h3 k hk)
theorem gof_v (n:Nod)  : VC L_ 159 ([nod n]) (i64 (secN n)):=by
 have q:=takes_len n
 have q2:(K_ (row1 .i64) (takesL n)).length=(takesL n).length:=R_ _
 have oz0:=@takes_v (n)
 have oz1:=(i6n (((K_ (row1 .i64) (takesL n)).length:Int)-1) (by omega))
 have oz3:=(map_at (row1 .i64) (0) (l:=takesL n) (i:=(((K_ (row1 .i64) (takesL n)).length:Int)-1).toNat) (by omega))
 exact (cR_ [r_,.r [] [cr oz0],.r [] [.n (nO oz1),.row (sO oz3)]] (i64 ((takesL n).getD (((K_ (row1 .i64) (takesL n)).length:Int)-1).toNat 0)) Tryz.func159 (.d4 oz0 oz1 (s_ (0≤((K_ (row1 .i64) (takesL n)).length:Int)-1)) oz3)).weak (AM_ _) (Q_ (by (exact takes_last n (by omega))))
def nextE (n:Nod) (L:List Shp):Shp×Int:=if checkE n≠0 then (⟨0,0,0⟩,checkE n) else if thereB n L.length=true then shapeE n (L.getD n.na.toNat default) (L.getD (secN n).toNat default) else (⟨0,0,0⟩,8)
theorem there_iff {n:Nod} {m:Int}:thereB n m=true↔0≤n.na∧n.na<m∧0≤secN n∧secN n<m:=by
 unfold thereB;simp only[N_,E_];omega
theorem next_v (n:Nod) (L:List Shp) (ok:n.Ok) (okL:∀ s∈L,s.Ok) (hL:L.length≤100) (wl:n.w.length≤100000) (bl:n.b.length≤100000):VC L_ 129 ([nod n,.sl 3 (L.map shpC)]) (.tup [shp (nextE n L).1,i64 (nextE n L).2]):=by
 have q1:=@there_iff n L.length
 have q2:=ok.kd
 have q3:=fun (h:n.na.toNat<L.length)=>getD_in okL h
 have q4:=fun (h:(secN n).toNat<L.length)=>getD_in okL h
 have oz0:=@check_v (n) wl bl q2
 rcases bft (checkE n != 0) with hc0|hc0
 ·have gc0:¬checkE n=0:=bdt hc0
  exact (cR_ [r_,.r [] [cr oz0],r_,b_,r_] (AV.tup [AV.agg [i64 0,i64 0,i64 0],i64 (checkE n)]) Tryz.func129 (.d2 oz0 hc0)).weak (AM_ _) (AI_ (.cons (BL_ (.cons (Q_ (by (unfold nextE;rw[i_ (by simp_all)]))) (.cons (Q_ (by (unfold nextE;rw[i_ (by simp_all)]))) (.cons (Q_ (by (unfold nextE;rw[i_ (by simp_all)]))) .nil)))) (.cons (Q_ (by (unfold nextE;rw[i_ (by simp_all)]))) .nil)))
 ·have gc0:checkE n=0:=bdf hc0
  have oz2:=@there_v (n) (((K_ shpC L).length:Int))
  rcases bft (!thereB n ((K_ shpC L).length:Int)) with hc1|hc1
  ·have gc1:thereB n ((K_ shpC L).length:Int)=false:=by first|exact hc1|exact of_decide_eq_true hc1|exact of_decide_eq_false hc1|simpa [eqNums] using hc1|(simp[eqNums] at hc1 ⊢;first|done|assumption|omega)
   exact (cR_ [r_,.r [] [cr oz0],r_,d_,.r [] [cr oz2],b_,r_] (AV.tup [AV.agg [i64 0,i64 0,i64 0],i64 8]) Tryz.func129 (.d4 oz0 hc0 oz2 hc1)).weak (AM_ _) (AI_ (.cons (BL_ (.cons (Q_ (by (unfold nextE;rw[j_ (by simp_all),j_ (by simp_all)]))) (.cons (Q_ (by (unfold nextE;rw[j_ (by simp_all),j_ (by simp_all)]))) (.cons (Q_ (by (unfold nextE;rw[j_ (by simp_all),j_ (by simp_all)]))) .nil)))) (.cons (Q_ (by (unfold nextE;rw[j_ (by simp_all),j_ (by simp_all)]))) .nil)))
  ·have gc1:thereB n ((K_ shpC L).length:Int)=true:=by first|exact hc1|exact of_decide_eq_true hc1|exact of_decide_eq_false hc1|simpa [eqNums] using hc1|(simp[eqNums] at hc1 ⊢;first|done|assumption|omega)
   have oz5:=(map_at (shpC) (default) (l:=L) (i:=n.na.toNat) (by (have:=q1.1 (by simp_all);omega)))
   have oz6:=@gof_v (n)
   have oz8:=(map_at (shpC) (default) (l:=L) (i:=(secN n).toNat) (by (have:=q1.1 (by simp_all);omega)))
   have oz9:=@kshape_v (n) (L.getD n.na.toNat default) (L.getD (secN n).toNat default) (by (exact q3 (by have:=q1.1 (by simp_all);omega))) (by (exact q4 (by have:=q1.1 (by simp_all);omega))) ok
   exact (cR_ [r_,.r [] [cr oz0],r_,d_,.r [] [cr oz2],d_,.r [] [.row (sO oz5),cr oz6,.row (sO oz8),cr oz9]] (AV.tup [AV.agg [i64 (shapeE n (L.getD n.na.toNat default) (L.getD (secN n).toNat default)).fst.h,i64 (shapeE n (L.getD n.na.toNat default) (L.getD (secN n).toNat default)).fst.x,i64 (shapeE n (L.getD n.na.toNat default) (L.getD (secN n).toNat default)).fst.c],i64 (shapeE n (L.getD n.na.toNat default) (L.getD (secN n).toNat default)).snd]) Tryz.func129 (.c8 oz0 hc0 oz2 hc1 (show 0≤n.na by (have:=q1.1 (by simp_all);omega)) oz5 oz6 (show 0≤secN n by (have:=q1.1 (by simp_all);omega))<|.d2 oz8 oz9)).weak (AM_ _) (AI_ (.cons (BL_ (.cons (Q_ (by (unfold nextE;rw[j_ (by simp_all),i_ (by simp_all)]))) (.cons (Q_ (by (unfold nextE;rw[j_ (by simp_all),i_ (by simp_all)]))) (.cons (Q_ (by (unfold nextE;rw[j_ (by simp_all),i_ (by simp_all)]))) .nil)))) (.cons (Q_ (by (unfold nextE;rw[j_ (by simp_all),i_ (by simp_all)]))) .nil)))
def Rng.In8 (a:Rng):Prop:=Go.Proofs.YtdfihaminnmgpaaGreat.In8 a.lo∧Go.Proofs.YtdfihaminnmgpaaGreat.In8 a.hi
def nodeR (n:Nod) (a b:Rng):Rng×Int :=
 if checkE n≠0 then (⟨0,0⟩,checkE n) else if a.lo>a.hi∨(n.kd=6∧b.lo>b.hi) then (⟨0,0⟩,2)
 else if n.kd=1∨n.kd=2∨n.kd=3 then sumG n a
 else if n.kd=6 then (⟨joinE a.lo b.lo n,joinE a.hi b.hi n⟩,0)
 else if n.kd=7 then (⟨oneN a.lo n,oneN a.hi n⟩,0)
 else if n.kd=8∧n.np>0 then (⟨min a.lo n.za,max a.hi n.za⟩,0) else (a,0)
noncomputable def ends64_l_I (a:Int) (l:List Int) (k:Nat):VS:=stt 27 [(6,i64 (foldR a l k).lo),(7,i64 (foldR a l k).hi),(12,ints .i64 l),(13,i64 l.length),(14,i64 k)] []
noncomputable def ends64_l_Z (a:Int) (l:List Int):VS:=ends64_l_I a l (l.length)
theorem ends64_l_s (a:Int) (l:List Int) (hl:l.length≤1000) (k:Nat) (hk:k<l.length):VT L_ (fnC Tryz.f182 [1,1,0,1,0,0]) (ends64_l_I a l k) .normal (ends64_l_I a l (k+1)):=by
 have oz4:=(Q_ (k:=.i64) (show ((if l.getD k 0<(foldR a l k).lo then l.getD k 0 else (foldR a l k).lo):Int)=((foldR a l (k+1)).lo) from (by (simp only[foldR];split<;>omega))))
 have oz5:=(Q_ (k:=.i64) (show ((if l.getD k 0>(foldR a l k).hi then l.getD k 0 else (foldR a l k).hi):Int)=((foldR a l (k+1)).hi) from (by (simp only[foldR];split<;>omega))))
 exact tR_ [r_,b_,.r [] [.row [i64 (l.getD k 0)]],r_,.r [] [.n ((↑k:Int)+1)]] [.any (rg [(9,1),(15,10)]),.weak 6 (wO oz4),.weak 7 (wO oz5),.weak 14 (i64 (↑(k+1):Int)),.sort] (.d7 (decide_eq_true (p:=((↑k:Int)<(l.length:Int))) (by omega)) (s_ (0≤(↑k:Int))) (map_at (row1 .i64) (0) (l:=l) (i:=k) hk) (i6n ((↑k:Int)+1) (by omega)) oz4 oz5 (wS_ k))
theorem ends64_l_e (a:Int) (l:List Int) (hl:l.length≤1000):VT L_ (fnC Tryz.f182 [1,1,0,1,0,0]) (ends64_l_I a l (l.length)) (.exit 0) (ends64_l_Z a l):=by
 exact tR_ [r_,d_] [.any [15],.sort] (.d (decide_eq_false (p:=((l.length:Int)<(l.length:Int))) (by omega)))
theorem ends64_l (a:Int) (l:List Int) (hl:l.length≤1000):VT L_ (fnC Tryz.f182 [1,1,0,1,0]) (ends64_l_I a l 0) (.exit 0) (ends64_l_Z a l) :=
 VT.loop (fun k=>ends64_l_I a l k) (l.length) (fun k hk=>ends64_l_s a l hl k hk) (ends64_l_e a l hl) (by intro h;cases h)
theorem ends64_v (a:Int) (l:List Int) (hl:l.length≤1000):VC L_ 182 ([i64 a,ints .i64 l]) (.tup [i64 (foldR a l l.length).lo,i64 (foldR a l l.length).hi]):=by
 have oz1:=(Q_ (k:=.i64) (show ((((K_ (row1 .i64) l).length:Int)):Int)=((l.length:Int)) from (by (simp;done))))
 have oz3:=@ends64_l (a) (l) hl
 exact cR_ [r_,r_,r_,.code [.any [0,1,4,5,10,11],.weak 7 (i64 (foldR a l 0).hi),.weak 13 (wO oz1),.weak 14 (i64 (↑0:Int)),.sort] (BO_ 0) (zO oz3),r_] _ Tryz.func182 (.d4 (Q_ (k:=.i64) (show ((a):Int)=((foldR a l 0).hi) from (by rfl))) oz1 w0_ oz3)
theorem ends64_1 (a b:Int):VC L_ 182 [i64 a,.sl 1 [[i64 b]]] (.tup [i64 (min a b),i64 (max a b)]):=ends64_v a [b] (by simp)
noncomputable def ends8_l_I (a:Int) (l:List Int) (k:Nat):VS:=stt 27 [(6,i8 (foldR a l k).lo),(7,i8 (foldR a l k).hi),(12,ints .i8 l),(13,i64 l.length),(14,i64 k)] []
noncomputable def ends8_l_Z (a:Int) (l:List Int):VS:=ends8_l_I a l (l.length)
theorem ends8_l_s (a:Int) (l:List Int) (hl:l.length≤1000) (k:Nat) (hk:k<l.length):VT L_ (fnC Tryz.f216 [1,1,0,1,0,0]) (ends8_l_I a l k) .normal (ends8_l_I a l (k+1)):=by
 have oz4:=(Q_ (k:=.i8) (show ((if l.getD k 0<(foldR a l k).lo then l.getD k 0 else (foldR a l k).lo):Int)=((foldR a l (k+1)).lo) from (by (simp only[foldR];split<;>omega))))
 have oz5:=(Q_ (k:=.i8) (show ((if l.getD k 0>(foldR a l k).hi then l.getD k 0 else (foldR a l k).hi):Int)=((foldR a l (k+1)).hi) from (by (simp only[foldR];split<;>omega))))
 exact tR_ [r_,b_,.r [] [.row [i8 (l.getD k 0)]],r_,.r [] [.n ((↑k:Int)+1)]] [.any (rg [(9,1),(15,10)]),.weak 6 (wO oz4),.weak 7 (wO oz5),.weak 14 (i64 (↑(k+1):Int)),.sort] (.d7 (decide_eq_true (p:=((↑k:Int)<(l.length:Int))) (by omega)) (s_ (0≤(↑k:Int))) (map_at (row1 .i8) (0) (l:=l) (i:=k) hk) (i6n ((↑k:Int)+1) (by omega)) oz4 oz5 (wS_ k))
theorem ends8_l_e (a:Int) (l:List Int) (hl:l.length≤1000):VT L_ (fnC Tryz.f216 [1,1,0,1,0,0]) (ends8_l_I a l (l.length)) (.exit 0) (ends8_l_Z a l):=by
 exact tR_ [r_,d_] [.any [15],.sort] (.d (decide_eq_false (p:=((l.length:Int)<(l.length:Int))) (by omega)))
theorem ends8_l (a:Int) (l:List Int) (hl:l.length≤1000):VT L_ (fnC Tryz.f216 [1,1,0,1,0]) (ends8_l_I a l 0) (.exit 0) (ends8_l_Z a l) :=
 VT.loop (fun k=>ends8_l_I a l k) (l.length) (fun k hk=>ends8_l_s a l hl k hk) (ends8_l_e a l hl) (by intro h;cases h)
theorem ends8_v (a:Int) (l:List Int) (hl:l.length≤1000):VC L_ 216 ([i8 a,ints .i8 l]) (.tup [i8 (foldR a l l.length).lo,i8 (foldR a l l.length).hi]):=by
 have oz1:=(Q_ (k:=.i64) (show ((((K_ (row1 .i8) l).length:Int)):Int)=((l.length:Int)) from (by (simp;done))))
 have oz3:=@ends8_l (a) (l) hl
 exact cR_ [r_,r_,r_,.code [.any [0,1,4,5,10,11],.weak 7 (i8 (foldR a l 0).hi),.weak 13 (wO oz1),.weak 14 (i64 (↑0:Int)),.sort] (BO_ 0) (zO oz3),r_] _ Tryz.func216 (.d4 (Q_ (k:=.i8) (show ((a):Int)=((foldR a l 0).hi) from (by rfl))) oz1 w0_ oz3)
theorem ends8_2 (a b c:Int):VC L_ 216 [i8 a,.sl 1 [[i8 b],[i8 c]]] (.tup [i8 (min (min a b) c),i8 (max (max a b) c)]):=ends8_v a [b,c] (by simp)
theorem over_v (a b c:Int)  : VC L_ 206 ([i8 a,.sl 1 [[i8 b],[i8 c]]]) (rch ⟨min (min a b) c,max (max a b) c⟩):=by
 have oz0:=@ends8_2 (a) (b) (c)
 exact cR_ [r_,.r [] [cr oz0],r_] _ Tryz.func206 (.d oz0)
theorem gnode_v (n:Nod) (a b:Rng) (ok:n.Ok) (ha:a.In8) (hb:b.In8) (wl:n.w.length≤100000) (bl:n.b.length≤100000):VC L_ 183 ([nod n,rch a,rch b]) (.tup [rch (nodeR n a b).1,i64 (nodeR n a b).2]):=by
 have ok_kd:=ok.kd
 obtain ⟨p1,p2⟩:=id ha
 obtain ⟨p3,p4⟩:=id hb
 have oz0:=@check_v (n) wl bl ok_kd
 rcases bft (checkE n != 0) with hc0|hc0
 ·have gc0:¬checkE n=0:=bdt hc0
  exact (cR_ [r_,.r [] [cr oz0],r_,b_,r_] (AV.tup [AV.agg [i8 0,i8 0],i64 (checkE n)]) Tryz.func183 (.d2 oz0 hc0)).weak (AM_ _) (AI_ (.cons (BL_ (.cons (Q_ (by (unfold nodeR;(repeat first|rw[i_ (by omega)]|rw[j_ (by omega)])))) (.cons (Q_ (by (unfold nodeR;(repeat first|rw[i_ (by omega)]|rw[j_ (by omega)])))) .nil))) (.cons (Q_ (by (unfold nodeR;(repeat first|rw[i_ (by omega)]|rw[j_ (by omega)])))) .nil)))
 ·have gc0:checkE n=0:=bdf hc0
  have oz2:=@upside_v (a.lo) (a.hi)
  have oz3:=@upside_v (b.lo) (b.hi)
  rcases bft (decide (a.lo>a.hi) || n.kd==6&&decide (b.lo>b.hi)) with hc1|hc1
  ·have gc1:a.lo>a.hi∨n.kd=6∧b.lo>b.hi:=gc0_ hc1
   exact (cR_ [r_,.r [] [cr oz0],r_,d_,.r [] [cr oz2,o_,o_,o_,o_,o_,o_,cr oz3,o_,.sel 2,.sel 1],b_,r_] (AV.tup [AV.agg [i8 0,i8 0],i64 2]) Tryz.func183 (.d5 oz0 hc0 oz2 oz3 hc1)).weak (AM_ _) (AI_ (.cons (BL_ (.cons (Q_ (by (unfold nodeR;(repeat first|rw[i_ (by omega)]|rw[j_ (by omega)])))) (.cons (Q_ (by (unfold nodeR;(repeat first|rw[i_ (by omega)]|rw[j_ (by omega)])))) .nil))) (.cons (Q_ (by (unfold nodeR;(repeat first|rw[i_ (by omega)]|rw[j_ (by omega)])))) .nil)))
  ·have gc1:¬a.lo>a.hi∧(¬n.kd=6∨¬b.lo>b.hi):=gc0_ hc1
   have oz5:=@sumsK_v (n.kd)
   rcases bft (n.kd==1 || n.kd==2 || n.kd==3) with hc2|hc2
   ·have gc2:(n.kd=1∨n.kd=2)∨n.kd=3:=gc0_ hc2
    have oz7:=@summed_v (n) (a) ok p1 p2 wl bl
    exact (cR_ [r_,.r [] [cr oz0],r_,d_,.r [] [cr oz2,o_,o_,o_,o_,o_,o_,cr oz3,o_,.sel 2,.sel 1],d_,.r [] [cr oz5],b_,.r [] [cr oz7]] (AV.tup [AV.agg [i8 (sumG n a).fst.lo,i8 (sumG n a).fst.hi],i64 (sumG n a).snd]) Tryz.func183 (.d8 oz0 hc0 oz2 oz3 hc1 oz5 hc2 oz7)).weak (AM_ _) (AI_ (.cons (BL_ (.cons (Q_ (by (unfold nodeR;(repeat first|rw[i_ (by omega)]|rw[j_ (by omega)])))) (.cons (Q_ (by (unfold nodeR;(repeat first|rw[i_ (by omega)]|rw[j_ (by omega)])))) .nil))) (.cons (Q_ (by (unfold nodeR;(repeat first|rw[i_ (by omega)]|rw[j_ (by omega)])))) .nil)))
   ·have gc2:(¬n.kd=1∧¬n.kd=2)∧¬n.kd=3:=gc0_ hc2
    rcases bft (n.kd==6) with hc3|hc3
    ·have gc3:n.kd=6:=bet hc3
     have oz8:=@joinOne_v (a.lo) (b.lo) (n) ok p1 p3
     have oz9:=@joinOne_v (a.hi) (b.hi) (n) ok p2 p4
     exact (cR_ [r_,.r [] [cr oz0],r_,d_,.r [] [cr oz2,o_,o_,o_,o_,o_,o_,cr oz3,o_,.sel 2,.sel 1],d_,.r [] [cr oz5],d_,r_,b_,.r [] [cr oz8,cr oz9]] (AV.tup [AV.agg [i8 (joinE a.lo b.lo n),i8 (joinE a.hi b.hi n)],i64 0]) Tryz.func183 (.c8 oz0 hc0 oz2 oz3 hc1 oz5 hc2 hc3<|.d2 oz8 oz9)).weak (AM_ _) (AI_ (.cons (BL_ (.cons (Q_ (by (unfold nodeR;(repeat first|rw[i_ (by omega)]|rw[j_ (by omega)])))) (.cons (Q_ (by (unfold nodeR;(repeat first|rw[i_ (by omega)]|rw[j_ (by omega)])))) .nil))) (.cons (Q_ (by (unfold nodeR;(repeat first|rw[i_ (by omega)]|rw[j_ (by omega)])))) .nil)))
    ·have gc3:¬n.kd=6:=bef hc3
     rcases bft (n.kd==7) with hc4|hc4
     ·have gc4:n.kd=7:=bet hc4
      have oz9:=@actOne_w (a.lo) (n) ok p1
      have oz10:=@actOne_w (a.hi) (n) ok p2
      exact (cR_ [r_,.r [] [cr oz0],r_,d_,.r [] [cr oz2,o_,o_,o_,o_,o_,o_,cr oz3,o_,.sel 2,.sel 1],d_,.r [] [cr oz5],d_,r_,d_,r_,b_,.r [] [cr oz9,cr oz10]] (AV.tup [AV.agg [i8 (oneN a.lo n),i8 (oneN a.hi n)],i64 0]) Tryz.func183 (.c8 oz0 hc0 oz2 oz3 hc1 oz5 hc2 hc3<|.d3 hc4 oz9 oz10)).weak (AM_ _) (AI_ (.cons (BL_ (.cons (Q_ (by (unfold nodeR;(repeat first|rw[i_ (by omega)]|rw[j_ (by omega)])))) (.cons (Q_ (by (unfold nodeR;(repeat first|rw[i_ (by omega)]|rw[j_ (by omega)])))) .nil))) (.cons (Q_ (by (unfold nodeR;(repeat first|rw[i_ (by omega)]|rw[j_ (by omega)])))) .nil)))
     ·have gc4:¬n.kd=7:=bef hc4
      rcases bft (n.kd==8&&decide (n.np>0)) with hc5|hc5
      ·have gc5:n.kd=8∧n.np>0:=gc0_ hc5
       have oz10:=@over_v (n.za) (a.lo) (a.hi)
       exact (cR_ [r_,.r [] [cr oz0],r_,d_,.r [] [cr oz2,o_,o_,o_,o_,o_,o_,cr oz3,o_,.sel 2,.sel 1],d_,.r [] [cr oz5],d_,r_,d_,r_,d_,.r [] [o_,o_,o_,.sel 2],b_,.r [] [cr oz10]] (AV.tup [AV.agg [i8 (Rng.mk (min (min n.za a.lo) a.hi) (max (max n.za a.lo) a.hi)).lo,i8 (Rng.mk (min (min n.za a.lo) a.hi) (max (max n.za a.lo) a.hi)).hi],i64 0]) Tryz.func183 (.c8 oz0 hc0 oz2 oz3 hc1 oz5 hc2 hc3<|.d3 hc4 hc5 oz10)).weak (AM_ _) (AI_ (.cons (BL_ (.cons (Q_ (by (unfold nodeR;(repeat first|rw[i_ (by omega)]|rw[j_ (by omega)]);dsimp only;omega))) (.cons (Q_ (by (unfold nodeR;(repeat first|rw[i_ (by omega)]|rw[j_ (by omega)]);dsimp only;omega))) .nil))) (.cons (Q_ (by (unfold nodeR;(repeat first|rw[i_ (by omega)]|rw[j_ (by omega)])))) .nil)))
      ·have gc5:¬n.kd=8∨¬n.np>0:=gc0_ hc5
       exact (cR_ [r_,.r [] [cr oz0],r_,d_,.r [] [cr oz2,o_,o_,o_,o_,o_,o_,cr oz3,o_,.sel 2,.sel 1],d_,.r [] [cr oz5],d_,r_,d_,r_,d_,.r [] [o_,o_,o_,.sel 2],d_,r_] (AV.tup [AV.agg [i8 a.lo,i8 a.hi],i64 0]) Tryz.func183 (.c8 oz0 hc0 oz2 oz3 hc1 oz5 hc2 hc3<|.d2 hc4 hc5)).weak (AM_ _) (AI_ (.cons (BL_ (.cons (Q_ (by (unfold nodeR;(repeat first|rw[i_ (by omega)]|rw[j_ (by omega)])))) (.cons (Q_ (by (unfold nodeR;(repeat first|rw[i_ (by omega)]|rw[j_ (by omega)])))) .nil))) (.cons (Q_ (by (unfold nodeR;(repeat first|rw[i_ (by omega)]|rw[j_ (by omega)])))) .nil)))
end Go.Proofs.YtdfihaminnmgpaaGreat
