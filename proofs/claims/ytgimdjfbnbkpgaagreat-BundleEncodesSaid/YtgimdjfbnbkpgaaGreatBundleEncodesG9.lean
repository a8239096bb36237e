/- A part of this claim. No condition. -/
import Derived.Test.YtgimdjfbnbkpgaaGreatBundleEncodesG8
set_option maxRecDepth 100000
set_option maxHeartbeats 2000000
set_option linter.unusedVariables false
set_option linter.unusedSimpArgs false
set_option linter.unnecessarySimpa false
namespace Go.Proofs.YtgimdjfbnbkpgaaGreat
open Go.RowKit
open BlkW renaming rows→AG_
open Bool renaming and_eq_true→P_,and_eq_false_iff→S_,or_eq_false_iff→T_,not_eq_false'→U_,not_eq_true'→W_,or_eq_true→Z_,and_true→C_,false_and→AE_,true_and→BO_,or_true→DM_
open Exit renaming exit→AF_,ret→CA_
open IntKind renaming i64→Q_,i8→V_,i32→Y_
open List renaming map→K_,length_map→N_,length_append→O_,map_replicate→X_,map_append→A_,map_cons→D_,getElem?_eq_getElem→AL_,map_take→AM_,map_drop→AN_,map_nil→AO_,map_set→AP_,getD_eq_getElem?_getD→AU_,getElem_mem→CY_,all_eq_true→CZ_
open Nat renaming le_refl→AX_,le_of_lt→CD_,zero_le→CG_
open Option renaming getD_some→BJ_
open Tryz renaming prog→L_
open Value renaming int→AQ_,slice→AY_,bool→BS_,agg→BI_
open Weak renaming int→R_,bool→AZ_,tup→AA_,nil→CK_,rows→CP_
open WeakL renaming refl→B_
def crcL (l:List Int):Int:=uv (sumOf l)
theorem crcL_bd (l:List Int):0≤crcL l∧crcL l≤4294967295:=uv_bd _
theorem crc_v (l:List Int) (hx:∀ x∈l,0≤x∧x≤255) (hl:l.length≤20000000):VC L_ 60 [ints .u8 l] (u32 (crcL l)):=by
 intro S w xs hS hn hxs
 obtain ⟨v,rfl,hv⟩:=one_arg hn hxs
 exact (crcOf_any v l w (sl_rd hv) (by omega) hx).mono fun e w' ⟨he,hb⟩=>⟨_,he,.pure (.lit _),hb⟩
theorem rcrc_v (l:List Int) (hx:∀ x∈l,0≤x∧x≤255) (hl:l.length≤20000000):VC L_ 45 [ints .u8 l] (u32 (crcL l)):=by
 intro S w xs hS hn hxs
 obtain ⟨v,rfl,hv⟩:=one_arg hn hxs
 exact (refOf_any v l w (sl_rd hv) (by omega) hx).mono fun e w' ⟨he,hb⟩=>⟨_,he,.pure (.lit _),hb▸Below.refl _ _⟩
def P4V (F:Int→List Int):Prop:=∀ n:Int,0≤n→n≤4294967295→VC L_ 59 [u32 n] (ints .u8 (F n))
def R4V (F:Int→List Int):Prop:=∀ n:Int,0≤n→n≤4294967295→VC L_ 44 [u32 n] (ints .u8 (F n))
structure P4 (F:Int→List Int):Prop where
 v:P4V F
 r:R4V F
 l:∀ n,(F n).length=4
theorem p4_v (F:Int→List Int) (h:P4 F) (n:Int) (h0:0≤n) (h1:n≤4294967295):VC L_ 59 [u32 n] (ints .u8 (F n)):=h.v n h0 h1
theorem r4_v (F:Int→List Int) (h:P4 F) (n:Int) (h0:0≤n) (h1:n≤4294967295):VC L_ 44 [u32 n] (ints .u8 (F n)):=h.r n h0 h1
theorem p4:P4 p32L:=⟨put32_v,rput32_v,fun _=>rfl⟩
theorem seal_f (F:Int→List Int) (l:List Int) (hF:P4 F) (hx:∀ x∈l,0≤x∧x≤255) (hl:l.length≤10000000):VC L_ 26 ([ints .u8 l]) (ints .u8 (l++F (crcL l))):=by
 have q:=crcL_bd l
 have q4:=hF.l (crcL l)
 have oz0:=@crc_v (l) hx (by omega)
 have oz1:=@p4_v (F) hF (crcL l) (by omega) (by omega)
 have oz2:=@joined_v (l) (F (crcL l)) (by omega)
 exact VC.run (fn:=Tryz.f26) (W:=[r_,.r [] [.callr (rO oz0),.callr (rO oz1),.frz 0,.callr (rO oz2)]]) Tryz.func26 (by kernel_rfl) (.c oz0<|.c oz1<|.c oz2<|.n)
theorem rseal_f (F:Int→List Int) (l:List Int) (hF:P4 F) (hx:∀ x∈l,0≤x∧x≤255) (hl:l.length≤10000000):VC L_ 20 ([ints .u8 l]) (ints .u8 (l++F (crcL l))):=by
 have q:=crcL_bd l
 have q4:=hF.l (crcL l)
 have oz2:=@rcrc_v (l) hx (by omega)
 have oz3:=@r4_v (F) hF (crcL l) (by omega) (by omega)
 exact (VC.run (fn:=Tryz.f20) (W:=[r_,r_,.r [] [.callr (rO oz2),.callr (rO oz3)]]) (r:=AV.sl 1 ([]++K_ (row1 .u8) l++K_ (row1 .u8) (F (crcL l)))) Tryz.func20 (by kernel_rfl) (.c (show (0+(K_ (row1 .u8) l).length)*1≤140737488355328 by (simp;omega))<|.c (show 0+(K_ (row1 .u8) l).length≤9223372036854775807 by (simp;omega))<|.c oz2<|.c oz3<|.c (show (([]++K_ (row1 .u8) l).length+(K_ (row1 .u8) (F (crcL l))).length)*1≤140737488355328 by (simp;omega))<|.c (show ([]++K_ (row1 .u8) l).length+(K_ (row1 .u8) (F (crcL l))).length≤9223372036854775807 by (simp;omega))<|.n)).weak (B_ _) (CP_ (rows_to (row1 .u8) (r:=[]++K_ (row1 .u8) l++K_ (row1 .u8) (F (crcL l))) (l:=[]++l++F (crcL l)) (m:=l++F (crcL l)) (by first|(simp only[A_,D_,AO_,AP_,X_,AM_,AN_];done)|rfl|(simp only[A_,D_,AO_,AP_,X_,AM_,AN_];rfl)) (show ([]++l++F (crcL l))=(l++F (crcL l)) from (by (simp;done)))))
def sealL (l:List Int):List Int:=l++p32L (crcL l)
theorem sealL_len (l:List Int):(sealL l).length=l.length+4:=by rw[sealL,O_];rfl
def SealV (G:List Int→List Int):Prop:=∀ l:List Int,(∀ x∈l,0≤x∧x≤255)→l.length≤10000000→VC L_ 26 [ints .u8 l] (ints .u8 (G l))
def RSealV (G:List Int→List Int):Prop:=∀ l:List Int,(∀ x∈l,0≤x∧x≤255)→l.length≤10000000→VC L_ 20 [ints .u8 l] (ints .u8 (G l))
structure Seals (G:List Int→List Int):Prop where
 v:SealV G
 r:RSealV G
 l:∀ l,(G l).length=l.length+4
theorem seal_v (G:List Int→List Int) (h:Seals G) (l:List Int) (hx:∀ x∈l,0≤x∧x≤255) (hl:l.length≤10000000):VC L_ 26 [ints .u8 l] (ints .u8 (G l)):=h.v l hx hl
theorem rseal_v (G:List Int→List Int) (h:Seals G) (l:List Int) (hx:∀ x∈l,0≤x∧x≤255) (hl:l.length≤10000000):VC L_ 20 [ints .u8 l] (ints .u8 (G l)):=h.r l hx hl
theorem seals:Seals sealL:=⟨fun l hx hl=>seal_f p32L l p4 hx hl,fun l hx hl=>rseal_f p32L l p4 hx hl,sealL_len⟩
def hdK (L:Int→List Int) (q:List Int):Nat→List Int
 | 0=>[83,84,87,49]
 | k+1=>hdK L q k++L (q.getD k default)
theorem hdK_len {L:Int→List Int} (hL:∀ x,(L x).length≤10) (q:List Int) (k:Nat):(hdK L q k).length≤4+10*k:=by
 induction k with
 | zero=>exact AX_ _
 | succ k ih=>have:=hL (q.getD k default);rw[hdK,O_];omega
structure Hds (L:Int→List Int) (H:Int→Int→Int→Int→Int→List Int):Prop where
 e:∀ h x c cl m,H h x c cl m=hdK L [h,x,c,cl,m] 5
theorem Hds.len {L:Int→List Int} {H:Int→Int→Int→Int→Int→List Int} (hH:Hds L H) (hL:∀ x,(L x).length≤10) (h x c cl m:Int):(H h x c cl m).length≤54:=by rw[hH.e];exact hdK_len hL _ 5
def hdF (L:Int→List Int) (h x c cl m:Int):List Int:=hdK L [h,x,c,cl,m] 5
theorem hds (L:Int→List Int):Hds L (hdF L):=⟨fun _ _ _ _ _=>rfl⟩
def accU (l:List Mdl) (B:List Int):Nat→List Int
 | 0=>B
 | k+1=>accU l B k++(modelR (l.getD k default)).1
def PkMV (m:Mdl):Prop:=VC L_ 54 [.agg (mdlC m)] (.tup [.sl 1 ((modelR m).1.map (row1 .u8)),i64 (modelR m).2])
def RkMV (m:Mdl):Prop:=VC L_ 56 [.agg (mdlC m)] (.tup [.sl 1 ((modelR m).1.map (row1 .u8)),i64 (modelR m).2])
structure Mdl.Pk (m:Mdl):Prop where
 v:PkMV m
 r:RkMV m
 l:(modelR m).1.length≤1000000
theorem mdlPk_v (m:Mdl) (h:m.Pk):VC L_ 54 [.agg (mdlC m)] (.tup [.sl 1 ((modelR m).1.map (row1 .u8)),i64 (modelR m).2]):=h.v
theorem mdlRk_v (m:Mdl) (h:m.Pk):VC L_ 56 [.agg (mdlC m)] (.tup [.sl 1 ((modelR m).1.map (row1 .u8)),i64 (modelR m).2]):=h.r
theorem Mdl.Fw.pk {m:Mdl} (h:m.Fw) (hl:(modelR m).1.length≤1000000):m.Pk:=⟨pmodel_v m h,rmodel_v m h,hl⟩
theorem accU_len {l:List Mdl} (h:∀ m∈l,m.Pk) (B:List Int) {k:Nat} (hk:k≤l.length):(accU l B k).length≤B.length+1000000*k:=by
 induction k with
 | zero=>exact AX_ _
 | succ k ih =>
  have a:=ih (by omega)
  have b:=(getD_in h (show k<l.length by omega)).l
  rw[accU,O_];omega
noncomputable def penc_h_I (u:Bun) (L:Int→List Int) (q:List Int) (k:Nat):VS:=stt 74 [(1,.ptr 1 0 0),(5,.sl 1 ((hdK L q k).map (row1 .u8))),(35,.sl 1 (q.map (row1 .i64))),(36,i64 q.length),(37,i64 k)] [(1,.var (bunC u))]
noncomputable def penc_h_Z (u:Bun) (L:Int→List Int) (q:List Int):VS:=penc_h_I u L q (q.length)
theorem penc_h_s (u:Bun) (L:Int→List Int) (q:List Int) (hL:Puts L) (hq:q.length≤10) (k:Nat) (hk:k<q.length):VT L_ (fnC Tryz.f22 [1,1,1,0,1,0,0]) (penc_h_I u L q k) .normal (penc_h_I u L q (k+1)):=by
 have q1:=hdK_len hL.l q k
 have q2:=hL.l (q.getD k default)
 have oz3:=@puts_v (L) hL (q.getD k 0)
 have oz4:=@joined_v (hdK L q k) (L (q.getD k 0)) (by (simp at *;omega))
 exact VT.run (W:=[r_,b_,.r [] [.row [i64 (q.getD k 0)]],.r [] [.w,.callr (rO oz3),.frz 0,.callr (rO oz4)],.r [] [.n ((↑k:Int)+1)]]) (G:=[.any (rg [(7,1),(38,10)]),.weak 5 (AV.sl 1 (K_ (row1 .u8) (hdK L q (k+1)))),.weak 37 (i64 (↑(k+1):Int)),.sort]) (by kernel_rfl) (.c (decide_eq_true (p:=((↑k:Int)<(q.length:Int))) (by omega))<|.c (show 0≤(↑k:Int) by omega)<|.c (map_at (row1 .i64) (0) (l:=q) (i:=k) hk)<|.c oz3<|.c oz4<|.c (i6n ((↑k:Int)+1) (by omega))<|.c (show Weak (AV.sl 1 (K_ (row1 .u8) (hdK L q k++L (q.getD k 0)))) (AV.sl 1 (K_ (row1 .u8) (hdK L q (k+1)))) from (CP_ (rows_to (row1 .u8) (r:=K_ (row1 .u8) (hdK L q k++L (q.getD k 0))) (l:=hdK L q k++L (q.getD k 0)) (m:=hdK L q (k+1)) rfl (show (hdK L q k++L (q.getD k 0))=(hdK L q (k+1)) from (by rfl)))))<|.c (wS_ k)<|.n)
theorem penc_h_e (u:Bun) (L:Int→List Int) (q:List Int) (hL:Puts L) (hq:q.length≤10):VT L_ (fnC Tryz.f22 [1,1,1,0,1,0,0]) (penc_h_I u L q (q.length)) (.exit 0) (penc_h_Z u L q):=by
 exact VT.run (W:=[r_,d_]) (G:=[.any [38],.sort]) (by kernel_rfl) (.c (decide_eq_false (p:=((q.length:Int)<(q.length:Int))) (by omega))<|.n)
theorem penc_h (u:Bun) (L:Int→List Int) (q:List Int) (hL:Puts L) (hq:q.length≤10):VT L_ (fnC Tryz.f22 [1,1,1,0,1,0]) (penc_h_I u L q 0) (.exit 0) (penc_h_Z u L q) :=
 VT.loop (fun k=>penc_h_I u L q k) (q.length) (fun k hk=>penc_h_s u L q hL hq k hk) (penc_h_e u L q hL hq) (by intro h;cases h)
theorem penc_h5 (u:Bun) (L:Int→List Int) (H:Int→Int→Int→Int→Int→List Int) (h x c cl m:Int) (hL:Puts L) (hH:Hds L H):VT L_ (fnC Tryz.f22 [1,1,1,0,1,0]) (stt 74 [(1,.ptr 1 0 0),(5,.sl 1 ((hdK L [h,x,c,cl,m] 0).map (row1 .u8))),(35,.sl 1 [[i64 h],[i64 x],[i64 c],[i64 cl],[i64 m]]),(36,i64 ((5:Nat):Int)),(37,i64 ((0:Nat):Int))] [(1,.var (bunC u))]) (.exit 0) (stt 74 [(1,.ptr 1 0 0),(5,.sl 1 ((H h x c cl m).map (row1 .u8))),(35,.sl 1 [[i64 h],[i64 x],[i64 c],[i64 cl],[i64 m]]),(36,i64 ((5:Nat):Int)),(37,i64 ((5:Nat):Int))] [(1,.var (bunC u))]) :=
 by rw[hH.e];exact penc_h u L [h,x,c,cl,m] hL (by simp)
noncomputable def penc_m_I (u:Bun) (B:List Int) (k:Nat):VS:=stt 74 [(1,.ptr 1 0 0),(5,.sl 1 ((accU u.m B k).map (row1 .u8))),(49,.sl 1 (u.m.map mdlC)),(50,i64 u.m.length),(51,i64 k)] [(1,.var (bunC u))]
noncomputable def penc_m_Z (u:Bun) (B:List Int):VS:=penc_m_I u B (u.m.length)
theorem penc_m_s (u:Bun) (B:List Int) (fw:∀ m∈u.m,m.Pk) (hl:u.m.length≤4) (hB:B.length≤100) (h:∀ k,k<u.m.length→(modelR (u.m.getD k default)).2=0) (k:Nat) (hk:k<u.m.length):VT L_ (fnC Tryz.f22 [1,1,1,1,0,1,0,0]) (penc_m_I u B k) .normal (penc_m_I u B (k+1)):=by
 have q:=h k hk
 have q1:=getD_in fw hk
 have q2:(modelR (Mdl.mk (u.m.getD k default).l)).1.length≤1000000:=q1.l
 have q3:=accU_len fw B (CD_ hk)
 have oz2:=(map_at (mdlC) (default) (l:=u.m) (i:=k) hk)
 have oz3:=@mdlPk_v (Mdl.mk (u.m.getD k default).l) q1
 have oz5:=@joined_v (accU u.m B k) ((modelR (Mdl.mk (u.m.getD k default).l)).fst) (by (try dsimp only);omega)
 exact VT.run (W:=[r_,b_,.r [] [.row (sO oz2)],.r [] [.callr (rO oz3)],r_,d_,.r [] [.frz 0,.callr (rO oz5)],.r [] [.n ((↑k:Int)+1)]]) (G:=[.any (rg [(9,3),(52,10),(63,5)]),.drop [9],.weak 5 (AV.sl 1 (K_ (row1 .u8) (accU u.m B (k+1)))),.weak 51 (i64 (↑(k+1):Int)),.sort]) (by kernel_rfl) (.c (decide_eq_true (p:=((↑k:Int)<(u.m.length:Int))) (by (try dsimp only);omega))<|.c (show 0≤(↑k:Int) by omega)<|.c oz2<|.c oz3<|.c (show ((modelR (Mdl.mk (u.m.getD k default).l)).snd != 0)=false by (simp at *;omega))<|.c oz5<|.c (i6n ((↑k:Int)+1) (by (try dsimp only);omega))<|.c (show Weak (AV.sl 1 (K_ (row1 .u8) (accU u.m B k++(modelR (Mdl.mk (u.m.getD k default).l)).fst))) (AV.sl 1 (K_ (row1 .u8) (accU u.m B (k+1)))) from (CP_ (rows_to (row1 .u8) (r:=K_ (row1 .u8) (accU u.m B k++(modelR (Mdl.mk (u.m.getD k default).l)).fst)) (l:=accU u.m B k++(modelR (Mdl.mk (u.m.getD k default).l)).fst) (m:=accU u.m B (k+1)) rfl (show (accU u.m B k++(modelR (Mdl.mk (u.m.getD k default).l)).fst)=(accU u.m B (k+1)) from (by rfl)))))<|.c (R_ (k:=.i64) (show (((↑k:Int)+1):Int)=((↑(k+1):Int)) from (by (try dsimp only);omega)))<|.n)
theorem penc_m_e (u:Bun) (B:List Int) (fw:∀ m∈u.m,m.Pk) (hl:u.m.length≤4) (hB:B.length≤100) (h:∀ k,k<u.m.length→(modelR (u.m.getD k default)).2=0):VT L_ (fnC Tryz.f22 [1,1,1,1,0,1,0,0]) (penc_m_I u B (u.m.length)) (.exit 2) (penc_m_Z u B):=by
 exact VT.run (W:=[r_,d_]) (G:=[.any [52],.sort]) (by kernel_rfl) (.c (decide_eq_false (p:=((u.m.length:Int)<(u.m.length:Int))) (by omega))<|.n)
theorem penc_m (u:Bun) (B:List Int) (fw:∀ m∈u.m,m.Pk) (hl:u.m.length≤4) (hB:B.length≤100) (h:∀ k,k<u.m.length→(modelR (u.m.getD k default)).2=0):VT L_ (fnC Tryz.f22 [1,1,1,1,0,1,0]) (penc_m_I u B 0) (.exit 2) (penc_m_Z u B) :=
 VT.loop (fun k=>penc_m_I u B k) (u.m.length) (fun k hk=>penc_m_s u B fw hl hB h k hk) (penc_m_e u B fw hl hB h) (by intro h;cases h)
theorem right_models {u:Bun} (h:(bunE u).w=0):wholeE u=0∧∀ j,j<u.m.length→mE u j=⟨0,0,0,0⟩:=by
 rcases bunE_cases u with g|g|⟨w,m,h1,h2,h3⟩
 ·have e:bunE u=⟨wholeE u,-1,-1,-1⟩:=i_ g
  rw[e] at h;exact absurd h g
 ·exact g
 ·rw[bunE_m w h1 h2 h3] at h;exact absurd h h2
theorem steps_in {n k s p:Int} (h:(stepsE n k s p).2=0):1≤k∧k≤5∧1≤s∧s≤4∧0≤p∧p≤4:=by
 unfold stepsE at h
 split at h
 ·cases h
 ·omega
theorem slide_in {t:Shp} {k s p o:Int} (h:(slideE t k s p o).2=0):0<elems t.h t.x t.c∧(1≤k∧k≤5∧1≤s∧s≤4∧0≤p∧p≤4)∧1≤o∧o≤1024:=by
 unfold slideE at h
 split at h
 ·cases h
 ·rename_i h1
  split at h
  ·rename_i h2;exact absurd h h2
  ·rename_i h2
   split at h
   ·rename_i h3;exact absurd h h3
   ·split at h
    ·cases h
    ·rename_i h4
     have q:=elems_ok (Classical.not_not.1 h4)
     exact ⟨Classical.not_not.1 h1,steps_in (Classical.not_not.1 h2),q.2.2.2.2.1,q.2.2.2.2.2.1⟩
theorem check_0 {n:Nod} (h:checkE n=0):(1≤n.kd∧n.kd≤9)∧moreE n=false:=by
 unfold checkE at h
 split at h
 ·cases h
 ·rename_i h1
  split at h
  ·cases h
  ·rename_i h2;exact ⟨by omega,by simpa using h2⟩
theorem more_0 {n:Nod} (h:moreE n=false):(¬ (n.kd=1∨n.kd=2∨n.kd=3)→n.w.length=0∧n.b.length=0)∧(¬ (n.kd=1∨n.kd=3)→n.no=0)∧(¬ (n.kd=1∨n.kd=2∨n.kd=4∨n.kd=5)→n.nk=0∧n.ns=0)∧(¬ (n.kd=1∨n.kd=2∨n.kd=4∨n.kd=5∨n.kd=8)→n.np=0)∧(n.kd≠6→n.nb=0):=by
 unfold moreE at h
 simp only[T_,S_,U_,Z_,I_,F_,G_] at h
 obtain ⟨⟨⟨⟨⟨h1,h2⟩,h3,h4⟩,h5,_⟩,_⟩,_⟩:=h
 refine ⟨fun q=>?_,fun q=>?_,fun q=>?_,fun q=>?_,fun q=>?_⟩
 ·rcases h1 with h1|⟨h1,h1'⟩
  ·exact absurd (by omega) q
  ·omega
 ·omega
 ·rcases h3 with h3|h3
  ·exact absurd (by omega) q
  ·exact h3
 ·rcases h4 with (h4|h4)|h4
  ·exact absurd (by omega) q
  ·exact absurd (by omega) q
  ·exact h4
 ·rcases h5 with h5|h5
  ·exact absurd h5 q
  ·exact h5.1.1.1
theorem six_in {n:Nod} (h:∀ v∈six n,0≤v∧v≤1024):(six n).all okI=true:=by
 rw[CZ_]
 intro v hv
 have:=h v hv
 simp only[okI,P_,E_];exact this
theorem next_lay {n:Nod} {L:List Shp} (hL:L.length≤20) (h:(nextE n L).2=0):(nodeP n).2=0:=by
 unfold nextE at h
 split at h
 ·rename_i h1;exact absurd h h1
 rename_i h1
 have h1:=Classical.not_not.1 h1
 split at h
 ·rename_i h2
  rw[there_iff] at h2
  obtain ⟨⟨k1,k9⟩,hm⟩:=check_0 h1
  obtain ⟨m1,m2,m3,m4,m5⟩:=more_0 hm
  have key:(∀ v∈six n,0≤v∧v≤1024)∧n.w.length≤16384∧n.b.length≤16384:=by
   have hna:0≤n.na∧n.na≤1024:=by omega
   have hnb:0≤n.nb∧n.nb≤1024:=by
    by_cases e:n.kd=6
    ·have:secN n=n.nb:=by unfold secN;rw[i_ e]
     omega
    ·rw[m5 e];omega
   have fin:(0≤n.nk∧n.nk≤1024)→(0≤n.ns∧n.ns≤1024)→(0≤n.np∧n.np≤1024)→(0≤n.no∧n.no≤1024)→∀ v∈six n,0≤v∧v≤1024:=by
    intro a b c d v hv
    simp only[six,List.mem_cons,List.not_mem_nil,or_false] at hv
    rcases hv with rfl|rfl|rfl|rfl|rfl|rfl<;>assumption
   unfold shapeE at h
   split at h
   ·rename_i e
    unfold convE at h
    split at h
    ·rename_i q;exact absurd h q
    ·rename_i q
     have s:=slide_in (Classical.not_not.1 q)
     split at h
     ·cases h
     ·rename_i q2
      exact ⟨fin (by omega) (by omega) (by omega) (by omega),by omega,by omega⟩
   ·rename_i e1
    split at h
    ·rename_i e
     have n0:=m2 (by omega)
     unfold depthE at h
     split at h
     ·rename_i q;exact absurd h q
     ·rename_i q
      have s:=slide_in (Classical.not_not.1 q)
      split at h
      ·cases h
      ·rename_i q2
       exact ⟨fin (by omega) (by omega) (by omega) (by omega),by omega,by omega⟩
    ·rename_i e2
     split at h
     ·rename_i e
      have n1:=m3 (by omega)
      have n2:=m4 (by omega)
      unfold denseE at h
      split at h
      ·cases h
      ·rename_i q
       have q:0<elems 1 1 n.no:=by have:=elems_in 1 1 n.no;omega
       have s:=elems_ok q
       split at h
       ·cases h
       ·rename_i q2
        exact ⟨fin (by omega) (by omega) (by omega) (by omega),by omega,by omega⟩
     ·rename_i e3
      have n0:=m1 (by omega)
      have n1:=m2 (by omega)
      split at h
      ·rename_i e
       have s:=slide_in h
       exact ⟨fin (by omega) (by omega) (by omega) (by omega),by omega,by omega⟩
      ·rename_i e4
       have n3:=m3 (by omega)
       split at h
       ·cases h
       ·split at h
        ·cases h
        ·split at h
         ·rename_i e
          have n4:=m4 (by omega)
          exact ⟨fin (by omega) (by omega) (by omega) (by omega),by omega,by omega⟩
         ·split at h
          ·rename_i e
           unfold aroundE at h
           split at h
           ·cases h
           ·exact ⟨fin (by omega) (by omega) (by omega) (by omega),by omega,by omega⟩
          ·have n4:=m4 (by omega)
           exact ⟨fin (by omega) (by omega) (by omega) (by omega),by omega,by omega⟩
  unfold nodeP
  rw[j_ (by rw[h1];simp),j_ (by rw[six_in key.1];simp),j_ (by omega)]
 ·cases h
theorem valid_lay {x:Blc} {a:Shp} {cl:Int} {last:Bool} (h:(validE x a cl last).2=0):(blockR x).2=0:=by
 have s:=validE_ok h
 have n0:nodesE x.n=0:=nodesE_y fun n hn=>by
  obtain ⟨i,hi,e⟩:=List.mem_iff_getElem.1 hn
  have q:=s.k i hi
  unfold errL at q
  rw[AU_,AL_ hi,BJ_,e] at q
  exact next_lay (by rw[growL_len];have:=s.f;omega) q
 have hx:headX x=0:=by
  by_cases g:FOK x.n fullR
  ·rw[validE_y s g] at h
   split at h
   ·rename_i q;exact absurd h q
   ·rename_i q
    have q:=Classical.not_not.1 q
    unfold exitE at q
    split at q
    ·cases q
    ·rename_i q1
     split at q
     ·rename_i q2
      unfold headX
      rw[j_ (by rintro ⟨_,h3⟩;exact q1 ⟨q2,.inr (by omega)⟩)]
      have:x.w.length=0∧x.b.length=0∧x.nd=0:=by
       by_cases z:x.w.length=0∧x.b.length=0∧x.nd=0
       ·exact z
       ·exact absurd ⟨q2,.inr z⟩ q1
      rw[j_ (by omega)]
     ·rename_i q2
      have v0:verdE (lastS x.n a) x.w x.b x.nd cl=0:=by
       split at q
       ·rename_i q3;exact absurd q q3
       ·rename_i q3;exact Classical.not_not.1 q3
      unfold verdE at v0
      split at v0
      ·cases v0
      ·split at v0
       ·cases v0
       ·split at v0
        ·cases v0
        ·split at v0
         ·cases v0
         ·unfold headX
          rw[j_ (fun h=>q2 h.1),j_ (by omega)]
  ·rw[validE_f s g] at h;exact absurd h (flowE_n g)
 unfold blockR
 rw[j_ (by have:=s.f;omega),j_ (by simpa using n0),j_ (by simpa using hx)]
theorem bun_lay {u:Bun} (h:(bunE u).w=0):∀ m∈u.m,(modelR m).2=0:=by
 obtain ⟨w,hm⟩:=right_models h
 intro m hmm
 obtain ⟨j,hj,e⟩:=List.mem_iff_getElem.1 hmm
 have q:=hm j hj
 have q:=modelE_ok q
 have eg:u.m.getD j default=m:=by rw[AU_,AL_ hj,BJ_,e]
 rw[eg] at q
 obtain ⟨_,l6,hb⟩:=q
 have e0:blocksE m.l=0:=blocksE_y fun k hk=>valid_lay (hb k hk)
 unfold modelR
 rw[j_ (by omega),j_ (by simpa using e0)]
noncomputable def renc_h_I (u:Bun) (L:Int→List Int) (q:List Int) (k:Nat):VS:=stt 71 [(1,.ptr 1 0 0),(5,.own 900),(6,.sl 1 (q.map (row1 .i64))),(7,i64 k)] [(1,.var (bunC u)),(900,.slc 5 1 ((hdK L q k).map (row1 .u8)))]
noncomputable def renc_h_Z (u:Bun) (L:Int→List Int) (q:List Int):VS:=renc_h_I u L q (5)
theorem renc_h_s (u:Bun) (L:Int→List Int) (q:List Int) (hL:RPuts L) (hq:q.length=5) (k:Nat) (hk:k<5):VT L_ (fnC Tryz.f23 [1,1,1,1,0,1,0,0]) (renc_h_I u L q k) .normal (renc_h_I u L q (k+1)):=by
 have q1:=hdK_len hL.l q k
 have q2:=hL.l (q.getD k default)
 have oz3:=@rputs_v (L) hL (q.getD k 0)
 exact VT.run (W:=[r_,b_,.r [] [.row [i64 (q.getD k 0)],.w,.callr (rO oz3)],.r [] [.n ((↑k:Int)+1)]]) (G:=[.any (rg [(34,12)]),.ren 45 900,.weak 7 (i64 (↑(k+1):Int)),.blk 900 (Blk.slc 5 1 (K_ (row1 .u8) (hdK L q (k+1)))),.sort]) (by kernel_rfl) (.c (decide_eq_true (p:=((↑k:Int)<5)) (by omega))<|.c (show 0≤(↑k:Int) by omega)<|.c (map_at (row1 .i64) (0) (l:=q) (i:=k) (by omega))<|.c oz3<|.c (show ((K_ (row1 .u8) (hdK L q k)).length+(K_ (row1 .u8) (L (q.getD k 0))).length)*1≤140737488355328 by (simp at *;omega))<|.c (show (K_ (row1 .u8) (hdK L q k)).length+(K_ (row1 .u8) (L (q.getD k 0))).length≤9223372036854775807 by (simp at *;omega))<|.c (i6n ((↑k:Int)+1) (by omega))<|.c (wS_ k)<|.c (show BlkW (Blk.slc 5 1 (K_ (row1 .u8) (hdK L q k)++K_ (row1 .u8) (L (q.getD k 0)))) (Blk.slc 5 1 (K_ (row1 .u8) (hdK L q (k+1)))) from (AG_ (e:=5) (z:=1) (rows_to (row1 .u8) (r:=K_ (row1 .u8) (hdK L q k)++K_ (row1 .u8) (L (q.getD k 0))) (l:=hdK L q k++L (q.getD k 0)) (m:=hdK L q (k+1)) (by first|(simp only[A_,D_,AO_,AP_,X_,AM_,AN_];done)|rfl|(simp only[A_,D_,AO_,AP_,X_,AM_,AN_];rfl)) (show (hdK L q k++L (q.getD k 0))=(hdK L q (k+1)) from (by rfl)))))<|.n)
theorem renc_h_e (u:Bun) (L:Int→List Int) (q:List Int) (hL:RPuts L) (hq:q.length=5):VT L_ (fnC Tryz.f23 [1,1,1,1,0,1,0,0]) (renc_h_I u L q (5)) (.exit 0) (renc_h_Z u L q):=by
 exact VT.run (W:=[r_,d_]) (G:=[.any [34,35],.sort]) (by kernel_rfl) (.c (show false=false by with_reducible rfl)<|.n)
theorem renc_h (u:Bun) (L:Int→List Int) (q:List Int) (hL:RPuts L) (hq:q.length=5):VT L_ (fnC Tryz.f23 [1,1,1,1,0,1,0]) (renc_h_I u L q 0) (.exit 0) (renc_h_Z u L q) :=
 VT.loop (fun k=>renc_h_I u L q k) (5) (fun k hk=>renc_h_s u L q hL hq k hk) (renc_h_e u L q hL hq) (by intro h;cases h)
theorem renc_h5 (u:Bun) (L:Int→List Int) (H:Int→Int→Int→Int→Int→List Int) (h x c cl m:Int) (hL:RPuts L) (hH:Hds L H):VT L_ (fnC Tryz.f23 [1,1,1,1,0,1,0]) (stt 71 [(1,.ptr 1 0 0),(5,.own 900),(6,.sl 1 [[i64 h],[i64 x],[i64 c],[i64 cl],[i64 m]]),(7,i64 ((0:Nat):Int))] [(1,.var (bunC u)),(900,.slc 5 1 ((hdK L [h,x,c,cl,m] 0).map (row1 .u8)))]) (.exit 0) (stt 71 [(1,.ptr 1 0 0),(5,.own 900),(6,.sl 1 [[i64 h],[i64 x],[i64 c],[i64 cl],[i64 m]]),(7,i64 ((5:Nat):Int))] [(1,.var (bunC u)),(900,.slc 5 1 ((H h x c cl m).map (row1 .u8)))]) :=
 by rw[hH.e];exact renc_h u L [h,x,c,cl,m] hL rfl
noncomputable def renc_m_I (u:Bun) (B:List Int) (k:Nat):VS:=stt 71 [(1,.ptr 1 0 0),(5,.own 900),(8,i64 k)] [(1,.var (bunC u)),(900,.slc 5 1 ((accU u.m B k).map (row1 .u8)))]
noncomputable def renc_m_Z (u:Bun) (B:List Int):VS:=renc_m_I u B (u.m.length)
theorem renc_m_s (u:Bun) (B:List Int) (fw:∀ m∈u.m,m.Pk) (hl:u.m.length≤4) (hB:B.length≤100) (k:Nat) (hk:k<u.m.length):VT L_ (fnC Tryz.f23 [1,1,1,1,1,0,1,0,0]) (renc_m_I u B k) .normal (renc_m_I u B (k+1)):=by
 have q1:=getD_in fw hk
 have q2:(modelR (Mdl.mk (u.m.getD k default).l)).1.length≤1000000:=q1.l
 have q3:=accU_len fw B (CD_ hk)
 have oz2:=(map_at (mdlC) (default) (l:=u.m) (i:=k) hk)
 have oz3:=@mdlRk_v (Mdl.mk (u.m.getD k default).l) q1
 exact VT.run (W:=[r_,b_,.r [] [.row (sO oz2),.callr (rO oz3)],r_,.r [] [.n ((↑k:Int)+1)]]) (G:=[.any (rg [(9,2),(46,19)]),.ren 64 900,.weak 8 (i64 (↑(k+1):Int)),.blk 900 (Blk.slc 5 1 (K_ (row1 .u8) (accU u.m B (k+1)))),.sort]) (by kernel_rfl) (.c (show decide ((↑k:Int)<((K_ mdlC u.m).length:Int))=true by (simp;omega))<|.c (show 0≤(↑k:Int) by omega)<|.c oz2<|.c oz3<|.c (show ((K_ (row1 .u8) (accU u.m B k)).length+(K_ (row1 .u8) (modelR (Mdl.mk (u.m.getD k default).l)).fst).length)*1≤140737488355328 by (simp only[N_];omega))<|.c (show (K_ (row1 .u8) (accU u.m B k)).length+(K_ (row1 .u8) (modelR (Mdl.mk (u.m.getD k default).l)).fst).length≤9223372036854775807 by (simp only[N_];omega))<|.c (i6n ((↑k:Int)+1) (by (try dsimp only);omega))<|.c (R_ (k:=.i64) (show (((↑k:Int)+1):Int)=((↑(k+1):Int)) from (by (try dsimp only);omega)))<|.c (show BlkW (Blk.slc 5 1 (K_ (row1 .u8) (accU u.m B k)++K_ (row1 .u8) (modelR (Mdl.mk (u.m.getD k default).l)).fst)) (Blk.slc 5 1 (K_ (row1 .u8) (accU u.m B (k+1)))) from (AG_ (e:=5) (z:=1) (rows_to (row1 .u8) (r:=K_ (row1 .u8) (accU u.m B k)++K_ (row1 .u8) (modelR (Mdl.mk (u.m.getD k default).l)).fst) (l:=accU u.m B k++(modelR (Mdl.mk (u.m.getD k default).l)).fst) (m:=accU u.m B (k+1)) (by first|(simp only[A_,D_,AO_,AP_,X_,AM_,AN_];done)|rfl|(simp only[A_,D_,AO_,AP_,X_,AM_,AN_];rfl)) (show (accU u.m B k++(modelR (Mdl.mk (u.m.getD k default).l)).fst)=(accU u.m B (k+1)) from (by rfl)))))<|.n)
theorem renc_m_e (u:Bun) (B:List Int) (fw:∀ m∈u.m,m.Pk) (hl:u.m.length≤4) (hB:B.length≤100):VT L_ (fnC Tryz.f23 [1,1,1,1,1,0,1,0,0]) (renc_m_I u B (u.m.length)) (.exit 2) (renc_m_Z u B):=by
 exact VT.run (W:=[r_,d_]) (G:=[.any (rg [(46,5)]),.sort]) (by kernel_rfl) (.c (show decide ((u.m.length:Int)<((K_ mdlC u.m).length:Int))=false by (simp;done))<|.n)
theorem renc_m (u:Bun) (B:List Int) (fw:∀ m∈u.m,m.Pk) (hl:u.m.length≤4) (hB:B.length≤100):VT L_ (fnC Tryz.f23 [1,1,1,1,1,0,1,0]) (renc_m_I u B 0) (.exit 2) (renc_m_Z u B) :=
 VT.loop (fun k=>renc_m_I u B k) (u.m.length) (fun k hk=>renc_m_s u B fw hl hB k hk) (renc_m_e u B fw hl hB) (by intro h;cases h)
theorem cap_t {X:List Int} (h:1048572<X.length) (h2:X.length≤10000000):decide (IntKind.i64.wrap (((X.map (row1 .u8)).length:Int)+4)>1048576)=true:=by
 rw[N_,IntKind.wrap_i64];exact decide_eq_true (by omega)
theorem cap_f {X:List Int} (h:X.length≤1048572):decide (IntKind.i64.wrap (((X.map (row1 .u8)).length:Int)+4)>1048576)=false:=by
 rw[N_,IntKind.wrap_i64];exact decide_eq_false (by omega)
theorem penc_x (u:Bun) (ok:u.Ok) (sm:u.Sm) (h:¬ (bunE u).w=0):VC L_ 22 ([bun u]) (.tup [.sl 1 (([]:List Int).map (row1 .u8)),i64 (bunE u).w]):=by
 have oz0:=@vbundle_v (u) ok sm
 exact (VC.run (fn:=Tryz.f22) (W:=[r_,.r [] [.callr (rO oz0)],r_,b_,r_]) (r:=AV.tup [AV.lit (AY_ none 0 0),i64 (bunE u).w]) Tryz.func22 (by kernel_rfl) (.c oz0<|.c (show ((bunE u).w != 0)=true by (simp;omega))<|.n)).weak (B_ _) (AA_ (.cons (CK_ _) (.cons (.refl _) .nil)))
theorem penc_l (u:Bun) (L:Int→List Int) (H:Int→Int→Int→Int→Int→List Int) (ok:u.Ok) (sm:u.Sm) (hL:Puts L) (hH:Hds L H) (h:(bunE u).w=0) (fw:∀ m∈u.m,m.Pk) (hl:u.m.length≤4) (hm:∀ k,k<u.m.length→(modelR (u.m.getD k default)).2=0) (hlen:1048572<(accU u.m (H u.h u.x u.c u.cl ((u.m.map mdlC).length:Int)) u.m.length).length):VC L_ 22 ([bun u]) (.tup [.sl 1 (([]:List Int).map (row1 .u8)),i64 25]):=by
 have q1:(H u.h u.x u.c u.cl ((u.m.map mdlC).length:Int)).length≤100:=by have:=hH.len hL.l u.h u.x u.c u.cl ((u.m.map mdlC).length:Int);omega
 have q2:=accU_len fw (H u.h u.x u.c u.cl ((u.m.map mdlC).length:Int)) (AX_ _)
 have z:=cap_t hlen (by omega)
 have oz0:=@vbundle_v (u) ok sm
 have oz3:=w0_
 have oz4:=@penc_h5 (u) (L) (H) (u.h) (u.x) (u.c) (u.cl) (((K_ mdlC u.m).length:Int)) hL hH
 have oz8:=@penc_m (u) (H u.h u.x u.c u.cl ((K_ mdlC u.m).length:Int)) fw hl q1 hm
 exact (VC.run (fn:=Tryz.f22) (W:=[r_,.r [] [.callr (rO oz0)],r_,d_,r_,r_,.code [.frz 35,.any (rg [(0,1),(2,3),(12,5),(19,16)]),.drop [4],.weak 36 (i64 (↑5:Int)),.weak 37 (wO oz3),.sort] (AF_ 0) (zO oz4),r_,.code [.any [35,36,37,48],.weak 5 (AV.sl 1 (K_ (row1 .u8) (accU u.m (H u.h u.x u.c u.cl ((K_ mdlC u.m).length:Int)) 0))),.weak 50 (i64 (u.m.length:Int)),.weak 51 (wO oz3),.sort] (AF_ 2) (zO oz8),.r [] [.w],b_,r_]) (r:=AV.tup [AV.lit (AY_ none 0 0),i64 25]) Tryz.func22 (by kernel_rfl) (.c oz0<|.c (show ((bunE u).w != 0)=false by (simp;omega))<|.c (R_ (k:=.i64) (show (((↑5:Int)):Int)=((↑5:Int)) from (by (simp;done))))<|.c oz3<|.c oz4<|.c (show Weak (AV.sl 1 (K_ (row1 .u8) (H u.h u.x u.c u.cl ((K_ mdlC u.m).length:Int)))) (AV.sl 1 (K_ (row1 .u8) (accU u.m (H u.h u.x u.c u.cl ((K_ mdlC u.m).length:Int)) 0))) from (CP_ (rows_to (row1 .u8) (r:=K_ (row1 .u8) (H u.h u.x u.c u.cl ((K_ mdlC u.m).length:Int))) (l:=H u.h u.x u.c u.cl ((K_ mdlC u.m).length:Int)) (m:=accU u.m (H u.h u.x u.c u.cl ((K_ mdlC u.m).length:Int)) 0) rfl (show (H u.h u.x u.c u.cl ((K_ mdlC u.m).length:Int))=(accU u.m (H u.h u.x u.c u.cl ((K_ mdlC u.m).length:Int)) 0) from (by rfl)))))<|.c (R_ (k:=.i64) (show ((((K_ mdlC u.m).length:Int)):Int)=((u.m.length:Int)) from (by (simp;done))))<|.c oz3<|.c oz8<|.c z<|.n)).weak (B_ _) (AA_ (.cons (CK_ _) (.cons (.refl _) .nil)))
theorem penc_y (u:Bun) (L:Int→List Int) (H:Int→Int→Int→Int→Int→List Int) (G:List Int→List Int) (ok:u.Ok) (sm:u.Sm) (hL:Puts L) (hH:Hds L H) (hG:Seals G) (h:(bunE u).w=0) (fw:∀ m∈u.m,m.Pk) (hl:u.m.length≤4) (hm:∀ k,k<u.m.length→(modelR (u.m.getD k default)).2=0) (hlen:(accU u.m (H u.h u.x u.c u.cl ((u.m.map mdlC).length:Int)) u.m.length).length≤1048572) (hx:∀ x∈accU u.m (H u.h u.x u.c u.cl ((u.m.map mdlC).length:Int)) u.m.length,0≤x∧x≤255):VC L_ 22 ([bun u]) (.tup [.sl 1 ((G (accU u.m (H u.h u.x u.c u.cl ((u.m.map mdlC).length:Int)) u.m.length)).map (row1 .u8)),i64 0]):=by
 have q1:(H u.h u.x u.c u.cl ((u.m.map mdlC).length:Int)).length≤100:=by have:=hH.len hL.l u.h u.x u.c u.cl ((u.m.map mdlC).length:Int);omega
 have q2:=accU_len fw (H u.h u.x u.c u.cl ((u.m.map mdlC).length:Int)) (AX_ _)
 have z:=cap_f hlen
 have oz0:=@vbundle_v (u) ok sm
 have oz3:=w0_
 have oz4:=@penc_h5 (u) (L) (H) (u.h) (u.x) (u.c) (u.cl) (((K_ mdlC u.m).length:Int)) hL hH
 have oz8:=@penc_m (u) (H u.h u.x u.c u.cl ((K_ mdlC u.m).length:Int)) fw hl q1 hm
 have oz10:=@seal_v (G) hG (accU u.m (H u.h u.x u.c u.cl ((K_ mdlC u.m).length:Int)) u.m.length) hx (by omega)
 exact VC.run (fn:=Tryz.f22) (W:=[r_,.r [] [.callr (rO oz0)],r_,d_,r_,r_,.code [.frz 35,.any (rg [(0,1),(2,3),(12,5),(19,16)]),.drop [4],.weak 36 (i64 (↑5:Int)),.weak 37 (wO oz3),.sort] (AF_ 0) (zO oz4),r_,.code [.any [35,36,37,48],.weak 5 (AV.sl 1 (K_ (row1 .u8) (accU u.m (H u.h u.x u.c u.cl ((K_ mdlC u.m).length:Int)) 0))),.weak 50 (i64 (u.m.length:Int)),.weak 51 (wO oz3),.sort] (AF_ 2) (zO oz8),.r [] [.w],d_,.r [] [.callr (rO oz10)]]) Tryz.func22 (by kernel_rfl) (.c oz0<|.c (show ((bunE u).w != 0)=false by (simp;omega))<|.c (R_ (k:=.i64) (show (((↑5:Int)):Int)=((↑5:Int)) from (by (simp;done))))<|.c oz3<|.c oz4<|.c (show Weak (AV.sl 1 (K_ (row1 .u8) (H u.h u.x u.c u.cl ((K_ mdlC u.m).length:Int)))) (AV.sl 1 (K_ (row1 .u8) (accU u.m (H u.h u.x u.c u.cl ((K_ mdlC u.m).length:Int)) 0))) from (CP_ (rows_to (row1 .u8) (r:=K_ (row1 .u8) (H u.h u.x u.c u.cl ((K_ mdlC u.m).length:Int))) (l:=H u.h u.x u.c u.cl ((K_ mdlC u.m).length:Int)) (m:=accU u.m (H u.h u.x u.c u.cl ((K_ mdlC u.m).length:Int)) 0) rfl (show (H u.h u.x u.c u.cl ((K_ mdlC u.m).length:Int))=(accU u.m (H u.h u.x u.c u.cl ((K_ mdlC u.m).length:Int)) 0) from (by rfl)))))<|.c (R_ (k:=.i64) (show ((((K_ mdlC u.m).length:Int)):Int)=((u.m.length:Int)) from (by (simp;done))))<|.c oz3<|.c oz8<|.c z<|.c oz10<|.n)
theorem renc_x (u:Bun) (ok:u.Ok) (sm:u.Sm) (h:¬ (bunE u).w=0):VC L_ 23 ([bun u]) (.tup [.sl 1 (([]:List Int).map (row1 .u8)),i64 (bunE u).w]):=by
 have oz0:=@rvbundle_v (u) ok sm
 exact (VC.run (fn:=Tryz.f23) (W:=[r_,.r [] [.callr (rO oz0)],r_,b_,r_]) (r:=AV.tup [AV.lit (AY_ none 0 0),i64 (bunE u).w]) Tryz.func23 (by kernel_rfl) (.c oz0<|.c (show ((bunE u).w != 0)=true by (simp;omega))<|.n)).weak (B_ _) (AA_ (.cons (CK_ _) (.cons (.refl _) .nil)))
theorem renc_l (u:Bun) (L:Int→List Int) (H:Int→Int→Int→Int→Int→List Int) (ok:u.Ok) (sm:u.Sm) (hL:RPuts L) (hH:Hds L H) (h:(bunE u).w=0) (fw:∀ m∈u.m,m.Pk) (hl:u.m.length≤4) (hlen:1048572<(accU u.m (H u.h u.x u.c u.cl ((u.m.map mdlC).length:Int)) u.m.length).length):VC L_ 23 ([bun u]) (.tup [.sl 1 (([]:List Int).map (row1 .u8)),i64 25]):=by
 have q1:(H u.h u.x u.c u.cl ((u.m.map mdlC).length:Int)).length≤100:=by have:=hH.len hL.l u.h u.x u.c u.cl ((u.m.map mdlC).length:Int);omega
 have q2:=accU_len fw (H u.h u.x u.c u.cl ((u.m.map mdlC).length:Int)) (AX_ _)
 have z:=cap_t hlen (by omega)
 have oz0:=@rvbundle_v (u) ok sm
 have oz2:=w0_
 have oz3:=@renc_h5 (u) (L) (H) (u.h) (u.x) (u.c) (u.cl) (((K_ mdlC u.m).length:Int)) hL hH
 have oz6:=@renc_m (u) (H u.h u.x u.c u.cl ((K_ mdlC u.m).length:Int)) fw hl q1
 exact (VC.run (fn:=Tryz.f23) (W:=[r_,.r [] [.callr (rO oz0)],r_,d_,r_,r_,r_,.code [.frz 33,.any (rg [(0,1),(2,3),(11,5),(18,16)]),.drop [4],.ren 18 900,.weak 7 (wO oz2),.sort] (AF_ 0) (zO oz3),r_,.code [.any [6,7],.weak 8 (wO oz2),.blk 900 (Blk.slc 5 1 (K_ (row1 .u8) (accU u.m (H u.h u.x u.c u.cl ((K_ mdlC u.m).length:Int)) 0))),.sort] (AF_ 2) (zO oz6),.r [] [.w],b_,r_]) (r:=AV.tup [AV.lit (AY_ none 0 0),i64 25]) Tryz.func23 (by kernel_rfl) (.c oz0<|.c (show ((bunE u).w != 0)=false by (simp;omega))<|.c oz2<|.c oz3<|.c oz2<|.c (show BlkW (Blk.slc 5 1 (K_ (row1 .u8) (H u.h u.x u.c u.cl ((K_ mdlC u.m).length:Int)))) (Blk.slc 5 1 (K_ (row1 .u8) (accU u.m (H u.h u.x u.c u.cl ((K_ mdlC u.m).length:Int)) 0))) from (AG_ (e:=5) (z:=1) (rows_to (row1 .u8) (r:=K_ (row1 .u8) (H u.h u.x u.c u.cl ((K_ mdlC u.m).length:Int))) (l:=H u.h u.x u.c u.cl ((K_ mdlC u.m).length:Int)) (m:=accU u.m (H u.h u.x u.c u.cl ((K_ mdlC u.m).length:Int)) 0) rfl (show (H u.h u.x u.c u.cl ((K_ mdlC u.m).length:Int))=(accU u.m (H u.h u.x u.c u.cl ((K_ mdlC u.m).length:Int)) 0) from (by rfl)))))<|.c oz6<|.c z<|.n)).weak (B_ _) (AA_ (.cons (CK_ _) (.cons (.refl _) .nil)))
theorem renc_y (u:Bun) (L:Int→List Int) (H:Int→Int→Int→Int→Int→List Int) (G:List Int→List Int) (ok:u.Ok) (sm:u.Sm) (hL:RPuts L) (hH:Hds L H) (hG:Seals G) (h:(bunE u).w=0) (fw:∀ m∈u.m,m.Pk) (hl:u.m.length≤4) (hlen:(accU u.m (H u.h u.x u.c u.cl ((u.m.map mdlC).length:Int)) u.m.length).length≤1048572) (hx:∀ x∈accU u.m (H u.h u.x u.c u.cl ((u.m.map mdlC).length:Int)) u.m.length,0≤x∧x≤255):VC L_ 23 ([bun u]) (.tup [.sl 1 ((G (accU u.m (H u.h u.x u.c u.cl ((u.m.map mdlC).length:Int)) u.m.length)).map (row1 .u8)),i64 0]):=by
 have q1:(H u.h u.x u.c u.cl ((u.m.map mdlC).length:Int)).length≤100:=by have:=hH.len hL.l u.h u.x u.c u.cl ((u.m.map mdlC).length:Int);omega
 have q2:=accU_len fw (H u.h u.x u.c u.cl ((u.m.map mdlC).length:Int)) (AX_ _)
 have z:=cap_f hlen
 have oz0:=@rvbundle_v (u) ok sm
 have oz2:=w0_
 have oz3:=@renc_h5 (u) (L) (H) (u.h) (u.x) (u.c) (u.cl) (((K_ mdlC u.m).length:Int)) hL hH
 have oz6:=@renc_m (u) (H u.h u.x u.c u.cl ((K_ mdlC u.m).length:Int)) fw hl q1
 have oz8:=@rseal_v (G) hG (accU u.m (H u.h u.x u.c u.cl ((K_ mdlC u.m).length:Int)) u.m.length) hx (by omega)
 exact VC.run (fn:=Tryz.f23) (W:=[r_,.r [] [.callr (rO oz0)],r_,d_,r_,r_,r_,.code [.frz 33,.any (rg [(0,1),(2,3),(11,5),(18,16)]),.drop [4],.ren 18 900,.weak 7 (wO oz2),.sort] (AF_ 0) (zO oz3),r_,.code [.any [6,7],.weak 8 (wO oz2),.blk 900 (Blk.slc 5 1 (K_ (row1 .u8) (accU u.m (H u.h u.x u.c u.cl ((K_ mdlC u.m).length:Int)) 0))),.sort] (AF_ 2) (zO oz6),.r [] [.w],d_,.r [.frz 900] [.callr (rO oz8)]]) Tryz.func23 (by kernel_rfl) (.c oz0<|.c (show ((bunE u).w != 0)=false by (simp;omega))<|.c oz2<|.c oz3<|.c oz2<|.c (show BlkW (Blk.slc 5 1 (K_ (row1 .u8) (H u.h u.x u.c u.cl ((K_ mdlC u.m).length:Int)))) (Blk.slc 5 1 (K_ (row1 .u8) (accU u.m (H u.h u.x u.c u.cl ((K_ mdlC u.m).length:Int)) 0))) from (AG_ (e:=5) (z:=1) (rows_to (row1 .u8) (r:=K_ (row1 .u8) (H u.h u.x u.c u.cl ((K_ mdlC u.m).length:Int))) (l:=H u.h u.x u.c u.cl ((K_ mdlC u.m).length:Int)) (m:=accU u.m (H u.h u.x u.c u.cl ((K_ mdlC u.m).length:Int)) 0) rfl (show (H u.h u.x u.c u.cl ((K_ mdlC u.m).length:Int))=(accU u.m (H u.h u.x u.c u.cl ((K_ mdlC u.m).length:Int)) 0) from (by rfl)))))<|.c oz6<|.c z<|.c oz8<|.n)
theorem open_s (l:List Int) (h:l.length<8):VC L_ 41 ([ints .u8 l]) (.tup [.sl 1 (([]:List Int).map (row1 .u8)),i64 20]):=by
 exact (VC.run (fn:=Tryz.f41) (W:=[r_,r_,d_,r_,b_,r_]) (r:=AV.tup [AV.lit (AY_ none 0 0),i64 20]) Tryz.func41 (by kernel_rfl) (.c (show decide (((K_ (row1 .u8) l).length:Int)>1048576)=false by (simp;omega))<|.c (show decide (((K_ (row1 .u8) l).length:Int)<8)=true by (simp;omega))<|.n)).weak (B_ _) (AA_ (.cons (CK_ _) (.cons (.refl _) .nil)))
theorem dec_o (l:List Int) (e:Int) (he:e≠0) (h:VC L_ 41 [ints .u8 l] (.tup [.sl 1 (([]:List Int).map (row1 .u8)),i64 e])):VC L_ 18 ([ints .u8 l]) (.tup [.agg [i64 0,i64 0,i64 0,i64 0,nilv],i64 e]):=by
 have oz0:=@h
 exact VC.run (fn:=Tryz.f18) (W:=[r_,.r [] [.callr (rO oz0)],r_,b_,r_]) Tryz.func18 (by kernel_rfl) (.c oz0<|.c (show (e != 0)=true by (simp;omega))<|.n)
theorem known35_v (S:List Int) (hS:S.length=5) (h2:VC L_ 26 [ints .u8 [1]] (ints .u8 S)) (h:VC L_ 18 [ints .u8 []] (.tup [.agg [i64 0,i64 0,i64 0,i64 0,nilv],i64 20])):VC L_ 17 ([]) (bv true):=by
 have q:(((S.map (row1 .u8)).length:Int)==5)=true:=by rw[N_,hS];rfl
 have oz1:=@h
 have oz2:=(show true=true by with_reducible rfl)
 have oz5:=@h2
 exact (VC.run (fn:=Tryz.f17) (W:=[r_,.r [] [.call (aO oz1) (rO oz1)],.r [] [e_,e_,.frz 0,e_,.callr (rO oz5),e_,e_,e_]]) (r:=bv (((K_ (row1 .u8) S).length:Int)==5)) Tryz.func17 (by kernel_rfl) (.c (show WeakL [AV.lit (AY_ none 0 0)] [AV.sl 1 []] from (.cons (CK_ _) .nil))<|.c oz1<|.c oz2<|.c oz2<|.c oz2<|.c oz5<|.c oz2<|.c oz2<|.c oz2<|.n)).weak (B_ _) (AZ_ (q))
def zipAll {α:Type} [Inhabited α] (p:α→α→Bool) (l m:List α):Bool:=decide (l.length=m.length)&&(List.range l.length).all fun k=>p (l.getD k default) (m.getD k default)
theorem zip_cases {α:Type} [Inhabited α] (p:α→α→Bool) (l m:List α):(l.length≠m.length∧zipAll p l m=false)∨(l.length=m.length∧(∀ k,k<l.length→p (l.getD k default) (m.getD k default)=true)∧zipAll p l m=true) ∨
  (l.length=m.length∧∃ i,i<l.length∧p (l.getD i default) (m.getD i default)=false∧(∀ k,k<i→p (l.getD k default) (m.getD k default)=true)∧zipAll p l m=false):=by
 unfold zipAll
 by_cases hl:l.length=m.length
 ·rcases all_or (fun k=>p (l.getD k default) (m.getD k default)) l.length with h|⟨i,h1,h2,h3⟩
  ·refine .inr (.inl ⟨hl,h,?_⟩)
   rw[decide_eq_true hl,BO_,CZ_]
   exact fun k hk=>h k (by simpa using hk)
  ·refine .inr (.inr ⟨hl,i,h1,h2,h3,?_⟩)
   rw[decide_eq_true hl,BO_,Bool.eq_false_iff]
   intro h
   rw[CZ_] at h
   have:=h i (by simpa using h1)
   rw[h2] at this;cases this
 ·exact .inl ⟨hl,by rw[decide_eq_false hl,AE_]⟩
theorem zip_refl {α:Type} [Inhabited α] {p:α→α→Bool} {l:List α} (h:∀ x∈l,p x x=true):zipAll p l l=true:=by
 unfold zipAll
 rw[decide_eq_true rfl,BO_,CZ_]
 intro k hk
 have hk:k<l.length:=by simpa using hk
 rw[AU_,AL_ hk]
 exact h _ (CY_ hk)
theorem nodEq_ne {a b:Nod} (h:(!decide (a.w=b.w) || !decide (a.b=b.b) || !eqNums [(Y_,a.qm,b.qm),(Q_,a.qs,b.qs),(V_,a.qz,b.qz)] || !eqNums [(Y_,a.rm,b.rm),(Q_,a.rs,b.rs),(V_,a.rz,b.rz)])=true):false=nodEq a b:=by
 symm
 rw[Bool.eq_false_iff]
 intro h'
 have h':=(nodEq_iff _ _).1 h'
 subst h'
 simp[eqNums] at h
theorem nodEq_re {a b:Nod} (h:(!decide (a.w=b.w) || !decide (a.b=b.b) || !eqNums [(Y_,a.qm,b.qm),(Q_,a.qs,b.qs),(V_,a.qz,b.qz)] || !eqNums [(Y_,a.rm,b.rm),(Q_,a.rs,b.rs),(V_,a.rz,b.rz)])=false) :
  (eqNums [(Q_,a.kd,b.kd),(Q_,a.na,b.na),(Q_,a.nb,b.nb),(Q_,a.nk,b.nk),(Q_,a.ns,b.ns),(Q_,a.np,b.np)]&&a.no==b.no&&eqNums [(V_,a.za,b.za),(V_,a.zb,b.zb),(V_,a.lo,b.lo),(V_,a.hi,b.hi)])=nodEq a b:=by
 simp only[T_,U_,E_,eqNums,P_,I_] at h
 obtain ⟨⟨⟨h1,h2⟩,h3,h4,h5,_⟩,h6,h7,h8,_⟩:=h
 rw[Bool.eq_iff_iff]
 simp only[nodEq,eqNums,P_,E_,I_]
 constructor
 ·rintro ⟨⟨⟨k1,k2,k3,k4,k5,k6,_⟩,k7⟩,k8,k9,ka,kb,_⟩;simp_all
 ·intro k;simp_all
theorem bnod_v (a b:Nod) (hw:a.w.length≤100000) (hb:a.b.length≤100000):VC L_ 142 ([nod a,nod b]) (bv (nodEq a b)):=by
 have oz0:=@eq8_v (a.w) (b.w) (by omega)
 have oz1:=@eq32_v (a.b) (b.b) (by omega)
 have oz2:=(show BinTo L_ BinOp.neq 69 (Operand.tmp 23) (Operand.tmp 25) (BI_ #[AQ_ Y_ a.qm,AQ_ Q_ a.qs,AQ_ V_ a.qz]) (BI_ #[AQ_ Y_ b.qm,AQ_ Q_ b.qs,AQ_ V_ b.qz]) (BS_ !eqNums [(Y_,a.qm,b.qm),(Q_,a.qs,b.qs),(V_,a.qz,b.qz)]) from ((bin_nums (l:=[(Y_,a.qm,b.qm),(Q_,a.qs,b.qs),(V_,a.qz,b.qz)]) (by kernel_rfl) (by kernel_rfl) (by kernel_rfl) (by kernel_rfl) _ _).2))
 have oz3:=(show BinTo L_ BinOp.neq 69 (Operand.tmp 30) (Operand.tmp 32) (BI_ #[AQ_ Y_ a.rm,AQ_ Q_ a.rs,AQ_ V_ a.rz]) (BI_ #[AQ_ Y_ b.rm,AQ_ Q_ b.rs,AQ_ V_ b.rz]) (BS_ !eqNums [(Y_,a.rm,b.rm),(Q_,a.rs,b.rs),(V_,a.rz,b.rz)]) from ((bin_nums (l:=[(Y_,a.rm,b.rm),(Q_,a.rs,b.rs),(V_,a.rz,b.rz)]) (by kernel_rfl) (by kernel_rfl) (by kernel_rfl) (by kernel_rfl) _ _).2))
 rcases bft (!decide (a.w=b.w) || !decide (a.b=b.b) || !eqNums [(Y_,a.qm,b.qm),(Q_,a.qs,b.qs),(V_,a.qz,b.qz)] || !eqNums [(Y_,a.rm,b.rm),(Q_,a.rs,b.rs),(V_,a.rz,b.rz)]) with hc0|hc0
 ·have gc0:((¬a.w=b.w∨¬a.b=b.b)∨¬(a.qm=b.qm∧a.qs=b.qs∧a.qz=b.qz))∨¬(a.rm=b.rm∧a.rs=b.rs∧a.rz=b.rz):=by first|(simp only[Z_,T_,P_,S_,W_,U_,E_,F_,I_,J_,ne_eq,H_,G_,eqNums,C_] at hc0;first|exact hc0|omega)|simpa using hc0|(simp at hc0 ⊢;omega)|(apply cbc;intro hn;simp_all[eqNums];done)|(apply cbc;intro hn;simp[eqNums] at hc0 hn;omega)
  exact (VC.run (fn:=Tryz.f142) (W:=[r_,.r [] [.callr (rO oz0),o_,o_,o_,o_,o_,.callr (rO oz1),o_,.sel 1,o_,o_,o_,o_,o_,.v (BS_ !eqNums [(Y_,a.qm,b.qm),(Q_,a.qs,b.qs),(V_,a.qz,b.qz)]),.sel 1,o_,o_,o_,o_,o_,.v (BS_ !eqNums [(Y_,a.rm,b.rm),(Q_,a.rs,b.rs),(V_,a.rz,b.rz)]),.sel 1],b_,r_]) (r:=bv false) Tryz.func142 (by kernel_rfl) (.c oz0<|.c oz1<|.c oz2<|.c oz3<|.c hc0<|.n)).weak (B_ _) (AZ_ (by (exact nodEq_ne (by assumption))))
 ·have gc0:((a.w=b.w∧a.b=b.b)∧a.qm=b.qm∧a.qs=b.qs∧a.qz=b.qz)∧a.rm=b.rm∧a.rs=b.rs∧a.rz=b.rz:=by simp only[Z_,T_,P_,S_,W_,U_,E_,F_,I_,J_,ne_eq,H_,G_,eqNums,C_] at hc0;first|exact hc0|omega
  exact (VC.run (fn:=Tryz.f142) (W:=[r_,.r [] [.callr (rO oz0),o_,o_,o_,o_,o_,.callr (rO oz1),o_,.sel 1,o_,o_,o_,o_,o_,.v (BS_ !eqNums [(Y_,a.qm,b.qm),(Q_,a.qs,b.qs),(V_,a.qz,b.qz)]),.sel 1,o_,o_,o_,o_,o_,.v (BS_ !eqNums [(Y_,a.rm,b.rm),(Q_,a.rs,b.rs),(V_,a.rz,b.rz)]),.sel 1],d_,r_,r_,.r [] [.v (BS_ (eqNums [(Q_,a.kd,b.kd),(Q_,a.na,b.na),(Q_,a.nb,b.nb),(Q_,a.nk,b.nk),(Q_,a.ns,b.ns),(Q_,a.np,b.np)])),o_,o_,o_,o_,o_,.sel 2,o_,o_,o_,o_,o_,o_,o_,o_,o_,o_,o_,o_,o_,o_,o_,o_,o_,o_,o_,.v (BS_ (eqNums [(V_,a.za,b.za),(V_,a.zb,b.zb),(V_,a.lo,b.lo),(V_,a.hi,b.hi)])),.sel 2]]) (r:=bv (eqNums [(Q_,a.kd,b.kd),(Q_,a.na,b.na),(Q_,a.nb,b.nb),(Q_,a.nk,b.nk),(Q_,a.ns,b.ns),(Q_,a.np,b.np)]&&a.no==b.no&&eqNums [(V_,a.za,b.za),(V_,a.zb,b.zb),(V_,a.lo,b.lo),(V_,a.hi,b.hi)])) Tryz.func142 (by kernel_rfl) (.c oz0<|.c oz1<|.c oz2<|.c oz3<|.c hc0<|.c (show BinTo L_ BinOp.eql 269 (Operand.tmp 61) (Operand.tmp 62) (BI_ #[AQ_ Q_ a.kd,AQ_ Q_ a.na,AQ_ Q_ a.nb,AQ_ Q_ a.nk,AQ_ Q_ a.ns,AQ_ Q_ a.np]) (BI_ #[AQ_ Q_ b.kd,AQ_ Q_ b.na,AQ_ Q_ b.nb,AQ_ Q_ b.nk,AQ_ Q_ b.ns,AQ_ Q_ b.np]) (BS_ (eqNums [(Q_,a.kd,b.kd),(Q_,a.na,b.na),(Q_,a.nb,b.nb),(Q_,a.nk,b.nk),(Q_,a.ns,b.ns),(Q_,a.np,b.np)])) from ((bin_arr (l:=[(Q_,a.kd,b.kd),(Q_,a.na,b.na),(Q_,a.nb,b.nb),(Q_,a.nk,b.nk),(Q_,a.ns,b.ns),(Q_,a.np,b.np)]) (by kernel_rfl) (by kernel_rfl) _ _).1))<|.c (show BinTo L_ BinOp.eql 270 (Operand.tmp 80) (Operand.tmp 89) (BI_ #[AQ_ V_ a.za,AQ_ V_ a.zb,AQ_ V_ a.lo,AQ_ V_ a.hi]) (BI_ #[AQ_ V_ b.za,AQ_ V_ b.zb,AQ_ V_ b.lo,AQ_ V_ b.hi]) (BS_ (eqNums [(V_,a.za,b.za),(V_,a.zb,b.zb),(V_,a.lo,b.lo),(V_,a.hi,b.hi)])) from ((bin_arr (l:=[(V_,a.za,b.za),(V_,a.zb,b.zb),(V_,a.lo,b.lo),(V_,a.hi,b.hi)]) (by kernel_rfl) (by kernel_rfl) _ _).1))<|.n)).weak (B_ _) (AZ_ (by (exact nodEq_re (by assumption))))
noncomputable def efn_ly_I (l m:List Nod) (k:Nat):VS:=stt 32 [(0,.sl 19 (l.map nodC)),(1,.sl 19 (m.map nodC)),(2,.clo 142 []),(15,.sl 19 (l.map nodC)),(16,i64 l.length),(17,i64 k)] []
noncomputable def efn_ly_Z (l m:List Nod):VS:=efn_ly_I l m (l.length)
theorem efn_ly_s (l m:List Nod) (hb:l.length≤1000) (sz:∀ n∈l,n.w.length≤100000∧n.b.length≤100000) (hl:l.length=m.length) (h:∀ k,k<l.length→nodEq (l.getD k default) (m.getD k default)=true) (k:Nat) (hk:k<l.length):VT L_ (fnC Tryz.f141 [1,1,0,1,0,0]) (efn_ly_I l m k) .normal (efn_ly_I l m (k+1)):=by
 have q:=h k hk
 have q0:=getD_in sz hk
 obtain ⟨q1,q2⟩:=q0
 have oz1:=(show 0≤(↑k:Int) by omega)
 have oz2:=(map_at (nodC) (default) (l:=l) (i:=k) hk)
 have oz4:=(map_at (nodC) (default) (l:=m) (i:=k) (by omega))
 have oz5:=@bnod_v (l.getD k default) (m.getD k default) q1 q2
 exact VT.run (W:=[r_,b_,.r [] [.row (sO oz2)],.r [] [.row (sO oz4)],.r [] [.callr (rO oz5)],d_,.r [] [.n ((↑k:Int)+1)]]) (G:=[.any (rg [(7,3),(18,14)]),.drop [8,9],.weak 17 (i64 (↑(k+1):Int)),.sort]) (by kernel_rfl) (.c (decide_eq_true (p:=((↑k:Int)<(l.length:Int))) (by omega))<|.c oz1<|.c oz2<|.c oz1<|.c oz4<|.c oz5<|.c (show (!nodEq (l.getD k default) (m.getD k default))=false by (simp at *;omega))<|.c (i6n ((↑k:Int)+1) (by omega))<|.c (wS_ k)<|.n)
theorem efn_ly_e (l m:List Nod) (hb:l.length≤1000) (sz:∀ n∈l,n.w.length≤100000∧n.b.length≤100000) (hl:l.length=m.length) (h:∀ k,k<l.length→nodEq (l.getD k default) (m.getD k default)=true):VT L_ (fnC Tryz.f141 [1,1,0,1,0,0]) (efn_ly_I l m (l.length)) (.exit 0) (efn_ly_Z l m):=by
 exact VT.run (W:=[r_,d_]) (G:=[.any [18],.sort]) (by kernel_rfl) (.c (decide_eq_false (p:=((l.length:Int)<(l.length:Int))) (by omega))<|.n)
theorem efn_ly (l m:List Nod) (hb:l.length≤1000) (sz:∀ n∈l,n.w.length≤100000∧n.b.length≤100000) (hl:l.length=m.length) (h:∀ k,k<l.length→nodEq (l.getD k default) (m.getD k default)=true):VT L_ (fnC Tryz.f141 [1,1,0,1,0]) (efn_ly_I l m 0) (.exit 0) (efn_ly_Z l m) :=
 VT.loop (fun k=>efn_ly_I l m k) (l.length) (fun k hk=>efn_ly_s l m hb sz hl h k hk) (efn_ly_e l m hb sz hl h) (by intro h;cases h)
noncomputable def efn_ln_I (l m:List Nod) (i:Nat) (k:Nat):VS:=stt 32 [(0,.sl 19 (l.map nodC)),(1,.sl 19 (m.map nodC)),(2,.clo 142 []),(15,.sl 19 (l.map nodC)),(16,i64 l.length),(17,i64 k)] []
noncomputable def efn_ln_Z (l m:List Nod) (i:Nat):VS:=stt 32 [(6,bv false)] []
theorem efn_ln_s (l m:List Nod) (i:Nat) (hb:l.length≤1000) (sz:∀ n∈l,n.w.length≤100000∧n.b.length≤100000) (hl:l.length=m.length) (hi:i<l.length) (hf:nodEq (l.getD i default) (m.getD i default)=false) (h:∀ k,k<i→nodEq (l.getD k default) (m.getD k default)=true) (k:Nat) (hk:k<i):VT L_ (fnC Tryz.f141 [1,1,0,1,0,0]) (efn_ln_I l m i k) .normal (efn_ln_I l m i (k+1)):=by
 have q:=h k hk
 have q0:=getD_in sz (show k<l.length by omega)
 obtain ⟨q1,q2⟩:=q0
 have oz1:=(show 0≤(↑k:Int) by omega)
 have oz2:=(map_at (nodC) (default) (l:=l) (i:=k) (by omega))
 have oz4:=(map_at (nodC) (default) (l:=m) (i:=k) (by omega))
 have oz5:=@bnod_v (l.getD k default) (m.getD k default) q1 q2
 exact VT.run (W:=[r_,b_,.r [] [.row (sO oz2)],.r [] [.row (sO oz4)],.r [] [.callr (rO oz5)],d_,.r [] [.n ((↑k:Int)+1)]]) (G:=[.any (rg [(7,3),(18,14)]),.drop [8,9],.weak 17 (i64 (↑(k+1):Int)),.sort]) (by kernel_rfl) (.c (decide_eq_true (p:=((↑k:Int)<(l.length:Int))) (by omega))<|.c oz1<|.c oz2<|.c oz1<|.c oz4<|.c oz5<|.c (show (!nodEq (l.getD k default) (m.getD k default))=false by (simp at *;omega))<|.c (i6n ((↑k:Int)+1) (by omega))<|.c (wS_ k)<|.n)
theorem efn_ln_e (l m:List Nod) (i:Nat) (hb:l.length≤1000) (sz:∀ n∈l,n.w.length≤100000∧n.b.length≤100000) (hl:l.length=m.length) (hi:i<l.length) (hf:nodEq (l.getD i default) (m.getD i default)=false) (h:∀ k,k<i→nodEq (l.getD k default) (m.getD k default)=true):VT L_ (fnC Tryz.f141 [1,1,0,1,0,0]) (efn_ln_I l m i (i)) (.ret) (efn_ln_Z l m i):=by
 have q0:=getD_in sz hi
 obtain ⟨q1,q2⟩:=q0
 have oz1:=(show 0≤(↑i:Int) by omega)
 have oz2:=(map_at (nodC) (default) (l:=l) (i:=i) hi)
 have oz4:=(map_at (nodC) (default) (l:=m) (i:=i) (by omega))
 have oz5:=@bnod_v (l.getD i default) (m.getD i default) q1 q2
 exact VT.run (W:=[r_,b_,.r [] [.row (sO oz2)],.r [] [.row (sO oz4)],.r [] [.callr (rO oz5)],b_,r_]) (G:=[.any (rg [(0,3),(7,3),(15,16)]),.drop [8,9],.sort]) (by kernel_rfl) (.c (decide_eq_true (p:=((↑i:Int)<(l.length:Int))) (by omega))<|.c oz1<|.c oz2<|.c oz1<|.c oz4<|.c oz5<|.c (show (!nodEq (l.getD i default) (m.getD i default))=true by (simp at *;omega))<|.n)
theorem efn_ln (l m:List Nod) (i:Nat) (hb:l.length≤1000) (sz:∀ n∈l,n.w.length≤100000∧n.b.length≤100000) (hl:l.length=m.length) (hi:i<l.length) (hf:nodEq (l.getD i default) (m.getD i default)=false) (h:∀ k,k<i→nodEq (l.getD k default) (m.getD k default)=true):VT L_ (fnC Tryz.f141 [1,1,0,1,0]) (efn_ln_I l m i 0) (.ret) (efn_ln_Z l m i) :=
 VT.loop (fun k=>efn_ln_I l m i k) (i) (fun k hk=>efn_ln_s l m i hb sz hl hi hf h k hk) (efn_ln_e l m i hb sz hl hi hf h) (by intro h;cases h)
theorem efn_d (l m:List Nod) (hb:l.length≤1000) (sz:∀ n∈l,n.w.length≤100000∧n.b.length≤100000) (hl:l.length≠m.length):VC L_ 141 ([.sl 19 (l.map nodC),.sl 19 (m.map nodC),.clo 142 []]) (bv false):=by
 exact VC.run (fn:=Tryz.f141) (W:=[r_,r_,b_,r_]) Tryz.func141 (by kernel_rfl) (.c (show (((K_ nodC l).length:Int) != ((K_ nodC m).length:Int))=true by (simp;omega))<|.n)
theorem efn_y (l m:List Nod) (hb:l.length≤1000) (sz:∀ n∈l,n.w.length≤100000∧n.b.length≤100000) (hl:l.length=m.length) (h:∀ k,k<l.length→nodEq (l.getD k default) (m.getD k default)=true):VC L_ 141 ([.sl 19 (l.map nodC),.sl 19 (m.map nodC),.clo 142 []]) (bv true):=by
 have oz3:=@efn_ly (l) (m) hb sz hl h
 exact VC.run (fn:=Tryz.f141) (W:=[r_,r_,d_,r_,.code [.any (rg [(6,1),(10,5)]),.weak 16 (i64 (l.length:Int)),.weak 17 (i64 (↑0:Int)),.sort] (AF_ 0) (zO oz3),r_]) Tryz.func141 (by kernel_rfl) (.c (show (((K_ nodC l).length:Int) != ((K_ nodC m).length:Int))=false by (simp;omega))<|.c (R_ (k:=.i64) (show ((((K_ nodC l).length:Int)):Int)=((l.length:Int)) from (by (simp;done))))<|.c w0_<|.c oz3<|.n)
theorem efn_n (l m:List Nod) (i:Nat) (hb:l.length≤1000) (sz:∀ n∈l,n.w.length≤100000∧n.b.length≤100000) (hl:l.length=m.length) (hi:i<l.length) (hf:nodEq (l.getD i default) (m.getD i default)=false) (h:∀ k,k<i→nodEq (l.getD k default) (m.getD k default)=true):VC L_ 141 ([.sl 19 (l.map nodC),.sl 19 (m.map nodC),.clo 142 []]) (bv false):=by
 have oz3:=@efn_ln (l) (m) (i) hb sz hl hi hf h
 exact VC.run (fn:=Tryz.f141) (W:=[r_,r_,d_,r_,.code [.any (rg [(6,1),(10,5)]),.weak 16 (i64 (l.length:Int)),.weak 17 (i64 (↑0:Int)),.sort] (CA_) (zO oz3)]) Tryz.func141 (by kernel_rfl) (.c (show (((K_ nodC l).length:Int) != ((K_ nodC m).length:Int))=false by (simp;omega))<|.c (R_ (k:=.i64) (show ((((K_ nodC l).length:Int)):Int)=((l.length:Int)) from (by (simp;done))))<|.c w0_<|.c oz3<|.n)
theorem efn_v (l m:List Nod) (hb:l.length≤1000) (sz:∀ n∈l,n.w.length≤100000∧n.b.length≤100000):VC L_ 141 [.sl 19 (l.map nodC),.sl 19 (m.map nodC),.clo 142 []] (bv (zipAll nodEq l m)):=by
 rcases zip_cases nodEq l m with ⟨h,e⟩|⟨h,q,e⟩|⟨h,i,hi,hf,q,e⟩
 ·rw[e];exact efn_d l m hb sz h
 ·rw[e];exact efn_y l m hb sz h q
 ·rw[e];exact efn_n l m i hb sz h hi hf q
structure Blc.Sz (x:Blc):Prop where
 l:x.n.length≤1000
 n:∀ n∈x.n,n.w.length≤100000∧n.b.length≤100000
 w:x.w.length≤100000
 b:x.b.length≤100000
def blcEq (x y:Blc):Bool:=decide (x.w=y.w)&&decide (x.b=y.b)&&(x.nd==y.nd)&&(x.ex==y.ex)&&zipAll nodEq x.n y.n
theorem bblk_v (x y:Blc) (sz:x.Sz):VC L_ 97 ([blc x,blc y]) (bv (blcEq x y)):=by
 obtain ⟨q1,q2,q3,q4⟩:=id sz
 have oz0:=@eq8_v (x.w) (y.w) (by omega)
 have oz1:=@eq32_v (x.b) (y.b) (by omega)
 have oz2:=@efn_v (x.n) (y.n) q1 q2
 exact (VC.run (fn:=Tryz.f97) (W:=[r_,.r [] [.callr (rO oz0),o_,o_,o_,o_,o_,o_,o_,.callr (rO oz1),.sel 2,o_,o_,o_,o_,o_,o_,o_,.sel 2],.r [] [o_,o_,o_,o_,o_,.sel 2,o_,o_,o_,o_,o_,.callr (rO oz2),.sel 2]]) (r:=bv (decide (x.w=y.w)&&decide (x.b=y.b)&&x.nd==y.nd&&x.ex==y.ex&&zipAll nodEq x.n y.n)) Tryz.func97 (by kernel_rfl) (.c oz0<|.c oz1<|.c oz2<|.n)).weak (B_ _) (AZ_ (by rfl))
noncomputable def efb_ly_I (l m:List Blc) (k:Nat):VS:=stt 32 [(0,.sl 5 (l.map blcC)),(1,.sl 5 (m.map blcC)),(2,.clo 97 []),(15,.sl 5 (l.map blcC)),(16,i64 l.length),(17,i64 k)] []
noncomputable def efb_ly_Z (l m:List Blc):VS:=efb_ly_I l m (l.length)
theorem efb_ly_s (l m:List Blc) (hb:l.length≤1000) (sz:∀ n∈l,n.Sz) (hl:l.length=m.length) (h:∀ k,k<l.length→blcEq (l.getD k default) (m.getD k default)=true) (k:Nat) (hk:k<l.length):VT L_ (fnC Tryz.f96 [1,1,0,1,0,0]) (efb_ly_I l m k) .normal (efb_ly_I l m (k+1)):=by
 have q:=h k hk
 have q0:=getD_in sz hk
 have oz1:=(show 0≤(↑k:Int) by omega)
 have oz2:=(map_at (blcC) (default) (l:=l) (i:=k) hk)
 have oz4:=(map_at (blcC) (default) (l:=m) (i:=k) (by omega))
 have oz5:=@bblk_v (l.getD k default) (m.getD k default) q0
 exact VT.run (W:=[r_,b_,.r [] [.row (sO oz2)],.r [] [.row (sO oz4)],.r [] [.callr (rO oz5)],d_,.r [] [.n ((↑k:Int)+1)]]) (G:=[.any (rg [(7,3),(18,14)]),.drop [8,9],.weak 17 (i64 (↑(k+1):Int)),.sort]) (by kernel_rfl) (.c (decide_eq_true (p:=((↑k:Int)<(l.length:Int))) (by omega))<|.c oz1<|.c oz2<|.c oz1<|.c oz4<|.c oz5<|.c (show (!blcEq (l.getD k default) (m.getD k default))=false by (simp at *;omega))<|.c (i6n ((↑k:Int)+1) (by omega))<|.c (wS_ k)<|.n)
theorem efb_ly_e (l m:List Blc) (hb:l.length≤1000) (sz:∀ n∈l,n.Sz) (hl:l.length=m.length) (h:∀ k,k<l.length→blcEq (l.getD k default) (m.getD k default)=true):VT L_ (fnC Tryz.f96 [1,1,0,1,0,0]) (efb_ly_I l m (l.length)) (.exit 0) (efb_ly_Z l m):=by
 exact VT.run (W:=[r_,d_]) (G:=[.any [18],.sort]) (by kernel_rfl) (.c (decide_eq_false (p:=((l.length:Int)<(l.length:Int))) (by omega))<|.n)
theorem efb_ly (l m:List Blc) (hb:l.length≤1000) (sz:∀ n∈l,n.Sz) (hl:l.length=m.length) (h:∀ k,k<l.length→blcEq (l.getD k default) (m.getD k default)=true):VT L_ (fnC Tryz.f96 [1,1,0,1,0]) (efb_ly_I l m 0) (.exit 0) (efb_ly_Z l m) :=
 VT.loop (fun k=>efb_ly_I l m k) (l.length) (fun k hk=>efb_ly_s l m hb sz hl h k hk) (efb_ly_e l m hb sz hl h) (by intro h;cases h)
noncomputable def efb_ln_I (l m:List Blc) (i:Nat) (k:Nat):VS:=stt 32 [(0,.sl 5 (l.map blcC)),(1,.sl 5 (m.map blcC)),(2,.clo 97 []),(15,.sl 5 (l.map blcC)),(16,i64 l.length),(17,i64 k)] []
noncomputable def efb_ln_Z (l m:List Blc) (i:Nat):VS:=stt 32 [(6,bv false)] []
theorem efb_ln_s (l m:List Blc) (i:Nat) (hb:l.length≤1000) (sz:∀ n∈l,n.Sz) (hl:l.length=m.length) (hi:i<l.length) (hf:blcEq (l.getD i default) (m.getD i default)=false) (h:∀ k,k<i→blcEq (l.getD k default) (m.getD k default)=true) (k:Nat) (hk:k<i):VT L_ (fnC Tryz.f96 [1,1,0,1,0,0]) (efb_ln_I l m i k) .normal (efb_ln_I l m i (k+1)):=by
 have q:=h k hk
 have q0:=getD_in sz (show k<l.length by omega)
 have oz1:=(show 0≤(↑k:Int) by omega)
 have oz2:=(map_at (blcC) (default) (l:=l) (i:=k) (by omega))
 have oz4:=(map_at (blcC) (default) (l:=m) (i:=k) (by omega))
 have oz5:=@bblk_v (l.getD k default) (m.getD k default) q0
 exact VT.run (W:=[r_,b_,.r [] [.row (sO oz2)],.r [] [.row (sO oz4)],.r [] [.callr (rO oz5)],d_,.r [] [.n ((↑k:Int)+1)]]) (G:=[.any (rg [(7,3),(18,14)]),.drop [8,9],.weak 17 (i64 (↑(k+1):Int)),.sort]) (by kernel_rfl) (.c (decide_eq_true (p:=((↑k:Int)<(l.length:Int))) (by omega))<|.c oz1<|.c oz2<|.c oz1<|.c oz4<|.c oz5<|.c (show (!blcEq (l.getD k default) (m.getD k default))=false by (simp at *;omega))<|.c (i6n ((↑k:Int)+1) (by omega))<|.c (wS_ k)<|.n)
theorem efb_ln_e (l m:List Blc) (i:Nat) (hb:l.length≤1000) (sz:∀ n∈l,n.Sz) (hl:l.length=m.length) (hi:i<l.length) (hf:blcEq (l.getD i default) (m.getD i default)=false) (h:∀ k,k<i→blcEq (l.getD k default) (m.getD k default)=true):VT L_ (fnC Tryz.f96 [1,1,0,1,0,0]) (efb_ln_I l m i (i)) (.ret) (efb_ln_Z l m i):=by
 have q0:=getD_in sz hi
 have oz1:=(show 0≤(↑i:Int) by omega)
 have oz2:=(map_at (blcC) (default) (l:=l) (i:=i) hi)
 have oz4:=(map_at (blcC) (default) (l:=m) (i:=i) (by omega))
 have oz5:=@bblk_v (l.getD i default) (m.getD i default) q0
 exact VT.run (W:=[r_,b_,.r [] [.row (sO oz2)],.r [] [.row (sO oz4)],.r [] [.callr (rO oz5)],b_,r_]) (G:=[.any (rg [(0,3),(7,3),(15,16)]),.drop [8,9],.sort]) (by kernel_rfl) (.c (decide_eq_true (p:=((↑i:Int)<(l.length:Int))) (by omega))<|.c oz1<|.c oz2<|.c oz1<|.c oz4<|.c oz5<|.c (show (!blcEq (l.getD i default) (m.getD i default))=true by (simp at *;omega))<|.n)
theorem efb_ln (l m:List Blc) (i:Nat) (hb:l.length≤1000) (sz:∀ n∈l,n.Sz) (hl:l.length=m.length) (hi:i<l.length) (hf:blcEq (l.getD i default) (m.getD i default)=false) (h:∀ k,k<i→blcEq (l.getD k default) (m.getD k default)=true):VT L_ (fnC Tryz.f96 [1,1,0,1,0]) (efb_ln_I l m i 0) (.ret) (efb_ln_Z l m i) :=
 VT.loop (fun k=>efb_ln_I l m i k) (i) (fun k hk=>efb_ln_s l m i hb sz hl hi hf h k hk) (efb_ln_e l m i hb sz hl hi hf h) (by intro h;cases h)
theorem efb_d (l m:List Blc) (hb:l.length≤1000) (sz:∀ n∈l,n.Sz) (hl:l.length≠m.length):VC L_ 96 ([.sl 5 (l.map blcC),.sl 5 (m.map blcC),.clo 97 []]) (bv false):=by
 exact VC.run (fn:=Tryz.f96) (W:=[r_,r_,b_,r_]) Tryz.func96 (by kernel_rfl) (.c (show (((K_ blcC l).length:Int) != ((K_ blcC m).length:Int))=true by (simp;omega))<|.n)
theorem efb_y (l m:List Blc) (hb:l.length≤1000) (sz:∀ n∈l,n.Sz) (hl:l.length=m.length) (h:∀ k,k<l.length→blcEq (l.getD k default) (m.getD k default)=true):VC L_ 96 ([.sl 5 (l.map blcC),.sl 5 (m.map blcC),.clo 97 []]) (bv true):=by
 have oz3:=@efb_ly (l) (m) hb sz hl h
 exact VC.run (fn:=Tryz.f96) (W:=[r_,r_,d_,r_,.code [.any (rg [(6,1),(10,5)]),.weak 16 (i64 (l.length:Int)),.weak 17 (i64 (↑0:Int)),.sort] (AF_ 0) (zO oz3),r_]) Tryz.func96 (by kernel_rfl) (.c (show (((K_ blcC l).length:Int) != ((K_ blcC m).length:Int))=false by (simp;omega))<|.c (R_ (k:=.i64) (show ((((K_ blcC l).length:Int)):Int)=((l.length:Int)) from (by (simp;done))))<|.c w0_<|.c oz3<|.n)
theorem efb_n (l m:List Blc) (i:Nat) (hb:l.length≤1000) (sz:∀ n∈l,n.Sz) (hl:l.length=m.length) (hi:i<l.length) (hf:blcEq (l.getD i default) (m.getD i default)=false) (h:∀ k,k<i→blcEq (l.getD k default) (m.getD k default)=true):VC L_ 96 ([.sl 5 (l.map blcC),.sl 5 (m.map blcC),.clo 97 []]) (bv false):=by
 have oz3:=@efb_ln (l) (m) (i) hb sz hl hi hf h
 exact VC.run (fn:=Tryz.f96) (W:=[r_,r_,d_,r_,.code [.any (rg [(6,1),(10,5)]),.weak 16 (i64 (l.length:Int)),.weak 17 (i64 (↑0:Int)),.sort] (CA_) (zO oz3)]) Tryz.func96 (by kernel_rfl) (.c (show (((K_ blcC l).length:Int) != ((K_ blcC m).length:Int))=false by (simp;omega))<|.c (R_ (k:=.i64) (show ((((K_ blcC l).length:Int)):Int)=((l.length:Int)) from (by (simp;done))))<|.c w0_<|.c oz3<|.n)
theorem efb_v (l m:List Blc) (hb:l.length≤1000) (sz:∀ n∈l,n.Sz):VC L_ 96 [.sl 5 (l.map blcC),.sl 5 (m.map blcC),.clo 97 []] (bv (zipAll blcEq l m)):=by
 rcases zip_cases blcEq l m with ⟨h,e⟩|⟨h,q,e⟩|⟨h,i,hi,hf,q,e⟩
 ·rw[e];exact efb_d l m hb sz h
 ·rw[e];exact efb_y l m hb sz h q
 ·rw[e];exact efb_n l m i hb sz h hi hf q
structure Mdl.Sz (m:Mdl):Prop where
 l:m.l.length≤1000
 b:∀ x∈m.l,x.Sz
def mdlEq (a b:Mdl):Bool:=zipAll blcEq a.l b.l
theorem bmod_v (a b:Mdl) (sz:a.Sz):VC L_ 58 ([.agg (mdlC a),.agg (mdlC b)]) (bv (mdlEq a b)):=by
 obtain ⟨q1,q2⟩:=id sz
 have oz0:=@efb_v (a.l) (b.l) q1 q2
 exact (VC.run (fn:=Tryz.f58) (W:=[r_,.r [] [.callr (rO oz0)]]) (r:=bv (zipAll blcEq a.l b.l)) Tryz.func58 (by kernel_rfl) (.c oz0<|.n)).weak (B_ _) (AZ_ (by rfl))
noncomputable def efm_ly_I (l m:List Mdl) (k:Nat):VS:=stt 32 [(0,.sl 1 (l.map mdlC)),(1,.sl 1 (m.map mdlC)),(2,.clo 58 []),(15,.sl 1 (l.map mdlC)),(16,i64 l.length),(17,i64 k)] []
noncomputable def efm_ly_Z (l m:List Mdl):VS:=efm_ly_I l m (l.length)
theorem efm_ly_s (l m:List Mdl) (hb:l.length≤1000) (sz:∀ n∈l,n.Sz) (hl:l.length=m.length) (h:∀ k,k<l.length→mdlEq (l.getD k default) (m.getD k default)=true) (k:Nat) (hk:k<l.length):VT L_ (fnC Tryz.f57 [1,1,0,1,0,0]) (efm_ly_I l m k) .normal (efm_ly_I l m (k+1)):=by
 have q:=h k hk
 have q0:=getD_in sz hk
 have oz1:=(show 0≤(↑k:Int) by omega)
 have oz5:=@bmod_v (Mdl.mk (l.getD k default).l) (Mdl.mk (m.getD k default).l) q0
 exact VT.run (W:=[r_,b_,.r [] [.row [AV.sl 5 (K_ blcC (l.getD k default).l)]],.r [] [.row [AV.sl 5 (K_ blcC (m.getD k default).l)]],.r [] [.callr (rO oz5)],d_,.r [] [.n ((↑k:Int)+1)]]) (G:=[.any (rg [(7,3),(18,14)]),.drop [8,9],.weak 17 (i64 (↑(k+1):Int)),.sort]) (by kernel_rfl) (.c (decide_eq_true (p:=((↑k:Int)<(l.length:Int))) (by (try dsimp only);omega))<|.c oz1<|.c (map_at (mdlC) (default) (l:=l) (i:=k) hk)<|.c oz1<|.c (map_at (mdlC) (default) (l:=m) (i:=k) (by (try dsimp only);omega))<|.c oz5<|.c (show (!mdlEq (Mdl.mk (l.getD k default).l) (Mdl.mk (m.getD k default).l))=false by (simp at *;omega))<|.c (i6n ((↑k:Int)+1) (by (try dsimp only);omega))<|.c (R_ (k:=.i64) (show (((↑k:Int)+1):Int)=((↑(k+1):Int)) from (by (try dsimp only);omega)))<|.n)
theorem efm_ly_e (l m:List Mdl) (hb:l.length≤1000) (sz:∀ n∈l,n.Sz) (hl:l.length=m.length) (h:∀ k,k<l.length→mdlEq (l.getD k default) (m.getD k default)=true):VT L_ (fnC Tryz.f57 [1,1,0,1,0,0]) (efm_ly_I l m (l.length)) (.exit 0) (efm_ly_Z l m):=by
 exact VT.run (W:=[r_,d_]) (G:=[.any [18],.sort]) (by kernel_rfl) (.c (decide_eq_false (p:=((l.length:Int)<(l.length:Int))) (by omega))<|.n)
theorem efm_ly (l m:List Mdl) (hb:l.length≤1000) (sz:∀ n∈l,n.Sz) (hl:l.length=m.length) (h:∀ k,k<l.length→mdlEq (l.getD k default) (m.getD k default)=true):VT L_ (fnC Tryz.f57 [1,1,0,1,0]) (efm_ly_I l m 0) (.exit 0) (efm_ly_Z l m) :=
 VT.loop (fun k=>efm_ly_I l m k) (l.length) (fun k hk=>efm_ly_s l m hb sz hl h k hk) (efm_ly_e l m hb sz hl h) (by intro h;cases h)
noncomputable def efm_ln_I (l m:List Mdl) (i:Nat) (k:Nat):VS:=stt 32 [(0,.sl 1 (l.map mdlC)),(1,.sl 1 (m.map mdlC)),(2,.clo 58 []),(15,.sl 1 (l.map mdlC)),(16,i64 l.length),(17,i64 k)] []
noncomputable def efm_ln_Z (l m:List Mdl) (i:Nat):VS:=stt 32 [(6,bv false)] []
theorem efm_ln_s (l m:List Mdl) (i:Nat) (hb:l.length≤1000) (sz:∀ n∈l,n.Sz) (hl:l.length=m.length) (hi:i<l.length) (hf:mdlEq (l.getD i default) (m.getD i default)=false) (h:∀ k,k<i→mdlEq (l.getD k default) (m.getD k default)=true) (k:Nat) (hk:k<i):VT L_ (fnC Tryz.f57 [1,1,0,1,0,0]) (efm_ln_I l m i k) .normal (efm_ln_I l m i (k+1)):=by
 have q:=h k hk
 have q0:=getD_in sz (show k<l.length by omega)
 have oz1:=(show 0≤(↑k:Int) by omega)
 have oz5:=@bmod_v (Mdl.mk (l.getD k default).l) (Mdl.mk (m.getD k default).l) q0
 exact VT.run (W:=[r_,b_,.r [] [.row [AV.sl 5 (K_ blcC (l.getD k default).l)]],.r [] [.row [AV.sl 5 (K_ blcC (m.getD k default).l)]],.r [] [.callr (rO oz5)],d_,.r [] [.n ((↑k:Int)+1)]]) (G:=[.any (rg [(7,3),(18,14)]),.drop [8,9],.weak 17 (i64 (↑(k+1):Int)),.sort]) (by kernel_rfl) (.c (decide_eq_true (p:=((↑k:Int)<(l.length:Int))) (by (try dsimp only);omega))<|.c oz1<|.c (map_at (mdlC) (default) (l:=l) (i:=k) (by (try dsimp only);omega))<|.c oz1<|.c (map_at (mdlC) (default) (l:=m) (i:=k) (by (try dsimp only);omega))<|.c oz5<|.c (show (!mdlEq (Mdl.mk (l.getD k default).l) (Mdl.mk (m.getD k default).l))=false by (simp at *;omega))<|.c (i6n ((↑k:Int)+1) (by (try dsimp only);omega))<|.c (R_ (k:=.i64) (show (((↑k:Int)+1):Int)=((↑(k+1):Int)) from (by (try dsimp only);omega)))<|.n)
theorem efm_ln_e (l m:List Mdl) (i:Nat) (hb:l.length≤1000) (sz:∀ n∈l,n.Sz) (hl:l.length=m.length) (hi:i<l.length) (hf:mdlEq (l.getD i default) (m.getD i default)=false) (h:∀ k,k<i→mdlEq (l.getD k default) (m.getD k default)=true):VT L_ (fnC Tryz.f57 [1,1,0,1,0,0]) (efm_ln_I l m i (i)) (.ret) (efm_ln_Z l m i):=by
 have q0:=getD_in sz hi
 have oz1:=(show 0≤(↑i:Int) by omega)
 have oz5:=@bmod_v (Mdl.mk (l.getD i default).l) (Mdl.mk (m.getD i default).l) q0
 exact VT.run (W:=[r_,b_,.r [] [.row [AV.sl 5 (K_ blcC (l.getD i default).l)]],.r [] [.row [AV.sl 5 (K_ blcC (m.getD i default).l)]],.r [] [.callr (rO oz5)],b_,r_]) (G:=[.any (rg [(0,3),(7,3),(15,16)]),.drop [8,9],.sort]) (by kernel_rfl) (.c (decide_eq_true (p:=((↑i:Int)<(l.length:Int))) (by (try dsimp only);omega))<|.c oz1<|.c (map_at (mdlC) (default) (l:=l) (i:=i) hi)<|.c oz1<|.c (map_at (mdlC) (default) (l:=m) (i:=i) (by (try dsimp only);omega))<|.c oz5<|.c (show (!mdlEq (Mdl.mk (l.getD i default).l) (Mdl.mk (m.getD i default).l))=true by (simp at *;omega))<|.n)
theorem efm_ln (l m:List Mdl) (i:Nat) (hb:l.length≤1000) (sz:∀ n∈l,n.Sz) (hl:l.length=m.length) (hi:i<l.length) (hf:mdlEq (l.getD i default) (m.getD i default)=false) (h:∀ k,k<i→mdlEq (l.getD k default) (m.getD k default)=true):VT L_ (fnC Tryz.f57 [1,1,0,1,0]) (efm_ln_I l m i 0) (.ret) (efm_ln_Z l m i) :=
 VT.loop (fun k=>efm_ln_I l m i k) (i) (fun k hk=>efm_ln_s l m i hb sz hl hi hf h k hk) (efm_ln_e l m i hb sz hl hi hf h) (by intro h;cases h)
theorem efm_d (l m:List Mdl) (hb:l.length≤1000) (sz:∀ n∈l,n.Sz) (hl:l.length≠m.length):VC L_ 57 ([.sl 1 (l.map mdlC),.sl 1 (m.map mdlC),.clo 58 []]) (bv false):=by
 exact VC.run (fn:=Tryz.f57) (W:=[r_,r_,b_,r_]) Tryz.func57 (by kernel_rfl) (.c (show (((K_ mdlC l).length:Int) != ((K_ mdlC m).length:Int))=true by (simp;omega))<|.n)
theorem efm_y (l m:List Mdl) (hb:l.length≤1000) (sz:∀ n∈l,n.Sz) (hl:l.length=m.length) (h:∀ k,k<l.length→mdlEq (l.getD k default) (m.getD k default)=true):VC L_ 57 ([.sl 1 (l.map mdlC),.sl 1 (m.map mdlC),.clo 58 []]) (bv true):=by
 have oz3:=@efm_ly (l) (m) hb sz hl h
 exact VC.run (fn:=Tryz.f57) (W:=[r_,r_,d_,r_,.code [.any (rg [(6,1),(10,5)]),.weak 16 (i64 (l.length:Int)),.weak 17 (i64 (↑0:Int)),.sort] (AF_ 0) (zO oz3),r_]) Tryz.func57 (by kernel_rfl) (.c (show (((K_ mdlC l).length:Int) != ((K_ mdlC m).length:Int))=false by (simp;omega))<|.c (R_ (k:=.i64) (show ((((K_ mdlC l).length:Int)):Int)=((l.length:Int)) from (by (simp;done))))<|.c w0_<|.c oz3<|.n)
theorem efm_n (l m:List Mdl) (i:Nat) (hb:l.length≤1000) (sz:∀ n∈l,n.Sz) (hl:l.length=m.length) (hi:i<l.length) (hf:mdlEq (l.getD i default) (m.getD i default)=false) (h:∀ k,k<i→mdlEq (l.getD k default) (m.getD k default)=true):VC L_ 57 ([.sl 1 (l.map mdlC),.sl 1 (m.map mdlC),.clo 58 []]) (bv false):=by
 have oz3:=@efm_ln (l) (m) (i) hb sz hl hi hf h
 exact VC.run (fn:=Tryz.f57) (W:=[r_,r_,d_,r_,.code [.any (rg [(6,1),(10,5)]),.weak 16 (i64 (l.length:Int)),.weak 17 (i64 (↑0:Int)),.sort] (CA_) (zO oz3)]) Tryz.func57 (by kernel_rfl) (.c (show (((K_ mdlC l).length:Int) != ((K_ mdlC m).length:Int))=false by (simp;omega))<|.c (R_ (k:=.i64) (show ((((K_ mdlC l).length:Int)):Int)=((l.length:Int)) from (by (simp;done))))<|.c w0_<|.c oz3<|.n)
theorem efm_v (l m:List Mdl) (hb:l.length≤1000) (sz:∀ n∈l,n.Sz):VC L_ 57 [.sl 1 (l.map mdlC),.sl 1 (m.map mdlC),.clo 58 []] (bv (zipAll mdlEq l m)):=by
 rcases zip_cases mdlEq l m with ⟨h,e⟩|⟨h,q,e⟩|⟨h,i,hi,hf,q,e⟩
 ·rw[e];exact efm_d l m hb sz h
 ·rw[e];exact efm_y l m hb sz h q
 ·rw[e];exact efm_n l m i hb sz h hi hf q
structure Bun.Sz (u:Bun):Prop where
 l:u.m.length≤1000
 b:∀ x∈u.m,x.Sz
def bunEq (a b:Bun):Bool:=a.h==b.h&&a.x==b.x&&a.c==b.c&&a.cl==b.cl&&zipAll mdlEq a.m b.m
theorem bsame_v (a b:Bun) (sz:a.Sz):VC L_ 25 ([bun a,bun b]) (bv (bunEq a b)):=by
 obtain ⟨q1,q2⟩:=id sz
 have oz1:=@efm_v (a.m) (b.m) q1 q2
 exact (VC.run (fn:=Tryz.f25) (W:=[r_,.r [] [.v (BS_ (eqNums [(Q_,a.h,b.h),(Q_,a.x,b.x),(Q_,a.c,b.c)])),o_,o_,o_,o_,o_,.sel 2,o_,o_,o_,o_,o_,.callr (rO oz1),.sel 2]]) (r:=bv (eqNums [(Q_,a.h,b.h),(Q_,a.x,b.x),(Q_,a.c,b.c)]&&a.cl==b.cl&&zipAll mdlEq a.m b.m)) Tryz.func25 (by kernel_rfl) (.c (show BinTo L_ BinOp.eql 23 (Operand.tmp 6) (Operand.tmp 8) (BI_ #[AQ_ Q_ a.h,AQ_ Q_ a.x,AQ_ Q_ a.c]) (BI_ #[AQ_ Q_ b.h,AQ_ Q_ b.x,AQ_ Q_ b.c]) (BS_ (eqNums [(Q_,a.h,b.h),(Q_,a.x,b.x),(Q_,a.c,b.c)])) from ((bin_nums (l:=[(Q_,a.h,b.h),(Q_,a.x,b.x),(Q_,a.c,b.c)]) (by kernel_rfl) (by kernel_rfl) (by kernel_rfl) (by kernel_rfl) _ _).1))<|.c oz1<|.n)).weak (B_ _) (AZ_ (by (simp[bunEq,eqNums,Bool.and_assoc];done)))
noncomputable def lbk_ly_I (x y:Blc) (k:Nat):VS:=stt 68 [(2,.ptr 2 0 0),(3,.ptr 3 0 0),(5,i64 k)] [(2,.var (blcC x)),(3,.var (blcC y))]
noncomputable def lbk_ly_Z (x y:Blc):VS:=lbk_ly_I x y (x.n.length)
theorem lbk_ly_s (x y:Blc) (sz:x.Sz) (hl:x.n.length=y.n.length) (h:∀ k,k<x.n.length→nodEq (x.n.getD k default) (y.n.getD k default)=true) (k:Nat) (hk:k<x.n.length):VT L_ (fnC Tryz.f76 [1,1,0,1,0,0]) (lbk_ly_I x y k) .normal (lbk_ly_I x y (k+1)):=by
 have q:=h k hk
 have qz:=id sz
 have qm:=getD_in qz.n hk
 obtain ⟨qn1,qn2⟩:=qm
 have qb:=qz.l
 have oz1:=(show 0≤(↑k:Int) by omega)
 have oz2:=(map_at (nodC) (default) (l:=x.n) (i:=k) hk)
 have oz4:=(map_at (nodC) (default) (l:=y.n) (i:=k) (by omega))
 have oz5:=@refSame_v (x.n.getD k default) (y.n.getD k default) qn1 qn2
 exact VT.run (W:=[r_,b_,.r [] [.row (sO oz2),.row (sO oz4),.callr (rO oz5)],d_,.r [] [.n ((↑k:Int)+1)]]) (G:=[.any (rg [(49,19)]),.weak 5 (i64 (↑(k+1):Int)),.sort]) (by kernel_rfl) (.c (show decide ((↑k:Int)<((K_ nodC x.n).length:Int))=true by (simp;omega))<|.c oz1<|.c oz2<|.c oz1<|.c oz4<|.c oz5<|.c (show (!nodEq (x.n.getD k default) (y.n.getD k default))=false by (simp at *;omega))<|.c (i6n ((↑k:Int)+1) (by omega))<|.c (wS_ k)<|.n)
theorem lbk_ly_e (x y:Blc) (sz:x.Sz) (hl:x.n.length=y.n.length) (h:∀ k,k<x.n.length→nodEq (x.n.getD k default) (y.n.getD k default)=true):VT L_ (fnC Tryz.f76 [1,1,0,1,0,0]) (lbk_ly_I x y (x.n.length)) (.exit 0) (lbk_ly_Z x y):=by
 exact VT.run (W:=[r_,d_]) (G:=[.any (rg [(49,5)]),.sort]) (by kernel_rfl) (.c (show decide ((x.n.length:Int)<((K_ nodC x.n).length:Int))=false by (simp;done))<|.n)
theorem lbk_ly (x y:Blc) (sz:x.Sz) (hl:x.n.length=y.n.length) (h:∀ k,k<x.n.length→nodEq (x.n.getD k default) (y.n.getD k default)=true):VT L_ (fnC Tryz.f76 [1,1,0,1,0]) (lbk_ly_I x y 0) (.exit 0) (lbk_ly_Z x y) :=
 VT.loop (fun k=>lbk_ly_I x y k) (x.n.length) (fun k hk=>lbk_ly_s x y sz hl h k hk) (lbk_ly_e x y sz hl h) (by intro h;cases h)
noncomputable def lbk_ln_I (x y:Blc) (i:Nat) (k:Nat):VS:=stt 68 [(2,.ptr 2 0 0),(3,.ptr 3 0 0),(5,i64 k)] [(2,.var (blcC x)),(3,.var (blcC y))]
noncomputable def lbk_ln_Z (x y:Blc) (i:Nat):VS:=stt 68 [(4,bv false)] []
theorem lbk_ln_s (x y:Blc) (i:Nat) (sz:x.Sz) (hl:x.n.length=y.n.length) (hi:i<x.n.length) (hf:nodEq (x.n.getD i default) (y.n.getD i default)=false) (h:∀ k,k<i→nodEq (x.n.getD k default) (y.n.getD k default)=true) (k:Nat) (hk:k<i):VT L_ (fnC Tryz.f76 [1,1,0,1,0,0]) (lbk_ln_I x y i k) .normal (lbk_ln_I x y i (k+1)):=by
 have q:=h k hk
 have qz:=id sz
 have qm:=getD_in qz.n (show k<x.n.length by omega)
 obtain ⟨qn1,qn2⟩:=qm
 have qb:=qz.l
 have oz1:=(show 0≤(↑k:Int) by omega)
 have oz2:=(map_at (nodC) (default) (l:=x.n) (i:=k) (by omega))
 have oz4:=(map_at (nodC) (default) (l:=y.n) (i:=k) (by omega))
 have oz5:=@refSame_v (x.n.getD k default) (y.n.getD k default) qn1 qn2
 exact VT.run (W:=[r_,b_,.r [] [.row (sO oz2),.row (sO oz4),.callr (rO oz5)],d_,.r [] [.n ((↑k:Int)+1)]]) (G:=[.any (rg [(49,19)]),.weak 5 (i64 (↑(k+1):Int)),.sort]) (by kernel_rfl) (.c (show decide ((↑k:Int)<((K_ nodC x.n).length:Int))=true by (simp;omega))<|.c oz1<|.c oz2<|.c oz1<|.c oz4<|.c oz5<|.c (show (!nodEq (x.n.getD k default) (y.n.getD k default))=false by (simp at *;omega))<|.c (i6n ((↑k:Int)+1) (by omega))<|.c (wS_ k)<|.n)
theorem lbk_ln_e (x y:Blc) (i:Nat) (sz:x.Sz) (hl:x.n.length=y.n.length) (hi:i<x.n.length) (hf:nodEq (x.n.getD i default) (y.n.getD i default)=false) (h:∀ k,k<i→nodEq (x.n.getD k default) (y.n.getD k default)=true):VT L_ (fnC Tryz.f76 [1,1,0,1,0,0]) (lbk_ln_I x y i (i)) (.ret) (lbk_ln_Z x y i):=by
 have qz:=id sz
 have qm:=getD_in qz.n hi
 obtain ⟨qn1,qn2⟩:=qm
 have qb:=qz.l
 have oz1:=(show 0≤(↑i:Int) by omega)
 have oz2:=(map_at (nodC) (default) (l:=x.n) (i:=i) hi)
 have oz4:=(map_at (nodC) (default) (l:=y.n) (i:=i) (by omega))
 have oz5:=@refSame_v (x.n.getD i default) (y.n.getD i default) qn1 qn2
 exact VT.run (W:=[r_,b_,.r [] [.row (sO oz2),.row (sO oz4),.callr (rO oz5)],b_,r_]) (G:=[.any (rg [(2,2),(5,1),(49,5),(56,12)]),.drop [2,3],.sort]) (by kernel_rfl) (.c (show decide ((↑i:Int)<((K_ nodC x.n).length:Int))=true by (simp;omega))<|.c oz1<|.c oz2<|.c oz1<|.c oz4<|.c oz5<|.c (show (!nodEq (x.n.getD i default) (y.n.getD i default))=true by (simp at *;omega))<|.n)
theorem lbk_ln (x y:Blc) (i:Nat) (sz:x.Sz) (hl:x.n.length=y.n.length) (hi:i<x.n.length) (hf:nodEq (x.n.getD i default) (y.n.getD i default)=false) (h:∀ k,k<i→nodEq (x.n.getD k default) (y.n.getD k default)=true):VT L_ (fnC Tryz.f76 [1,1,0,1,0]) (lbk_ln_I x y i 0) (.ret) (lbk_ln_Z x y i) :=
 VT.loop (fun k=>lbk_ln_I x y i k) (i) (fun k hk=>lbk_ln_s x y i sz hl hi hf h k hk) (lbk_ln_e x y i sz hl hi hf h) (by intro h;cases h)
theorem lbk_d (x y:Blc) (sz:x.Sz) (hl:x.n.length≠y.n.length):VC L_ 76 ([blc x,blc y]) (bv false):=by
 have hz:zipAll nodEq x.n y.n=false:=by unfold zipAll;rw[decide_eq_false hl,AE_]
 obtain ⟨qa,qb,qc,qd⟩:=id sz
 have oz0:=@rsame8_v (x.w) (y.w) (by omega)
 have oz1:=@rsame32_v (x.b) (y.b) (by omega)
 exact VC.run (fn:=Tryz.f76) (W:=[r_,.r [] [o_,o_,o_,o_,o_,.sel 1,o_,o_,o_,o_,o_,o_,o_,.sel 1,o_,o_,o_,o_,o_,o_,o_,.callr (rO oz0),o_,.sel 1,o_,o_,o_,o_,o_,o_,o_,.callr (rO oz1),o_,.sel 1],b_,r_]) Tryz.func76 (by kernel_rfl) (.c oz0<|.c oz1<|.c (show (((K_ nodC x.n).length:Int) != ((K_ nodC y.n).length:Int) || !x.ex==y.ex || x.nd != y.nd || !decide (x.w=y.w) || !decide (x.b=y.b))=true by (simp;omega))<|.n)
theorem lbk_y (x y:Blc) (sz:x.Sz) (hl:x.n.length=y.n.length) (h:∀ k,k<x.n.length→nodEq (x.n.getD k default) (y.n.getD k default)=true) (hz:zipAll nodEq x.n y.n=true):VC L_ 76 ([blc x,blc y]) (bv (blcEq x y)):=by
 obtain ⟨qa,qb,qc,qd⟩:=id sz
 have oz0:=@rsame8_v (x.w) (y.w) (by omega)
 have oz1:=@rsame32_v (x.b) (y.b) (by omega)
 rcases bft (((K_ nodC x.n).length:Int) != ((K_ nodC y.n).length:Int) || !x.ex==y.ex || x.nd != y.nd || !decide (x.w=y.w) || !decide (x.b=y.b)) with hc0|hc0
 ·have gc0:(((¬((K_ nodC x.n).length:Int)=((K_ nodC y.n).length:Int)∨¬(x.ex=true↔y.ex=true))∨¬x.nd=y.nd)∨¬x.w=y.w)∨¬x.b=y.b:=by first|(simp only[Z_,T_,P_,S_,W_,U_,E_,F_,I_,J_,ne_eq,H_,G_,eqNums,C_] at hc0;first|exact hc0|omega)|simpa using hc0|(simp at hc0 ⊢;omega)|(apply cbc;intro hn;simp_all[eqNums];done)|(apply cbc;intro hn;simp[eqNums] at hc0 hn;omega)
  exact (VC.run (fn:=Tryz.f76) (W:=[r_,.r [] [o_,o_,o_,o_,o_,.sel 1,o_,o_,o_,o_,o_,o_,o_,.sel 1,o_,o_,o_,o_,o_,o_,o_,.callr (rO oz0),o_,.sel 1,o_,o_,o_,o_,o_,o_,o_,.callr (rO oz1),o_,.sel 1],b_,r_]) (r:=bv false) Tryz.func76 (by kernel_rfl) (.c oz0<|.c oz1<|.c hc0<|.n)).weak (B_ _) (AZ_ (by (simp[blcEq,hz,eqNums] at *;intros;simp_all;done)))
 ·have gc0:(((((K_ nodC x.n).length:Int)=((K_ nodC y.n).length:Int)∧(x.ex=true↔y.ex=true))∧x.nd=y.nd)∧x.w=y.w)∧x.b=y.b:=by first|(simp only[Z_,T_,P_,S_,W_,U_,E_,F_,I_,J_,ne_eq,H_,G_,eqNums,C_] at hc0;first|exact hc0|omega)|simpa using hc0|(simp at hc0 ⊢;omega)|(apply cbc;intro hn;simp_all[eqNums];done)|(apply cbc;intro hn;simp[eqNums] at hc0 hn;omega)
  have oz4:=@lbk_ly (x) (y) sz hl h
  exact (VC.run (fn:=Tryz.f76) (W:=[r_,.r [] [o_,o_,o_,o_,o_,.sel 1,o_,o_,o_,o_,o_,o_,o_,.sel 1,o_,o_,o_,o_,o_,o_,o_,.callr (rO oz0),o_,.sel 1,o_,o_,o_,o_,o_,o_,o_,.callr (rO oz1),o_,.sel 1],d_,r_,.code [.any [0,1,4,6,7,8,9,10,11,12,13,19,20,28,29,38,39,48],.weak 5 (i64 (↑0:Int)),.sort] (AF_ 0) (zO oz4),r_]) (r:=bv true) Tryz.func76 (by kernel_rfl) (.c oz0<|.c oz1<|.c hc0<|.c w0_<|.c oz4<|.n)).weak (B_ _) (AZ_ (by (rw[Bool.eq_iff_iff];simp[blcEq,hz,eqNums] at *;simp_all;done)))
theorem lbk_n (x y:Blc) (i:Nat) (sz:x.Sz) (hl:x.n.length=y.n.length) (hi:i<x.n.length) (hf:nodEq (x.n.getD i default) (y.n.getD i default)=false) (h:∀ k,k<i→nodEq (x.n.getD k default) (y.n.getD k default)=true):VC L_ 76 ([blc x,blc y]) (bv false):=by
 obtain ⟨qa,qb,qc,qd⟩:=id sz
 have oz0:=@rsame8_v (x.w) (y.w) (by omega)
 have oz1:=@rsame32_v (x.b) (y.b) (by omega)
 rcases bft (((K_ nodC x.n).length:Int) != ((K_ nodC y.n).length:Int) || !x.ex==y.ex || x.nd != y.nd || !decide (x.w=y.w) || !decide (x.b=y.b)) with hc0|hc0
 ·have gc0:(((¬((K_ nodC x.n).length:Int)=((K_ nodC y.n).length:Int)∨¬(x.ex=true↔y.ex=true))∨¬x.nd=y.nd)∨¬x.w=y.w)∨¬x.b=y.b:=by first|(simp only[Z_,T_,P_,S_,W_,U_,E_,F_,I_,J_,ne_eq,H_,G_,eqNums,C_] at hc0;first|exact hc0|omega)|simpa using hc0|(simp at hc0 ⊢;omega)|(apply cbc;intro hn;simp_all[eqNums];done)|(apply cbc;intro hn;simp[eqNums] at hc0 hn;omega)
  exact VC.run (fn:=Tryz.f76) (W:=[r_,.r [] [o_,o_,o_,o_,o_,.sel 1,o_,o_,o_,o_,o_,o_,o_,.sel 1,o_,o_,o_,o_,o_,o_,o_,.callr (rO oz0),o_,.sel 1,o_,o_,o_,o_,o_,o_,o_,.callr (rO oz1),o_,.sel 1],b_,r_]) Tryz.func76 (by kernel_rfl) (.c oz0<|.c oz1<|.c hc0<|.n)
 ·have gc0:(((((K_ nodC x.n).length:Int)=((K_ nodC y.n).length:Int)∧(x.ex=true↔y.ex=true))∧x.nd=y.nd)∧x.w=y.w)∧x.b=y.b:=by first|(simp only[Z_,T_,P_,S_,W_,U_,E_,F_,I_,J_,ne_eq,H_,G_,eqNums,C_] at hc0;first|exact hc0|omega)|simpa using hc0|(simp at hc0 ⊢;omega)|(apply cbc;intro hn;simp_all[eqNums];done)|(apply cbc;intro hn;simp[eqNums] at hc0 hn;omega)
  have oz4:=@lbk_ln (x) (y) (i) sz hl hi hf h
  exact VC.run (fn:=Tryz.f76) (W:=[r_,.r [] [o_,o_,o_,o_,o_,.sel 1,o_,o_,o_,o_,o_,o_,o_,.sel 1,o_,o_,o_,o_,o_,o_,o_,.callr (rO oz0),o_,.sel 1,o_,o_,o_,o_,o_,o_,o_,.callr (rO oz1),o_,.sel 1],d_,r_,.code [.any [0,1,4,6,7,8,9,10,11,12,13,19,20,28,29,38,39,48],.weak 5 (i64 (↑0:Int)),.sort] (CA_) (zO oz4)]) Tryz.func76 (by kernel_rfl) (.c oz0<|.c oz1<|.c hc0<|.c w0_<|.c oz4<|.n)
theorem lbk_v (x y:Blc) (sz:x.Sz):VC L_ 76 [blc x,blc y] (bv (blcEq x y)):=by
 rcases zip_cases nodEq x.n y.n with ⟨h,e⟩|⟨h,q,e⟩|⟨h,i,hi,hf,q,e⟩
 ·rw[show blcEq x y=false by simp[blcEq,e]];exact lbk_d x y sz h
 ·exact lbk_y x y sz h q e
 ·rw[show blcEq x y=false by simp[blcEq,e]];exact lbk_n x y i sz h hi hf q
noncomputable def lmd_ly_I (x y:Mdl) (k:Nat):VS:=stt 32 [(2,.ptr 2 0 0),(3,.ptr 3 0 0),(5,i64 k)] [(2,.var (mdlC x)),(3,.var (mdlC y))]
noncomputable def lmd_ly_Z (x y:Mdl):VS:=lmd_ly_I x y (x.l.length)
theorem lmd_ly_s (x y:Mdl) (sz:x.Sz) (hl:x.l.length=y.l.length) (h:∀ k,k<x.l.length→blcEq (x.l.getD k default) (y.l.getD k default)=true) (k:Nat) (hk:k<x.l.length):VT L_ (fnC Tryz.f36 [1,1,0,1,0,0]) (lmd_ly_I x y k) .normal (lmd_ly_I x y (k+1)):=by
 have q:=h k hk
 have qz:=id sz
 have qm:=getD_in qz.b hk
 have qb:=qz.l
 have oz1:=(show 0≤(↑k:Int) by omega)
 have oz2:=(map_at (blcC) (default) (l:=x.l) (i:=k) hk)
 have oz4:=(map_at (blcC) (default) (l:=y.l) (i:=k) (by omega))
 have oz5:=@lbk_v (x.l.getD k default) (y.l.getD k default) qm
 exact VT.run (W:=[r_,b_,.r [] [.row (sO oz2),.row (sO oz4),.callr (rO oz5)],d_,.r [] [.n ((↑k:Int)+1)]]) (G:=[.any (rg [(13,19)]),.weak 5 (i64 (↑(k+1):Int)),.sort]) (by kernel_rfl) (.c (show decide ((↑k:Int)<((K_ blcC x.l).length:Int))=true by (simp;omega))<|.c oz1<|.c oz2<|.c oz1<|.c oz4<|.c oz5<|.c (show (!blcEq (x.l.getD k default) (y.l.getD k default))=false by (simp at *;omega))<|.c (i6n ((↑k:Int)+1) (by omega))<|.c (wS_ k)<|.n)
theorem lmd_ly_e (x y:Mdl) (sz:x.Sz) (hl:x.l.length=y.l.length) (h:∀ k,k<x.l.length→blcEq (x.l.getD k default) (y.l.getD k default)=true):VT L_ (fnC Tryz.f36 [1,1,0,1,0,0]) (lmd_ly_I x y (x.l.length)) (.exit 0) (lmd_ly_Z x y):=by
 exact VT.run (W:=[r_,d_]) (G:=[.any (rg [(13,5)]),.sort]) (by kernel_rfl) (.c (show decide ((x.l.length:Int)<((K_ blcC x.l).length:Int))=false by (simp;done))<|.n)
theorem lmd_ly (x y:Mdl) (sz:x.Sz) (hl:x.l.length=y.l.length) (h:∀ k,k<x.l.length→blcEq (x.l.getD k default) (y.l.getD k default)=true):VT L_ (fnC Tryz.f36 [1,1,0,1,0]) (lmd_ly_I x y 0) (.exit 0) (lmd_ly_Z x y) :=
 VT.loop (fun k=>lmd_ly_I x y k) (x.l.length) (fun k hk=>lmd_ly_s x y sz hl h k hk) (lmd_ly_e x y sz hl h) (by intro h;cases h)
noncomputable def lmd_ln_I (x y:Mdl) (i:Nat) (k:Nat):VS:=stt 32 [(2,.ptr 2 0 0),(3,.ptr 3 0 0),(5,i64 k)] [(2,.var (mdlC x)),(3,.var (mdlC y))]
noncomputable def lmd_ln_Z (x y:Mdl) (i:Nat):VS:=stt 32 [(4,bv false)] []
theorem lmd_ln_s (x y:Mdl) (i:Nat) (sz:x.Sz) (hl:x.l.length=y.l.length) (hi:i<x.l.length) (hf:blcEq (x.l.getD i default) (y.l.getD i default)=false) (h:∀ k,k<i→blcEq (x.l.getD k default) (y.l.getD k default)=true) (k:Nat) (hk:k<i):VT L_ (fnC Tryz.f36 [1,1,0,1,0,0]) (lmd_ln_I x y i k) .normal (lmd_ln_I x y i (k+1)):=by
 have q:=h k hk
 have qz:=id sz
 have qm:=getD_in qz.b (show k<x.l.length by omega)
 have qb:=qz.l
 have oz1:=(show 0≤(↑k:Int) by omega)
 have oz2:=(map_at (blcC) (default) (l:=x.l) (i:=k) (by omega))
 have oz4:=(map_at (blcC) (default) (l:=y.l) (i:=k) (by omega))
 have oz5:=@lbk_v (x.l.getD k default) (y.l.getD k default) qm
 exact VT.run (W:=[r_,b_,.r [] [.row (sO oz2),.row (sO oz4),.callr (rO oz5)],d_,.r [] [.n ((↑k:Int)+1)]]) (G:=[.any (rg [(13,19)]),.weak 5 (i64 (↑(k+1):Int)),.sort]) (by kernel_rfl) (.c (show decide ((↑k:Int)<((K_ blcC x.l).length:Int))=true by (simp;omega))<|.c oz1<|.c oz2<|.c oz1<|.c oz4<|.c oz5<|.c (show (!blcEq (x.l.getD k default) (y.l.getD k default))=false by (simp at *;omega))<|.c (i6n ((↑k:Int)+1) (by omega))<|.c (wS_ k)<|.n)
theorem lmd_ln_e (x y:Mdl) (i:Nat) (sz:x.Sz) (hl:x.l.length=y.l.length) (hi:i<x.l.length) (hf:blcEq (x.l.getD i default) (y.l.getD i default)=false) (h:∀ k,k<i→blcEq (x.l.getD k default) (y.l.getD k default)=true):VT L_ (fnC Tryz.f36 [1,1,0,1,0,0]) (lmd_ln_I x y i (i)) (.ret) (lmd_ln_Z x y i):=by
 have qz:=id sz
 have qm:=getD_in qz.b hi
 have qb:=qz.l
 have oz1:=(show 0≤(↑i:Int) by omega)
 have oz2:=(map_at (blcC) (default) (l:=x.l) (i:=i) hi)
 have oz4:=(map_at (blcC) (default) (l:=y.l) (i:=i) (by omega))
 have oz5:=@lbk_v (x.l.getD i default) (y.l.getD i default) qm
 exact VT.run (W:=[r_,b_,.r [] [.row (sO oz2),.row (sO oz4),.callr (rO oz5)],b_,r_]) (G:=[.any (rg [(2,2),(5,1),(13,5),(20,12)]),.drop [2,3],.sort]) (by kernel_rfl) (.c (show decide ((↑i:Int)<((K_ blcC x.l).length:Int))=true by (simp;omega))<|.c oz1<|.c oz2<|.c oz1<|.c oz4<|.c oz5<|.c (show (!blcEq (x.l.getD i default) (y.l.getD i default))=true by (simp at *;omega))<|.n)
theorem lmd_ln (x y:Mdl) (i:Nat) (sz:x.Sz) (hl:x.l.length=y.l.length) (hi:i<x.l.length) (hf:blcEq (x.l.getD i default) (y.l.getD i default)=false) (h:∀ k,k<i→blcEq (x.l.getD k default) (y.l.getD k default)=true):VT L_ (fnC Tryz.f36 [1,1,0,1,0]) (lmd_ln_I x y i 0) (.ret) (lmd_ln_Z x y i) :=
 VT.loop (fun k=>lmd_ln_I x y i k) (i) (fun k hk=>lmd_ln_s x y i sz hl hi hf h k hk) (lmd_ln_e x y i sz hl hi hf h) (by intro h;cases h)
theorem lmd_d (x y:Mdl) (sz:x.Sz) (hl:x.l.length≠y.l.length):VC L_ 36 ([.agg (mdlC x),.agg (mdlC y)]) (bv false):=by
 have hz:zipAll blcEq x.l y.l=false:=by unfold zipAll;rw[decide_eq_false hl,AE_]
 obtain ⟨qa,qb⟩:=id sz
 exact VC.run (fn:=Tryz.f36) (W:=[r_,r_,b_,r_]) Tryz.func36 (by kernel_rfl) (.c (show (((K_ blcC x.l).length:Int) != ((K_ blcC y.l).length:Int))=true by (simp;omega))<|.n)
theorem lmd_y (x y:Mdl) (sz:x.Sz) (hl:x.l.length=y.l.length) (h:∀ k,k<x.l.length→blcEq (x.l.getD k default) (y.l.getD k default)=true) (hz:zipAll blcEq x.l y.l=true):VC L_ 36 ([.agg (mdlC x),.agg (mdlC y)]) (bv (mdlEq x y)):=by
 obtain ⟨qa,qb⟩:=id sz
 have oz2:=@lmd_ly (Mdl.mk x.l) (Mdl.mk y.l) sz hl h
 exact (VC.run (fn:=Tryz.f36) (W:=[r_,r_,d_,r_,.code [.any (rg [(0,2),(4,1),(6,7)]),.weak 5 (i64 (↑0:Int)),.sort] (AF_ 0) (zO oz2),r_]) (r:=bv true) Tryz.func36 (by kernel_rfl) (.c (show (((K_ blcC x.l).length:Int) != ((K_ blcC y.l).length:Int))=false by (simp;omega))<|.c w0_<|.c oz2<|.n)).weak (B_ _) (AZ_ (by (exact hz.symm)))
theorem lmd_n (x y:Mdl) (i:Nat) (sz:x.Sz) (hl:x.l.length=y.l.length) (hi:i<x.l.length) (hf:blcEq (x.l.getD i default) (y.l.getD i default)=false) (h:∀ k,k<i→blcEq (x.l.getD k default) (y.l.getD k default)=true):VC L_ 36 ([.agg (mdlC x),.agg (mdlC y)]) (bv false):=by
 obtain ⟨qa,qb⟩:=id sz
 have oz2:=@lmd_ln (Mdl.mk x.l) (Mdl.mk y.l) (i) sz hl hi hf h
 exact VC.run (fn:=Tryz.f36) (W:=[r_,r_,d_,r_,.code [.any (rg [(0,2),(4,1),(6,7)]),.weak 5 (i64 (↑0:Int)),.sort] (CA_) (zO oz2)]) Tryz.func36 (by kernel_rfl) (.c (show (((K_ blcC x.l).length:Int) != ((K_ blcC y.l).length:Int))=false by (simp;omega))<|.c w0_<|.c oz2<|.n)
theorem lmd_v (x y:Mdl) (sz:x.Sz):VC L_ 36 [.agg (mdlC x),.agg (mdlC y)] (bv (mdlEq x y)):=by
 rcases zip_cases blcEq x.l y.l with ⟨h,e⟩|⟨h,q,e⟩|⟨h,i,hi,hf,q,e⟩
 ·rw[show mdlEq x y=false by simp[mdlEq,e]];exact lmd_d x y sz h
 ·exact lmd_y x y sz h q e
 ·rw[show mdlEq x y=false by simp[mdlEq,e]];exact lmd_n x y i sz h hi hf q
noncomputable def lbn_ly_I (x y:Bun) (k:Nat):VS:=stt 46 [(2,.ptr 2 0 0),(3,.ptr 3 0 0),(5,i64 k)] [(2,.var (bunC x)),(3,.var (bunC y))]
noncomputable def lbn_ly_Z (x y:Bun):VS:=lbn_ly_I x y (x.m.length)
theorem lbn_ly_s (x y:Bun) (sz:x.Sz) (hl:x.m.length=y.m.length) (h:∀ k,k<x.m.length→mdlEq (x.m.getD k default) (y.m.getD k default)=true) (k:Nat) (hk:k<x.m.length):VT L_ (fnC Tryz.f13 [1,1,0,1,0,0]) (lbn_ly_I x y k) .normal (lbn_ly_I x y (k+1)):=by
 have q:=h k hk
 have qz:=id sz
 have qm:=getD_in qz.b hk
 have qb:=qz.l
 have oz1:=(show 0≤(↑k:Int) by omega)
 have oz2:=(map_at (mdlC) (default) (l:=x.m) (i:=k) hk)
 have oz4:=(map_at (mdlC) (default) (l:=y.m) (i:=k) (by omega))
 have oz5:=@lmd_v (Mdl.mk (x.m.getD k default).l) (Mdl.mk (y.m.getD k default).l) qm
 exact VT.run (W:=[r_,b_,.r [] [.row (sO oz2),.row (sO oz4),.callr (rO oz5)],d_,.r [] [.n ((↑k:Int)+1)]]) (G:=[.any (rg [(27,19)]),.weak 5 (i64 (↑(k+1):Int)),.sort]) (by kernel_rfl) (.c (show decide ((↑k:Int)<((K_ mdlC x.m).length:Int))=true by (simp;omega))<|.c oz1<|.c oz2<|.c oz1<|.c oz4<|.c oz5<|.c (show (!mdlEq (Mdl.mk (x.m.getD k default).l) (Mdl.mk (y.m.getD k default).l))=false by (simp at *;omega))<|.c (i6n ((↑k:Int)+1) (by (try dsimp only);omega))<|.c (R_ (k:=.i64) (show (((↑k:Int)+1):Int)=((↑(k+1):Int)) from (by (try dsimp only);omega)))<|.n)
theorem lbn_ly_e (x y:Bun) (sz:x.Sz) (hl:x.m.length=y.m.length) (h:∀ k,k<x.m.length→mdlEq (x.m.getD k default) (y.m.getD k default)=true):VT L_ (fnC Tryz.f13 [1,1,0,1,0,0]) (lbn_ly_I x y (x.m.length)) (.exit 0) (lbn_ly_Z x y):=by
 exact VT.run (W:=[r_,d_]) (G:=[.any (rg [(27,5)]),.sort]) (by kernel_rfl) (.c (show decide ((x.m.length:Int)<((K_ mdlC x.m).length:Int))=false by (simp;done))<|.n)
theorem lbn_ly (x y:Bun) (sz:x.Sz) (hl:x.m.length=y.m.length) (h:∀ k,k<x.m.length→mdlEq (x.m.getD k default) (y.m.getD k default)=true):VT L_ (fnC Tryz.f13 [1,1,0,1,0]) (lbn_ly_I x y 0) (.exit 0) (lbn_ly_Z x y) :=
 VT.loop (fun k=>lbn_ly_I x y k) (x.m.length) (fun k hk=>lbn_ly_s x y sz hl h k hk) (lbn_ly_e x y sz hl h) (by intro h;cases h)
noncomputable def lbn_ln_I (x y:Bun) (i:Nat) (k:Nat):VS:=stt 46 [(2,.ptr 2 0 0),(3,.ptr 3 0 0),(5,i64 k)] [(2,.var (bunC x)),(3,.var (bunC y))]
noncomputable def lbn_ln_Z (x y:Bun) (i:Nat):VS:=stt 46 [(4,bv false)] []
theorem lbn_ln_s (x y:Bun) (i:Nat) (sz:x.Sz) (hl:x.m.length=y.m.length) (hi:i<x.m.length) (hf:mdlEq (x.m.getD i default) (y.m.getD i default)=false) (h:∀ k,k<i→mdlEq (x.m.getD k default) (y.m.getD k default)=true) (k:Nat) (hk:k<i):VT L_ (fnC Tryz.f13 [1,1,0,1,0,0]) (lbn_ln_I x y i k) .normal (lbn_ln_I x y i (k+1)):=by
 have q:=h k hk
 have qz:=id sz
 have qm:=getD_in qz.b (show k<x.m.length by omega)
 have qb:=qz.l
 have oz1:=(show 0≤(↑k:Int) by omega)
 have oz2:=(map_at (mdlC) (default) (l:=x.m) (i:=k) (by omega))
 have oz4:=(map_at (mdlC) (default) (l:=y.m) (i:=k) (by omega))
 have oz5:=@lmd_v (Mdl.mk (x.m.getD k default).l) (Mdl.mk (y.m.getD k default).l) qm
 exact VT.run (W:=[r_,b_,.r [] [.row (sO oz2),.row (sO oz4),.callr (rO oz5)],d_,.r [] [.n ((↑k:Int)+1)]]) (G:=[.any (rg [(27,19)]),.weak 5 (i64 (↑(k+1):Int)),.sort]) (by kernel_rfl) (.c (show decide ((↑k:Int)<((K_ mdlC x.m).length:Int))=true by (simp;omega))<|.c oz1<|.c oz2<|.c oz1<|.c oz4<|.c oz5<|.c (show (!mdlEq (Mdl.mk (x.m.getD k default).l) (Mdl.mk (y.m.getD k default).l))=false by (simp at *;omega))<|.c (i6n ((↑k:Int)+1) (by (try dsimp only);omega))<|.c (R_ (k:=.i64) (show (((↑k:Int)+1):Int)=((↑(k+1):Int)) from (by (try dsimp only);omega)))<|.n)
theorem lbn_ln_e (x y:Bun) (i:Nat) (sz:x.Sz) (hl:x.m.length=y.m.length) (hi:i<x.m.length) (hf:mdlEq (x.m.getD i default) (y.m.getD i default)=false) (h:∀ k,k<i→mdlEq (x.m.getD k default) (y.m.getD k default)=true):VT L_ (fnC Tryz.f13 [1,1,0,1,0,0]) (lbn_ln_I x y i (i)) (.ret) (lbn_ln_Z x y i):=by
 have qz:=id sz
 have qm:=getD_in qz.b hi
 have qb:=qz.l
 have oz1:=(show 0≤(↑i:Int) by omega)
 have oz2:=(map_at (mdlC) (default) (l:=x.m) (i:=i) hi)
 have oz4:=(map_at (mdlC) (default) (l:=y.m) (i:=i) (by omega))
 have oz5:=@lmd_v (Mdl.mk (x.m.getD i default).l) (Mdl.mk (y.m.getD i default).l) qm
 exact VT.run (W:=[r_,b_,.r [] [.row (sO oz2),.row (sO oz4),.callr (rO oz5)],b_,r_]) (G:=[.any (rg [(2,2),(5,1),(27,5),(34,12)]),.drop [2,3],.sort]) (by kernel_rfl) (.c (show decide ((↑i:Int)<((K_ mdlC x.m).length:Int))=true by (simp;omega))<|.c oz1<|.c oz2<|.c oz1<|.c oz4<|.c oz5<|.c (show (!mdlEq (Mdl.mk (x.m.getD i default).l) (Mdl.mk (y.m.getD i default).l))=true by (simp at *;omega))<|.n)
theorem lbn_ln (x y:Bun) (i:Nat) (sz:x.Sz) (hl:x.m.length=y.m.length) (hi:i<x.m.length) (hf:mdlEq (x.m.getD i default) (y.m.getD i default)=false) (h:∀ k,k<i→mdlEq (x.m.getD k default) (y.m.getD k default)=true):VT L_ (fnC Tryz.f13 [1,1,0,1,0]) (lbn_ln_I x y i 0) (.ret) (lbn_ln_Z x y i) :=
 VT.loop (fun k=>lbn_ln_I x y i k) (i) (fun k hk=>lbn_ln_s x y i sz hl hi hf h k hk) (lbn_ln_e x y i sz hl hi hf h) (by intro h;cases h)
theorem lbn_d (x y:Bun) (sz:x.Sz) (hl:x.m.length≠y.m.length):VC L_ 13 ([bun x,bun y]) (bv false):=by
 have hz:zipAll mdlEq x.m y.m=false:=by unfold zipAll;rw[decide_eq_false hl,AE_]
 obtain ⟨qa,qb⟩:=id sz
 exact VC.run (fn:=Tryz.f13) (W:=[r_,.r [] [.v (BS_ !eqNums [(Q_,x.h,y.h),(Q_,x.x,y.x),(Q_,x.c,y.c)]),o_,o_,o_,o_,o_,.sel 1,o_,o_,o_,o_,o_,o_,o_,.sel 1],b_,r_]) Tryz.func13 (by kernel_rfl) (.c (show BinTo L_ BinOp.neq 23 (Operand.tmp 7) (Operand.tmp 9) (BI_ #[AQ_ Q_ x.h,AQ_ Q_ x.x,AQ_ Q_ x.c]) (BI_ #[AQ_ Q_ y.h,AQ_ Q_ y.x,AQ_ Q_ y.c]) (BS_ !eqNums [(Q_,x.h,y.h),(Q_,x.x,y.x),(Q_,x.c,y.c)]) from ((bin_nums (l:=[(Q_,x.h,y.h),(Q_,x.x,y.x),(Q_,x.c,y.c)]) (by kernel_rfl) (by kernel_rfl) (by kernel_rfl) (by kernel_rfl) _ _).2))<|.c (show (!eqNums [(Q_,x.h,y.h),(Q_,x.x,y.x),(Q_,x.c,y.c)] || x.cl != y.cl || ((K_ mdlC x.m).length:Int) != ((K_ mdlC y.m).length:Int))=true by (simp;omega))<|.n)
theorem lbn_y (x y:Bun) (sz:x.Sz) (hl:x.m.length=y.m.length) (h:∀ k,k<x.m.length→mdlEq (x.m.getD k default) (y.m.getD k default)=true) (hz:zipAll mdlEq x.m y.m=true):VC L_ 13 ([bun x,bun y]) (bv (bunEq x y)):=by
 obtain ⟨qa,qb⟩:=id sz
 have oz0:=(show BinTo L_ BinOp.neq 23 (Operand.tmp 7) (Operand.tmp 9) (BI_ #[AQ_ Q_ x.h,AQ_ Q_ x.x,AQ_ Q_ x.c]) (BI_ #[AQ_ Q_ y.h,AQ_ Q_ y.x,AQ_ Q_ y.c]) (BS_ !eqNums [(Q_,x.h,y.h),(Q_,x.x,y.x),(Q_,x.c,y.c)]) from ((bin_nums (l:=[(Q_,x.h,y.h),(Q_,x.x,y.x),(Q_,x.c,y.c)]) (by kernel_rfl) (by kernel_rfl) (by kernel_rfl) (by kernel_rfl) _ _).2))
 rcases bft (!eqNums [(Q_,x.h,y.h),(Q_,x.x,y.x),(Q_,x.c,y.c)] || x.cl != y.cl || ((K_ mdlC x.m).length:Int) != ((K_ mdlC y.m).length:Int)) with hc0|hc0
 ·have gc0:(¬(x.h=y.h∧x.x=y.x∧x.c=y.c)∨¬x.cl=y.cl)∨¬((K_ mdlC x.m).length:Int)=((K_ mdlC y.m).length:Int):=by simp only[Z_,T_,P_,S_,W_,U_,E_,F_,I_,J_,ne_eq,H_,G_,eqNums,C_] at hc0;first|exact hc0|omega
  exact (VC.run (fn:=Tryz.f13) (W:=[r_,.r [] [.v (BS_ !eqNums [(Q_,x.h,y.h),(Q_,x.x,y.x),(Q_,x.c,y.c)]),o_,o_,o_,o_,o_,.sel 1,o_,o_,o_,o_,o_,o_,o_,.sel 1],b_,r_]) (r:=bv false) Tryz.func13 (by kernel_rfl) (.c oz0<|.c hc0<|.n)).weak (B_ _) (AZ_ (by (simp[bunEq,hz,eqNums] at *;intros;simp_all;done)))
 ·have gc0:((x.h=y.h∧x.x=y.x∧x.c=y.c)∧x.cl=y.cl)∧((K_ mdlC x.m).length:Int)=((K_ mdlC y.m).length:Int):=by simp only[Z_,T_,P_,S_,W_,U_,E_,F_,I_,J_,ne_eq,H_,G_,eqNums,C_] at hc0;first|exact hc0|omega
  have oz3:=@lbn_ly (x) (y) sz hl h
  exact (VC.run (fn:=Tryz.f13) (W:=[r_,.r [] [.v (BS_ !eqNums [(Q_,x.h,y.h),(Q_,x.x,y.x),(Q_,x.c,y.c)]),o_,o_,o_,o_,o_,.sel 1,o_,o_,o_,o_,o_,o_,o_,.sel 1],d_,r_,.code [.any [0,1,4,6,7,8,9,10,11,17,18,26],.weak 5 (i64 (↑0:Int)),.sort] (AF_ 0) (zO oz3),r_]) (r:=bv true) Tryz.func13 (by kernel_rfl) (.c oz0<|.c hc0<|.c w0_<|.c oz3<|.n)).weak (B_ _) (AZ_ (by (rw[Bool.eq_iff_iff];simp[bunEq,hz,eqNums] at *;simp_all;done)))
theorem lbn_n (x y:Bun) (i:Nat) (sz:x.Sz) (hl:x.m.length=y.m.length) (hi:i<x.m.length) (hf:mdlEq (x.m.getD i default) (y.m.getD i default)=false) (h:∀ k,k<i→mdlEq (x.m.getD k default) (y.m.getD k default)=true):VC L_ 13 ([bun x,bun y]) (bv false):=by
 obtain ⟨qa,qb⟩:=id sz
 have oz0:=(show BinTo L_ BinOp.neq 23 (Operand.tmp 7) (Operand.tmp 9) (BI_ #[AQ_ Q_ x.h,AQ_ Q_ x.x,AQ_ Q_ x.c]) (BI_ #[AQ_ Q_ y.h,AQ_ Q_ y.x,AQ_ Q_ y.c]) (BS_ !eqNums [(Q_,x.h,y.h),(Q_,x.x,y.x),(Q_,x.c,y.c)]) from ((bin_nums (l:=[(Q_,x.h,y.h),(Q_,x.x,y.x),(Q_,x.c,y.c)]) (by kernel_rfl) (by kernel_rfl) (by kernel_rfl) (by kernel_rfl) _ _).2))
 rcases bft (!eqNums [(Q_,x.h,y.h),(Q_,x.x,y.x),(Q_,x.c,y.c)] || x.cl != y.cl || ((K_ mdlC x.m).length:Int) != ((K_ mdlC y.m).length:Int)) with hc0|hc0
 ·have gc0:(¬(x.h=y.h∧x.x=y.x∧x.c=y.c)∨¬x.cl=y.cl)∨¬((K_ mdlC x.m).length:Int)=((K_ mdlC y.m).length:Int):=by simp only[Z_,T_,P_,S_,W_,U_,E_,F_,I_,J_,ne_eq,H_,G_,eqNums,C_] at hc0;first|exact hc0|omega
  exact VC.run (fn:=Tryz.f13) (W:=[r_,.r [] [.v (BS_ !eqNums [(Q_,x.h,y.h),(Q_,x.x,y.x),(Q_,x.c,y.c)]),o_,o_,o_,o_,o_,.sel 1,o_,o_,o_,o_,o_,o_,o_,.sel 1],b_,r_]) Tryz.func13 (by kernel_rfl) (.c oz0<|.c hc0<|.n)
 ·have gc0:((x.h=y.h∧x.x=y.x∧x.c=y.c)∧x.cl=y.cl)∧((K_ mdlC x.m).length:Int)=((K_ mdlC y.m).length:Int):=by simp only[Z_,T_,P_,S_,W_,U_,E_,F_,I_,J_,ne_eq,H_,G_,eqNums,C_] at hc0;first|exact hc0|omega
  have oz3:=@lbn_ln (x) (y) (i) sz hl hi hf h
  exact VC.run (fn:=Tryz.f13) (W:=[r_,.r [] [.v (BS_ !eqNums [(Q_,x.h,y.h),(Q_,x.x,y.x),(Q_,x.c,y.c)]),o_,o_,o_,o_,o_,.sel 1,o_,o_,o_,o_,o_,o_,o_,.sel 1],d_,r_,.code [.any [0,1,4,6,7,8,9,10,11,17,18,26],.weak 5 (i64 (↑0:Int)),.sort] (CA_) (zO oz3)]) Tryz.func13 (by kernel_rfl) (.c oz0<|.c hc0<|.c w0_<|.c oz3<|.n)
theorem lbn_v (x y:Bun) (sz:x.Sz):VC L_ 13 [bun x,bun y] (bv (bunEq x y)):=by
 rcases zip_cases mdlEq x.m y.m with ⟨h,e⟩|⟨h,q,e⟩|⟨h,i,hi,hf,q,e⟩
 ·rw[show bunEq x y=false by simp[bunEq,e]];exact lbn_d x y sz h
 ·exact lbn_y x y sz h q e
 ·rw[show bunEq x y=false by simp[bunEq,e]];exact lbn_n x y i sz h hi hf q
theorem accM_rng (l:List Blc) {B:List Int} (h:ByR B) (k:Nat):ByR (accM l B k):=by
 induction k with
 | zero=>exact h
 | succ k ih=>exact ih.app (blockR_rng _)
theorem modelR_rng (m:Mdl):ByR (modelR m).1:=by
 unfold modelR
 split
 ·exact ByR.nil
 ·split
  ·exact ByR.nil
  ·exact accM_rng _ (ByR.put _) _
theorem hdK_rng (q:List Int) (k:Nat):ByR (hdK putN q k):=by
 induction k with
 | zero=>intro x hx;simp only[hdK,List.mem_cons,List.not_mem_nil,or_false] at hx;omega
 | succ k ih=>exact ih.app (ByR.put _)
theorem accU_rng (l:List Mdl) {B:List Int} (h:ByR B) (k:Nat):ByR (accU l B k):=by
 induction k with
 | zero=>exact h
 | succ k ih=>exact ih.app (modelR_rng _)
def bodyL (u:Bun):List Int:=accU u.m (hdF putN u.h u.x u.c u.cl ((u.m.map mdlC).length:Int)) u.m.length
theorem bodyL_rng (u:Bun):ByR (bodyL u):=accU_rng _ (hdK_rng _ _) _
def encR (u:Bun):List Int×Int:=if (bunE u).w≠0 then ([],(bunE u).w) else if 1048572<(bodyL u).length then ([],25) else (sealL (bodyL u),0)
theorem lay_k {u:Bun} (h:(bunE u).w=0):∀ k,k<u.m.length→(modelR (u.m.getD k default)).2=0:=fun k hk=>getD_in (bun_lay h) hk
theorem encR_x {u:Bun} (h:¬ (bunE u).w=0):encR u=([],(bunE u).w):=i_ h
theorem encR_l {u:Bun} (h:(bunE u).w=0) (g:1048572<(bodyL u).length):encR u=([],25):=by unfold encR;rw[j_ (by simpa using h),i_ g]
theorem encR_y {u:Bun} (h:(bunE u).w=0) (g:(bodyL u).length≤1048572):encR u=(sealL (bodyL u),0):=by unfold encR;rw[j_ (by simpa using h),j_ (by omega)]
theorem penc_v (u:Bun) (ok:u.Ok) (sm:u.Sm) (fw:∀ m∈u.m,m.Pk) (hl:u.m.length≤4):VC L_ 22 [bun u] (.tup [ints .u8 (encR u).1,i64 (encR u).2]):=by
 by_cases h:(bunE u).w=0
 ·by_cases g:1048572<(bodyL u).length
  ·rw[encR_l h g];exact penc_l u putN (hdF putN) ok sm puts (hds putN) h fw hl (lay_k h) g
  ·rw[encR_y h (by omega)];exact penc_y u putN (hdF putN) sealL ok sm puts (hds putN) seals h fw hl (lay_k h) (show (bodyL u).length≤_ by omega) (bodyL_rng u)
 ·rw[encR_x h];exact penc_x u ok sm h
theorem renc_v (u:Bun) (ok:u.Ok) (sm:u.Sm) (fw:∀ m∈u.m,m.Pk) (hl:u.m.length≤4):VC L_ 23 [bun u] (.tup [ints .u8 (encR u).1,i64 (encR u).2]):=by
 by_cases h:(bunE u).w=0
 ·by_cases g:1048572<(bodyL u).length
  ·rw[encR_l h g];exact renc_l u putN (hdF putN) ok sm rputs (hds putN) h fw hl g
  ·rw[encR_y h (by omega)];exact renc_y u putN (hdF putN) sealL ok sm rputs (hds putN) seals h fw hl (show (bodyL u).length≤_ by omega) (bodyL_rng u)
 ·rw[encR_x h];exact renc_x u ok sm h
theorem encR_len {u:Bun}:(encR u).1.length≤1048576:=by
 unfold encR
 split
 ·exact CG_ _
 ·split
  ·exact CG_ _
  ·dsimp only;rw[sealL_len];omega
theorem modelR_few {m:Mdl} (h:m.Fw):(modelR m).1.length≤1000000:=by
 have a:=accM_le h (putN (m.l.length:Int)) (AX_ _)
 have b:=putN_len (m.l.length:Int)
 have c:=h.l
 unfold modelR
 split
 ·exact CG_ _
 ·split
  ·exact CG_ _
  ·dsimp only;omega
theorem known35:VC L_ 17 [] (bv true) :=
 known35_v (sealL [1]) (sealL_len [1]) (seal_f p32L [1] p4 (by simp) (by simp)) (dec_o [] 20 (by decide) (open_s [] (by decide)))
structure Bun.Fw (u:Bun):Prop where
 sm:u.Sm
 l:u.m.length≤4
 m:∀ m∈u.m,m.Fw
theorem Bun.fw {u:Bun} (ok:u.Ok) (h:bunS u=true):u.Fw:=by
 have sm:=Bun.sm h
 unfold bunS at h
 simp only[P_,E_,CZ_] at h
 refine ⟨sm,h.1,fun m hm=>?_⟩
 have q:=h.2 m hm
 unfold mdlS at q
 simp only[P_,E_,CZ_] at q
 exact ⟨fun x hx=>Blc.fw ((ok.m m hm).l x hx) (q.2 x hx),q.1⟩
theorem Bun.Fw.pk {u:Bun} (h:u.Fw):∀ m∈u.m,m.Pk:=fun m hm=>(h.m m hm).pk (modelR_few (h.m m hm))
theorem Blc.Sm.sz {x:Blc} (h:x.Sm):x.Sz:=⟨by have:=h.l;omega,h.s,h.w,h.b⟩
theorem Bun.Sm.sz {u:Bun} (h:u.Sm) (hl:u.m.length≤1000):u.Sz:=⟨hl,fun m hm=>⟨by have:=(h.m m hm).1;omega,fun x hx=>((h.m m hm).2 x hx).sz⟩⟩
theorem bundleEncodes_n (u v:Bun) (d:List Int) (h:bunS u=false∨bunS v=false∨1000<d.length) (hk:VC L_ 17 [] (bv true)):VC L_ 8 ([bun u,bun v,ints .u8 d]) (bv true):=by
 have q:(!bunS u || !bunS v || decide (((d.map (row1 .u8)).length:Int)>1000))=true:=by
  rw[N_]
  rcases h with h|h|h
  ·rw[h];rfl
  ·rw[h];simp
  ·rw[decide_eq_true (show ((d.length:Int)>1000) by omega),DM_]
 have oz0:=@few31_v (u)
 have oz1:=@few31_v (v)
 have oz3:=@hk
 exact VC.run (fn:=Tryz.f8) (W:=[r_,.r [] [.callr (rO oz0),o_,o_,.callr (rO oz1),o_,.sel 1,o_,o_,o_,.sel 1],b_,.r [] [.callr (rO oz3)]]) Tryz.func8 (by kernel_rfl) (.c oz0<|.c oz1<|.c q<|.c oz3<|.n)
theorem bundleEncodes_y (u v:Bun) (d X S:List Int) (e:Int) (s:Bool) (hu:bunS u=true) (hv:bunS v=true) (hd:d.length≤1000) (hX:X.length≤10000000) (hS:S.length≤10000000) (hk:VC L_ 17 [] (bv true)) (h1:VC L_ 22 [bun u] (.tup [ints .u8 X,i64 e])) (h2:VC L_ 23 [bun u] (.tup [ints .u8 X,i64 e])) (h3:VC L_ 25 [bun u,bun v] (bv s)) (h4:VC L_ 13 [bun u,bun v] (bv s)) (h5:VC L_ 25 [bun u,bun u] (bv true)) (h6:VC L_ 26 [ints .u8 d] (ints .u8 S)) (h7:VC L_ 20 [ints .u8 d] (ints .u8 S)):VC L_ 8 ([bun u,bun v,ints .u8 d]) (bv true):=by
 have q:(!bunS u || !bunS v || decide (((d.map (row1 .u8)).length:Int)>1000))=false:=by
  rw[N_,hu,hv,decide_eq_false (show ¬ ((d.length:Int)>1000) by omega)];rfl
 have z1:(e==e)=true:=by simp
 have z2:(s==s)=true:=by simp
 have oz0:=@few31_v (u)
 have oz1:=@few31_v (v)
 have oz3:=@h1
 have oz4:=@h2
 have oz8:=@same06_v (X) hX
 have oz10:=(show true=true by with_reducible rfl)
 have oz13:=@h3
 have oz17:=@h4
 have oz23:=@h5
 have oz27:=@h6
 have oz30:=@h7
 have oz32:=@same06_v (S) hS
 have oz35:=@hk
 exact VC.run (fn:=Tryz.f8) (W:=[r_,.r [] [.callr (rO oz0),o_,o_,.callr (rO oz1),o_,.sel 1,o_,o_,o_,.sel 1],d_,.r [] [.callr (rO oz3)],.r [] [.callr (rO oz4)],.r [] [e_,e_,e_,.callr (rO oz8),e_,e_,e_,e_,.callr (rO oz13),e_,e_,e_,.callr (rO oz17),e_,e_,e_,e_,e_,.callr (rO oz23),e_,e_,e_,.callr (rO oz27),e_,e_,.callr (rO oz30),e_,.callr (rO oz32),e_,e_,.callr (rO oz35),e_]]) Tryz.func8 (by kernel_rfl) (.c oz0<|.c oz1<|.c q<|.c oz3<|.c oz4<|.c z1<|.c z1<|.c z1<|.c oz8<|.c z1<|.c oz10<|.c oz10<|.c oz10<|.c oz13<|.c oz10<|.c oz10<|.c oz10<|.c oz17<|.c oz10<|.c oz10<|.c z2<|.c z2<|.c z2<|.c oz23<|.c z2<|.c oz10<|.c oz10<|.c oz27<|.c oz10<|.c oz10<|.c oz30<|.c oz10<|.c oz32<|.c oz10<|.c oz10<|.c oz35<|.c oz10<|.n)
theorem nodEq_rfl (n:Nod):nodEq n n=true:=(nodEq_iff _ _).2 rfl
theorem blcEq_rfl (x:Blc):blcEq x x=true:=by
 unfold blcEq
 rw[zip_refl fun n _=>nodEq_rfl n];simp
theorem mdlEq_rfl (m:Mdl):mdlEq m m=true:=zip_refl fun x _=>blcEq_rfl x
theorem bunEq_rfl (u:Bun):bunEq u u=true:=by
 unfold bunEq
 rw[zip_refl fun x _=>mdlEq_rfl x];simp
theorem bundleEncodes_v (u v:Bun) (d:List Int) (ok:u.Ok) (okv:v.Ok) (hd:∀ x∈d,0≤x∧x≤255):VC L_ 8 [bun u,bun v,ints .u8 d] (bv true):=by
 by_cases h:bunS u=false∨bunS v=false∨1000<d.length
 ·exact bundleEncodes_n u v d h known35
 ·have hu:bunS u=true:=by cases q:bunS u;exact absurd (.inl q) h;rfl
  have hv:bunS v=true:=by cases q:bunS v;exact absurd (.inr (.inl q)) h;rfl
  have hl:d.length≤1000:=by
   apply cbc;intro q;exact h (.inr (.inr (by omega)))
  have fu:=Bun.fw ok hu
  have sz:=fu.sm.sz (by have:=fu.l;omega)
  have h5:=bsame_v u u sz
  rw[bunEq_rfl] at h5
  exact bundleEncodes_y u v d (encR u).1 (sealL d) (encR u).2 (bunEq u v) hu hv hl (by have:=@encR_len u;omega) (by rw[sealL_len];omega) known35 (penc_v u ok fu.sm fu.pk fu.l) (renc_v u ok fu.sm fu.pk fu.l) (bsame_v u v sz) (lbn_v u v sz) h5 (seal_f p32L d p4 hd (by omega)) (rseal_f p32L d p4 hd (by omega))
end Go.Proofs.YtgimdjfbnbkpgaaGreat
