/- A part of this claim. No condition. -/
import Derived.Outline
import Derived.Test.YtdfihaminnmgpaaGreatProg
import Derived.WalkKit
import Derived.Below
import Derived.LoopTactic
import Derived.RegionTactic
import Derived.ChangeAlike
import Derived.BigRegion
import Derived.Deep.QuietTactic
import Derived.BigQuiet
import Derived.Lib.Hide
import Derived.WalkSpells
import Derived.WalkLawsBesides
import Derived.WalkSmall
import Derived.Laws.BytesString
import Derived.Laws.IdiomStrings
import Derived.Laws.BitsAllLaws
import Derived.Laws.AppendOwnNone
import Derived.PlainAid
import Derived.Laws.Tables
import Derived.Laws.CopyOwn
import Derived.Deep.WholeRow
import Derived.Laws.ResultCell
import Derived.Shelf.Bits.Mul64
import Derived.Handy
import Derived.ScopeJumps
import Derived.OwnWalk
import Derived.Deep.Slices
import Derived.ProofKit
import Derived.OpenShut
import Derived.ShutString
import Derived.ChangeOld
import Derived.Deep.LoopGhost
import Derived.Lib.SlBytesConst
import Derived.Test.YtdfihaminnmgpaaGreatBundleDecodesG4
set_option maxRecDepth 100000
set_option maxHeartbeats 2000000
set_option linter.unusedVariables false
set_option linter.unusedSimpArgs false
set_option linter.unnecessarySimpa false
namespace Go.Proofs.YtdfihaminnmgpaaGreat
open Go.RowKit
open BlkW renaming rows→CW_
open Bool renaming and_eq_true→P_,and_eq_false_iff→R_,or_eq_false_iff→T_,not_eq_false'→W_,not_eq_true'→Y_,or_eq_true→D_,and_true→AO_,false_and→BQ_,not_false→BR_,true_and→BU_,and_false→BW_,not_true→BB_,false_or→BC_,or_false→BD_,not_eq_eq_eq_not→BO_
open Exit renaming exit→BS_,ret→DT_
open Int renaming toNat_natCast→AF_,eq_ofNat_of_zero_le→CL_,not_lt→CQ_,not_le→CI_
open IntKind renaming i64→U_,i8→Z_,i32→AL_
open IntWalk renaming u64_in→DQ_,i32_in→AI_
open List renaming map→K_,drop→O_,take→Q_,map_replicate→S_,length_map→V_,map_append→X_,map_cons→A_,map_take→B_,map_drop→C_,map_nil→AM_,map_set→AN_,getElem?_eq_getElem→AP_,length_drop→AS_,getD_eq_getElem?_getD→AU_,length_append→AD_,length_cons→AJ_,length_take→BL_,length_set→BF_,getElem_mem→CN_,take_of_length_le→BJ_,length_replicate→BN_,map_eq_nil_iff→BV_,length_range→BX_,length_nil→BE_,mem_append→CA_,getElem?_drop→CB_
open Nat renaming le_refl→AE_,zero_add→BT_,zero_le→CO_,add_zero→DK_
open Tryz renaming prog→M_,func104→CP_,f104→CJ_
open Value renaming slice→AK_,int→AW_,bool→BI_,agg→CX_
open Weak renaming int→N_,nil→AV_,tup→AA_,rows→AH_,agg→AZ_,bool→AB_,any→AG_
open WeakL renaming refl→AQ_
theorem int_m (l:List Int) (lo hi:Int) (hb:∀ x∈l,0≤x∧x≤255) (hl:l.length≤1000000) (h:getE l=0) (h2:unfoldN (getV l)<lo∨hi<unfoldN (getV l)):VM M_ 251 ([.ptr 100000 0 0,i64 lo,i64 hi]) ([(100000,.var (rdC (l,0)))]) (i64 0) ([(100000,.var (rdC ([],3)))]):=by
 have oz0:=@nexti_y (l) hb hl h
 have oz3:=@rfail_v (O_ (getN l).toNat l) (3)
 exact mR_ [r_,.r [] [cm oz0],r_,d_,.r [] [o_,o_,o_,.sel 1],b_,.r [] [cm oz3],r_] [.sort] _ Tryz.func251 (.d4 oz0 z1_ (h_ ((decide (unfoldN (getV l)<lo) || decide (unfoldN (getV l)>hi))=true)) oz3)
theorem int_y (l:List Int) (lo hi:Int) (hb:∀ x∈l,0≤x∧x≤255) (hl:l.length≤1000000) (h:getE l=0) (h2:¬ unfoldN (getV l)<lo) (h3:¬ hi<unfoldN (getV l)):VM M_ 251 ([.ptr 100000 0 0,i64 lo,i64 hi]) ([(100000,.var (rdC (l,0)))]) (i64 (unfoldN (getV l))) ([(100000,.var (rdC (l.drop (getN l).toNat,0)))]):=by
 have oz0:=@nexti_y (l) hb hl h
 have oz2:=(decide_eq_false (p:=(unfoldN (getV l)<lo)) a_)
 exact mR_ [r_,.r [] [cm oz0],r_,d_,.r [] [e_,e_,e_,f_],d_,r_] [.sort] _ Tryz.func251 (.d7 oz0 z1_ oz2 oz2 oz2 oz2 (decide_eq_false (p:=(unfoldN (getV l)>hi)) a_))
theorem int_v (s:Rst) (lo hi:Int) (h:s.In):VM M_ 251 [.ptr 100000 0 0,i64 lo,i64 hi] [(100000,.var (rdC s))] (i64 (intV s lo hi)) [(100000,.var (rdC (intS s lo hi)))]:=by
 obtain ⟨l,e⟩:=s
 by_cases he:e=0
 ·subst he
  by_cases hg:getE l=0
  ·by_cases hm:unfoldN (getV l)<lo∨hi<unfoldN (getV l)
   ·rw[show intS (l,0) lo hi=([],3) from by simp only[intS];rw[j_ v0_,j_ (by simp[hg]),i_ hm],show intV (l,0) lo hi=0 from by simp only[intV];rw[j_ v0_,j_ (by simp[hg]),i_ hm]]
    exact int_m l lo hi h.b h.l hg hm
   ·rw[show intS (l,0) lo hi=(l.drop (getN l).toNat,0) from by simp only[intS];rw[j_ v0_,j_ (by simp[hg]),j_ hm],show intV (l,0) lo hi=unfoldN (getV l) from by simp only[intV];rw[j_ v0_,j_ (by simp[hg]),j_ hm]]
    exact int_y l lo hi h.b h.l hg (fun q=>hm (.inl q)) (fun q=>hm (.inr q))
  ·rw[show intS (l,0) lo hi=([],getE l) from by simp[intS,hg],show intV (l,0) lo hi=0 from by simp[intV,hg]]
   exact int_g l lo hi h.b h.l hg
 ·rw[show intS (l,e) lo hi=(l,e) from by simp[intS,he],show intV (l,e) lo hi=0 from by simp[intV,he]]
  exact int_e (l,e) lo hi he
theorem intV_rng {s:Rst} {lo hi:Int} (h0:lo≤0) (h1:0≤hi):lo≤intV s lo hi∧intV s lo hi≤hi:=by
 unfold intV
 split
 ·omega
 ·split
  ·omega
  ·split
   ·omega
   ·omega
theorem int32_v (s:Rst) (h:s.In):VM M_ 250 ([.ptr 100000 0 0]) ([(100000,.var (rdC s))]) (i32 (intV s (-2147483648) 2147483647)) ([(100000,.var (rdC (intS s (-2147483648) 2147483647)))]):=by
 have q:=@intV_rng s (-2147483648) 2147483647 x_ x_
 have oz0:=@int_v (s) (-2147483648) (2147483647) h
 have oz1:=(AI_ (intV s (-2147483648) 2147483647) a_)
 exact mR_ [r_,.r [] [cm oz0,.n (nO oz1)]] [.sort] _ Tryz.func250 (.d2 oz0 oz1)
theorem byte8_v (l:List Int) (hb:∀ x∈l,0≤x∧x≤255) (hl:l.length≤1000000) (h:0<l.length):hDo8_ 248 (l,0) (IntKind.i8.wrap (l.getD 0 default)) (l.drop 1,0):=by
 have oz6:=(N_ (k:=.i8) (show ((IntKind.i8.wrap ((l,0).fst.getD 0 0)):Int)=(IntKind.i8.wrap (l.getD 0 default)) from k0_))
 exact mR_ [r_,.r [] [.row [u8 ((l,0).fst.getD 0 0)],.w],.r [] [.nats 1 (K_ (row1 .u8) (l,0).fst).length],r_] [.weak 0 (wO oz6),.blk 100000 (Blk.var [AV.sl 1 (K_ (row1 .u8) (O_ 1 l)),i64 0]),.sort] _ Tryz.func248 (.d8 z3_ (map_at (row1 .u8) (0) (l:=(l,0).fst) (i:=0) h) (s_ ((1:Int)=(↑(1:Nat):Int))) (h0_ ((K_ (row1 .u8) (l,0).fst).length=(K_ (row1 .u8) (l,0).fst).length)) (h_ (1≤(K_ (row1 .u8) (l,0).fst).length)) (s_ ((K_ (row1 .u8) (l,0).fst).length≤(K_ (row1 .u8) (l,0).fst).length)) oz6 (show BlkW (Blk.var [AV.sl 1 (Q_ ((K_ (row1 .u8) (l,0).fst).length-1) (O_ 1 (K_ (row1 .u8) (l,0).fst))),i64 (l,0).snd]) (Blk.var [AV.sl 1 (K_ (row1 .u8) (O_ 1 l)),i64 0]) from (BlkW.var (m:=[AV.sl 1 (K_ (row1 .u8) (O_ 1 l)),i64 0]) (.cons (AH_ (rows_to (row1 .u8) (r:=Q_ ((K_ (row1 .u8) (l,0).fst).length-1) (O_ 1 (K_ (row1 .u8) (l,0).fst))) (l:=Q_ ((K_ (row1 .u8) (l,0).fst).length-1) (O_ 1 (l,0).fst)) (m:=O_ 1 l) g_ (show (Q_ ((K_ (row1 .u8) (l,0).fst).length-1) (O_ 1 (l,0).fst))=(O_ 1 l) from (by (rw[BJ_ (by simp[AS_])]))))) (.cons (.refl _) .nil)))))
theorem end_e (s:Rst) (h:s.2≠0):hDo_ 61 s s.2 s:=by
 exact mR_ [r_,r_,d_,r_,b_,r_] [.sort] _ Tryz.func61 (.d2 z1_ (h_ ((s.snd != 0)=true)))
theorem end_m (l:List Int) (h:0<l.length):hDo_ 61 (l,0) 24 (l,0):=by
 exact mR_ [r_,r_,d_,r_,d_,r_,b_,r_] [.sort] _ Tryz.func61 (.d3 z1_ (s0_ (((l,0).snd != 0)=false)) (h_ (decide (((K_ (row1 .u8) (l,0).fst).length:Int)>0)=true)))
theorem end_z   : hDo_ 61 ([],0) 0 ([],0):=by
 exact mR_ [r_,r_,d_,r_,d_,r_,d_,r_] [.sort] _ Tryz.func61 (.d3 z1_ z1_ z1_)
def dpW (l:List Int):Nat→List Int
 | 0=>l
 | k+1=>(dpW l k).drop 1
def tkW (l:List Int):Nat→List Int
 | 0=>[]
 | k+1=>tkW l k++[IntKind.i8.wrap ((dpW l k).getD 0 default)]
theorem dpW_eq (l:List Int) (k:Nat):dpW l k=l.drop k:=by
 induction k with
 | zero=>rfl
 | succ k ih=>rw[dpW,ih,List.drop_drop]
theorem tkW_len (l:List Int) (k:Nat):(tkW l k).length=k:=by
 induction k with
 | zero=>rfl
 | succ k ih=>rw[tkW,AD_,ih];rfl
def itS (s:Rst):Nat→Rst
 | 0=>s
 | k+1=>intS (itS s k) (-2147483648) 2147483647
def itV (s:Rst):Nat→List Int
 | 0=>[]
 | k+1=>itV s k++[intV (itS s k) (-2147483648) 2147483647]
theorem itS_in {s:Rst} (h:s.In) (k:Nat):(itS s k).In:=by
 induction k with
 | zero=>exact h
 | succ k ih=>exact int_in ih _ _
theorem itV_len (s:Rst) (k:Nat):(itV s k).length=k:=by
 induction k with
 | zero=>rfl
 | succ k ih=>rw[itV,AD_,ih];rfl
noncomputable def all8_l_I (l:List Int) (n:Nat) (k:Nat):VS:=stt 45 [(0,AV.ptr 100000 0 0),(2,.bnd 248 (.ptr 100000 0 0)),(7,.own 900),(30,i64 n),(31,i64 k)] [(900,.slc 52 1 ((tkW l k).map (row1 .i8))),(100000,.var (rdC (dpW l k,0)))]
noncomputable def all8_l_Z (l:List Int) (n:Nat):VS:=all8_l_I l n (n)
theorem all8_l_s (l:List Int) (n:Nat) (hb:∀ x∈l,0≤x∧x≤255) (hl:l.length≤1000000) (h1:n≤l.length) (k:Nat) (hk:k<n):VT M_ (fnC Tryz.f247 [1,1,1,1,0,1,0,0]) (all8_l_I l n k) .normal (all8_l_I l n (k+1)):=by
 have q1:∀ x∈dpW l k,0≤x∧x≤255:=by rw[dpW_eq];exact mem_drop' hb
 have q2:(dpW l k).length=l.length-k:=by rw[dpW_eq,AS_]
 have q3:=tkW_len l k
 have oz1:=@byte8_v (dpW l k) q1 a_ a_
 exact tR_ [r_,b_,.r [] [cm oz1],.r [] [.n ((↑k:Int)+1)]] [.any (rg [(32,7)]),.drop [36],.ren 37 900,.weak 31 (i64 (↑(k+1):Int)),.blk 900 (Blk.slc 52 1 (K_ (row1 .i8) (tkW l (k+1)))),.blk 100000 (Blk.var [AV.sl 1 (K_ (row1 .u8) (dpW l (k+1))),i64 0]),.sort] (.d8 (decide_eq_true (p:=((↑k:Int)<(↑n:Int))) a_) oz1 (h_ (((K_ (row1 .i8) (tkW l k)).length+1)*1≤140737488355328)) (h_ ((K_ (row1 .i8) (tkW l k)).length+1≤9223372036854775807)) (i6n ((↑k:Int)+1) a_) (wS_ k) (show BlkW (Blk.slc 52 1 (K_ (row1 .i8) (tkW l k)++[[i8 (IntKind.i8.wrap ((dpW l k).getD 0 default))]])) (Blk.slc 52 1 (K_ (row1 .i8) (tkW l (k+1)))) from (CW_ (e:=52) (z:=1) (rows_to (row1 .i8) (r:=K_ (row1 .i8) (tkW l k)++[[i8 (IntKind.i8.wrap ((dpW l k).getD 0 default))]]) (l:=tkW l k++[IntKind.i8.wrap ((dpW l k).getD 0 default)]) (m:=tkW l (k+1)) g_ (show (tkW l k++[IntKind.i8.wrap ((dpW l k).getD 0 default)])=(tkW l (k+1)) from t0_)))) (show BlkW (Blk.var [AV.sl 1 (K_ (row1 .u8) (O_ 1 (dpW l k))),i64 0]) (Blk.var [AV.sl 1 (K_ (row1 .u8) (dpW l (k+1))),i64 0]) from (BlkW.var (m:=[AV.sl 1 (K_ (row1 .u8) (dpW l (k+1))),i64 0]) (.cons (AH_ (rows_to (row1 .u8) (r:=K_ (row1 .u8) (O_ 1 (dpW l k))) (l:=O_ 1 (dpW l k)) (m:=dpW l (k+1)) rfl (show (O_ 1 (dpW l k))=(dpW l (k+1)) from t0_))) (.cons (.refl _) .nil)))))
theorem all8_l_e (l:List Int) (n:Nat) (hb:∀ x∈l,0≤x∧x≤255) (hl:l.length≤1000000) (h1:n≤l.length):VT M_ (fnC Tryz.f247 [1,1,1,1,0,1,0,0]) (all8_l_I l n (n)) (.exit 0) (all8_l_Z l n):=by
 exact tR_ [r_,d_] [.any [32],.sort] (.d (decide_eq_false (p:=((↑n:Int)<(↑n:Int))) a_))
theorem all8_l (l:List Int) (n:Nat) (hb:∀ x∈l,0≤x∧x≤255) (hl:l.length≤1000000) (h1:n≤l.length):VT M_ (fnC Tryz.f247 [1,1,1,1,0,1,0]) (all8_l_I l n 0) (.exit 0) (all8_l_Z l n) :=
 VT.loop (fun k=>all8_l_I l n k) (n) (fun k hk=>all8_l_s l n hb hl h1 k hk) (all8_l_e l n hb hl h1) c0_
noncomputable def all32_l_I (l:List Int) (n:Nat) (k:Nat):VS:=stt 45 [(0,AV.ptr 100000 0 0),(2,.bnd 250 (.ptr 100000 0 0)),(7,.own 900),(30,i64 n),(31,i64 k)] [(900,.slc 21 1 ((itV (l,0) k).map (row1 .i32))),(100000,.var (rdC (itS (l,0) k)))]
noncomputable def all32_l_Z (l:List Int) (n:Nat):VS:=all32_l_I l n (n)
theorem all32_l_s (l:List Int) (n:Nat) (hb:∀ x∈l,0≤x∧x≤255) (hl:l.length≤1000000) (h1:n≤l.length) (k:Nat) (hk:k<n):VT M_ (fnC Tryz.f249 [1,1,1,1,0,1,0,0]) (all32_l_I l n k) .normal (all32_l_I l n (k+1)):=by
 have q1:(itS (l,0) k).In:=itS_in ⟨hb,hl⟩ k
 have q3:=itV_len (l,0) k
 have oz1:=@int32_v (itS (l,0) k) q1
 exact tR_ [r_,b_,.r [] [cm oz1],.r [] [.n ((↑k:Int)+1)]] [.any (rg [(32,7)]),.drop [36],.ren 37 900,.weak 31 (i64 (↑(k+1):Int)),.blk 900 (Blk.slc 21 1 (K_ (row1 .i32) (itV (l,0) (k+1)))),.blk 100000 (Blk.var [AV.sl 1 (K_ (row1 .u8) (itS (l,0) (k+1)).fst),i64 (itS (l,0) (k+1)).snd]),.sort] (.d8 (decide_eq_true (p:=((↑k:Int)<(↑n:Int))) a_) oz1 (h_ (((K_ (row1 .i32) (itV (l,0) k)).length+1)*4≤140737488355328)) (h_ ((K_ (row1 .i32) (itV (l,0) k)).length+1≤9223372036854775807)) (i6n ((↑k:Int)+1) a_) (wS_ k) (show BlkW (Blk.slc 21 1 (K_ (row1 .i32) (itV (l,0) k)++[[i32 (intV (itS (l,0) k) (-2147483648) 2147483647)]])) (Blk.slc 21 1 (K_ (row1 .i32) (itV (l,0) (k+1)))) from (CW_ (e:=21) (z:=1) (rows_to (row1 .i32) (r:=K_ (row1 .i32) (itV (l,0) k)++[[i32 (intV (itS (l,0) k) (-2147483648) 2147483647)]]) (l:=itV (l,0) k++[intV (itS (l,0) k) (-2147483648) 2147483647]) (m:=itV (l,0) (k+1)) g_ (show (itV (l,0) k++[intV (itS (l,0) k) (-2147483648) 2147483647])=(itV (l,0) (k+1)) from t0_)))) (show BlkW (Blk.var [AV.sl 1 (K_ (row1 .u8) (intS (itS (l,0) k) (-2147483648) 2147483647).fst),i64 (intS (itS (l,0) k) (-2147483648) 2147483647).snd]) (Blk.var [AV.sl 1 (K_ (row1 .u8) (itS (l,0) (k+1)).fst),i64 (itS (l,0) (k+1)).snd]) from (BlkW.var (m:=[AV.sl 1 (K_ (row1 .u8) (itS (l,0) (k+1)).fst),i64 (itS (l,0) (k+1)).snd]) (.cons (AH_ (rows_to (row1 .u8) (r:=K_ (row1 .u8) (intS (itS (l,0) k) (-2147483648) 2147483647).fst) (l:=(intS (itS (l,0) k) (-2147483648) 2147483647).fst) (m:=(itS (l,0) (k+1)).fst) rfl (show ((intS (itS (l,0) k) (-2147483648) 2147483647).fst)=((itS (l,0) (k+1)).fst) from t0_))) (.cons (N_ t0_) .nil)))))
theorem all32_l_e (l:List Int) (n:Nat) (hb:∀ x∈l,0≤x∧x≤255) (hl:l.length≤1000000) (h1:n≤l.length):VT M_ (fnC Tryz.f249 [1,1,1,1,0,1,0,0]) (all32_l_I l n (n)) (.exit 0) (all32_l_Z l n):=by
 exact tR_ [r_,d_] [.any [32],.sort] (.d (decide_eq_false (p:=((↑n:Int)<(↑n:Int))) a_))
theorem all32_l (l:List Int) (n:Nat) (hb:∀ x∈l,0≤x∧x≤255) (hl:l.length≤1000000) (h1:n≤l.length):VT M_ (fnC Tryz.f249 [1,1,1,1,0,1,0]) (all32_l_I l n 0) (.exit 0) (all32_l_Z l n) :=
 VT.loop (fun k=>all32_l_I l n k) (n) (fun k hk=>all32_l_s l n hb hl h1 k hk) (all32_l_e l n hb hl h1) c0_
theorem all8_y (l:List Int) (n:Nat) (hb:∀ x∈l,0≤x∧x≤255) (hl:l.length≤1000000) (h0:1≤n) (h1:n≤l.length):VM M_ 247 ([.ptr 100000 0 0,i64 n,.bnd 248 (.ptr 100000 0 0)]) ([(100000,.var (rdC (l,0)))]) (.sl 1 ((tkW l n).map (row1 .i8))) ([(100000,.var (rdC (dpW l n,0)))]):=by
 have q3:=tkW_len l n
 have oz10:=@all8_l (l) (n) hb hl h1
 exact mR_ [r_,.r [] [e_,e_,e_,e_,e_,f_,o_,o_,.sel 1],d_,r_,d_,r_,r_,.code [.any (rg [(1,1),(6,1),(8,10),(20,8)]),.weak 31 (i64 (↑0:Int)),.nils 7 900 52 1,.blk 100000 (Blk.var [AV.sl 1 (K_ (row1 .u8) (dpW l 0)),i64 0]),.sort] (BS_ 0) (zO oz10),r_,d_,r_] [.frz 900,.sort] _ Tryz.func247 (.c8 z1_ z1_ z1_ z1_ z1_ z1_ (c_ (((l,0).snd != 0 || decide ((↑n:Int)<1))=false)) (h_ (decide ((↑n:Int)>((K_ (row1 .u8) (l,0).fst).length:Int))=false))<|.d4 w0_ (show BlkW (Blk.var [AV.sl 1 (K_ (row1 .u8) (l,0).fst),i64 (l,0).snd]) (Blk.var [AV.sl 1 (K_ (row1 .u8) (dpW l 0)),i64 0]) from (BlkW.var (m:=[AV.sl 1 (K_ (row1 .u8) (dpW l 0)),i64 0]) (.cons (AH_ (rows_to (row1 .u8) (r:=K_ (row1 .u8) (l,0).fst) (l:=(l,0).fst) (m:=dpW l 0) rfl (show ((l,0).fst)=(dpW l 0) from t0_))) (.cons (.refl _) .nil)))) oz10 z1_)
theorem all8_e (s:Rst) (n:Int) (h:s.2≠0):VM M_ 247 ([.ptr 100000 0 0,i64 n,.bnd 248 (.ptr 100000 0 0)]) ([(100000,.var (rdC s))]) (.sl 1 (([]:List Int).map (row1 .i8))) ([(100000,.var (rdC s))]):=by
 exact mR_ [r_,.r [] [e_,e_,e_,e_,e_,f_,o_,o_,.sel 1],b_,r_] [.weak 0 (AV.sl 1 []),.sort] _ Tryz.func247 (.d8 z1_ z1_ z1_ z1_ z1_ z1_ (h_ ((s.snd != 0 || decide (n<1))=true)) (show Weak (AV.lit (AK_ none 0 0)) (AV.sl 1 []) from (AV_ _)))
theorem all8_n (l:List Int) (n:Int) (h:n<1):VM M_ 247 ([.ptr 100000 0 0,i64 n,.bnd 248 (.ptr 100000 0 0)]) ([(100000,.var (rdC (l,0)))]) (.sl 1 (([]:List Int).map (row1 .i8))) ([(100000,.var (rdC (l,0)))]):=by
 exact mR_ [r_,.r [] [e_,e_,e_,e_,e_,f_,o_,o_,.sel 1],b_,r_] [.weak 0 (AV.sl 1 []),.sort] _ Tryz.func247 (.d8 z1_ z1_ z1_ z1_ z1_ z1_ (y_ (((l,0).snd != 0 || decide (n<1))=true)) (show Weak (AV.lit (AK_ none 0 0)) (AV.sl 1 []) from (AV_ _)))
theorem all8_m (l:List Int) (n:Int) (h:1≤n) (h1:(l.length:Int)<n):VM M_ 247 ([.ptr 100000 0 0,i64 n,.bnd 248 (.ptr 100000 0 0)]) ([(100000,.var (rdC (l,0)))]) (.sl 1 (([]:List Int).map (row1 .i8))) ([(100000,.var (rdC ([],20)))]):=by
 have oz8:=@rfail_v (l) (20)
 exact mR_ [r_,.r [] [e_,e_,e_,e_,e_,f_,o_,o_,.sel 1],d_,r_,b_,.r [] [cm oz8],r_] [.weak 0 (AV.sl 1 []),.sort] _ Tryz.func247 (.c8 z1_ z1_ z1_ z1_ z1_ z1_ (c_ (((l,0).snd != 0 || decide (n<1))=false)) (h_ (decide (n>((K_ (row1 .u8) (l,0).fst).length:Int))=true))<|.d2 oz8 (show Weak (AV.lit (AK_ none 0 0)) (AV.sl 1 []) from (AV_ _)))
theorem all32_y (l:List Int) (n:Nat) (hb:∀ x∈l,0≤x∧x≤255) (hl:l.length≤1000000) (h0:1≤n) (h1:n≤l.length) (h:(itS (l,0) n).2=0):VM M_ 249 ([.ptr 100000 0 0,i64 n,.bnd 250 (.ptr 100000 0 0)]) ([(100000,.var (rdC (l,0)))]) (.sl 1 ((itV (l,0) n).map (row1 .i32))) ([(100000,.var (rdC (itS (l,0) n)))]):=by
 have q3:=itV_len (l,0) n
 have oz10:=@all32_l (l) (n) hb hl h1
 exact mR_ [r_,.r [] [e_,e_,e_,e_,e_,f_,o_,o_,.sel 1],d_,r_,d_,r_,r_,.code [.any (rg [(1,1),(6,1),(8,10),(20,8)]),.weak 31 (i64 (↑0:Int)),.nils 7 900 21 1,.blk 100000 (Blk.var [AV.sl 1 (K_ (row1 .u8) (itS (l,0) 0).fst),i64 (itS (l,0) 0).snd]),.sort] (BS_ 0) (zO oz10),r_,d_,r_] [.frz 900,.sort] _ Tryz.func249 (.c8 z1_ z1_ z1_ z1_ z1_ z1_ (c_ (((l,0).snd != 0 || decide ((↑n:Int)<1))=false)) (h_ (decide ((↑n:Int)>((K_ (row1 .u8) (l,0).fst).length:Int))=false))<|.d4 w0_ (show BlkW (Blk.var [AV.sl 1 (K_ (row1 .u8) (l,0).fst),i64 (l,0).snd]) (Blk.var [AV.sl 1 (K_ (row1 .u8) (itS (l,0) 0).fst),i64 (itS (l,0) 0).snd]) from (BlkW.var (m:=[AV.sl 1 (K_ (row1 .u8) (itS (l,0) 0).fst),i64 (itS (l,0) 0).snd]) (.cons (AH_ (rows_to (row1 .u8) (r:=K_ (row1 .u8) (l,0).fst) (l:=(l,0).fst) (m:=(itS (l,0) 0).fst) rfl (show ((l,0).fst)=((itS (l,0) 0).fst) from t0_))) (.cons (N_ t0_) .nil)))) oz10 (h_ (((itS (l,0) n).snd != 0)=false)))
theorem all32_f (l:List Int) (n:Nat) (hb:∀ x∈l,0≤x∧x≤255) (hl:l.length≤1000000) (h0:1≤n) (h1:n≤l.length) (h:(itS (l,0) n).2≠0):VM M_ 249 ([.ptr 100000 0 0,i64 n,.bnd 250 (.ptr 100000 0 0)]) ([(100000,.var (rdC (l,0)))]) (.sl 1 (([]:List Int).map (row1 .i8))) ([(100000,.var (rdC (itS (l,0) n)))]):=by
 have q3:=itV_len (l,0) n
 have oz10:=@all32_l (l) (n) hb hl h1
 exact mR_ [r_,.r [] [e_,e_,e_,e_,e_,f_,o_,o_,.sel 1],d_,r_,d_,r_,r_,.code [.any (rg [(1,1),(6,1),(8,10),(20,8)]),.weak 31 (i64 (↑0:Int)),.nils 7 900 21 1,.blk 100000 (Blk.var [AV.sl 1 (K_ (row1 .u8) (itS (l,0) 0).fst),i64 (itS (l,0) 0).snd]),.sort] (BS_ 0) (zO oz10),r_,b_,r_] [.drop [900],.weak 0 (AV.sl 1 []),.sort] _ Tryz.func249 (.c8 z1_ z1_ z1_ z1_ z1_ z1_ (c_ (((l,0).snd != 0 || decide ((↑n:Int)<1))=false)) (h_ (decide ((↑n:Int)>((K_ (row1 .u8) (l,0).fst).length:Int))=false))<|.d5 w0_ (show BlkW (Blk.var [AV.sl 1 (K_ (row1 .u8) (l,0).fst),i64 (l,0).snd]) (Blk.var [AV.sl 1 (K_ (row1 .u8) (itS (l,0) 0).fst),i64 (itS (l,0) 0).snd]) from (BlkW.var (m:=[AV.sl 1 (K_ (row1 .u8) (itS (l,0) 0).fst),i64 (itS (l,0) 0).snd]) (.cons (AH_ (rows_to (row1 .u8) (r:=K_ (row1 .u8) (l,0).fst) (l:=(l,0).fst) (m:=(itS (l,0) 0).fst) rfl (show ((l,0).fst)=((itS (l,0) 0).fst) from t0_))) (.cons (N_ t0_) .nil)))) oz10 (h_ (((itS (l,0) n).snd != 0)=true)) (show Weak (AV.lit (AK_ none 0 0)) (AV.sl 1 []) from (AV_ _)))
theorem all32_e (s:Rst) (n:Int) (h:s.2≠0):VM M_ 249 ([.ptr 100000 0 0,i64 n,.bnd 250 (.ptr 100000 0 0)]) ([(100000,.var (rdC s))]) (.sl 1 (([]:List Int).map (row1 .i8))) ([(100000,.var (rdC s))]):=by
 exact mR_ [r_,.r [] [e_,e_,e_,e_,e_,f_,o_,o_,.sel 1],b_,r_] [.weak 0 (AV.sl 1 []),.sort] _ Tryz.func249 (.d8 z1_ z1_ z1_ z1_ z1_ z1_ (h_ ((s.snd != 0 || decide (n<1))=true)) (show Weak (AV.lit (AK_ none 0 0)) (AV.sl 1 []) from (AV_ _)))
theorem all32_n (l:List Int) (n:Int) (h:n<1):VM M_ 249 ([.ptr 100000 0 0,i64 n,.bnd 250 (.ptr 100000 0 0)]) ([(100000,.var (rdC (l,0)))]) (.sl 1 (([]:List Int).map (row1 .i8))) ([(100000,.var (rdC (l,0)))]):=by
 exact mR_ [r_,.r [] [e_,e_,e_,e_,e_,f_,o_,o_,.sel 1],b_,r_] [.weak 0 (AV.sl 1 []),.sort] _ Tryz.func249 (.d8 z1_ z1_ z1_ z1_ z1_ z1_ (y_ (((l,0).snd != 0 || decide (n<1))=true)) (show Weak (AV.lit (AK_ none 0 0)) (AV.sl 1 []) from (AV_ _)))
theorem all32_m (l:List Int) (n:Int) (h:1≤n) (h1:(l.length:Int)<n):VM M_ 249 ([.ptr 100000 0 0,i64 n,.bnd 250 (.ptr 100000 0 0)]) ([(100000,.var (rdC (l,0)))]) (.sl 1 (([]:List Int).map (row1 .i8))) ([(100000,.var (rdC ([],20)))]):=by
 have oz8:=@rfail_v (l) (20)
 exact mR_ [r_,.r [] [e_,e_,e_,e_,e_,f_,o_,o_,.sel 1],d_,r_,b_,.r [] [cm oz8],r_] [.weak 0 (AV.sl 1 []),.sort] _ Tryz.func249 (.c8 z1_ z1_ z1_ z1_ z1_ z1_ (c_ (((l,0).snd != 0 || decide (n<1))=false)) (h_ (decide (n>((K_ (row1 .u8) (l,0).fst).length:Int))=true))<|.d2 oz8 (show Weak (AV.lit (AK_ none 0 0)) (AV.sl 1 []) from (AV_ _)))
def smlS (s:Rst) (n:Int):Rst :=
 if s.2≠0 then s else if n<1 then s else if (s.1.length:Int)<n then ([],20) else (dpW s.1 n.toNat,0)
def smlV (s:Rst) (n:Int):List Int :=
 if s.2≠0 then [] else if n<1 then [] else if (s.1.length:Int)<n then [] else tkW s.1 n.toNat
theorem sml_in {s:Rst} (h:s.In) (n:Int):(smlS s n).In:=by
 unfold smlS
 split
 ·exact h
 ·split
  ·exact h
  ·split
   ·exact ⟨by simp,by simp⟩
   ·exact ⟨by dsimp only;rw[dpW_eq];exact mem_drop' h.b,by dsimp only;rw[dpW_eq];have:=h.l;simp only[AS_];omega⟩
theorem all8_v (s:Rst) (n:Int) (h:s.In):VM M_ 247 [.ptr 100000 0 0,i64 n,.bnd 248 (.ptr 100000 0 0)] [(100000,.var (rdC s))] (.sl 1 ((smlV s n).map (row1 .i8))) [(100000,.var (rdC (smlS s n)))]:=by
 obtain ⟨l,e⟩:=s
 by_cases he:e=0
 ·subst he
  by_cases h1:n<1
  ·rw[show smlS (l,0) n=(l,0) from by simp[smlS,h1],show smlV (l,0) n=[] from by simp[smlV,h1]]
   exact all8_n l n h1
  ·by_cases h2:(l.length:Int)<n
   ·rw[show smlS (l,0) n=([],20) from by simp[smlS,h1,h2],show smlV (l,0) n=[] from by simp[smlV,h1,h2]]
    exact all8_m l n a_ h2
   ·obtain ⟨m,rfl⟩:=CL_ (s_ (0≤n))
    rw[show smlS (l,0) (m:Int)=(dpW l m,0) from by simp[smlS,h1,h2],show smlV (l,0) (m:Int)=tkW l m from by simp[smlV,h1,h2]]
    exact all8_y l m h.b h.l a_ a_
 ·rw[show smlS (l,e) n=(l,e) from by simp[smlS,he],show smlV (l,e) n=[] from by simp[smlV,he]]
  exact all8_e (l,e) n he
def widS (s:Rst) (n:Int):Rst :=
 if s.2≠0 then s else if n<1 then s else if (s.1.length:Int)<n then ([],20) else itS s n.toNat
def widV (s:Rst) (n:Int):List Int :=
 if s.2≠0 then [] else if n<1 then [] else if (s.1.length:Int)<n then [] else if (itS s n.toNat).2≠0 then [] else itV s n.toNat
theorem wid_in {s:Rst} (h:s.In) (n:Int):(widS s n).In:=by
 unfold widS
 split
 ·exact h
 ·split
  ·exact h
  ·split
   ·exact ⟨by simp,by simp⟩
   ·exact itS_in h _
theorem all32_v (s:Rst) (n:Int) (h:s.In):VM M_ 249 [.ptr 100000 0 0,i64 n,.bnd 250 (.ptr 100000 0 0)] [(100000,.var (rdC s))] (.sl 1 ((widV s n).map (row1 .i32))) [(100000,.var (rdC (widS s n)))]:=by
 obtain ⟨l,e⟩:=s
 by_cases he:e=0
 ·subst he
  by_cases h1:n<1
  ·rw[show widS (l,0) n=(l,0) from by simp[widS,h1],show widV (l,0) n=[] from by simp[widV,h1]]
   exact all32_n l n h1
  ·by_cases h2:(l.length:Int)<n
   ·rw[show widS (l,0) n=([],20) from by simp[widS,h1,h2],show widV (l,0) n=[] from by simp[widV,h1,h2]]
    exact all32_m l n a_ h2
   ·obtain ⟨m,rfl⟩:=CL_ (s_ (0≤n))
    by_cases h3:(itS (l,0) m).2=0
    ·rw[show widS (l,0) (m:Int)=itS (l,0) m from by simp[widS,h1,h2],show widV (l,0) (m:Int)=itV (l,0) m from by simp[widV,h1,h2,h3]]
     exact all32_y l m h.b h.l a_ a_ h3
    ·rw[show widS (l,0) (m:Int)=itS (l,0) m from by simp[widS,h1,h2],show widV (l,0) (m:Int)=[] from by simp[widV,h1,h2,h3]]
     exact all32_f l m h.b h.l a_ a_ h3
 ·rw[show widS (l,e) n=(l,e) from by simp[widS,he],show widV (l,e) n=[] from by simp[widV,he]]
  exact all32_e (l,e) n he
theorem smallR_v (s:Rst) (n:Int) (h:s.In):VM M_ 245 ([.ptr 100000 0 0,i64 n]) ([(100000,.var (rdC s))]) (.sl 1 ((smlV s n).map (row1 .i8))) ([(100000,.var (rdC (smlS s n)))]):=by
 have oz0:=@all8_v (s) (n) h
 exact mR_ [r_,.r [] [cm oz0]] [.sort] _ Tryz.func245 (.d oz0)
theorem wideR_v (s:Rst) (n:Int) (h:s.In):VM M_ 246 ([.ptr 100000 0 0,i64 n]) ([(100000,.var (rdC s))]) (.sl 1 ((widV s n).map (row1 .i32))) ([(100000,.var (rdC (widS s n)))]):=by
 have oz0:=@all32_v (s) (n) h
 exact mR_ [r_,.r [] [cm oz0]] [.sort] _ Tryz.func246 (.d oz0)
abbrev Rrf:=Nat×Int
abbrev rrC (xs:List Int) (r:Rrf):List AV:=[.sl 1 (xs.map (row1 .u8)),i64 (r.1:Nat),i64 r.2]
def toS (xs:List Int) (r:Rrf):Rst:=if r.2=0 then (xs.drop r.1,0) else ([],r.2)
def cntR (xs:List Int) (r:Rrf) (m:Int):Rrf :=
 if r.2≠0 then r else if getE (xs.drop r.1)≠0 then (r.1,getE (xs.drop r.1)) else if max m 0<getV (xs.drop r.1) then (r.1,3) else (r.1+(getN (xs.drop r.1)).toNat,0)
def intR (xs:List Int) (r:Rrf) (lo hi:Int):Rrf :=
 if r.2≠0 then r else if getE (xs.drop r.1)≠0 then (r.1,getE (xs.drop r.1)) else if unfoldN (getV (xs.drop r.1))<lo∨hi<unfoldN (getV (xs.drop r.1)) then (r.1,3) else (r.1+(getN (xs.drop r.1)).toNat,0)
abbrev hRm_ (f:Nat) (xs:List Int) (r:Rrf) (m:Int) (v:Int) (q:Rrf):Prop:=VM M_ f [.ptr 100000 0 0,i64 m] [(100000,.var (rrC xs r))] (i64 v) [(100000,.var (rrC xs q))]
abbrev hRo8_ (f:Nat) (xs:List Int) (r:Rrf) (v:Int) (q:Rrf):Prop:=VM M_ f [.ptr 100000 0 0] [(100000,.var (rrC xs r))] (i8 v) [(100000,.var (rrC xs q))]
theorem rcount_e (xs:List Int) (r:Rrf) (m:Int) (h:r.2≠0):hRm_ 34 xs r m 0 r:=by
 exact mR_ [r_,r_,b_,r_] [.sort] _ Tryz.func34 (.d (h_ ((r.snd != 0)=true)))
theorem rcount_g (xs:List Int) (c:Nat) (m:Int) (hb:∀ x∈xs,0≤x∧x≤255) (hl:xs.length≤1000000) (ha:c≤xs.length) (h:getE (xs.drop c)≠0) (h0:0≤m) (h1:m≤2147483647):hRm_ 34 xs (c,0) m 0 (c,getE (xs.drop c)):=by
 have qt:Q_ ((K_ (row1 .u8) xs).length-c) (O_ c xs)=xs.drop c:=BJ_ (by simp[AS_])
 have qu:Q_ ((K_ (row1 .u8) xs).length-((c:Nat):Int).toNat) (O_ ((c:Nat):Int).toNat xs)=xs.drop c:=b3_
 have qb:∀ x∈xs.drop c,0≤x∧x≤255:=mem_drop' hb
 obtain ⟨q1,q2,q3⟩:=get_rng qb
 have q5:(xs.drop c).length=xs.length-c:=AS_
 rcases bft (getE (Q_ ((K_ (row1 .u8) xs).length-c) (O_ c xs)) != 0) with hc0|hc0
 ·have gc0:¬getE (Q_ ((K_ (row1 .u8) xs).length-c) (O_ c xs))=0:=bdt hc0
  have oz6:=@refGet_v (Q_ ((K_ (row1 .u8) xs).length-c) (O_ c xs)) m1_ y0_
  exact mR_ [r_,r_,d_,.r [] [.nats (c,0).fst (K_ (row1 .u8) xs).length,ca oz6],r_,b_,r_,r_] [.blk 100000 (Blk.var [AV.sl 1 (K_ (row1 .u8) xs),i64 (↑c:Int),i64 (getE (O_ c xs))]),.sort] _ Tryz.func34 (.c8 (s0_ (((c,0).snd != 0)=false)) (h0_ ((↑(c,0).fst:Int)=(↑(c,0).fst:Int))) (h0_ ((K_ (row1 .u8) xs).length=(K_ (row1 .u8) xs).length)) (h_ ((c,0).fst≤(K_ (row1 .u8) xs).length)) (s_ ((K_ (row1 .u8) xs).length≤(K_ (row1 .u8) xs).length)) (show WeakL [AV.sl 1 (Q_ ((K_ (row1 .u8) xs).length-(c,0).fst) (O_ (c,0).fst (K_ (row1 .u8) xs)))] [AV.sl 1 (K_ (row1 .u8) (Q_ ((K_ (row1 .u8) xs).length-c) (O_ c xs)))] from (.cons (AH_ (rows_to (row1 .u8) (r:=Q_ ((K_ (row1 .u8) xs).length-(c,0).fst) (O_ (c,0).fst (K_ (row1 .u8) xs))) (l:=Q_ ((K_ (row1 .u8) xs).length-(c,0).fst) (O_ (c,0).fst xs)) (m:=Q_ ((K_ (row1 .u8) xs).length-(c,0).fst) (O_ (c,0).fst xs)) g_ rfl)) .nil)) oz6 hc0<|.d (show BlkW (Blk.var [AV.sl 1 (K_ (row1 .u8) xs),i64 (↑(c,0).fst:Int),i64 (getE (Q_ ((K_ (row1 .u8) xs).length-c) (O_ c xs)))]) (Blk.var [AV.sl 1 (K_ (row1 .u8) xs),i64 (↑c:Int),i64 (getE (O_ c xs))]) from (BlkW.var (m:=[AV.sl 1 (K_ (row1 .u8) xs),i64 (↑c:Int),i64 (getE (O_ c xs))]) (.cons (.refl _) (.cons (.refl _) (.cons (N_ (by (rw[qt]))) .nil))))))
 ·have gc0:getE (Q_ ((K_ (row1 .u8) xs).length-c) (O_ c xs))=0:=bdf hc0
  have oz6:=@refGet_v (Q_ ((K_ (row1 .u8) xs).length-c) (O_ c xs)) m1_ y0_
  exact mR_ [r_,r_,d_,.r [] [.nats (c,0).fst (K_ (row1 .u8) xs).length,ca oz6],r_,d_,.r [] [.n (if 0>m then 0 else m)],b_,r_,r_] [.blk 100000 (Blk.var [AV.sl 1 (K_ (row1 .u8) xs),i64 (↑c:Int),i64 (getE (O_ c xs))]),.sort] _ Tryz.func34 (.c8 (i0_ (((c,0).snd != 0)=false)) (h0_ ((↑(c,0).fst:Int)=(↑(c,0).fst:Int))) (h0_ ((K_ (row1 .u8) xs).length=(K_ (row1 .u8) xs).length)) (i0_ ((c,0).fst≤(K_ (row1 .u8) xs).length)) (s_ ((K_ (row1 .u8) xs).length≤(K_ (row1 .u8) xs).length)) (show WeakL [AV.sl 1 (Q_ ((K_ (row1 .u8) xs).length-(c,0).fst) (O_ (c,0).fst (K_ (row1 .u8) xs)))] [AV.sl 1 (K_ (row1 .u8) (Q_ ((K_ (row1 .u8) xs).length-c) (O_ c xs)))] from (.cons (AH_ (rows_to (row1 .u8) (r:=Q_ ((K_ (row1 .u8) xs).length-(c,0).fst) (O_ (c,0).fst (K_ (row1 .u8) xs))) (l:=Q_ ((K_ (row1 .u8) xs).length-(c,0).fst) (O_ (c,0).fst xs)) (m:=Q_ ((K_ (row1 .u8) xs).length-(c,0).fst) (O_ (c,0).fst xs)) g_ rfl)) .nil)) oz6 hc0<|.d3 (DQ_ (if 0>m then 0 else m) a_) (i0_ (decide (getV (Q_ ((K_ (row1 .u8) xs).length-c) (O_ c xs))>if 0>m then 0 else m)=true)) (show BlkW (Blk.var [AV.sl 1 (K_ (row1 .u8) xs),i64 (↑(c,0).fst:Int),i64 3]) (Blk.var [AV.sl 1 (K_ (row1 .u8) xs),i64 (↑c:Int),i64 (getE (O_ c xs))]) from (BlkW.var (m:=[AV.sl 1 (K_ (row1 .u8) xs),i64 (↑c:Int),i64 (getE (O_ c xs))]) (.cons (.refl _) (.cons (.refl _) (.cons (N_ p0_) .nil))))))
theorem rcount_m (xs:List Int) (c:Nat) (m:Int) (hb:∀ x∈xs,0≤x∧x≤255) (hl:xs.length≤1000000) (ha:c≤xs.length) (h:getE (xs.drop c)=0) (h2:m<getV (xs.drop c)) (h0:0≤m) (h1:m≤2147483647):hRm_ 34 xs (c,0) m 0 (c,3):=by
 have qt:Q_ ((K_ (row1 .u8) xs).length-c) (O_ c xs)=xs.drop c:=BJ_ (by simp[AS_])
 have qu:Q_ ((K_ (row1 .u8) xs).length-((c:Nat):Int).toNat) (O_ ((c:Nat):Int).toNat xs)=xs.drop c:=b3_
 have qb:∀ x∈xs.drop c,0≤x∧x≤255:=mem_drop' hb
 obtain ⟨q1,q2,q3⟩:=get_rng qb
 have q5:(xs.drop c).length=xs.length-c:=AS_
 rcases bft (getE (Q_ ((K_ (row1 .u8) xs).length-c) (O_ c xs)) != 0) with hc0|hc0
 ·have gc0:¬getE (Q_ ((K_ (row1 .u8) xs).length-c) (O_ c xs))=0:=bdt hc0
  have oz6:=@refGet_v (Q_ ((K_ (row1 .u8) xs).length-c) (O_ c xs)) m1_ y0_
  exact mR_ [r_,r_,d_,.r [] [.nats (c,0).fst (K_ (row1 .u8) xs).length,ca oz6],r_,b_,r_,r_] [.blk 100000 (Blk.var [AV.sl 1 (K_ (row1 .u8) xs),i64 (↑c:Int),i64 3]),.sort] _ Tryz.func34 (.c8 (i0_ (((c,0).snd != 0)=false)) (h0_ ((↑(c,0).fst:Int)=(↑(c,0).fst:Int))) (h0_ ((K_ (row1 .u8) xs).length=(K_ (row1 .u8) xs).length)) (i0_ ((c,0).fst≤(K_ (row1 .u8) xs).length)) (s_ ((K_ (row1 .u8) xs).length≤(K_ (row1 .u8) xs).length)) (show WeakL [AV.sl 1 (Q_ ((K_ (row1 .u8) xs).length-(c,0).fst) (O_ (c,0).fst (K_ (row1 .u8) xs)))] [AV.sl 1 (K_ (row1 .u8) (Q_ ((K_ (row1 .u8) xs).length-c) (O_ c xs)))] from (.cons (AH_ (rows_to (row1 .u8) (r:=Q_ ((K_ (row1 .u8) xs).length-(c,0).fst) (O_ (c,0).fst (K_ (row1 .u8) xs))) (l:=Q_ ((K_ (row1 .u8) xs).length-(c,0).fst) (O_ (c,0).fst xs)) (m:=Q_ ((K_ (row1 .u8) xs).length-(c,0).fst) (O_ (c,0).fst xs)) g_ rfl)) .nil)) oz6 hc0<|.d (show BlkW (Blk.var [AV.sl 1 (K_ (row1 .u8) xs),i64 (↑(c,0).fst:Int),i64 (getE (Q_ ((K_ (row1 .u8) xs).length-c) (O_ c xs)))]) (Blk.var [AV.sl 1 (K_ (row1 .u8) xs),i64 (↑c:Int),i64 3]) from (BlkW.var (m:=[AV.sl 1 (K_ (row1 .u8) xs),i64 (↑c:Int),i64 3]) (.cons (.refl _) (.cons (.refl _) (.cons (N_ p0_) .nil))))))
 ·have gc0:getE (Q_ ((K_ (row1 .u8) xs).length-c) (O_ c xs))=0:=bdf hc0
  rcases bft (decide (getV (Q_ ((K_ (row1 .u8) xs).length-c) (O_ c xs))>if 0>m then 0 else m)) with hc1|hc1
  ·have gc1:=of_decide_eq_true hc1
   have oz6:=@refGet_v (Q_ ((K_ (row1 .u8) xs).length-c) (O_ c xs)) m1_ y0_
   exact mR_ [r_,r_,d_,.r [] [.nats (c,0).fst (K_ (row1 .u8) xs).length,ca oz6],r_,d_,.r [] [.n (if 0>m then 0 else m)],b_,r_,r_] [.sort] _ Tryz.func34 (.c8 (s0_ (((c,0).snd != 0)=false)) (h0_ ((↑(c,0).fst:Int)=(↑(c,0).fst:Int))) (h0_ ((K_ (row1 .u8) xs).length=(K_ (row1 .u8) xs).length)) (h_ ((c,0).fst≤(K_ (row1 .u8) xs).length)) (s_ ((K_ (row1 .u8) xs).length≤(K_ (row1 .u8) xs).length)) (show WeakL [AV.sl 1 (Q_ ((K_ (row1 .u8) xs).length-(c,0).fst) (O_ (c,0).fst (K_ (row1 .u8) xs)))] [AV.sl 1 (K_ (row1 .u8) (Q_ ((K_ (row1 .u8) xs).length-c) (O_ c xs)))] from (.cons (AH_ (rows_to (row1 .u8) (r:=Q_ ((K_ (row1 .u8) xs).length-(c,0).fst) (O_ (c,0).fst (K_ (row1 .u8) xs))) (l:=Q_ ((K_ (row1 .u8) xs).length-(c,0).fst) (O_ (c,0).fst xs)) (m:=Q_ ((K_ (row1 .u8) xs).length-(c,0).fst) (O_ (c,0).fst xs)) g_ rfl)) .nil)) oz6 hc0<|.d2 (DQ_ (if 0>m then 0 else m) a_) hc1)
  ·have gc1:=of_decide_eq_false hc1
   have oz6:=@refGet_v (Q_ ((K_ (row1 .u8) xs).length-c) (O_ c xs)) m1_ y0_
   have oz10:=(i0_ (IntKind.i64.wrap ((↑(c,0).fst:Int)+getN (Q_ ((K_ (row1 .u8) xs).length-c) (O_ c xs)))=(↑(c,0).fst:Int)+getN (Q_ ((K_ (row1 .u8) xs).length-c) (O_ c xs))))
   have oz11:=(i0_ (IntKind.i64.wrap (getV (Q_ ((K_ (row1 .u8) xs).length-c) (O_ c xs)))=getV (Q_ ((K_ (row1 .u8) xs).length-c) (O_ c xs))))
   have oz12:=(N_ (k:=.i64) (show ((getV (Q_ ((K_ (row1 .u8) xs).length-c) (O_ c xs))):Int)=(0) from p0_))
   exact mR_ [r_,r_,d_,.r [] [.nats (c,0).fst (K_ (row1 .u8) xs).length,ca oz6],r_,d_,.r [] [.n (if 0>m then 0 else m)],d_,.r [] [.n (nO oz10)],.r [] [.n (nO oz11)]] [.weak 0 (wO oz12),.blk 100000 (Blk.var [AV.sl 1 (K_ (row1 .u8) xs),i64 (↑c:Int),i64 3]),.sort] _ Tryz.func34 (.c8 (i0_ (((c,0).snd != 0)=false)) (h0_ ((↑(c,0).fst:Int)=(↑(c,0).fst:Int))) (h0_ ((K_ (row1 .u8) xs).length=(K_ (row1 .u8) xs).length)) (i0_ ((c,0).fst≤(K_ (row1 .u8) xs).length)) (s_ ((K_ (row1 .u8) xs).length≤(K_ (row1 .u8) xs).length)) (show WeakL [AV.sl 1 (Q_ ((K_ (row1 .u8) xs).length-(c,0).fst) (O_ (c,0).fst (K_ (row1 .u8) xs)))] [AV.sl 1 (K_ (row1 .u8) (Q_ ((K_ (row1 .u8) xs).length-c) (O_ c xs)))] from (.cons (AH_ (rows_to (row1 .u8) (r:=Q_ ((K_ (row1 .u8) xs).length-(c,0).fst) (O_ (c,0).fst (K_ (row1 .u8) xs))) (l:=Q_ ((K_ (row1 .u8) xs).length-(c,0).fst) (O_ (c,0).fst xs)) (m:=Q_ ((K_ (row1 .u8) xs).length-(c,0).fst) (O_ (c,0).fst xs)) g_ rfl)) .nil)) oz6 hc0<|.d6 (DQ_ (if 0>m then 0 else m) a_) hc1 oz10 oz11 oz12 (show BlkW (Blk.var [AV.sl 1 (K_ (row1 .u8) xs),i64 ((↑(c,0).fst:Int)+getN (Q_ ((K_ (row1 .u8) xs).length-c) (O_ c xs))),i64 (c,0).snd]) (Blk.var [AV.sl 1 (K_ (row1 .u8) xs),i64 (↑c:Int),i64 3]) from (BlkW.var (m:=[AV.sl 1 (K_ (row1 .u8) xs),i64 (↑c:Int),i64 3]) (.cons (.refl _) (.cons (N_ p0_) (.cons (N_ p0_) .nil))))))
theorem rcount_y (xs:List Int) (c:Nat) (m:Int) (hb:∀ x∈xs,0≤x∧x≤255) (hl:xs.length≤1000000) (ha:c≤xs.length) (h:getE (xs.drop c)=0) (h2:getV (xs.drop c)≤m) (h0:0≤m) (h1:m≤2147483647):hRm_ 34 xs (c,0) m (getV (xs.drop c)) (c+(getN (xs.drop c)).toNat,0):=by
 have qt:Q_ ((K_ (row1 .u8) xs).length-c) (O_ c xs)=xs.drop c:=BJ_ (by simp[AS_])
 have qu:Q_ ((K_ (row1 .u8) xs).length-((c:Nat):Int).toNat) (O_ ((c:Nat):Int).toNat xs)=xs.drop c:=b3_
 have qb:∀ x∈xs.drop c,0≤x∧x≤255:=mem_drop' hb
 obtain ⟨q1,q2,q3⟩:=get_rng qb
 have q5:(xs.drop c).length=xs.length-c:=AS_
 rcases bft (getE (Q_ ((K_ (row1 .u8) xs).length-c) (O_ c xs)) != 0) with hc0|hc0
 ·have gc0:¬getE (Q_ ((K_ (row1 .u8) xs).length-c) (O_ c xs))=0:=bdt hc0
  have oz6:=@refGet_v (Q_ ((K_ (row1 .u8) xs).length-c) (O_ c xs)) m1_ y0_
  exact mR_ [r_,r_,d_,.r [] [.nats (c,0).fst (K_ (row1 .u8) xs).length,ca oz6],r_,b_,r_,r_] [.weak 0 (i64 (getV (O_ c xs))),.blk 100000 (Blk.var [AV.sl 1 (K_ (row1 .u8) xs),i64 (↑(c+(getN (O_ c xs)).toNat):Int),i64 0]),.sort] _ Tryz.func34 (.c8 (i0_ (((c,0).snd != 0)=false)) (h0_ ((↑(c,0).fst:Int)=(↑(c,0).fst:Int))) (h0_ ((K_ (row1 .u8) xs).length=(K_ (row1 .u8) xs).length)) (i0_ ((c,0).fst≤(K_ (row1 .u8) xs).length)) (s_ ((K_ (row1 .u8) xs).length≤(K_ (row1 .u8) xs).length)) (show WeakL [AV.sl 1 (Q_ ((K_ (row1 .u8) xs).length-(c,0).fst) (O_ (c,0).fst (K_ (row1 .u8) xs)))] [AV.sl 1 (K_ (row1 .u8) (Q_ ((K_ (row1 .u8) xs).length-c) (O_ c xs)))] from (.cons (AH_ (rows_to (row1 .u8) (r:=Q_ ((K_ (row1 .u8) xs).length-(c,0).fst) (O_ (c,0).fst (K_ (row1 .u8) xs))) (l:=Q_ ((K_ (row1 .u8) xs).length-(c,0).fst) (O_ (c,0).fst xs)) (m:=Q_ ((K_ (row1 .u8) xs).length-(c,0).fst) (O_ (c,0).fst xs)) g_ rfl)) .nil)) oz6 hc0<|.d2 (N_ (k:=.i64) (show ((0):Int)=(getV (O_ c xs)) from p0_)) (show BlkW (Blk.var [AV.sl 1 (K_ (row1 .u8) xs),i64 (↑(c,0).fst:Int),i64 (getE (Q_ ((K_ (row1 .u8) xs).length-c) (O_ c xs)))]) (Blk.var [AV.sl 1 (K_ (row1 .u8) xs),i64 (↑(c+(getN (O_ c xs)).toNat):Int),i64 0]) from (BlkW.var (m:=[AV.sl 1 (K_ (row1 .u8) xs),i64 (↑(c+(getN (O_ c xs)).toNat):Int),i64 0]) (.cons (.refl _) (.cons (N_ p0_) (.cons (N_ y0_) .nil))))))
 ·have gc0:getE (Q_ ((K_ (row1 .u8) xs).length-c) (O_ c xs))=0:=bdf hc0
  rcases bft (decide (getV (Q_ ((K_ (row1 .u8) xs).length-c) (O_ c xs))>if 0>m then 0 else m)) with hc1|hc1
  ·have gc1:=of_decide_eq_true hc1
   have oz6:=@refGet_v (Q_ ((K_ (row1 .u8) xs).length-c) (O_ c xs)) m1_ y0_
   exact mR_ [r_,r_,d_,.r [] [.nats (c,0).fst (K_ (row1 .u8) xs).length,ca oz6],r_,d_,.r [] [.n (if 0>m then 0 else m)],b_,r_,r_] [.weak 0 (i64 (getV (O_ c xs))),.blk 100000 (Blk.var [AV.sl 1 (K_ (row1 .u8) xs),i64 (↑(c+(getN (O_ c xs)).toNat):Int),i64 0]),.sort] _ Tryz.func34 (.c8 (i0_ (((c,0).snd != 0)=false)) (h0_ ((↑(c,0).fst:Int)=(↑(c,0).fst:Int))) (h0_ ((K_ (row1 .u8) xs).length=(K_ (row1 .u8) xs).length)) (i0_ ((c,0).fst≤(K_ (row1 .u8) xs).length)) (s_ ((K_ (row1 .u8) xs).length≤(K_ (row1 .u8) xs).length)) (show WeakL [AV.sl 1 (Q_ ((K_ (row1 .u8) xs).length-(c,0).fst) (O_ (c,0).fst (K_ (row1 .u8) xs)))] [AV.sl 1 (K_ (row1 .u8) (Q_ ((K_ (row1 .u8) xs).length-c) (O_ c xs)))] from (.cons (AH_ (rows_to (row1 .u8) (r:=Q_ ((K_ (row1 .u8) xs).length-(c,0).fst) (O_ (c,0).fst (K_ (row1 .u8) xs))) (l:=Q_ ((K_ (row1 .u8) xs).length-(c,0).fst) (O_ (c,0).fst xs)) (m:=Q_ ((K_ (row1 .u8) xs).length-(c,0).fst) (O_ (c,0).fst xs)) g_ rfl)) .nil)) oz6 hc0<|.d4 (DQ_ (if 0>m then 0 else m) a_) hc1 (N_ (k:=.i64) (show ((0):Int)=(getV (O_ c xs)) from p0_)) (show BlkW (Blk.var [AV.sl 1 (K_ (row1 .u8) xs),i64 (↑(c,0).fst:Int),i64 3]) (Blk.var [AV.sl 1 (K_ (row1 .u8) xs),i64 (↑(c+(getN (O_ c xs)).toNat):Int),i64 0]) from (BlkW.var (m:=[AV.sl 1 (K_ (row1 .u8) xs),i64 (↑(c+(getN (O_ c xs)).toNat):Int),i64 0]) (.cons (.refl _) (.cons (N_ p0_) (.cons (N_ p0_) .nil))))))
  ·have gc1:=of_decide_eq_false hc1
   have oz6:=@refGet_v (Q_ ((K_ (row1 .u8) xs).length-c) (O_ c xs)) m1_ y0_
   have oz10:=(N_ (k:=.i64) (show ((IntKind.i64.wrap (getV (Q_ ((K_ (row1 .u8) xs).length-c) (O_ c xs)))):Int)=(getV (O_ c xs)) from (by (rw[qt];exact i6n _ a_))))
   exact mR_ [r_,r_,d_,.r [] [.nats (c,0).fst (K_ (row1 .u8) xs).length,ca oz6],r_,d_,.r [] [.n (if 0>m then 0 else m)],d_,.r [] [.w],.r [] [.w]] [.weak 0 (wO oz10),.blk 100000 (Blk.var [AV.sl 1 (K_ (row1 .u8) xs),i64 (↑(c+(getN (O_ c xs)).toNat):Int),i64 0]),.sort] _ Tryz.func34 (.c8 (s0_ (((c,0).snd != 0)=false)) (h0_ ((↑(c,0).fst:Int)=(↑(c,0).fst:Int))) (h0_ ((K_ (row1 .u8) xs).length=(K_ (row1 .u8) xs).length)) (h_ ((c,0).fst≤(K_ (row1 .u8) xs).length)) (s_ ((K_ (row1 .u8) xs).length≤(K_ (row1 .u8) xs).length)) (show WeakL [AV.sl 1 (Q_ ((K_ (row1 .u8) xs).length-(c,0).fst) (O_ (c,0).fst (K_ (row1 .u8) xs)))] [AV.sl 1 (K_ (row1 .u8) (Q_ ((K_ (row1 .u8) xs).length-c) (O_ c xs)))] from (.cons (AH_ (rows_to (row1 .u8) (r:=Q_ ((K_ (row1 .u8) xs).length-(c,0).fst) (O_ (c,0).fst (K_ (row1 .u8) xs))) (l:=Q_ ((K_ (row1 .u8) xs).length-(c,0).fst) (O_ (c,0).fst xs)) (m:=Q_ ((K_ (row1 .u8) xs).length-(c,0).fst) (O_ (c,0).fst xs)) g_ rfl)) .nil)) oz6 hc0<|.d4 (DQ_ (if 0>m then 0 else m) a_) hc1 oz10 (show BlkW (Blk.var [AV.sl 1 (K_ (row1 .u8) xs),i64 (IntKind.i64.wrap ((↑(c,0).fst:Int)+getN (Q_ ((K_ (row1 .u8) xs).length-c) (O_ c xs)))),i64 (c,0).snd]) (Blk.var [AV.sl 1 (K_ (row1 .u8) xs),i64 (↑(c+(getN (O_ c xs)).toNat):Int),i64 0]) from (BlkW.var (m:=[AV.sl 1 (K_ (row1 .u8) xs),i64 (↑(c+(getN (O_ c xs)).toNat):Int),i64 0]) (.cons (.refl _) (.cons (N_ (by (rw[qt];exact (i6n _ (by simp only[];omega)).trans (by simp only[];omega)))) (.cons (.refl _) .nil))))))
structure Rrf.In (xs:List Int) (r:Rrf):Prop where
 b:∀ x∈xs,0≤x∧x≤255
 l:xs.length≤1000000
 a:r.1≤xs.length
theorem toS_in {xs:List Int} {r:Rrf} (h:Rrf.In xs r):(toS xs r).In:=by
 unfold toS
 split
 ·exact ⟨mem_drop' h.b,by have:=h.l;simp only[AS_];omega⟩
 ·exact ⟨by simp,by simp⟩
theorem next_le {xs:List Int} {c:Nat} (hb:∀ x∈xs,0≤x∧x≤255) (ha:c≤xs.length) (h:getE (xs.drop c)=0):c+(getN (xs.drop c)).toNat≤xs.length:=by
 have:=(get_rng (mem_drop' (n:=c) hb)).2.2 h
 rw[AS_] at this;omega
theorem cntR_in {xs:List Int} {r:Rrf} (h:Rrf.In xs r) (m:Int):Rrf.In xs (cntR xs r m):=by
 obtain ⟨hb,hl,ha⟩:=h
 refine ⟨hb,hl,?_⟩
 unfold cntR
 split
 ·exact ha
 ·split
  ·exact ha
  ·split
   ·exact ha
   ·exact next_le hb ha (Classical.not_not.1 ‹_›)
theorem toS_cnt (xs:List Int) (r:Rrf) (m:Int):toS xs (cntR xs r m)=cntS (toS xs r) m:=by
 obtain ⟨c,e⟩:=r
 by_cases he:e=0
 ·subst he
  by_cases hg:getE (xs.drop c)=0
  ·by_cases hm:max m 0<getV (xs.drop c)
   ·simp[toS,cntR,cntS,hg,hm]
   ·simp[toS,cntR,cntS,hg,hm,List.drop_drop]
  ·simp[toS,cntR,cntS,hg]
 ·simp[toS,cntR,cntS,he]
theorem rcnt_v (xs:List Int) (r:Rrf) (m:Int) (h:Rrf.In xs r) (h0:0≤m) (h1:m≤2147483647):hRm_ 34 xs r m (cntV (toS xs r) m) (cntR xs r m):=by
 obtain ⟨c,e⟩:=r
 obtain ⟨hb,hl,ha⟩:=h
 by_cases he:e=0
 ·subst he
  by_cases hg:getE (xs.drop c)=0
  ·by_cases hm:m<getV (xs.drop c)
   ·rw[show cntR xs (c,0) m=(c,3) from by simp[cntR,hg,show max m 0<getV (xs.drop c) by omega],show cntV (toS xs (c,0)) m=0 from by simp[toS,cntV,hg,show max m 0<getV (xs.drop c) by omega]]
    exact rcount_m xs c m hb hl ha hg hm h0 h1
   ·rw[show cntR xs (c,0) m=(c+(getN (xs.drop c)).toNat,0) from by simp[cntR,hg,show ¬ max m 0<getV (xs.drop c) by omega],show cntV (toS xs (c,0)) m=getV (xs.drop c) from by simp[toS,cntV,hg,show ¬ max m 0<getV (xs.drop c) by omega]]
    exact rcount_y xs c m hb hl ha hg a_ h0 h1
  ·rw[show cntR xs (c,0) m=(c,getE (xs.drop c)) from by simp[cntR,hg],show cntV (toS xs (c,0)) m=0 from by simp[toS,cntV,hg]]
   exact rcount_g xs c m hb hl ha hg h0 h1
 ·rw[show cntR xs (c,e) m=(c,e) from by simp[cntR,he],show cntV (toS xs (c,e)) m=0 from by simp[toS,cntV,he]]
  exact rcount_e xs (c,e) m he
theorem intR_in {xs:List Int} {r:Rrf} (h:Rrf.In xs r) (lo hi:Int):Rrf.In xs (intR xs r lo hi):=by
 obtain ⟨hb,hl,ha⟩:=h
 refine ⟨hb,hl,?_⟩
 unfold intR
 split
 ·exact ha
 ·split
  ·exact ha
  ·split
   ·exact ha
   ·exact next_le hb ha (Classical.not_not.1 ‹_›)
theorem toS_int (xs:List Int) (r:Rrf) (lo hi:Int):toS xs (intR xs r lo hi)=intS (toS xs r) lo hi:=by
 obtain ⟨c,e⟩:=r
 by_cases he:e=0
 ·subst he
  by_cases hg:getE (xs.drop c)=0
  ·by_cases hm:unfoldN (getV (xs.drop c))<lo∨hi<unfoldN (getV (xs.drop c))
   ·simp only[toS,intR,intS];simp[hg,hm]
   ·simp only[toS,intR,intS];simp[hg,hm,List.drop_drop]
  ·simp[toS,intR,intS,hg]
 ·simp[toS,intR,intS,he]
theorem rint_e (xs:List Int) (r:Rrf) (lo hi:Int) (h:r.2≠0):VM M_ 136 ([.ptr 100000 0 0,i64 lo,i64 hi]) ([(100000,.var (rrC xs r))]) (i64 0) ([(100000,.var (rrC xs r))]):=by
 exact mR_ [r_,r_,b_,r_] [.sort] _ Tryz.func136 (.d (h_ ((r.snd != 0)=true)))
theorem rint_g (xs:List Int) (c:Nat) (lo hi:Int) (hb:∀ x∈xs,0≤x∧x≤255) (hl:xs.length≤1000000) (ha:c≤xs.length) (h:getE (xs.drop c)≠0):VM M_ 136 ([.ptr 100000 0 0,i64 lo,i64 hi]) ([(100000,.var (rrC xs (c,0)))]) (i64 0) ([(100000,.var (rrC xs (c,getE (xs.drop c))))]):=by
 have qt:Q_ ((K_ (row1 .u8) xs).length-c) (O_ c xs)=xs.drop c:=BJ_ (by simp[AS_])
 have qu:Q_ ((K_ (row1 .u8) xs).length-((c:Nat):Int).toNat) (O_ ((c:Nat):Int).toNat xs)=xs.drop c:=b3_
 have qb:∀ x∈xs.drop c,0≤x∧x≤255:=mem_drop' hb
 obtain ⟨q1,q2,q3⟩:=get_rng qb
 have q5:(xs.drop c).length=xs.length-c:=AS_
 rcases bft (getE (Q_ ((K_ (row1 .u8) xs).length-c) (O_ c xs)) != 0) with hc0|hc0
 ·have gc0:¬getE (Q_ ((K_ (row1 .u8) xs).length-c) (O_ c xs))=0:=bdt hc0
  have oz6:=@refGet_v (Q_ ((K_ (row1 .u8) xs).length-c) (O_ c xs)) m1_ y0_
  exact mR_ [r_,r_,d_,.r [] [.nats (c,0).fst (K_ (row1 .u8) xs).length,ca oz6],r_,b_,r_,r_] [.blk 100000 (Blk.var [AV.sl 1 (K_ (row1 .u8) xs),i64 (↑c:Int),i64 (getE (O_ c xs))]),.sort] _ Tryz.func136 (.c8 (s0_ (((c,0).snd != 0)=false)) (h0_ ((↑(c,0).fst:Int)=(↑(c,0).fst:Int))) (h0_ ((K_ (row1 .u8) xs).length=(K_ (row1 .u8) xs).length)) (h_ ((c,0).fst≤(K_ (row1 .u8) xs).length)) (s_ ((K_ (row1 .u8) xs).length≤(K_ (row1 .u8) xs).length)) (show WeakL [AV.sl 1 (Q_ ((K_ (row1 .u8) xs).length-(c,0).fst) (O_ (c,0).fst (K_ (row1 .u8) xs)))] [AV.sl 1 (K_ (row1 .u8) (Q_ ((K_ (row1 .u8) xs).length-c) (O_ c xs)))] from (.cons (AH_ (rows_to (row1 .u8) (r:=Q_ ((K_ (row1 .u8) xs).length-(c,0).fst) (O_ (c,0).fst (K_ (row1 .u8) xs))) (l:=Q_ ((K_ (row1 .u8) xs).length-(c,0).fst) (O_ (c,0).fst xs)) (m:=Q_ ((K_ (row1 .u8) xs).length-(c,0).fst) (O_ (c,0).fst xs)) g_ rfl)) .nil)) oz6 hc0<|.d (show BlkW (Blk.var [AV.sl 1 (K_ (row1 .u8) xs),i64 (↑(c,0).fst:Int),i64 (getE (Q_ ((K_ (row1 .u8) xs).length-c) (O_ c xs)))]) (Blk.var [AV.sl 1 (K_ (row1 .u8) xs),i64 (↑c:Int),i64 (getE (O_ c xs))]) from (BlkW.var (m:=[AV.sl 1 (K_ (row1 .u8) xs),i64 (↑c:Int),i64 (getE (O_ c xs))]) (.cons (.refl _) (.cons (.refl _) (.cons (N_ (by (rw[qt]))) .nil))))))
 ·have gc0:getE (Q_ ((K_ (row1 .u8) xs).length-c) (O_ c xs))=0:=bdf hc0
  have oz6:=@refGet_v (Q_ ((K_ (row1 .u8) xs).length-c) (O_ c xs)) m1_ y0_
  have oz8:=@unfold_v (getV (Q_ ((K_ (row1 .u8) xs).length-c) (O_ c xs))) y0_ y0_
  exact mR_ [r_,r_,d_,.r [] [.nats (c,0).fst (K_ (row1 .u8) xs).length,ca oz6],r_,d_,.r [] [cr oz8],.r [] [o_,o_,o_,.sel 1],b_,r_,r_] [.blk 100000 (Blk.var [AV.sl 1 (K_ (row1 .u8) xs),i64 (↑c:Int),i64 (getE (O_ c xs))]),.sort] _ Tryz.func136 (.c8 (i0_ (((c,0).snd != 0)=false)) (h0_ ((↑(c,0).fst:Int)=(↑(c,0).fst:Int))) (h0_ ((K_ (row1 .u8) xs).length=(K_ (row1 .u8) xs).length)) (i0_ ((c,0).fst≤(K_ (row1 .u8) xs).length)) (s_ ((K_ (row1 .u8) xs).length≤(K_ (row1 .u8) xs).length)) (show WeakL [AV.sl 1 (Q_ ((K_ (row1 .u8) xs).length-(c,0).fst) (O_ (c,0).fst (K_ (row1 .u8) xs)))] [AV.sl 1 (K_ (row1 .u8) (Q_ ((K_ (row1 .u8) xs).length-c) (O_ c xs)))] from (.cons (AH_ (rows_to (row1 .u8) (r:=Q_ ((K_ (row1 .u8) xs).length-(c,0).fst) (O_ (c,0).fst (K_ (row1 .u8) xs))) (l:=Q_ ((K_ (row1 .u8) xs).length-(c,0).fst) (O_ (c,0).fst xs)) (m:=Q_ ((K_ (row1 .u8) xs).length-(c,0).fst) (O_ (c,0).fst xs)) g_ rfl)) .nil)) oz6 hc0<|.d3 oz8 (i0_ ((decide (unfoldN (getV (Q_ ((K_ (row1 .u8) xs).length-c) (O_ c xs)))<lo) || decide (unfoldN (getV (Q_ ((K_ (row1 .u8) xs).length-c) (O_ c xs)))>hi))=true)) (show BlkW (Blk.var [AV.sl 1 (K_ (row1 .u8) xs),i64 (↑(c,0).fst:Int),i64 3]) (Blk.var [AV.sl 1 (K_ (row1 .u8) xs),i64 (↑c:Int),i64 (getE (O_ c xs))]) from (BlkW.var (m:=[AV.sl 1 (K_ (row1 .u8) xs),i64 (↑c:Int),i64 (getE (O_ c xs))]) (.cons (.refl _) (.cons (.refl _) (.cons (N_ p0_) .nil))))))
theorem rint_m (xs:List Int) (c:Nat) (lo hi:Int) (hb:∀ x∈xs,0≤x∧x≤255) (hl:xs.length≤1000000) (ha:c≤xs.length) (h:getE (xs.drop c)=0) (h2:unfoldN (getV (xs.drop c))<lo∨hi<unfoldN (getV (xs.drop c))):VM M_ 136 ([.ptr 100000 0 0,i64 lo,i64 hi]) ([(100000,.var (rrC xs (c,0)))]) (i64 0) ([(100000,.var (rrC xs (c,3)))]):=by
 have qt:Q_ ((K_ (row1 .u8) xs).length-c) (O_ c xs)=xs.drop c:=BJ_ (by simp[AS_])
 have qu:Q_ ((K_ (row1 .u8) xs).length-((c:Nat):Int).toNat) (O_ ((c:Nat):Int).toNat xs)=xs.drop c:=b3_
 have qb:∀ x∈xs.drop c,0≤x∧x≤255:=mem_drop' hb
 obtain ⟨q1,q2,q3⟩:=get_rng qb
 have q5:(xs.drop c).length=xs.length-c:=AS_
 rcases bft (getE (Q_ ((K_ (row1 .u8) xs).length-c) (O_ c xs)) != 0) with hc0|hc0
 ·have gc0:¬getE (Q_ ((K_ (row1 .u8) xs).length-c) (O_ c xs))=0:=bdt hc0
  have oz6:=@refGet_v (Q_ ((K_ (row1 .u8) xs).length-c) (O_ c xs)) m1_ y0_
  exact mR_ [r_,r_,d_,.r [] [.nats (c,0).fst (K_ (row1 .u8) xs).length,ca oz6],r_,b_,r_,r_] [.blk 100000 (Blk.var [AV.sl 1 (K_ (row1 .u8) xs),i64 (↑c:Int),i64 3]),.sort] _ Tryz.func136 (.c8 (i0_ (((c,0).snd != 0)=false)) (h0_ ((↑(c,0).fst:Int)=(↑(c,0).fst:Int))) (h0_ ((K_ (row1 .u8) xs).length=(K_ (row1 .u8) xs).length)) (i0_ ((c,0).fst≤(K_ (row1 .u8) xs).length)) (s_ ((K_ (row1 .u8) xs).length≤(K_ (row1 .u8) xs).length)) (show WeakL [AV.sl 1 (Q_ ((K_ (row1 .u8) xs).length-(c,0).fst) (O_ (c,0).fst (K_ (row1 .u8) xs)))] [AV.sl 1 (K_ (row1 .u8) (Q_ ((K_ (row1 .u8) xs).length-c) (O_ c xs)))] from (.cons (AH_ (rows_to (row1 .u8) (r:=Q_ ((K_ (row1 .u8) xs).length-(c,0).fst) (O_ (c,0).fst (K_ (row1 .u8) xs))) (l:=Q_ ((K_ (row1 .u8) xs).length-(c,0).fst) (O_ (c,0).fst xs)) (m:=Q_ ((K_ (row1 .u8) xs).length-(c,0).fst) (O_ (c,0).fst xs)) g_ rfl)) .nil)) oz6 hc0<|.d (show BlkW (Blk.var [AV.sl 1 (K_ (row1 .u8) xs),i64 (↑(c,0).fst:Int),i64 (getE (Q_ ((K_ (row1 .u8) xs).length-c) (O_ c xs)))]) (Blk.var [AV.sl 1 (K_ (row1 .u8) xs),i64 (↑c:Int),i64 3]) from (BlkW.var (m:=[AV.sl 1 (K_ (row1 .u8) xs),i64 (↑c:Int),i64 3]) (.cons (.refl _) (.cons (.refl _) (.cons (N_ p0_) .nil))))))
 ·have gc0:getE (Q_ ((K_ (row1 .u8) xs).length-c) (O_ c xs))=0:=bdf hc0
  rcases bft (decide (unfoldN (getV (Q_ ((K_ (row1 .u8) xs).length-c) (O_ c xs)))<lo) || decide (unfoldN (getV (Q_ ((K_ (row1 .u8) xs).length-c) (O_ c xs)))>hi)) with hc1|hc1
  ·have gc1:unfoldN (getV (Q_ ((K_ (row1 .u8) xs).length-c) (O_ c xs)))<lo∨unfoldN (getV (Q_ ((K_ (row1 .u8) xs).length-c) (O_ c xs)))>hi:=gc0_ hc1
   have oz6:=@refGet_v (Q_ ((K_ (row1 .u8) xs).length-c) (O_ c xs)) m1_ y0_
   have oz8:=@unfold_v (getV (Q_ ((K_ (row1 .u8) xs).length-c) (O_ c xs))) y0_ y0_
   exact mR_ [r_,r_,d_,.r [] [.nats (c,0).fst (K_ (row1 .u8) xs).length,ca oz6],r_,d_,.r [] [cr oz8],.r [] [o_,o_,o_,.sel 1],b_,r_,r_] [.sort] _ Tryz.func136 (.c8 (s0_ (((c,0).snd != 0)=false)) (h0_ ((↑(c,0).fst:Int)=(↑(c,0).fst:Int))) (h0_ ((K_ (row1 .u8) xs).length=(K_ (row1 .u8) xs).length)) (h_ ((c,0).fst≤(K_ (row1 .u8) xs).length)) (s_ ((K_ (row1 .u8) xs).length≤(K_ (row1 .u8) xs).length)) (show WeakL [AV.sl 1 (Q_ ((K_ (row1 .u8) xs).length-(c,0).fst) (O_ (c,0).fst (K_ (row1 .u8) xs)))] [AV.sl 1 (K_ (row1 .u8) (Q_ ((K_ (row1 .u8) xs).length-c) (O_ c xs)))] from (.cons (AH_ (rows_to (row1 .u8) (r:=Q_ ((K_ (row1 .u8) xs).length-(c,0).fst) (O_ (c,0).fst (K_ (row1 .u8) xs))) (l:=Q_ ((K_ (row1 .u8) xs).length-(c,0).fst) (O_ (c,0).fst xs)) (m:=Q_ ((K_ (row1 .u8) xs).length-(c,0).fst) (O_ (c,0).fst xs)) g_ rfl)) .nil)) oz6 hc0<|.d2 oz8 hc1)
  ·have gc1:¬unfoldN (getV (Q_ ((K_ (row1 .u8) xs).length-c) (O_ c xs)))<lo∧¬unfoldN (getV (Q_ ((K_ (row1 .u8) xs).length-c) (O_ c xs)))>hi:=gc0_ hc1
   have oz6:=@refGet_v (Q_ ((K_ (row1 .u8) xs).length-c) (O_ c xs)) m1_ y0_
   have oz8:=@unfold_v (getV (Q_ ((K_ (row1 .u8) xs).length-c) (O_ c xs))) y0_ y0_
   have oz10:=(i0_ (IntKind.i64.wrap ((↑(c,0).fst:Int)+getN (Q_ ((K_ (row1 .u8) xs).length-c) (O_ c xs)))=(↑(c,0).fst:Int)+getN (Q_ ((K_ (row1 .u8) xs).length-c) (O_ c xs))))
   have oz11:=(N_ (k:=.i64) (show ((unfoldN (getV (Q_ ((K_ (row1 .u8) xs).length-c) (O_ c xs)))):Int)=(0) from p0_))
   exact mR_ [r_,r_,d_,.r [] [.nats (c,0).fst (K_ (row1 .u8) xs).length,ca oz6],r_,d_,.r [] [cr oz8],.r [] [o_,o_,o_,.sel 1],d_,.r [] [.n (nO oz10)],r_] [.weak 0 (wO oz11),.blk 100000 (Blk.var [AV.sl 1 (K_ (row1 .u8) xs),i64 (↑c:Int),i64 3]),.sort] _ Tryz.func136 (.c8 (i0_ (((c,0).snd != 0)=false)) (h0_ ((↑(c,0).fst:Int)=(↑(c,0).fst:Int))) (h0_ ((K_ (row1 .u8) xs).length=(K_ (row1 .u8) xs).length)) (i0_ ((c,0).fst≤(K_ (row1 .u8) xs).length)) (s_ ((K_ (row1 .u8) xs).length≤(K_ (row1 .u8) xs).length)) (show WeakL [AV.sl 1 (Q_ ((K_ (row1 .u8) xs).length-(c,0).fst) (O_ (c,0).fst (K_ (row1 .u8) xs)))] [AV.sl 1 (K_ (row1 .u8) (Q_ ((K_ (row1 .u8) xs).length-c) (O_ c xs)))] from (.cons (AH_ (rows_to (row1 .u8) (r:=Q_ ((K_ (row1 .u8) xs).length-(c,0).fst) (O_ (c,0).fst (K_ (row1 .u8) xs))) (l:=Q_ ((K_ (row1 .u8) xs).length-(c,0).fst) (O_ (c,0).fst xs)) (m:=Q_ ((K_ (row1 .u8) xs).length-(c,0).fst) (O_ (c,0).fst xs)) g_ rfl)) .nil)) oz6 hc0<|.d5 oz8 hc1 oz10 oz11 (show BlkW (Blk.var [AV.sl 1 (K_ (row1 .u8) xs),i64 ((↑(c,0).fst:Int)+getN (Q_ ((K_ (row1 .u8) xs).length-c) (O_ c xs))),i64 (c,0).snd]) (Blk.var [AV.sl 1 (K_ (row1 .u8) xs),i64 (↑c:Int),i64 3]) from (BlkW.var (m:=[AV.sl 1 (K_ (row1 .u8) xs),i64 (↑c:Int),i64 3]) (.cons (.refl _) (.cons (N_ p0_) (.cons (N_ p0_) .nil))))))
theorem rint_y (xs:List Int) (c:Nat) (lo hi:Int) (hb:∀ x∈xs,0≤x∧x≤255) (hl:xs.length≤1000000) (ha:c≤xs.length) (h:getE (xs.drop c)=0) (h2:¬ unfoldN (getV (xs.drop c))<lo) (h3:¬ hi<unfoldN (getV (xs.drop c))):VM M_ 136 ([.ptr 100000 0 0,i64 lo,i64 hi]) ([(100000,.var (rrC xs (c,0)))]) (i64 (unfoldN (getV (xs.drop c)))) ([(100000,.var (rrC xs (c+(getN (xs.drop c)).toNat,0)))]):=by
 have qt:Q_ ((K_ (row1 .u8) xs).length-c) (O_ c xs)=xs.drop c:=BJ_ (by simp[AS_])
 have qu:Q_ ((K_ (row1 .u8) xs).length-((c:Nat):Int).toNat) (O_ ((c:Nat):Int).toNat xs)=xs.drop c:=b3_
 have qb:∀ x∈xs.drop c,0≤x∧x≤255:=mem_drop' hb
 obtain ⟨q1,q2,q3⟩:=get_rng qb
 have q5:(xs.drop c).length=xs.length-c:=AS_
 rcases bft (getE (Q_ ((K_ (row1 .u8) xs).length-c) (O_ c xs)) != 0) with hc0|hc0
 ·have gc0:¬getE (Q_ ((K_ (row1 .u8) xs).length-c) (O_ c xs))=0:=bdt hc0
  have oz6:=@refGet_v (Q_ ((K_ (row1 .u8) xs).length-c) (O_ c xs)) m1_ y0_
  exact mR_ [r_,r_,d_,.r [] [.nats (c,0).fst (K_ (row1 .u8) xs).length,ca oz6],r_,b_,r_,r_] [.weak 0 (i64 (unfoldN (getV (O_ c xs)))),.blk 100000 (Blk.var [AV.sl 1 (K_ (row1 .u8) xs),i64 (↑(c+(getN (O_ c xs)).toNat):Int),i64 0]),.sort] _ Tryz.func136 (.c8 (i0_ (((c,0).snd != 0)=false)) (h0_ ((↑(c,0).fst:Int)=(↑(c,0).fst:Int))) (h0_ ((K_ (row1 .u8) xs).length=(K_ (row1 .u8) xs).length)) (i0_ ((c,0).fst≤(K_ (row1 .u8) xs).length)) (s_ ((K_ (row1 .u8) xs).length≤(K_ (row1 .u8) xs).length)) (show WeakL [AV.sl 1 (Q_ ((K_ (row1 .u8) xs).length-(c,0).fst) (O_ (c,0).fst (K_ (row1 .u8) xs)))] [AV.sl 1 (K_ (row1 .u8) (Q_ ((K_ (row1 .u8) xs).length-c) (O_ c xs)))] from (.cons (AH_ (rows_to (row1 .u8) (r:=Q_ ((K_ (row1 .u8) xs).length-(c,0).fst) (O_ (c,0).fst (K_ (row1 .u8) xs))) (l:=Q_ ((K_ (row1 .u8) xs).length-(c,0).fst) (O_ (c,0).fst xs)) (m:=Q_ ((K_ (row1 .u8) xs).length-(c,0).fst) (O_ (c,0).fst xs)) g_ rfl)) .nil)) oz6 hc0<|.d2 (N_ (k:=.i64) (show ((0):Int)=(unfoldN (getV (O_ c xs))) from p0_)) (show BlkW (Blk.var [AV.sl 1 (K_ (row1 .u8) xs),i64 (↑(c,0).fst:Int),i64 (getE (Q_ ((K_ (row1 .u8) xs).length-c) (O_ c xs)))]) (Blk.var [AV.sl 1 (K_ (row1 .u8) xs),i64 (↑(c+(getN (O_ c xs)).toNat):Int),i64 0]) from (BlkW.var (m:=[AV.sl 1 (K_ (row1 .u8) xs),i64 (↑(c+(getN (O_ c xs)).toNat):Int),i64 0]) (.cons (.refl _) (.cons (N_ p0_) (.cons (N_ y0_) .nil))))))
 ·have gc0:getE (Q_ ((K_ (row1 .u8) xs).length-c) (O_ c xs))=0:=bdf hc0
  rcases bft (decide (unfoldN (getV (Q_ ((K_ (row1 .u8) xs).length-c) (O_ c xs)))<lo) || decide (unfoldN (getV (Q_ ((K_ (row1 .u8) xs).length-c) (O_ c xs)))>hi)) with hc1|hc1
  ·have gc1:unfoldN (getV (Q_ ((K_ (row1 .u8) xs).length-c) (O_ c xs)))<lo∨unfoldN (getV (Q_ ((K_ (row1 .u8) xs).length-c) (O_ c xs)))>hi:=gc0_ hc1
   have oz6:=@refGet_v (Q_ ((K_ (row1 .u8) xs).length-c) (O_ c xs)) m1_ y0_
   have oz8:=@unfold_v (getV (Q_ ((K_ (row1 .u8) xs).length-c) (O_ c xs))) y0_ y0_
   exact mR_ [r_,r_,d_,.r [] [.nats (c,0).fst (K_ (row1 .u8) xs).length,ca oz6],r_,d_,.r [] [cr oz8],.r [] [o_,o_,o_,.sel 1],b_,r_,r_] [.weak 0 (i64 (unfoldN (getV (O_ c xs)))),.blk 100000 (Blk.var [AV.sl 1 (K_ (row1 .u8) xs),i64 (↑(c+(getN (O_ c xs)).toNat):Int),i64 0]),.sort] _ Tryz.func136 (.c8 (i0_ (((c,0).snd != 0)=false)) (h0_ ((↑(c,0).fst:Int)=(↑(c,0).fst:Int))) (h0_ ((K_ (row1 .u8) xs).length=(K_ (row1 .u8) xs).length)) (i0_ ((c,0).fst≤(K_ (row1 .u8) xs).length)) (s_ ((K_ (row1 .u8) xs).length≤(K_ (row1 .u8) xs).length)) (show WeakL [AV.sl 1 (Q_ ((K_ (row1 .u8) xs).length-(c,0).fst) (O_ (c,0).fst (K_ (row1 .u8) xs)))] [AV.sl 1 (K_ (row1 .u8) (Q_ ((K_ (row1 .u8) xs).length-c) (O_ c xs)))] from (.cons (AH_ (rows_to (row1 .u8) (r:=Q_ ((K_ (row1 .u8) xs).length-(c,0).fst) (O_ (c,0).fst (K_ (row1 .u8) xs))) (l:=Q_ ((K_ (row1 .u8) xs).length-(c,0).fst) (O_ (c,0).fst xs)) (m:=Q_ ((K_ (row1 .u8) xs).length-(c,0).fst) (O_ (c,0).fst xs)) g_ rfl)) .nil)) oz6 hc0<|.d4 oz8 hc1 (N_ (k:=.i64) (show ((0):Int)=(unfoldN (getV (O_ c xs))) from p0_)) (show BlkW (Blk.var [AV.sl 1 (K_ (row1 .u8) xs),i64 (↑(c,0).fst:Int),i64 3]) (Blk.var [AV.sl 1 (K_ (row1 .u8) xs),i64 (↑(c+(getN (O_ c xs)).toNat):Int),i64 0]) from (BlkW.var (m:=[AV.sl 1 (K_ (row1 .u8) xs),i64 (↑(c+(getN (O_ c xs)).toNat):Int),i64 0]) (.cons (.refl _) (.cons (N_ p0_) (.cons (N_ p0_) .nil))))))
  ·have gc1:¬unfoldN (getV (Q_ ((K_ (row1 .u8) xs).length-c) (O_ c xs)))<lo∧¬unfoldN (getV (Q_ ((K_ (row1 .u8) xs).length-c) (O_ c xs)))>hi:=gc0_ hc1
   have oz6:=@refGet_v (Q_ ((K_ (row1 .u8) xs).length-c) (O_ c xs)) m1_ y0_
   have oz8:=@unfold_v (getV (Q_ ((K_ (row1 .u8) xs).length-c) (O_ c xs))) y0_ y0_
   have oz10:=(N_ (k:=.i64) (show ((unfoldN (getV (Q_ ((K_ (row1 .u8) xs).length-c) (O_ c xs)))):Int)=(unfoldN (getV (O_ c xs))) from (by (rw[qt]))))
   exact mR_ [r_,r_,d_,.r [] [.nats (c,0).fst (K_ (row1 .u8) xs).length,ca oz6],r_,d_,.r [] [cr oz8],.r [] [o_,o_,o_,.sel 1],d_,.r [] [.w],r_] [.weak 0 (wO oz10),.blk 100000 (Blk.var [AV.sl 1 (K_ (row1 .u8) xs),i64 (↑(c+(getN (O_ c xs)).toNat):Int),i64 0]),.sort] _ Tryz.func136 (.c8 (s0_ (((c,0).snd != 0)=false)) (h0_ ((↑(c,0).fst:Int)=(↑(c,0).fst:Int))) (h0_ ((K_ (row1 .u8) xs).length=(K_ (row1 .u8) xs).length)) (h_ ((c,0).fst≤(K_ (row1 .u8) xs).length)) (s_ ((K_ (row1 .u8) xs).length≤(K_ (row1 .u8) xs).length)) (show WeakL [AV.sl 1 (Q_ ((K_ (row1 .u8) xs).length-(c,0).fst) (O_ (c,0).fst (K_ (row1 .u8) xs)))] [AV.sl 1 (K_ (row1 .u8) (Q_ ((K_ (row1 .u8) xs).length-c) (O_ c xs)))] from (.cons (AH_ (rows_to (row1 .u8) (r:=Q_ ((K_ (row1 .u8) xs).length-(c,0).fst) (O_ (c,0).fst (K_ (row1 .u8) xs))) (l:=Q_ ((K_ (row1 .u8) xs).length-(c,0).fst) (O_ (c,0).fst xs)) (m:=Q_ ((K_ (row1 .u8) xs).length-(c,0).fst) (O_ (c,0).fst xs)) g_ rfl)) .nil)) oz6 hc0<|.d4 oz8 hc1 oz10 (show BlkW (Blk.var [AV.sl 1 (K_ (row1 .u8) xs),i64 (IntKind.i64.wrap ((↑(c,0).fst:Int)+getN (Q_ ((K_ (row1 .u8) xs).length-c) (O_ c xs)))),i64 (c,0).snd]) (Blk.var [AV.sl 1 (K_ (row1 .u8) xs),i64 (↑(c+(getN (O_ c xs)).toNat):Int),i64 0]) from (BlkW.var (m:=[AV.sl 1 (K_ (row1 .u8) xs),i64 (↑(c+(getN (O_ c xs)).toNat):Int),i64 0]) (.cons (.refl _) (.cons (N_ (by (rw[qt];exact (i6n _ (by simp only[];omega)).trans (by simp only[];omega)))) (.cons (.refl _) .nil))))))
theorem tk_at (xs:List Int) (c k:Nat):(dpW (xs.drop c) k).getD 0 default=xs.getD (c+k) default:=by
 rw[dpW_eq,List.drop_drop,AU_,AU_,CB_,DK_]
def itR (xs:List Int) (r:Rrf):Nat→Rrf
 | 0=>r
 | k+1=>intR xs (itR xs r k) (-2147483648) 2147483647
theorem itR_in {xs:List Int} {r:Rrf} (h:Rrf.In xs r) (k:Nat):Rrf.In xs (itR xs r k):=by
 induction k with
 | zero=>exact h
 | succ k ih=>exact intR_in ih _ _
theorem toS_it (xs:List Int) (r:Rrf) (k:Nat):toS xs (itR xs r k)=itS (toS xs r) k:=by
 induction k with
 | zero=>rfl
 | succ k ih=>rw[itR,toS_int,ih];rfl
theorem rint_v (xs:List Int) (r:Rrf) (lo hi:Int) (h:Rrf.In xs r):VM M_ 136 [.ptr 100000 0 0,i64 lo,i64 hi] [(100000,.var (rrC xs r))] (i64 (intV (toS xs r) lo hi)) [(100000,.var (rrC xs (intR xs r lo hi)))]:=by
 obtain ⟨c,e⟩:=r
 obtain ⟨hb,hl,ha⟩:=h
 by_cases he:e=0
 ·subst he
  by_cases hg:getE (xs.drop c)=0
  ·by_cases hm:unfoldN (getV (xs.drop c))<lo∨hi<unfoldN (getV (xs.drop c))
   ·rw[show intR xs (c,0) lo hi=(c,3) from by simp only[intR];rw[j_ v0_,j_ (by simp[hg]),i_ hm],show intV (toS xs (c,0)) lo hi=0 from by simp only[toS,intV];simp[hg,hm]]
    exact rint_m xs c lo hi hb hl ha hg hm
   ·rw[show intR xs (c,0) lo hi=(c+(getN (xs.drop c)).toNat,0) from by simp only[intR];rw[j_ v0_,j_ (by simp[hg]),j_ hm],show intV (toS xs (c,0)) lo hi=unfoldN (getV (xs.drop c)) from by simp only[toS,intV];simp[hg,hm]]
    exact rint_y xs c lo hi hb hl ha hg (fun q=>hm (.inl q)) (fun q=>hm (.inr q))
  ·rw[show intR xs (c,0) lo hi=(c,getE (xs.drop c)) from by simp[intR,hg],show intV (toS xs (c,0)) lo hi=0 from by simp[toS,intV,hg]]
   exact rint_g xs c lo hi hb hl ha hg
 ·rw[show intR xs (c,e) lo hi=(c,e) from by simp[intR,he],show intV (toS xs (c,e)) lo hi=0 from by simp[toS,intV,he]]
  exact rint_e xs (c,e) lo hi he
noncomputable def rsml_l_I (xs:List Int) (c:Nat) (n:Nat) (k:Nat):VS:=stt 59 [(0,AV.ptr 100000 0 0),(1,i64 n),(5,.own 900),(6,i64 k)] [(900,.slc 52 1 ((tkW (xs.drop c) k).map (row1 .i8))),(100000,.var (rrC xs (c+k,0)))]
noncomputable def rsml_l_Z (xs:List Int) (c:Nat) (n:Nat):VS:=rsml_l_I xs c n (n)
theorem rsml_l_s (xs:List Int) (c:Nat) (n:Nat) (hb:∀ x∈xs,0≤x∧x≤255) (hl:xs.length≤1000000) (ha:c≤xs.length) (h1:n≤(xs.drop c).length) (k:Nat) (hk:k<n):VT M_ (fnC Tryz.f105 [1,1,1,1,0,1,0,0]) (rsml_l_I xs c n k) .normal (rsml_l_I xs c n (k+1)):=by
 have q5:(xs.drop c).length=xs.length-c:=AS_
 have q3:=tkW_len (xs.drop c) k
 have q6:=tk_at xs c k
 have q7:0≤xs.getD (c+k) default∧xs.getD (c+k) default≤255:=by rw[AU_,AP_ (s_ (c+k<xs.length))];exact hb _ (CN_ _)
 have oz2:=(map_at (row1 .u8) (0) (l:=xs) (i:=(c+k,0).fst) a_)
 exact tR_ [r_,b_,.r [] [.row (sO oz2),.w],.r [] [.n ((↑(c+k,0).fst:Int)+1)],.r [] [.n ((↑k:Int)+1)]] [.any (rg [(31,27)]),.drop [48],.ren 49 900,.weak 6 (i64 (↑(k+1):Int)),.blk 900 (Blk.slc 52 1 (K_ (row1 .i8) (tkW (O_ c xs) (k+1)))),.blk 100000 (Blk.var [AV.sl 1 (K_ (row1 .u8) xs),i64 (↑(c+(k+1)):Int),i64 0]),.sort] (.c8 (decide_eq_true (p:=((↑k:Int)<(↑n:Int))) a_) (s_ (0≤(↑(c+k,0).fst:Int))) oz2 (h_ (((K_ (row1 .i8) (tkW (O_ c xs) k)).length+1)*1≤140737488355328)) (h_ ((K_ (row1 .i8) (tkW (O_ c xs) k)).length+1≤9223372036854775807)) (i6n ((↑(c+k,0).fst:Int)+1) a_) (i6n ((↑k:Int)+1) a_) (wS_ k)<|.d2 (show BlkW (Blk.slc 52 1 (K_ (row1 .i8) (tkW (O_ c xs) k)++[[i8 (IntKind.i8.wrap (xs.getD (c+k,0).fst 0))]])) (Blk.slc 52 1 (K_ (row1 .i8) (tkW (O_ c xs) (k+1)))) from (CW_ (e:=52) (z:=1) (rows_to (row1 .i8) (r:=K_ (row1 .i8) (tkW (O_ c xs) k)++[[i8 (IntKind.i8.wrap (xs.getD (c+k,0).fst 0))]]) (l:=tkW (O_ c xs) k++[IntKind.i8.wrap (xs.getD (c+k,0).fst 0)]) (m:=tkW (O_ c xs) (k+1)) g_ (show (tkW (O_ c xs) k++[IntKind.i8.wrap (xs.getD (c+k,0).fst 0)])=(tkW (O_ c xs) (k+1)) from (by (show tkW (xs.drop c) k++[IntKind.i8.wrap (xs.getD (c+k) default)]=_;rw[tkW,q6])))))) (show BlkW (Blk.var [AV.sl 1 (K_ (row1 .u8) xs),i64 ((↑(c+k,0).fst:Int)+1),i64 (c+k,0).snd]) (Blk.var [AV.sl 1 (K_ (row1 .u8) xs),i64 (↑(c+(k+1)):Int),i64 0]) from (BlkW.var (m:=[AV.sl 1 (K_ (row1 .u8) xs),i64 (↑(c+(k+1)):Int),i64 0]) (.cons (.refl _) (.cons (N_ a_) (.cons (.refl _) .nil))))))
theorem rsml_l_e (xs:List Int) (c:Nat) (n:Nat) (hb:∀ x∈xs,0≤x∧x≤255) (hl:xs.length≤1000000) (ha:c≤xs.length) (h1:n≤(xs.drop c).length):VT M_ (fnC Tryz.f105 [1,1,1,1,0,1,0,0]) (rsml_l_I xs c n (n)) (.exit 0) (rsml_l_Z xs c n):=by
 exact tR_ [r_,d_] [.any [31,32,33],.sort] (.d (decide_eq_false (p:=((↑n:Int)<(↑n:Int))) a_))
theorem rsml_l (xs:List Int) (c:Nat) (n:Nat) (hb:∀ x∈xs,0≤x∧x≤255) (hl:xs.length≤1000000) (ha:c≤xs.length) (h1:n≤(xs.drop c).length):VT M_ (fnC Tryz.f105 [1,1,1,1,0,1,0]) (rsml_l_I xs c n 0) (.exit 0) (rsml_l_Z xs c n) :=
 VT.loop (fun k=>rsml_l_I xs c n k) (n) (fun k hk=>rsml_l_s xs c n hb hl ha h1 k hk) (rsml_l_e xs c n hb hl ha h1) c0_
noncomputable def rwid_l_I (xs:List Int) (c:Nat) (n:Nat) (k:Nat):VS:=stt 48 [(0,AV.ptr 100000 0 0),(1,i64 n),(5,.own 900),(6,i64 k)] [(900,.slc 21 1 ((itV (toS xs (c,0)) k).map (row1 .i32))),(100000,.var (rrC xs (itR xs (c,0) k)))]
noncomputable def rwid_l_Z (xs:List Int) (c:Nat) (n:Nat):VS:=rwid_l_I xs c n (n)
theorem rwid_l_s (xs:List Int) (c:Nat) (n:Nat) (hb:∀ x∈xs,0≤x∧x≤255) (hl:xs.length≤1000000) (ha:c≤xs.length) (h1:n≤(xs.drop c).length) (k:Nat) (hk:k<n):VT M_ (fnC Tryz.f106 [1,1,1,1,0,1,0,0]) (rwid_l_I xs c n k) .normal (rwid_l_I xs c n (k+1)):=by
 have q5:(xs.drop c).length=xs.length-c:=AS_
 have q3:=itV_len (toS xs (c,0)) k
 have q6:=toS_it xs (c,0) k
 have q1:Rrf.In xs (itR xs (c,0) k):=itR_in ⟨hb,hl,ha⟩ k
 have q8:=@intV_rng (toS xs (itR xs (c,0) k)) (-2147483648) 2147483647 x_ x_
 have oz1:=@rint_v (xs) (itR xs (c,0) k) (-2147483648) (2147483647) q1
 have oz2:=(AI_ (intV (toS xs (itR xs (c,0) k)) (-2147483648) 2147483647) a_)
 exact tR_ [r_,b_,.r [] [cm oz1,.n (nO oz2)],.r [] [.n ((↑k:Int)+1)]] [.any (rg [(31,11)]),.drop [40],.ren 41 900,.weak 6 (i64 (↑(k+1):Int)),.blk 900 (Blk.slc 21 1 (K_ (row1 .i32) (itV (toS xs (c,0)) (k+1)))),.blk 100000 (Blk.var [AV.sl 1 (K_ (row1 .u8) xs),i64 (↑(itR xs (c,0) (k+1)).fst:Int),i64 (itR xs (c,0) (k+1)).snd]),.sort] (.c8 (decide_eq_true (p:=((↑k:Int)<(↑n:Int))) a_) oz1 oz2 (h_ (((K_ (row1 .i32) (itV (toS xs (c,0)) k)).length+1)*4≤140737488355328)) (h_ ((K_ (row1 .i32) (itV (toS xs (c,0)) k)).length+1≤9223372036854775807)) (i6n ((↑k:Int)+1) a_) (wS_ k) (show BlkW (Blk.slc 21 1 (K_ (row1 .i32) (itV (toS xs (c,0)) k)++[[i32 (intV (toS xs (itR xs (c,0) k)) (-2147483648) 2147483647)]])) (Blk.slc 21 1 (K_ (row1 .i32) (itV (toS xs (c,0)) (k+1)))) from (CW_ (e:=21) (z:=1) (rows_to (row1 .i32) (r:=K_ (row1 .i32) (itV (toS xs (c,0)) k)++[[i32 (intV (toS xs (itR xs (c,0) k)) (-2147483648) 2147483647)]]) (l:=itV (toS xs (c,0)) k++[intV (toS xs (itR xs (c,0) k)) (-2147483648) 2147483647]) (m:=itV (toS xs (c,0)) (k+1)) g_ (show (itV (toS xs (c,0)) k++[intV (toS xs (itR xs (c,0) k)) (-2147483648) 2147483647])=(itV (toS xs (c,0)) (k+1)) from (by (rw[itV,q6]))))))<|.d (show BlkW (Blk.var [AV.sl 1 (K_ (row1 .u8) xs),i64 (↑(intR xs (itR xs (c,0) k) (-2147483648) 2147483647).fst:Int),i64 (intR xs (itR xs (c,0) k) (-2147483648) 2147483647).snd]) (Blk.var [AV.sl 1 (K_ (row1 .u8) xs),i64 (↑(itR xs (c,0) (k+1)).fst:Int),i64 (itR xs (c,0) (k+1)).snd]) from (BlkW.var (m:=[AV.sl 1 (K_ (row1 .u8) xs),i64 (↑(itR xs (c,0) (k+1)).fst:Int),i64 (itR xs (c,0) (k+1)).snd]) (.cons (.refl _) (.cons (N_ t0_) (.cons (N_ t0_) .nil))))))
theorem rwid_l_e (xs:List Int) (c:Nat) (n:Nat) (hb:∀ x∈xs,0≤x∧x≤255) (hl:xs.length≤1000000) (ha:c≤xs.length) (h1:n≤(xs.drop c).length):VT M_ (fnC Tryz.f106 [1,1,1,1,0,1,0,0]) (rwid_l_I xs c n (n)) (.exit 0) (rwid_l_Z xs c n):=by
 exact tR_ [r_,d_] [.any [31,32,33],.sort] (.d (decide_eq_false (p:=((↑n:Int)<(↑n:Int))) a_))
theorem rwid_l (xs:List Int) (c:Nat) (n:Nat) (hb:∀ x∈xs,0≤x∧x≤255) (hl:xs.length≤1000000) (ha:c≤xs.length) (h1:n≤(xs.drop c).length):VT M_ (fnC Tryz.f106 [1,1,1,1,0,1,0]) (rwid_l_I xs c n 0) (.exit 0) (rwid_l_Z xs c n) :=
 VT.loop (fun k=>rwid_l_I xs c n k) (n) (fun k hk=>rwid_l_s xs c n hb hl ha h1 k hk) (rwid_l_e xs c n hb hl ha h1) c0_
theorem rsml_e (xs:List Int) (r:Rrf) (n:Int) (h:r.2≠0):VM M_ 105 ([.ptr 100000 0 0,i64 n]) ([(100000,.var (rrC xs r))]) (.sl 1 (([]:List Int).map (row1 .i8))) ([(100000,.var (rrC xs r))]):=by
 exact mR_ [r_,r_,.r [] [o_,o_,.sel 1],b_,r_] [.weak 0 (AV.sl 1 []),.sort] _ Tryz.func105 (.d2 (h_ ((r.snd != 0 || decide (n<1))=true)) (show Weak (AV.lit (AK_ none 0 0)) (AV.sl 1 []) from (AV_ _)))
theorem rsml_n (xs:List Int) (c:Nat) (n:Int) (h:n<1):VM M_ 105 ([.ptr 100000 0 0,i64 n]) ([(100000,.var (rrC xs (c,0)))]) (.sl 1 (([]:List Int).map (row1 .i8))) ([(100000,.var (rrC xs (c,0)))]):=by
 exact mR_ [r_,r_,.r [] [o_,o_,.sel 1],b_,r_] [.weak 0 (AV.sl 1 []),.sort] _ Tryz.func105 (.d2 (y_ (((c,0).snd != 0 || decide (n<1))=true)) (show Weak (AV.lit (AK_ none 0 0)) (AV.sl 1 []) from (AV_ _)))
theorem rsml_m (xs:List Int) (c:Nat) (n:Int) (hl:xs.length≤1000000) (ha:c≤xs.length) (h:1≤n) (h1:((xs.drop c).length:Int)<n):VM M_ 105 ([.ptr 100000 0 0,i64 n]) ([(100000,.var (rrC xs (c,0)))]) (.sl 1 (([]:List Int).map (row1 .i8))) ([(100000,.var (rrC xs (c,20)))]):=by
 have q5:(xs.drop c).length=xs.length-c:=AS_
 exact mR_ [r_,r_,.r [] [o_,o_,.sel 1],d_,.r [] [.w],b_,r_,r_] [.weak 0 (AV.sl 1 []),.sort] _ Tryz.func105 (.d3 (c_ (((c,0).snd != 0 || decide (n<1))=false)) (show decide (n>IntKind.i64.wrap (((K_ (row1 .u8) xs).length:Int)-(↑(c,0).fst:Int)))=true by (refine decide_eq_true ?_;rw[i6n _ (by simp only[V_];omega)];simp only[V_];omega)) (show Weak (AV.lit (AK_ none 0 0)) (AV.sl 1 []) from (AV_ _)))
theorem rwid_e (xs:List Int) (r:Rrf) (n:Int) (h:r.2≠0):VM M_ 106 ([.ptr 100000 0 0,i64 n]) ([(100000,.var (rrC xs r))]) (.sl 1 (([]:List Int).map (row1 .i32))) ([(100000,.var (rrC xs r))]):=by
 exact mR_ [r_,r_,.r [] [o_,o_,.sel 1],b_,r_] [.weak 0 (AV.sl 1 []),.sort] _ Tryz.func106 (.d2 (h_ ((r.snd != 0 || decide (n<1))=true)) (show Weak (AV.lit (AK_ none 0 0)) (AV.sl 1 []) from (AV_ _)))
theorem rwid_n (xs:List Int) (c:Nat) (n:Int) (h:n<1):VM M_ 106 ([.ptr 100000 0 0,i64 n]) ([(100000,.var (rrC xs (c,0)))]) (.sl 1 (([]:List Int).map (row1 .i32))) ([(100000,.var (rrC xs (c,0)))]):=by
 exact mR_ [r_,r_,.r [] [o_,o_,.sel 1],b_,r_] [.weak 0 (AV.sl 1 []),.sort] _ Tryz.func106 (.d2 (y_ (((c,0).snd != 0 || decide (n<1))=true)) (show Weak (AV.lit (AK_ none 0 0)) (AV.sl 1 []) from (AV_ _)))
theorem rwid_m (xs:List Int) (c:Nat) (n:Int) (hl:xs.length≤1000000) (ha:c≤xs.length) (h:1≤n) (h1:((xs.drop c).length:Int)<n):VM M_ 106 ([.ptr 100000 0 0,i64 n]) ([(100000,.var (rrC xs (c,0)))]) (.sl 1 (([]:List Int).map (row1 .i32))) ([(100000,.var (rrC xs (c,20)))]):=by
 have q5:(xs.drop c).length=xs.length-c:=AS_
 exact mR_ [r_,r_,.r [] [o_,o_,.sel 1],d_,.r [] [.w],b_,r_,r_] [.weak 0 (AV.sl 1 []),.sort] _ Tryz.func106 (.d3 (c_ (((c,0).snd != 0 || decide (n<1))=false)) (show decide (n>IntKind.i64.wrap (((K_ (row1 .u8) xs).length:Int)-(↑(c,0).fst:Int)))=true by (refine decide_eq_true ?_;rw[i6n _ (by simp only[V_];omega)];simp only[V_];omega)) (show Weak (AV.lit (AK_ none 0 0)) (AV.sl 1 []) from (AV_ _)))
theorem rsml_y (xs:List Int) (c:Nat) (n:Nat) (hb:∀ x∈xs,0≤x∧x≤255) (hl:xs.length≤1000000) (ha:c≤xs.length) (h0:1≤n) (h1:n≤(xs.drop c).length):VM M_ 105 ([.ptr 100000 0 0,i64 n]) ([(100000,.var (rrC xs (c,0)))]) (.sl 1 ((tkW (xs.drop c) n).map (row1 .i8))) ([(100000,.var (rrC xs (c+n,0)))]):=by
 have q5:(xs.drop c).length=xs.length-c:=AS_
 have q3:=tkW_len (xs.drop c) n
 have oz3:=@rsml_l (xs) (c) (n) hb hl ha h1
 exact mR_ [r_,r_,.r [] [o_,o_,.sel 1],d_,.r [] [.w],d_,r_,.code [.any (rg [(4,1),(7,6),(15,13)]),.weak 6 (i64 (↑0:Int)),.nils 5 900 52 1,.sort] (BS_ 0) (zO oz3),r_] [.frz 900,.sort] _ Tryz.func105 (.d4 (c_ (((c,0).snd != 0 || decide ((↑n:Int)<1))=false)) (y1_ (decide ((↑n:Int)>IntKind.i64.wrap (((K_ (row1 .u8) xs).length:Int)-(↑(c,0).fst:Int)))=false)) w0_ oz3)
theorem rwid_y (xs:List Int) (c:Nat) (n:Nat) (hb:∀ x∈xs,0≤x∧x≤255) (hl:xs.length≤1000000) (ha:c≤xs.length) (h0:1≤n) (h1:n≤(xs.drop c).length) (h:(itR xs (c,0) n).2=0):VM M_ 106 ([.ptr 100000 0 0,i64 n]) ([(100000,.var (rrC xs (c,0)))]) (.sl 1 ((itV (toS xs (c,0)) n).map (row1 .i32))) ([(100000,.var (rrC xs (itR xs (c,0) n)))]):=by
 have q5:(xs.drop c).length=xs.length-c:=AS_
 have q3:=itV_len (toS xs (c,0)) n
 have oz4:=@rwid_l (xs) (c) (n) hb hl ha h1
 exact mR_ [r_,r_,.r [] [o_,o_,.sel 1],d_,.r [] [.w],d_,r_,.code [.any (rg [(4,1),(7,6),(15,13)]),.weak 6 (i64 (↑0:Int)),.nils 5 900 21 1,.blk 100000 (Blk.var [AV.sl 1 (K_ (row1 .u8) xs),i64 (↑(itR xs (c,0) 0).fst:Int),i64 (itR xs (c,0) 0).snd]),.sort] (BS_ 0) (zO oz4),r_,d_,r_] [.frz 900,.sort] _ Tryz.func106 (.d6 (c_ (((c,0).snd != 0 || decide ((↑n:Int)<1))=false)) (y1_ (decide ((↑n:Int)>IntKind.i64.wrap (((K_ (row1 .u8) xs).length:Int)-(↑(c,0).fst:Int)))=false)) w0_ (show BlkW (Blk.var [AV.sl 1 (K_ (row1 .u8) xs),i64 (↑(c,0).fst:Int),i64 (c,0).snd]) (Blk.var [AV.sl 1 (K_ (row1 .u8) xs),i64 (↑(itR xs (c,0) 0).fst:Int),i64 (itR xs (c,0) 0).snd]) from (BlkW.var (m:=[AV.sl 1 (K_ (row1 .u8) xs),i64 (↑(itR xs (c,0) 0).fst:Int),i64 (itR xs (c,0) 0).snd]) (.cons (.refl _) (.cons (.refl _) (.cons (N_ t0_) .nil))))) oz4 (h_ (((itR xs (c,0) n).snd != 0)=false)))
def smlR (xs:List Int) (r:Rrf) (n:Int):Rrf :=
 if r.2≠0 then r else if n<1 then r else if ((xs.drop r.1).length:Int)<n then (r.1,20) else (r.1+n.toNat,0)
def widR (xs:List Int) (r:Rrf) (n:Int):Rrf :=
 if r.2≠0 then r else if n<1 then r else if ((xs.drop r.1).length:Int)<n then (r.1,20) else itR xs r n.toNat
theorem rwid_f (xs:List Int) (c:Nat) (n:Nat) (hb:∀ x∈xs,0≤x∧x≤255) (hl:xs.length≤1000000) (ha:c≤xs.length) (h0:1≤n) (h1:n≤(xs.drop c).length) (h:(itR xs (c,0) n).2≠0):VM M_ 106 ([.ptr 100000 0 0,i64 n]) ([(100000,.var (rrC xs (c,0)))]) (.sl 1 (([]:List Int).map (row1 .i32))) ([(100000,.var (rrC xs (itR xs (c,0) n)))]):=by
 have q5:(xs.drop c).length=xs.length-c:=AS_
 have q3:=itV_len (toS xs (c,0)) n
 have oz4:=@rwid_l (xs) (c) (n) hb hl ha h1
 exact mR_ [r_,r_,.r [] [o_,o_,.sel 1],d_,.r [] [.w],d_,r_,.code [.any (rg [(4,1),(7,6),(15,13)]),.weak 6 (i64 (↑0:Int)),.nils 5 900 21 1,.blk 100000 (Blk.var [AV.sl 1 (K_ (row1 .u8) xs),i64 (↑(itR xs (c,0) 0).fst:Int),i64 (itR xs (c,0) 0).snd]),.sort] (BS_ 0) (zO oz4),r_,b_,r_] [.drop [900],.weak 0 (AV.sl 1 []),.sort] _ Tryz.func106 (.d7 (c_ (((c,0).snd != 0 || decide ((↑n:Int)<1))=false)) (y1_ (decide ((↑n:Int)>IntKind.i64.wrap (((K_ (row1 .u8) xs).length:Int)-(↑(c,0).fst:Int)))=false)) w0_ (show BlkW (Blk.var [AV.sl 1 (K_ (row1 .u8) xs),i64 (↑(c,0).fst:Int),i64 (c,0).snd]) (Blk.var [AV.sl 1 (K_ (row1 .u8) xs),i64 (↑(itR xs (c,0) 0).fst:Int),i64 (itR xs (c,0) 0).snd]) from (BlkW.var (m:=[AV.sl 1 (K_ (row1 .u8) xs),i64 (↑(itR xs (c,0) 0).fst:Int),i64 (itR xs (c,0) 0).snd]) (.cons (.refl _) (.cons (.refl _) (.cons (N_ t0_) .nil))))) oz4 (h_ (((itR xs (c,0) n).snd != 0)=true)) (show Weak (AV.lit (AK_ none 0 0)) (AV.sl 1 []) from (AV_ _)))
theorem smlR_in {xs:List Int} {r:Rrf} (h:Rrf.In xs r) (n:Int):Rrf.In xs (smlR xs r n):=by
 obtain ⟨hb,hl,ha⟩:=h
 refine ⟨hb,hl,?_⟩
 unfold smlR
 split
 ·exact ha
 ·split
  ·exact ha
  ·split
   ·exact ha
   ·rename_i h;rw[AS_] at h;dsimp only;omega
theorem widR_in {xs:List Int} {r:Rrf} (h:Rrf.In xs r) (n:Int):Rrf.In xs (widR xs r n):=by
 unfold widR
 split
 ·exact h
 ·split
  ·exact h
  ·split
   ·exact ⟨h.b,h.l,h.a⟩
   ·exact itR_in h _
theorem toS_sml (xs:List Int) (r:Rrf) (n:Int):toS xs (smlR xs r n)=smlS (toS xs r) n:=by
 obtain ⟨c,e⟩:=r
 by_cases he:e=0
 ·subst he
  by_cases h1:n<1
  ·simp[toS,smlR,smlS,h1]
  ·by_cases h2:((xs.drop c).length:Int)<n
   ·rw[show smlR xs (c,0) n=(c,20) from by unfold smlR;rw[j_ v0_,j_ h1,i_ h2],show toS xs (c,0)=(xs.drop c,0) from by simp[toS],show smlS (xs.drop c,0) n=([],20) from by unfold smlS;rw[j_ v0_,j_ h1,i_ h2]];simp[toS]
   ·rw[show smlR xs (c,0) n=(c+n.toNat,0) from by unfold smlR;rw[j_ v0_,j_ h1,j_ h2],show toS xs (c,0)=(xs.drop c,0) from by simp[toS],show smlS (xs.drop c,0) n=(dpW (xs.drop c) n.toNat,0) from by unfold smlS;rw[j_ v0_,j_ h1,j_ h2],dpW_eq,List.drop_drop];simp[toS]
 ·simp[toS,smlR,smlS,he]
theorem toS_wid (xs:List Int) (r:Rrf) (n:Int):toS xs (widR xs r n)=widS (toS xs r) n:=by
 obtain ⟨c,e⟩:=r
 by_cases he:e=0
 ·subst he
  by_cases h1:n<1
  ·simp[toS,widR,widS,h1]
  ·by_cases h2:((xs.drop c).length:Int)<n
   ·rw[show widR xs (c,0) n=(c,20) from by unfold widR;rw[j_ v0_,j_ h1,i_ h2],show toS xs (c,0)=(xs.drop c,0) from by simp[toS],show widS (xs.drop c,0) n=([],20) from by unfold widS;rw[j_ v0_,j_ h1,i_ h2]];simp[toS]
   ·rw[show widR xs (c,0) n=itR xs (c,0) n.toNat from by unfold widR;rw[j_ v0_,j_ h1,j_ h2],toS_it,show toS xs (c,0)=(xs.drop c,0) from by simp[toS],show widS (xs.drop c,0) n=itS (xs.drop c,0) n.toNat from by unfold widS;rw[j_ v0_,j_ h1,j_ h2]]
 ·simp[toS,widR,widS,he]
theorem rsmall_v (xs:List Int) (r:Rrf) (n:Int) (h:Rrf.In xs r):VM M_ 105 [.ptr 100000 0 0,i64 n] [(100000,.var (rrC xs r))] (.sl 1 ((smlV (toS xs r) n).map (row1 .i8))) [(100000,.var (rrC xs (smlR xs r n)))]:=by
 obtain ⟨c,e⟩:=r
 obtain ⟨hb,hl,ha⟩:=h
 by_cases he:e=0
 ·subst he
  have t:toS xs (c,0)=(xs.drop c,0):=by simp[toS]
  rw[t]
  by_cases h1:n<1
  ·rw[show smlR xs (c,0) n=(c,0) from by unfold smlR;rw[j_ v0_,i_ h1],show smlV (xs.drop c,0) n=[] from by unfold smlV;rw[j_ v0_,i_ h1]]
   exact rsml_n xs c n h1
  ·by_cases h2:((xs.drop c).length:Int)<n
   ·rw[show smlR xs (c,0) n=(c,20) from by unfold smlR;rw[j_ v0_,j_ h1,i_ h2],show smlV (xs.drop c,0) n=[] from by unfold smlV;rw[j_ v0_,j_ h1,i_ h2]]
    exact rsml_m xs c n hl ha a_ h2
   ·rw[show smlR xs (c,0) n=(c+n.toNat,0) from by unfold smlR;rw[j_ v0_,j_ h1,j_ h2],show smlV (xs.drop c,0) n=tkW (xs.drop c) n.toNat from by unfold smlV;rw[j_ v0_,j_ h1,j_ h2]]
    obtain ⟨m,rfl⟩:=CL_ (s_ (0≤n))
    exact rsml_y xs c m hb hl ha a_ a_
 ·rw[show smlR xs (c,e) n=(c,e) from by unfold smlR;rw[i_ (by simpa using he)],show smlV (toS xs (c,e)) n=[] from by rw[show toS xs (c,e)=([],e) from by unfold toS;rw[j_ (by simpa using he)]];unfold smlV;rw[i_ (by simpa using he)]]
  exact rsml_e xs (c,e) n he
theorem rwide_v (xs:List Int) (r:Rrf) (n:Int) (h:Rrf.In xs r):VM M_ 106 [.ptr 100000 0 0,i64 n] [(100000,.var (rrC xs r))] (.sl 1 ((widV (toS xs r) n).map (row1 .i32))) [(100000,.var (rrC xs (widR xs r n)))]:=by
 obtain ⟨c,e⟩:=r
 obtain ⟨hb,hl,ha⟩:=h
 by_cases he:e=0
 ·subst he
  have t:toS xs (c,0)=(xs.drop c,0):=by simp[toS]
  rw[t]
  by_cases h1:n<1
  ·rw[show widR xs (c,0) n=(c,0) from by unfold widR;rw[j_ v0_,i_ h1],show widV (xs.drop c,0) n=[] from by unfold widV;rw[j_ v0_,i_ h1]]
   exact rwid_n xs c n h1
  ·by_cases h2:((xs.drop c).length:Int)<n
   ·rw[show widR xs (c,0) n=(c,20) from by unfold widR;rw[j_ v0_,j_ h1,i_ h2],show widV (xs.drop c,0) n=[] from by unfold widV;rw[j_ v0_,j_ h1,i_ h2]]
    exact rwid_m xs c n hl ha a_ h2
   ·rw[show widR xs (c,0) n=itR xs (c,0) n.toNat from by unfold widR;rw[j_ v0_,j_ h1,j_ h2]]
    have e2:(itS (xs.drop c,0) n.toNat).2=(itR xs (c,0) n.toNat).2:=by
     rw[←t,←toS_it];unfold toS;split
     ·rename_i q;exact q.symm
     ·rfl
    obtain ⟨m,rfl⟩:=CL_ (s_ (0≤n))
    by_cases h3:(itR xs (c,0) m).2=0
    ·rw[show widV (xs.drop c,0) (m:Int)=itV (xs.drop c,0) m from by unfold widV;rw[j_ v0_,j_ h1,j_ h2,j_ (by rw[e2];simpa using h3)];rfl,←t]
     exact rwid_y xs c m hb hl ha a_ a_ h3
    ·rw[show widV (xs.drop c,0) (m:Int)=[] from by unfold widV;rw[j_ v0_,j_ h1,j_ h2,i_ (by rw[e2];simpa using h3)]]
     exact rwid_f xs c m hb hl ha a_ a_ h3
 ·rw[show widR xs (c,e) n=(c,e) from by unfold widR;rw[i_ (by simpa using he)],show widV (toS xs (c,e)) n=[] from by rw[show toS xs (c,e)=([],e) from by unfold toS;rw[j_ (by simpa using he)]];unfold widV;rw[i_ (by simpa using he)]]
  exact rwid_e xs (c,e) n he
theorem rone_y (xs:List Int) (r:Rrf) (h:Rrf.In xs r) (h1:(smlV (toS xs r) 1).length=0):hRo8_ 135 xs r 0 (smlR xs r 1):=by
 have oz0:=@rsmall_v (xs) (r) (1) h
 exact mR_ [r_,.r [] [cm oz0],r_,b_,r_] [.sort] _ Tryz.func135 (.d2 oz0 (f0_ ((((K_ (row1 .i8) (smlV (toS xs r) 1)).length:Int)==0)=true)))
theorem rone_n (xs:List Int) (r:Rrf) (h:Rrf.In xs r) (h1:0<(smlV (toS xs r) 1).length) (hb:(smlV (toS xs r) 1).length≤1000000):hRo8_ 135 xs r ((smlV (toS xs r) 1).getD 0 default) (smlR xs r 1):=by
 have oz0:=@rsmall_v (xs) (r) (1) h
 have oz3:=(map_at (row1 .i8) (0) (l:=smlV (toS xs r) 1) (i:=0) h1)
 have oz4:=(N_ (k:=.i8) (show (((smlV (toS xs r) 1).getD 0 0):Int)=((smlV (toS xs r) 1).getD 0 default) from k0_))
 exact mR_ [r_,.r [] [cm oz0],r_,d_,.r [] [.row (sO oz3)]] [.weak 0 (wO oz4),.sort] _ Tryz.func135 (.d5 oz0 (q_ ((((K_ (row1 .i8) (smlV (toS xs r) 1)).length:Int)==0)=false)) z3_ oz3 oz4)
def putN (x:Int):List Int:=putL (IntKind.u64.wrap x).toNat
theorem wrap_rng (x:Int):0≤IntKind.u64.wrap x∧IntKind.u64.wrap x≤18446744073709551615:=by
 rw[IntKind.wrap_u64];omega
theorem putN_len (x:Int):(putN x).length≤10:=by
 have:=wrap_rng x
 exact putL_len10 _ a_
def PutsV (L:Int→List Int):Prop:=∀ x:Int,VC M_ 25 [.lit (.int .u64 (IntKind.u64.wrap x))] (.sl 1 ((L x).map (row1 .u8)))
structure Puts (L:Int→List Int):Prop where
 v:PutsV L
 l:∀ x,(L x).length≤10
theorem puts:Puts putN:=⟨fun x=>put_v _ (wrap_rng x).1 (wrap_rng x).2,putN_len⟩
theorem tnum_1 (s:Rst) (x most:Int) (h:s.In) (h0:0≤most) (h1:most≤2147483647):VM M_ 97 ([.agg [.ptr 100000 0 0],.ptr 100001 0 0,i64 most]) ([(100000,.var (rdC s)),(100001,.var [i64 x])]) (.tup []) ([(100000,.var (rdC (cntS s most))),(100001,.var [i64 (cntV s most)])]):=by
 have oz0:=@cnt_v (s) (most) h h0 h1
 exact mR_ [r_,.r [] [cm oz0]] [.drop [3],.sort] _ Tryz.func97 (.d oz0)
theorem tnum_kd (s:Rst) (n:Nod) (most:Int) (h:s.In) (h0:0≤most) (h1:most≤2147483647):VM M_ 97 ([.agg [.ptr 100000 0 0],.ptr 100001 0 0,i64 most]) ([(100000,.var (rdC s)),(100001,.var (nodC n))]) (.tup []) ([(100000,.var (rdC (cntS s most))),(100001,.var (nodC { n with kd:=cntV s most }))]):=by
 have oz0:=@cnt_v (s) (most) h h0 h1
 exact mR_ [r_,.r [] [cm oz0]] [.drop [3],.sort] _ Tryz.func97 (.d oz0)
theorem tnum_na (s:Rst) (n:Nod) (most:Int) (h:s.In) (h0:0≤most) (h1:most≤2147483647):VM M_ 97 ([.agg [.ptr 100000 0 0],.ptr 100001 0 1,i64 most]) ([(100000,.var (rdC s)),(100001,.var (nodC n))]) (.tup []) ([(100000,.var (rdC (cntS s most))),(100001,.var (nodC { n with na:=cntV s most }))]):=by
 have oz0:=@cnt_v (s) (most) h h0 h1
 exact mR_ [r_,.r [] [cm oz0]] [.drop [3],.sort] _ Tryz.func97 (.d oz0)
theorem tnum_nb (s:Rst) (n:Nod) (most:Int) (h:s.In) (h0:0≤most) (h1:most≤2147483647):VM M_ 97 ([.agg [.ptr 100000 0 0],.ptr 100001 0 2,i64 most]) ([(100000,.var (rdC s)),(100001,.var (nodC n))]) (.tup []) ([(100000,.var (rdC (cntS s most))),(100001,.var (nodC { n with nb:=cntV s most }))]):=by
 have oz0:=@cnt_v (s) (most) h h0 h1
 exact mR_ [r_,.r [] [cm oz0]] [.drop [3],.sort] _ Tryz.func97 (.d oz0)
theorem tnum_nk (s:Rst) (n:Nod) (most:Int) (h:s.In) (h0:0≤most) (h1:most≤2147483647):VM M_ 97 ([.agg [.ptr 100000 0 0],.ptr 100001 0 3,i64 most]) ([(100000,.var (rdC s)),(100001,.var (nodC n))]) (.tup []) ([(100000,.var (rdC (cntS s most))),(100001,.var (nodC { n with nk:=cntV s most }))]):=by
 have oz0:=@cnt_v (s) (most) h h0 h1
 exact mR_ [r_,.r [] [cm oz0]] [.drop [3],.sort] _ Tryz.func97 (.d oz0)
theorem tnum_ns (s:Rst) (n:Nod) (most:Int) (h:s.In) (h0:0≤most) (h1:most≤2147483647):VM M_ 97 ([.agg [.ptr 100000 0 0],.ptr 100001 0 4,i64 most]) ([(100000,.var (rdC s)),(100001,.var (nodC n))]) (.tup []) ([(100000,.var (rdC (cntS s most))),(100001,.var (nodC { n with ns:=cntV s most }))]):=by
 have oz0:=@cnt_v (s) (most) h h0 h1
 exact mR_ [r_,.r [] [cm oz0]] [.drop [3],.sort] _ Tryz.func97 (.d oz0)
theorem tnum_np (s:Rst) (n:Nod) (most:Int) (h:s.In) (h0:0≤most) (h1:most≤2147483647):VM M_ 97 ([.agg [.ptr 100000 0 0],.ptr 100001 0 5,i64 most]) ([(100000,.var (rdC s)),(100001,.var (nodC n))]) (.tup []) ([(100000,.var (rdC (cntS s most))),(100001,.var (nodC { n with np:=cntV s most }))]):=by
 have oz0:=@cnt_v (s) (most) h h0 h1
 exact mR_ [r_,.r [] [cm oz0]] [.drop [3],.sort] _ Tryz.func97 (.d oz0)
theorem tnum_no (s:Rst) (n:Nod) (most:Int) (h:s.In) (h0:0≤most) (h1:most≤2147483647):VM M_ 97 ([.agg [.ptr 100000 0 0],.ptr 100001 0 6,i64 most]) ([(100000,.var (rdC s)),(100001,.var (nodC n))]) (.tup []) ([(100000,.var (rdC (cntS s most))),(100001,.var (nodC { n with no:=cntV s most }))]):=by
 have oz0:=@cnt_v (s) (most) h h0 h1
 exact mR_ [r_,.r [] [cm oz0]] [.drop [3],.sort] _ Tryz.func97 (.d oz0)
theorem tnum_qs (s:Rst) (n:Nod) (most:Int) (h:s.In) (h0:0≤most) (h1:most≤2147483647):VM M_ 97 ([.agg [.ptr 100000 0 0],.ptr 100001 0 12,i64 most]) ([(100000,.var (rdC s)),(100001,.var (nodC n))]) (.tup []) ([(100000,.var (rdC (cntS s most))),(100001,.var (nodC { n with qs:=cntV s most }))]):=by
 have oz0:=@cnt_v (s) (most) h h0 h1
 exact mR_ [r_,.r [] [cm oz0]] [.drop [3],.sort] _ Tryz.func97 (.d oz0)
theorem tnum_rs (s:Rst) (n:Nod) (most:Int) (h:s.In) (h0:0≤most) (h1:most≤2147483647):VM M_ 97 ([.agg [.ptr 100000 0 0],.ptr 100001 0 15,i64 most]) ([(100000,.var (rdC s)),(100001,.var (nodC n))]) (.tup []) ([(100000,.var (rdC (cntS s most))),(100001,.var (nodC { n with rs:=cntV s most }))]):=by
 have oz0:=@cnt_v (s) (most) h h0 h1
 exact mR_ [r_,.r [] [cm oz0]] [.drop [3],.sort] _ Tryz.func97 (.d oz0)
theorem tsml_w (s:Rst) (n:Nod) (m:Int) (h:s.In):VM M_ 243 ([.agg [.ptr 100000 0 0],.ptr 100001 0 9,i64 m]) ([(100000,.var (rdC s)),(100001,.var (nodC n))]) (.tup []) ([(100000,.var (rdC (smlS s m))),(100001,.var (nodC { n with w:=smlV s m }))]):=by
 have oz0:=@smallR_v (s) (m) h
 exact mR_ [r_,.r [] [cm oz0]] [.drop [3],.sort] _ Tryz.func243 (.d oz0)
theorem twid_b (s:Rst) (n:Nod) (m:Int) (h:s.In):VM M_ 244 ([.agg [.ptr 100000 0 0],.ptr 100001 0 10,i64 m]) ([(100000,.var (rdC s)),(100001,.var (nodC n))]) (.tup []) ([(100000,.var (rdC (widS s m))),(100001,.var (nodC { n with b:=widV s m }))]):=by
 have oz0:=@wideR_v (s) (m) h
 exact mR_ [r_,.r [] [cm oz0]] [.drop [3],.sort] _ Tryz.func244 (.d oz0)
theorem tsml_1 (s:Rst) (m:Int) (h:s.In):VM M_ 243 ([.agg [.ptr 100000 0 0],.ptr 100001 0 0,i64 m]) ([(100000,.var (rdC s)),(100001,.var [.any])]) (.tup []) ([(100000,.var (rdC (smlS s m))),(100001,.var [.sl 1 ((smlV s m).map (row1 .i8))])]):=by
 have oz0:=@smallR_v (s) (m) h
 exact mR_ [r_,.r [] [cm oz0]] [.drop [3],.sort] _ Tryz.func243 (.d oz0)
theorem tone_za_y (s:Rst) (n:Nod) (h:s.In) (h1:(smlV s 1).length=1):VM M_ 167 ([.ifc 183 (.agg [.ptr 100000 0 0]),.ptr 100001 0 7]) ([(100000,.var (rdC s)),(100001,.var (nodC n))]) (.tup []) ([(100000,.var (rdC (smlS s 1))),(100001,.var (nodC { n with za:=(smlV s 1).getD 0 default }))]):=by
 have oz0:=@tsml_1 (s) (1) h
 exact mR_ [r_,.r [] [.callm [(100000,100000),(4,100001)] [] (rM oz0) (oM oz0)],r_,b_,.r [] [.row [i8 ((smlV s 1).getD 0 0)]]] [.drop [8,4],.blk 100001 (Blk.var [i64 n.kd,i64 n.na,i64 n.nb,i64 n.nk,i64 n.ns,i64 n.np,i64 n.no,i8 ((smlV s 1).getD 0 default),i8 n.zb,AV.sl 1 (K_ (row1 .i8) n.w),AV.sl 1 (K_ (row1 .i32) n.b),i32 n.qm,i64 n.qs,i8 n.qz,i32 n.rm,i64 n.rs,i8 n.rz,i8 n.lo,i8 n.hi]),.sort] _ Tryz.func167 (.d6 oz0 (show MethodIs M_ (183:Nat) "stepwell/pack.small" (methF M_ (183:Nat) "stepwell/pack.small") from (methodIs w_)) (h_ ((((K_ (row1 .i8) (smlV s 1)).length:Int)==1)=true)) z3_ (map_at (row1 .i8) (0) (l:=smlV s 1) (i:=0) a_) (show BlkW (Blk.var [i64 n.kd,i64 n.na,i64 n.nb,i64 n.nk,i64 n.ns,i64 n.np,i64 n.no,i8 ((smlV s 1).getD 0 0),i8 n.zb,AV.sl 1 (K_ (row1 .i8) n.w),AV.sl 1 (K_ (row1 .i32) n.b),i32 n.qm,i64 n.qs,i8 n.qz,i32 n.rm,i64 n.rs,i8 n.rz,i8 n.lo,i8 n.hi]) (Blk.var [i64 n.kd,i64 n.na,i64 n.nb,i64 n.nk,i64 n.ns,i64 n.np,i64 n.no,i8 ((smlV s 1).getD 0 default),i8 n.zb,AV.sl 1 (K_ (row1 .i8) n.w),AV.sl 1 (K_ (row1 .i32) n.b),i32 n.qm,i64 n.qs,i8 n.qz,i32 n.rm,i64 n.rs,i8 n.rz,i8 n.lo,i8 n.hi]) from (BlkW.var (m:=[i64 n.kd,i64 n.na,i64 n.nb,i64 n.nk,i64 n.ns,i64 n.np,i64 n.no,i8 ((smlV s 1).getD 0 default),i8 n.zb,AV.sl 1 (K_ (row1 .i8) n.w),AV.sl 1 (K_ (row1 .i32) n.b),i32 n.qm,i64 n.qs,i8 n.qz,i32 n.rm,i64 n.rs,i8 n.rz,i8 n.lo,i8 n.hi]) (.cons (.refl _) (.cons (.refl _) (.cons (.refl _) (.cons (.refl _) (.cons (.refl _) (.cons (.refl _) (.cons (.refl _) (.cons (N_ k0_) (.cons (.refl _) (.cons (.refl _) (.cons (.refl _) (.cons (.refl _) (.cons (.refl _) (.cons (.refl _) (.cons (.refl _) (.cons (.refl _) (.cons (.refl _) (.cons (.refl _) (.cons (.refl _) .nil))))))))))))))))))))))
theorem tone_za_n (s:Rst) (n:Nod) (h:s.In) (h1:(smlV s 1).length≠1) (h2:(smlV s 1).length≤1000000):VM M_ 167 ([.ifc 183 (.agg [.ptr 100000 0 0]),.ptr 100001 0 7]) ([(100000,.var (rdC s)),(100001,.var (nodC n))]) (.tup []) ([(100000,.var (rdC (smlS s 1))),(100001,.var (nodC n))]):=by
 have oz0:=@tsml_1 (s) (1) h
 exact mR_ [r_,.r [] [.callm [(100000,100000),(4,100001)] [] (rM oz0) (oM oz0)],r_,d_] [.drop [8,4],.sort] _ Tryz.func167 (.d3 oz0 (show MethodIs M_ (183:Nat) "stepwell/pack.small" (methF M_ (183:Nat) "stepwell/pack.small") from (methodIs w_)) (h_ ((((K_ (row1 .i8) (smlV s 1)).length:Int)==1)=false)))
theorem tone_zb_y (s:Rst) (n:Nod) (h:s.In) (h1:(smlV s 1).length=1):VM M_ 167 ([.ifc 183 (.agg [.ptr 100000 0 0]),.ptr 100001 0 8]) ([(100000,.var (rdC s)),(100001,.var (nodC n))]) (.tup []) ([(100000,.var (rdC (smlS s 1))),(100001,.var (nodC { n with zb:=(smlV s 1).getD 0 default }))]):=by
 have oz0:=@tsml_1 (s) (1) h
 exact mR_ [r_,.r [] [.callm [(100000,100000),(4,100001)] [] (rM oz0) (oM oz0)],r_,b_,.r [] [.row [i8 ((smlV s 1).getD 0 0)]]] [.drop [8,4],.blk 100001 (Blk.var [i64 n.kd,i64 n.na,i64 n.nb,i64 n.nk,i64 n.ns,i64 n.np,i64 n.no,i8 n.za,i8 ((smlV s 1).getD 0 default),AV.sl 1 (K_ (row1 .i8) n.w),AV.sl 1 (K_ (row1 .i32) n.b),i32 n.qm,i64 n.qs,i8 n.qz,i32 n.rm,i64 n.rs,i8 n.rz,i8 n.lo,i8 n.hi]),.sort] _ Tryz.func167 (.d6 oz0 (show MethodIs M_ (183:Nat) "stepwell/pack.small" (methF M_ (183:Nat) "stepwell/pack.small") from (methodIs w_)) (h_ ((((K_ (row1 .i8) (smlV s 1)).length:Int)==1)=true)) z3_ (map_at (row1 .i8) (0) (l:=smlV s 1) (i:=0) a_) (show BlkW (Blk.var [i64 n.kd,i64 n.na,i64 n.nb,i64 n.nk,i64 n.ns,i64 n.np,i64 n.no,i8 n.za,i8 ((smlV s 1).getD 0 0),AV.sl 1 (K_ (row1 .i8) n.w),AV.sl 1 (K_ (row1 .i32) n.b),i32 n.qm,i64 n.qs,i8 n.qz,i32 n.rm,i64 n.rs,i8 n.rz,i8 n.lo,i8 n.hi]) (Blk.var [i64 n.kd,i64 n.na,i64 n.nb,i64 n.nk,i64 n.ns,i64 n.np,i64 n.no,i8 n.za,i8 ((smlV s 1).getD 0 default),AV.sl 1 (K_ (row1 .i8) n.w),AV.sl 1 (K_ (row1 .i32) n.b),i32 n.qm,i64 n.qs,i8 n.qz,i32 n.rm,i64 n.rs,i8 n.rz,i8 n.lo,i8 n.hi]) from (BlkW.var (m:=[i64 n.kd,i64 n.na,i64 n.nb,i64 n.nk,i64 n.ns,i64 n.np,i64 n.no,i8 n.za,i8 ((smlV s 1).getD 0 default),AV.sl 1 (K_ (row1 .i8) n.w),AV.sl 1 (K_ (row1 .i32) n.b),i32 n.qm,i64 n.qs,i8 n.qz,i32 n.rm,i64 n.rs,i8 n.rz,i8 n.lo,i8 n.hi]) (.cons (.refl _) (.cons (.refl _) (.cons (.refl _) (.cons (.refl _) (.cons (.refl _) (.cons (.refl _) (.cons (.refl _) (.cons (.refl _) (.cons (N_ k0_) (.cons (.refl _) (.cons (.refl _) (.cons (.refl _) (.cons (.refl _) (.cons (.refl _) (.cons (.refl _) (.cons (.refl _) (.cons (.refl _) (.cons (.refl _) (.cons (.refl _) .nil))))))))))))))))))))))
theorem tone_zb_n (s:Rst) (n:Nod) (h:s.In) (h1:(smlV s 1).length≠1) (h2:(smlV s 1).length≤1000000):VM M_ 167 ([.ifc 183 (.agg [.ptr 100000 0 0]),.ptr 100001 0 8]) ([(100000,.var (rdC s)),(100001,.var (nodC n))]) (.tup []) ([(100000,.var (rdC (smlS s 1))),(100001,.var (nodC n))]):=by
 have oz0:=@tsml_1 (s) (1) h
 exact mR_ [r_,.r [] [.callm [(100000,100000),(4,100001)] [] (rM oz0) (oM oz0)],r_,d_] [.drop [8,4],.sort] _ Tryz.func167 (.d3 oz0 (show MethodIs M_ (183:Nat) "stepwell/pack.small" (methF M_ (183:Nat) "stepwell/pack.small") from (methodIs w_)) (h_ ((((K_ (row1 .i8) (smlV s 1)).length:Int)==1)=false)))
theorem tone_qz_y (s:Rst) (n:Nod) (h:s.In) (h1:(smlV s 1).length=1):VM M_ 167 ([.ifc 183 (.agg [.ptr 100000 0 0]),.ptr 100001 0 13]) ([(100000,.var (rdC s)),(100001,.var (nodC n))]) (.tup []) ([(100000,.var (rdC (smlS s 1))),(100001,.var (nodC { n with qz:=(smlV s 1).getD 0 default }))]):=by
 have oz0:=@tsml_1 (s) (1) h
 exact mR_ [r_,.r [] [.callm [(100000,100000),(4,100001)] [] (rM oz0) (oM oz0)],r_,b_,.r [] [.row [i8 ((smlV s 1).getD 0 0)]]] [.drop [8,4],.blk 100001 (Blk.var [i64 n.kd,i64 n.na,i64 n.nb,i64 n.nk,i64 n.ns,i64 n.np,i64 n.no,i8 n.za,i8 n.zb,AV.sl 1 (K_ (row1 .i8) n.w),AV.sl 1 (K_ (row1 .i32) n.b),i32 n.qm,i64 n.qs,i8 ((smlV s 1).getD 0 default),i32 n.rm,i64 n.rs,i8 n.rz,i8 n.lo,i8 n.hi]),.sort] _ Tryz.func167 (.d6 oz0 (show MethodIs M_ (183:Nat) "stepwell/pack.small" (methF M_ (183:Nat) "stepwell/pack.small") from (methodIs w_)) (h_ ((((K_ (row1 .i8) (smlV s 1)).length:Int)==1)=true)) z3_ (map_at (row1 .i8) (0) (l:=smlV s 1) (i:=0) a_) (show BlkW (Blk.var [i64 n.kd,i64 n.na,i64 n.nb,i64 n.nk,i64 n.ns,i64 n.np,i64 n.no,i8 n.za,i8 n.zb,AV.sl 1 (K_ (row1 .i8) n.w),AV.sl 1 (K_ (row1 .i32) n.b),i32 n.qm,i64 n.qs,i8 ((smlV s 1).getD 0 0),i32 n.rm,i64 n.rs,i8 n.rz,i8 n.lo,i8 n.hi]) (Blk.var [i64 n.kd,i64 n.na,i64 n.nb,i64 n.nk,i64 n.ns,i64 n.np,i64 n.no,i8 n.za,i8 n.zb,AV.sl 1 (K_ (row1 .i8) n.w),AV.sl 1 (K_ (row1 .i32) n.b),i32 n.qm,i64 n.qs,i8 ((smlV s 1).getD 0 default),i32 n.rm,i64 n.rs,i8 n.rz,i8 n.lo,i8 n.hi]) from (BlkW.var (m:=[i64 n.kd,i64 n.na,i64 n.nb,i64 n.nk,i64 n.ns,i64 n.np,i64 n.no,i8 n.za,i8 n.zb,AV.sl 1 (K_ (row1 .i8) n.w),AV.sl 1 (K_ (row1 .i32) n.b),i32 n.qm,i64 n.qs,i8 ((smlV s 1).getD 0 default),i32 n.rm,i64 n.rs,i8 n.rz,i8 n.lo,i8 n.hi]) (.cons (.refl _) (.cons (.refl _) (.cons (.refl _) (.cons (.refl _) (.cons (.refl _) (.cons (.refl _) (.cons (.refl _) (.cons (.refl _) (.cons (.refl _) (.cons (.refl _) (.cons (.refl _) (.cons (.refl _) (.cons (.refl _) (.cons (N_ k0_) (.cons (.refl _) (.cons (.refl _) (.cons (.refl _) (.cons (.refl _) (.cons (.refl _) .nil))))))))))))))))))))))
theorem tone_qz_n (s:Rst) (n:Nod) (h:s.In) (h1:(smlV s 1).length≠1) (h2:(smlV s 1).length≤1000000):VM M_ 167 ([.ifc 183 (.agg [.ptr 100000 0 0]),.ptr 100001 0 13]) ([(100000,.var (rdC s)),(100001,.var (nodC n))]) (.tup []) ([(100000,.var (rdC (smlS s 1))),(100001,.var (nodC n))]):=by
 have oz0:=@tsml_1 (s) (1) h
 exact mR_ [r_,.r [] [.callm [(100000,100000),(4,100001)] [] (rM oz0) (oM oz0)],r_,d_] [.drop [8,4],.sort] _ Tryz.func167 (.d3 oz0 (show MethodIs M_ (183:Nat) "stepwell/pack.small" (methF M_ (183:Nat) "stepwell/pack.small") from (methodIs w_)) (h_ ((((K_ (row1 .i8) (smlV s 1)).length:Int)==1)=false)))
theorem tone_lo_y (s:Rst) (n:Nod) (h:s.In) (h1:(smlV s 1).length=1):VM M_ 167 ([.ifc 183 (.agg [.ptr 100000 0 0]),.ptr 100001 0 17]) ([(100000,.var (rdC s)),(100001,.var (nodC n))]) (.tup []) ([(100000,.var (rdC (smlS s 1))),(100001,.var (nodC { n with lo:=(smlV s 1).getD 0 default }))]):=by
 have oz0:=@tsml_1 (s) (1) h
 exact mR_ [r_,.r [] [.callm [(100000,100000),(4,100001)] [] (rM oz0) (oM oz0)],r_,b_,.r [] [.row [i8 ((smlV s 1).getD 0 0)]]] [.drop [8,4],.blk 100001 (Blk.var [i64 n.kd,i64 n.na,i64 n.nb,i64 n.nk,i64 n.ns,i64 n.np,i64 n.no,i8 n.za,i8 n.zb,AV.sl 1 (K_ (row1 .i8) n.w),AV.sl 1 (K_ (row1 .i32) n.b),i32 n.qm,i64 n.qs,i8 n.qz,i32 n.rm,i64 n.rs,i8 n.rz,i8 ((smlV s 1).getD 0 default),i8 n.hi]),.sort] _ Tryz.func167 (.d6 oz0 (show MethodIs M_ (183:Nat) "stepwell/pack.small" (methF M_ (183:Nat) "stepwell/pack.small") from (methodIs w_)) (h_ ((((K_ (row1 .i8) (smlV s 1)).length:Int)==1)=true)) z3_ (map_at (row1 .i8) (0) (l:=smlV s 1) (i:=0) a_) (show BlkW (Blk.var [i64 n.kd,i64 n.na,i64 n.nb,i64 n.nk,i64 n.ns,i64 n.np,i64 n.no,i8 n.za,i8 n.zb,AV.sl 1 (K_ (row1 .i8) n.w),AV.sl 1 (K_ (row1 .i32) n.b),i32 n.qm,i64 n.qs,i8 n.qz,i32 n.rm,i64 n.rs,i8 n.rz,i8 ((smlV s 1).getD 0 0),i8 n.hi]) (Blk.var [i64 n.kd,i64 n.na,i64 n.nb,i64 n.nk,i64 n.ns,i64 n.np,i64 n.no,i8 n.za,i8 n.zb,AV.sl 1 (K_ (row1 .i8) n.w),AV.sl 1 (K_ (row1 .i32) n.b),i32 n.qm,i64 n.qs,i8 n.qz,i32 n.rm,i64 n.rs,i8 n.rz,i8 ((smlV s 1).getD 0 default),i8 n.hi]) from (BlkW.var (m:=[i64 n.kd,i64 n.na,i64 n.nb,i64 n.nk,i64 n.ns,i64 n.np,i64 n.no,i8 n.za,i8 n.zb,AV.sl 1 (K_ (row1 .i8) n.w),AV.sl 1 (K_ (row1 .i32) n.b),i32 n.qm,i64 n.qs,i8 n.qz,i32 n.rm,i64 n.rs,i8 n.rz,i8 ((smlV s 1).getD 0 default),i8 n.hi]) (.cons (.refl _) (.cons (.refl _) (.cons (.refl _) (.cons (.refl _) (.cons (.refl _) (.cons (.refl _) (.cons (.refl _) (.cons (.refl _) (.cons (.refl _) (.cons (.refl _) (.cons (.refl _) (.cons (.refl _) (.cons (.refl _) (.cons (.refl _) (.cons (.refl _) (.cons (.refl _) (.cons (.refl _) (.cons (N_ k0_) (.cons (.refl _) .nil))))))))))))))))))))))
theorem tone_lo_n (s:Rst) (n:Nod) (h:s.In) (h1:(smlV s 1).length≠1) (h2:(smlV s 1).length≤1000000):VM M_ 167 ([.ifc 183 (.agg [.ptr 100000 0 0]),.ptr 100001 0 17]) ([(100000,.var (rdC s)),(100001,.var (nodC n))]) (.tup []) ([(100000,.var (rdC (smlS s 1))),(100001,.var (nodC n))]):=by
 have oz0:=@tsml_1 (s) (1) h
 exact mR_ [r_,.r [] [.callm [(100000,100000),(4,100001)] [] (rM oz0) (oM oz0)],r_,d_] [.drop [8,4],.sort] _ Tryz.func167 (.d3 oz0 (show MethodIs M_ (183:Nat) "stepwell/pack.small" (methF M_ (183:Nat) "stepwell/pack.small") from (methodIs w_)) (h_ ((((K_ (row1 .i8) (smlV s 1)).length:Int)==1)=false)))
theorem tone_hi_y (s:Rst) (n:Nod) (h:s.In) (h1:(smlV s 1).length=1):VM M_ 167 ([.ifc 183 (.agg [.ptr 100000 0 0]),.ptr 100001 0 18]) ([(100000,.var (rdC s)),(100001,.var (nodC n))]) (.tup []) ([(100000,.var (rdC (smlS s 1))),(100001,.var (nodC { n with hi:=(smlV s 1).getD 0 default }))]):=by
 have oz0:=@tsml_1 (s) (1) h
 exact mR_ [r_,.r [] [.callm [(100000,100000),(4,100001)] [] (rM oz0) (oM oz0)],r_,b_,.r [] [.row [i8 ((smlV s 1).getD 0 0)]]] [.drop [8,4],.blk 100001 (Blk.var [i64 n.kd,i64 n.na,i64 n.nb,i64 n.nk,i64 n.ns,i64 n.np,i64 n.no,i8 n.za,i8 n.zb,AV.sl 1 (K_ (row1 .i8) n.w),AV.sl 1 (K_ (row1 .i32) n.b),i32 n.qm,i64 n.qs,i8 n.qz,i32 n.rm,i64 n.rs,i8 n.rz,i8 n.lo,i8 ((smlV s 1).getD 0 default)]),.sort] _ Tryz.func167 (.d6 oz0 (show MethodIs M_ (183:Nat) "stepwell/pack.small" (methF M_ (183:Nat) "stepwell/pack.small") from (methodIs w_)) (h_ ((((K_ (row1 .i8) (smlV s 1)).length:Int)==1)=true)) z3_ (map_at (row1 .i8) (0) (l:=smlV s 1) (i:=0) a_) (show BlkW (Blk.var [i64 n.kd,i64 n.na,i64 n.nb,i64 n.nk,i64 n.ns,i64 n.np,i64 n.no,i8 n.za,i8 n.zb,AV.sl 1 (K_ (row1 .i8) n.w),AV.sl 1 (K_ (row1 .i32) n.b),i32 n.qm,i64 n.qs,i8 n.qz,i32 n.rm,i64 n.rs,i8 n.rz,i8 n.lo,i8 ((smlV s 1).getD 0 0)]) (Blk.var [i64 n.kd,i64 n.na,i64 n.nb,i64 n.nk,i64 n.ns,i64 n.np,i64 n.no,i8 n.za,i8 n.zb,AV.sl 1 (K_ (row1 .i8) n.w),AV.sl 1 (K_ (row1 .i32) n.b),i32 n.qm,i64 n.qs,i8 n.qz,i32 n.rm,i64 n.rs,i8 n.rz,i8 n.lo,i8 ((smlV s 1).getD 0 default)]) from (BlkW.var (m:=[i64 n.kd,i64 n.na,i64 n.nb,i64 n.nk,i64 n.ns,i64 n.np,i64 n.no,i8 n.za,i8 n.zb,AV.sl 1 (K_ (row1 .i8) n.w),AV.sl 1 (K_ (row1 .i32) n.b),i32 n.qm,i64 n.qs,i8 n.qz,i32 n.rm,i64 n.rs,i8 n.rz,i8 n.lo,i8 ((smlV s 1).getD 0 default)]) (.cons (.refl _) (.cons (.refl _) (.cons (.refl _) (.cons (.refl _) (.cons (.refl _) (.cons (.refl _) (.cons (.refl _) (.cons (.refl _) (.cons (.refl _) (.cons (.refl _) (.cons (.refl _) (.cons (.refl _) (.cons (.refl _) (.cons (.refl _) (.cons (.refl _) (.cons (.refl _) (.cons (.refl _) (.cons (.refl _) (.cons (N_ k0_) .nil))))))))))))))))))))))
theorem tone_hi_n (s:Rst) (n:Nod) (h:s.In) (h1:(smlV s 1).length≠1) (h2:(smlV s 1).length≤1000000):VM M_ 167 ([.ifc 183 (.agg [.ptr 100000 0 0]),.ptr 100001 0 18]) ([(100000,.var (rdC s)),(100001,.var (nodC n))]) (.tup []) ([(100000,.var (rdC (smlS s 1))),(100001,.var (nodC n))]):=by
 have oz0:=@tsml_1 (s) (1) h
 exact mR_ [r_,.r [] [.callm [(100000,100000),(4,100001)] [] (rM oz0) (oM oz0)],r_,d_] [.drop [8,4],.sort] _ Tryz.func167 (.d3 oz0 (show MethodIs M_ (183:Nat) "stepwell/pack.small" (methF M_ (183:Nat) "stepwell/pack.small") from (methodIs w_)) (h_ ((((K_ (row1 .i8) (smlV s 1)).length:Int)==1)=false)))
def oneV (s:Rst):Int:=(smlV s 1).getD 0 0
theorem one_len (s:Rst):(smlV s 1).length=0∨(smlV s 1).length=1:=by
 unfold smlV
 split
 ·exact .inl rfl
 ·split
  ·exact .inl rfl
  ·split
   ·exact .inl rfl
   ·exact .inr (tkW_len _ _)
theorem oneV_0 {s:Rst} (h:(smlV s 1).length=0):oneV s=0:=by
 unfold oneV;rw[List.length_eq_zero_iff.1 h];rfl
theorem tone_za (s:Rst) (n:Nod) (h:s.In) (h0:n.za=0):VM M_ 167 [.ifc 183 (.agg [.ptr 100000 0 0]),.ptr 100001 0 7] [(100000,.var (rdC s)),(100001,.var (nodC n))] (.tup []) [(100000,.var (rdC (smlS s 1))),(100001,.var (nodC { n with za:=oneV s }))]:=by
 rcases one_len s with h1|h1
 ·have e : { n with za:=oneV s }=n:=by rw[oneV_0 h1,←h0]
  rw[e]
  exact tone_za_n s n h a_ a_
 ·exact tone_za_y s n h h1
theorem tone_zb (s:Rst) (n:Nod) (h:s.In) (h0:n.zb=0):VM M_ 167 [.ifc 183 (.agg [.ptr 100000 0 0]),.ptr 100001 0 8] [(100000,.var (rdC s)),(100001,.var (nodC n))] (.tup []) [(100000,.var (rdC (smlS s 1))),(100001,.var (nodC { n with zb:=oneV s }))]:=by
 rcases one_len s with h1|h1
 ·have e : { n with zb:=oneV s }=n:=by rw[oneV_0 h1,←h0]
  rw[e]
  exact tone_zb_n s n h a_ a_
 ·exact tone_zb_y s n h h1
theorem tone_qz (s:Rst) (n:Nod) (h:s.In) (h0:n.qz=0):VM M_ 167 [.ifc 183 (.agg [.ptr 100000 0 0]),.ptr 100001 0 13] [(100000,.var (rdC s)),(100001,.var (nodC n))] (.tup []) [(100000,.var (rdC (smlS s 1))),(100001,.var (nodC { n with qz:=oneV s }))]:=by
 rcases one_len s with h1|h1
 ·have e : { n with qz:=oneV s }=n:=by rw[oneV_0 h1,←h0]
  rw[e]
  exact tone_qz_n s n h a_ a_
 ·exact tone_qz_y s n h h1
theorem tone_lo (s:Rst) (n:Nod) (h:s.In) (h0:n.lo=0):VM M_ 167 [.ifc 183 (.agg [.ptr 100000 0 0]),.ptr 100001 0 17] [(100000,.var (rdC s)),(100001,.var (nodC n))] (.tup []) [(100000,.var (rdC (smlS s 1))),(100001,.var (nodC { n with lo:=oneV s }))]:=by
 rcases one_len s with h1|h1
 ·have e : { n with lo:=oneV s }=n:=by rw[oneV_0 h1,←h0]
  rw[e]
  exact tone_lo_n s n h a_ a_
 ·exact tone_lo_y s n h h1
theorem tone_hi (s:Rst) (n:Nod) (h:s.In) (h0:n.hi=0):VM M_ 167 [.ifc 183 (.agg [.ptr 100000 0 0]),.ptr 100001 0 18] [(100000,.var (rdC s)),(100001,.var (nodC n))] (.tup []) [(100000,.var (rdC (smlS s 1))),(100001,.var (nodC { n with hi:=oneV s }))]:=by
 rcases one_len s with h1|h1
 ·have e : { n with hi:=oneV s }=n:=by rw[oneV_0 h1,←h0]
  rw[e]
  exact tone_hi_n s n h a_ a_
 ·exact tone_hi_y s n h h1
theorem z6_:true = !false:=by (simp;done)
theorem of_1 (k:Int) (h:k=1):VC M_ 165 ([i64 k]) (.agg [bv false,bv true,bv true,bv true,bv true,bv true]):=by
 have oz0:=(y_ ((k==1) = !false))
 have oz2:=(y_ ((k==1)=true))
 exact (cR_ [r_,.r [] [f_,f_,e_,f_,f_,e_],.r [] [f_,f_,e_,f_,f_,e_,f_,f_,e_],.r [] [f_,f_,e_,f_,f_,e_],.r [] [f_,f_,e_,f_,f_,e_]] (AV.agg [bv (k==6),bv true,bv true,bv true,bv true,bv true]) Tryz.func165 (.c8 oz0 oz0 oz2 z6_ z6_ z0_ oz0 oz0<|.c8 oz2 z6_ z6_ z0_ z6_ z6_ z0_ z6_<|.c8 z6_ z0_ z6_ z6_ z0_ oz0 oz0 oz2<|.d3 z6_ z6_ z0_)).weak (AQ_ _) (AZ_ (.cons (AB_ v_) (.cons (.refl _) (.cons (.refl _) (.cons (.refl _) (.cons (.refl _) (.cons (.refl _) .nil)))))))
theorem of_2 (k:Int) (h:k=2):VC M_ 165 ([i64 k]) (.agg [bv false,bv true,bv false,bv true,bv true,bv true]):=by
 have oz0:=(c_ ((k==1)=false))
 have oz3:=(y_ ((k==2) = !false))
 have oz5:=(y_ ((k==2)=true))
 exact (cR_ [r_,.r [] [e_,e_,f_,f_,f_,e_],.r [] [e_,e_,f_,f_,f_,e_,f_,f_,e_],.r [] [f_,f_,e_,f_,f_,e_],.r [] [e_,e_,f_,f_,f_,e_]] (AV.agg [bv (k==6),bv true,bv (k==3),bv true,bv true,bv true]) Tryz.func165 (.c8 oz0 oz0 oz0 oz3 oz3 oz5 oz0 oz0<|.c8 oz0 oz3 oz3 oz5 z6_ z6_ z0_ z6_<|.c8 z6_ z0_ z6_ z6_ z0_ oz0 oz0 oz0<|.d3 z6_ z6_ z0_)).weak (AQ_ _) (AZ_ (.cons (AB_ v_) (.cons (.refl _) (.cons (AB_ v_) (.cons (.refl _) (.cons (.refl _) (.cons (.refl _) .nil)))))))
theorem of_3 (k:Int) (h:k=3):VC M_ 165 ([i64 k]) (.agg [bv false,bv false,bv true,bv true,bv true,bv true]):=by
 have oz0:=(c_ ((k==1)=false))
 have oz3:=(c_ ((k==2)=false))
 have oz12:=(c_ ((k==4)=false))
 have oz15:=(y_ ((k==3) = !false))
 exact (cR_ [r_,.r [] [e_,e_,f_,e_,e_,f_],.r [] [e_,e_,f_,e_,e_,f_,e_,e_,f_],.r [] [f_,f_,e_,f_,f_,e_],.r [] [e_,e_,f_,f_,f_,e_]] (AV.agg [bv (k==6),bv (k==5),bv (k==3),bv true,bv (k==3),bv true]) Tryz.func165 (.c8 oz0 oz0 oz0 oz3 oz3 oz3 oz0 oz0<|.c8 oz0 oz3 oz3 oz3 oz12 oz12 oz12 oz15<|.c8 oz15 (y_ ((k==3)=true)) z6_ z6_ z0_ oz0 oz0 oz0<|.d3 z6_ z6_ z0_)).weak (AQ_ _) (AZ_ (.cons (AB_ v_) (.cons (AB_ v_) (.cons (AB_ g1_) (.cons (.refl _) (.cons (AB_ g1_) (.cons (.refl _) .nil)))))))
theorem of_4 (k:Int) (h:k=4∨k=5):VC M_ 165 ([i64 k]) (.agg [bv false,bv true,bv false,bv false,bv false,bv false]):=by
 have oz0:=(c_ ((k==1)=false))
 have oz3:=(c_ ((k==2)=false))
 have oz12:=(c_ ((k==3)=false))
 have oz15:=(c_ ((k==6)=false))
 have oz21:=(c_ ((k==7)=false))
 exact (cR_ [r_,.r [] [e_,e_,f_,e_,e_,f_],.r [] [e_,e_,f_,e_,e_,f_,o_,o_,.sel 1],.r [] [e_,e_,f_,e_,e_,f_],.r [] [e_,e_,f_,e_,e_,f_]] (AV.agg [bv (k==6),bv (k==4 || k==5),bv (k==3),bv (k==8),bv (k==3),bv (k==7)]) Tryz.func165 (.c8 oz0 oz0 oz0 oz3 oz3 oz3 oz0 oz0<|.c8 oz0 oz3 oz3 oz3 oz12 oz12 oz12 oz15<|.d8 oz15 oz15 oz0 oz0 oz0 oz21 oz21 oz21)).weak (AQ_ _) (AZ_ (.cons (AB_ v_) (.cons (AB_ (by (simp;omega))) (.cons (AB_ v_) (.cons (AB_ v_) (.cons (AB_ v_) (.cons (AB_ v_) .nil)))))))
theorem of_6 (k:Int) (h:k=6):VC M_ 165 ([i64 k]) (.agg [bv true,bv false,bv false,bv true,bv false,bv true]):=by
 have oz0:=(c_ ((k==1)=false))
 have oz3:=(c_ ((k==2)=false))
 have oz12:=(c_ ((k==4)=false))
 have oz15:=(c_ ((k==3)=false))
 have oz18:=(y_ ((k==6) = !false))
 exact (cR_ [r_,.r [] [e_,e_,f_,e_,e_,f_],.r [] [e_,e_,f_,e_,e_,f_,e_,e_,f_],.r [] [e_,e_,f_,f_,f_,e_],.r [] [e_,e_,f_,f_,f_,e_]] (AV.agg [bv (k==6),bv (k==5),bv (k==3),bv true,bv (k==3),bv true]) Tryz.func165 (.c8 oz0 oz0 oz0 oz3 oz3 oz3 oz0 oz0<|.c8 oz0 oz3 oz3 oz3 oz12 oz12 oz12 oz15<|.c8 oz15 oz15 oz18 oz18 (y_ ((k==6)=true)) oz0 oz0 oz0<|.d3 z6_ z6_ z0_)).weak (AQ_ _) (AZ_ (.cons (AB_ g1_) (.cons (AB_ v_) (.cons (AB_ v_) (.cons (.refl _) (.cons (AB_ v_) (.cons (.refl _) .nil)))))))
theorem of_7 (k:Int) (h:k=7):VC M_ 165 ([i64 k]) (.agg [bv false,bv false,bv false,bv true,bv false,bv true]):=by
 have oz0:=(c_ ((k==1)=false))
 have oz3:=(c_ ((k==2)=false))
 have oz12:=(c_ ((k==4)=false))
 have oz15:=(c_ ((k==3)=false))
 have oz18:=(c_ ((k==6)=false))
 have oz24:=(y_ ((k==7) = !false))
 exact (cR_ [r_,.r [] [e_,e_,f_,e_,e_,f_],.r [] [e_,e_,f_,e_,e_,f_,e_,e_,f_],.r [] [e_,e_,f_,e_,e_,f_],.r [] [e_,e_,f_,f_,f_,e_]] (AV.agg [bv (k==6),bv (k==5),bv (k==3),bv true,bv (k==3),bv (k==7)]) Tryz.func165 (.c8 oz0 oz0 oz0 oz3 oz3 oz3 oz0 oz0<|.c8 oz0 oz3 oz3 oz3 oz12 oz12 oz12 oz15<|.c8 oz15 oz15 oz18 oz18 oz18 oz0 oz0 oz0<|.d3 oz24 oz24 (y_ ((k==7)=true)))).weak (AQ_ _) (AZ_ (.cons (AB_ v_) (.cons (AB_ v_) (.cons (AB_ v_) (.cons (.refl _) (.cons (AB_ v_) (.cons (AB_ g1_) .nil)))))))
theorem of_8 (k:Int) (h:k=8):VC M_ 165 ([i64 k]) (.agg [bv false,bv false,bv false,bv true,bv false,bv false]):=by
 have oz0:=(c_ ((k==1)=false))
 have oz3:=(c_ ((k==2)=false))
 have oz12:=(c_ ((k==4)=false))
 have oz15:=(c_ ((k==3)=false))
 have oz18:=(c_ ((k==6)=false))
 have oz24:=(c_ ((k==7)=false))
 exact (cR_ [r_,.r [] [e_,e_,f_,e_,e_,f_],.r [] [e_,e_,f_,e_,e_,f_,e_,e_,f_],.r [] [e_,e_,f_,e_,e_,f_],.r [] [e_,e_,f_,e_,e_,f_]] (AV.agg [bv (k==6),bv (k==5),bv (k==3),bv (k==8),bv (k==3),bv (k==7)]) Tryz.func165 (.c8 oz0 oz0 oz0 oz3 oz3 oz3 oz0 oz0<|.c8 oz0 oz3 oz3 oz3 oz12 oz12 oz12 oz15<|.c8 oz15 oz15 oz18 oz18 oz18 oz0 oz0 oz0<|.d3 oz24 oz24 oz24)).weak (AQ_ _) (AZ_ (.cons (AB_ v_) (.cons (AB_ v_) (.cons (AB_ v_) (.cons (AB_ g1_) (.cons (AB_ v_) (.cons (AB_ v_) .nil)))))))
theorem of_9 (k:Int) (h:k<1∨8<k):VC M_ 165 ([i64 k]) (.agg [bv false,bv false,bv false,bv false,bv false,bv false]):=by
 have oz0:=(c_ ((k==1)=false))
 have oz3:=(c_ ((k==2)=false))
 have oz12:=(c_ ((k==4)=false))
 have oz15:=(c_ ((k==3)=false))
 have oz18:=(c_ ((k==6)=false))
 have oz24:=(c_ ((k==7)=false))
 exact (cR_ [r_,.r [] [e_,e_,f_,e_,e_,f_],.r [] [e_,e_,f_,e_,e_,f_,e_,e_,f_],.r [] [e_,e_,f_,e_,e_,f_],.r [] [e_,e_,f_,e_,e_,f_]] (AV.agg [bv (k==6),bv (k==5),bv (k==3),bv (k==8),bv (k==3),bv (k==7)]) Tryz.func165 (.c8 oz0 oz0 oz0 oz3 oz3 oz3 oz0 oz0<|.c8 oz0 oz3 oz3 oz3 oz12 oz12 oz12 oz15<|.c8 oz15 oz15 oz18 oz18 oz18 oz0 oz0 oz0<|.d3 oz24 oz24 oz24)).weak (AQ_ _) (AZ_ (.cons (AB_ v_) (.cons (AB_ v_) (.cons (AB_ v_) (.cons (AB_ v_) (.cons (AB_ v_) (.cons (AB_ v_) .nil)))))))
theorem tlists_0 (s:Rst) (n:Nod) (h:s.In):VM M_ 132 ([.ifc 183 (.agg [.ptr 100000 0 0]),.ptr 100001 0 9,.ptr 100001 0 10]) ([(100000,.var (rdC s)),(100001,.var (nodC n))]) (.tup []) ([(100000,.var (rdC (widS (cntS (smlS (cntS s 16384) (cntV s 16384)) 16384) (cntV (smlS (cntS s 16384) (cntV s 16384)) 16384)))),(100001,.var (nodC { n with w:=smlV (cntS s 16384) (cntV s 16384),b:=widV (cntS (smlS (cntS s 16384) (cntV s 16384)) 16384) (cntV (smlS (cntS s 16384) (cntV s 16384)) 16384) }))]):=by
 have oz0:=@tnum_1 (s) (((K_ (row1 .i8) n.w).length:Int)) (16384) h a_ a_
 have oz1:=(show MethodIs M_ (183:Nat) "stepwell/pack.number" (methF M_ (183:Nat) "stepwell/pack.number") from (methodIs w_))
 have oz2:=@tsml_w (cntS s 16384) (n) (cntV s 16384) i1_
 have oz4:=@tnum_1 (smlS (cntS s 16384) (cntV s 16384)) (((K_ (row1 .i32) n.b).length:Int)) (16384) i1_ a_ a_
 have oz6:=@twid_b (cntS (smlS (cntS s 16384) (cntV s 16384)) 16384) (Nod.mk n.kd n.na n.nb n.nk n.ns n.np n.no n.za n.zb (smlV (cntS s 16384) (cntV s 16384)) n.b n.qm n.qs n.qz n.rm n.rs n.rz n.lo n.hi) (cntV (smlS (cntS s 16384) (cntV s 16384)) 16384) i1_
 exact mR_ [r_,.r [] [.callm [(100000,100000),(6,100001)] [] (rM oz0) (oM oz0)],.r [] [cn oz2],r_,.r [] [.callm [(100000,100000),(7,100001)] [] (rM oz4) (oM oz4)],.r [] [cn oz6]] [.drop [6,7],.sort] _ Tryz.func132 (.d8 oz0 oz1 oz2 (show MethodIs M_ (183:Nat) "stepwell/pack.small" (methF M_ (183:Nat) "stepwell/pack.small") from (methodIs w_)) oz4 oz1 oz6 (show MethodIs M_ (183:Nat) "stepwell/pack.wides" (methF M_ (183:Nat) "stepwell/pack.wides") from (methodIs w_)))
theorem tscale_q (s:Rst) (n:Nod) (h:s.In):VM M_ 168 ([.ifc 183 (.agg [.ptr 100000 0 0]),.ptr 100001 0 11]) ([(100000,.var (rdC s)),(100001,.var (nodC n))]) (.tup []) ([(100000,.var (rdC (cntS (cntS s 2147483647) 62))),(100001,.var (nodC { n with qm:=cntV s 2147483647,qs:=cntV (cntS s 2147483647) 62 }))]):=by
 have q:=@cntV_rng s 2147483647 h x_
 have oz0:=@tnum_1 (s) (IntKind.i64.wrap n.qm) (2147483647) h a_ a_
 have oz1:=(show MethodIs M_ (183:Nat) "stepwell/pack.number" (methF M_ (183:Nat) "stepwell/pack.number") from (methodIs w_))
 have oz4:=@tnum_qs (cntS s 2147483647) (Nod.mk n.kd n.na n.nb n.nk n.ns n.np n.no n.za n.zb n.w n.b (cntV s 2147483647) n.qs n.qz n.rm n.rs n.rz n.lo n.hi) (62) i1_ z_ z_
 exact mR_ [.r [] [.w],.r [] [.callm [(100000,100000),(4,100001)] [] (rM oz0) (oM oz0)],.r [] [.n (cntV s 2147483647)],.r [] [cn oz4]] [.drop [4],.sort] _ Tryz.func168 (.d6 oz0 oz1 (AI_ (cntV s 2147483647) a_) (show NilNo M_ (183:Nat) "stepwell/pack.number" from (nilNo (f:=97) w_)) oz4 oz1)
theorem tscale_r (s:Rst) (n:Nod) (h:s.In):VM M_ 168 ([.ifc 183 (.agg [.ptr 100000 0 0]),.ptr 100001 0 14]) ([(100000,.var (rdC s)),(100001,.var (nodC n))]) (.tup []) ([(100000,.var (rdC (cntS (cntS s 2147483647) 62))),(100001,.var (nodC { n with rm:=cntV s 2147483647,rs:=cntV (cntS s 2147483647) 62 }))]):=by
 have q:=@cntV_rng s 2147483647 h x_
 have oz0:=@tnum_1 (s) (IntKind.i64.wrap n.rm) (2147483647) h a_ a_
 have oz1:=(show MethodIs M_ (183:Nat) "stepwell/pack.number" (methF M_ (183:Nat) "stepwell/pack.number") from (methodIs w_))
 have oz4:=@tnum_rs (cntS s 2147483647) (Nod.mk n.kd n.na n.nb n.nk n.ns n.np n.no n.za n.zb n.w n.b n.qm n.qs n.qz (cntV s 2147483647) n.rs n.rz n.lo n.hi) (62) i1_ z_ z_
 exact mR_ [.r [] [.w],.r [] [.callm [(100000,100000),(4,100001)] [] (rM oz0) (oM oz0)],.r [] [.n (cntV s 2147483647)],.r [] [cn oz4]] [.drop [4],.sort] _ Tryz.func168 (.d6 oz0 oz1 (AI_ (cntV s 2147483647) a_) (show NilNo M_ (183:Nat) "stepwell/pack.number" from (nilNo (f:=97) w_)) oz4 oz1)
theorem tside_nb (s:Rst) (n:Nod) (h:s.In):VM M_ 195 ([bv true,.ptr 100001 0 2,.ptr 100002 0 0]) ([(100000,.var (rdC s)),(100001,.var (nodC n)),(100002,.var [.ifc 183 (.agg [.ptr 100000 0 0])])]) (.tup []) ([(100000,.var (rdC (cntS s 1024))),(100001,.var (nodC { n with nb:=cntV s 1024 })),(100002,.var [.ifc 183 (.agg [.ptr 100000 0 0])])]):=by
 have oz1:=@tnum_nb (s) (n) (1024) h a_ a_
 exact mR_ [r_,b_,.r [] [cn oz1]] [.sort] _ Tryz.func195 (.d3 z0_ oz1 (show MethodIs M_ (183:Nat) "stepwell/pack.number" (methF M_ (183:Nat) "stepwell/pack.number") from (methodIs w_)))
theorem tside_nk (s:Rst) (n:Nod) (h:s.In):VM M_ 195 ([bv true,.ptr 100001 0 3,.ptr 100002 0 0]) ([(100000,.var (rdC s)),(100001,.var (nodC n)),(100002,.var [.ifc 183 (.agg [.ptr 100000 0 0])])]) (.tup []) ([(100000,.var (rdC (cntS s 1024))),(100001,.var (nodC { n with nk:=cntV s 1024 })),(100002,.var [.ifc 183 (.agg [.ptr 100000 0 0])])]):=by
 have oz1:=@tnum_nk (s) (n) (1024) h a_ a_
 exact mR_ [r_,b_,.r [] [cn oz1]] [.sort] _ Tryz.func195 (.d3 z0_ oz1 (show MethodIs M_ (183:Nat) "stepwell/pack.number" (methF M_ (183:Nat) "stepwell/pack.number") from (methodIs w_)))
theorem tside_ns (s:Rst) (n:Nod) (h:s.In):VM M_ 195 ([bv true,.ptr 100001 0 4,.ptr 100002 0 0]) ([(100000,.var (rdC s)),(100001,.var (nodC n)),(100002,.var [.ifc 183 (.agg [.ptr 100000 0 0])])]) (.tup []) ([(100000,.var (rdC (cntS s 1024))),(100001,.var (nodC { n with ns:=cntV s 1024 })),(100002,.var [.ifc 183 (.agg [.ptr 100000 0 0])])]):=by
 have oz1:=@tnum_ns (s) (n) (1024) h a_ a_
 exact mR_ [r_,b_,.r [] [cn oz1]] [.sort] _ Tryz.func195 (.d3 z0_ oz1 (show MethodIs M_ (183:Nat) "stepwell/pack.number" (methF M_ (183:Nat) "stepwell/pack.number") from (methodIs w_)))
theorem tside_np (s:Rst) (n:Nod) (h:s.In):VM M_ 195 ([bv true,.ptr 100001 0 5,.ptr 100002 0 0]) ([(100000,.var (rdC s)),(100001,.var (nodC n)),(100002,.var [.ifc 183 (.agg [.ptr 100000 0 0])])]) (.tup []) ([(100000,.var (rdC (cntS s 1024))),(100001,.var (nodC { n with np:=cntV s 1024 })),(100002,.var [.ifc 183 (.agg [.ptr 100000 0 0])])]):=by
 have oz1:=@tnum_np (s) (n) (1024) h a_ a_
 exact mR_ [r_,b_,.r [] [cn oz1]] [.sort] _ Tryz.func195 (.d3 z0_ oz1 (show MethodIs M_ (183:Nat) "stepwell/pack.number" (methF M_ (183:Nat) "stepwell/pack.number") from (methodIs w_)))
theorem tside_no (s:Rst) (n:Nod) (h:s.In):VM M_ 195 ([bv true,.ptr 100001 0 6,.ptr 100002 0 0]) ([(100000,.var (rdC s)),(100001,.var (nodC n)),(100002,.var [.ifc 183 (.agg [.ptr 100000 0 0])])]) (.tup []) ([(100000,.var (rdC (cntS s 1024))),(100001,.var (nodC { n with no:=cntV s 1024 })),(100002,.var [.ifc 183 (.agg [.ptr 100000 0 0])])]):=by
 have oz1:=@tnum_no (s) (n) (1024) h a_ a_
 exact mR_ [r_,b_,.r [] [cn oz1]] [.sort] _ Tryz.func195 (.d3 z0_ oz1 (show MethodIs M_ (183:Nat) "stepwell/pack.number" (methF M_ (183:Nat) "stepwell/pack.number") from (methodIs w_)))
theorem side_n   : VM M_ 195 ([bv false,.any,.any]) ([]) (.tup []) ([]):=by
 exact mR_ [r_,d_] [.sort] _ Tryz.func195 (.d z1_)
theorem tells_1 (k:Int) (h:k=1):VC M_ 134 ([i64 k]) (.agg [bv false,bv true,bv true,bv true,bv true,bv true]):=by
 have oz0:=(y_ ((k==1) = !false))
 have oz2:=(y_ ((k==1)=true))
 exact (cR_ [r_,.r [] [f_,f_,e_,f_,f_,e_],.r [] [f_,f_,e_,f_,f_,e_],.r [] [f_,f_,e_,f_,f_,e_,f_,f_,e_,f_,f_,e_,f_,f_,e_]] (AV.agg [bv (k==6),bv true,bv true,bv true,bv true,bv true]) Tryz.func134 (.c8 oz0 oz0 oz2 z6_ z6_ z0_ z6_ z6_<|.c8 z0_ z6_ z6_ z0_ oz0 oz0 oz2 z6_<|.c8 z6_ z0_ z6_ z6_ z0_ oz0 oz0 oz2<|.d3 z6_ z6_ z0_)).weak (AQ_ _) (AZ_ (.cons (AB_ v_) (.cons (.refl _) (.cons (.refl _) (.cons (.refl _) (.cons (.refl _) (.cons (.refl _) .nil)))))))
theorem tells_2 (k:Int) (h:k=2):VC M_ 134 ([i64 k]) (.agg [bv false,bv true,bv false,bv true,bv true,bv true]):=by
 have oz0:=(c_ ((k==1)=false))
 have oz3:=(y_ ((k==2) = !false))
 have oz5:=(y_ ((k==2)=true))
 exact (cR_ [r_,.r [] [e_,e_,f_,f_,f_,e_],.r [] [f_,f_,e_,f_,f_,e_],.r [] [e_,e_,f_,f_,f_,e_,f_,f_,e_,e_,e_,f_,f_,f_,e_]] (AV.agg [bv (k==6),bv true,bv (k==3),bv true,bv true,bv true]) Tryz.func134 (.c8 oz0 oz0 oz0 oz3 oz3 oz5 z6_ z6_<|.c8 z0_ z6_ z6_ z0_ oz0 oz0 oz0 oz3<|.c8 oz3 oz5 z6_ z6_ z0_ oz0 oz0 oz0<|.d3 z6_ z6_ z0_)).weak (AQ_ _) (AZ_ (.cons (AB_ v_) (.cons (.refl _) (.cons (AB_ v_) (.cons (.refl _) (.cons (.refl _) (.cons (.refl _) .nil)))))))
theorem tells_3 (k:Int) (h:k=3):VC M_ 134 ([i64 k]) (.agg [bv false,bv false,bv true,bv true,bv true,bv true]):=by
 have oz0:=(c_ ((k==1)=false))
 have oz3:=(c_ ((k==2)=false))
 have oz6:=(y_ ((k==3) = !false))
 have oz18:=(c_ ((k==4)=false))
 exact (cR_ [r_,.r [] [e_,e_,f_,e_,e_,f_],.r [] [f_,f_,e_,f_,f_,e_],.r [] [e_,e_,f_,e_,e_,f_,e_,e_,f_,e_,e_,f_,f_,f_,e_]] (AV.agg [bv (k==6),bv (k==5),bv (k==3),bv true,bv (k==3),bv true]) Tryz.func134 (.c8 oz0 oz0 oz0 oz3 oz3 oz3 oz6 oz6<|.c8 (y_ ((k==3)=true)) z6_ z6_ z0_ oz0 oz0 oz0 oz3<|.c8 oz3 oz3 oz18 oz18 oz18 oz0 oz0 oz0<|.d3 z6_ z6_ z0_)).weak (AQ_ _) (AZ_ (.cons (AB_ v_) (.cons (AB_ v_) (.cons (AB_ g1_) (.cons (.refl _) (.cons (AB_ g1_) (.cons (.refl _) .nil)))))))
theorem tells_4 (k:Int) (h:k=4∨k=5):VC M_ 134 ([i64 k]) (.agg [bv false,bv true,bv false,bv false,bv false,bv false]):=by
 have oz0:=(c_ ((k==1)=false))
 have oz3:=(c_ ((k==2)=false))
 have oz6:=(c_ ((k==3)=false))
 have oz9:=(c_ ((k==6)=false))
 have oz21:=(c_ ((k==7)=false))
 exact (cR_ [r_,.r [] [e_,e_,f_,e_,e_,f_],.r [] [e_,e_,f_,e_,e_,f_],.r [] [e_,e_,f_,e_,e_,f_,o_,o_,.sel 1,e_,e_,f_,e_,e_,f_]] (AV.agg [bv (k==6),bv (k==4 || k==5),bv (k==3),bv (k==8),bv (k==3),bv (k==7)]) Tryz.func134 (.c8 oz0 oz0 oz0 oz3 oz3 oz3 oz6 oz6<|.c8 oz6 oz9 oz9 oz9 oz0 oz0 oz0 oz3<|.d8 oz3 oz3 oz0 oz0 oz0 oz21 oz21 oz21)).weak (AQ_ _) (AZ_ (.cons (AB_ v_) (.cons (AB_ (by (simp;omega))) (.cons (AB_ v_) (.cons (AB_ v_) (.cons (AB_ v_) (.cons (AB_ v_) .nil)))))))
theorem tells_6 (k:Int) (h:k=6):VC M_ 134 ([i64 k]) (.agg [bv true,bv false,bv false,bv true,bv false,bv true]):=by
 have oz0:=(c_ ((k==1)=false))
 have oz3:=(c_ ((k==2)=false))
 have oz6:=(c_ ((k==3)=false))
 have oz9:=(y_ ((k==6) = !false))
 have oz18:=(c_ ((k==4)=false))
 exact (cR_ [r_,.r [] [e_,e_,f_,e_,e_,f_],.r [] [e_,e_,f_,f_,f_,e_],.r [] [e_,e_,f_,e_,e_,f_,e_,e_,f_,e_,e_,f_,f_,f_,e_]] (AV.agg [bv (k==6),bv (k==5),bv (k==3),bv true,bv (k==3),bv true]) Tryz.func134 (.c8 oz0 oz0 oz0 oz3 oz3 oz3 oz6 oz6<|.c8 oz6 oz9 oz9 (y_ ((k==6)=true)) oz0 oz0 oz0 oz3<|.c8 oz3 oz3 oz18 oz18 oz18 oz0 oz0 oz0<|.d3 z6_ z6_ z0_)).weak (AQ_ _) (AZ_ (.cons (AB_ g1_) (.cons (AB_ v_) (.cons (AB_ v_) (.cons (.refl _) (.cons (AB_ v_) (.cons (.refl _) .nil)))))))
theorem tells_7 (k:Int) (h:k=7):VC M_ 134 ([i64 k]) (.agg [bv false,bv false,bv false,bv true,bv false,bv true]):=by
 have oz0:=(c_ ((k==1)=false))
 have oz3:=(c_ ((k==2)=false))
 have oz6:=(c_ ((k==3)=false))
 have oz9:=(c_ ((k==6)=false))
 have oz18:=(c_ ((k==4)=false))
 have oz24:=(y_ ((k==7) = !false))
 exact (cR_ [r_,.r [] [e_,e_,f_,e_,e_,f_],.r [] [e_,e_,f_,e_,e_,f_],.r [] [e_,e_,f_,e_,e_,f_,e_,e_,f_,e_,e_,f_,f_,f_,e_]] (AV.agg [bv (k==6),bv (k==5),bv (k==3),bv true,bv (k==3),bv (k==7)]) Tryz.func134 (.c8 oz0 oz0 oz0 oz3 oz3 oz3 oz6 oz6<|.c8 oz6 oz9 oz9 oz9 oz0 oz0 oz0 oz3<|.c8 oz3 oz3 oz18 oz18 oz18 oz0 oz0 oz0<|.d3 oz24 oz24 (y_ ((k==7)=true)))).weak (AQ_ _) (AZ_ (.cons (AB_ v_) (.cons (AB_ v_) (.cons (AB_ v_) (.cons (.refl _) (.cons (AB_ v_) (.cons (AB_ g1_) .nil)))))))
theorem tells_8 (k:Int) (h:k=8):VC M_ 134 ([i64 k]) (.agg [bv false,bv false,bv false,bv true,bv false,bv false]):=by
 have oz0:=(c_ ((k==1)=false))
 have oz3:=(c_ ((k==2)=false))
 have oz6:=(c_ ((k==3)=false))
 have oz9:=(c_ ((k==6)=false))
 have oz18:=(c_ ((k==4)=false))
 have oz24:=(c_ ((k==7)=false))
 exact (cR_ [r_,.r [] [e_,e_,f_,e_,e_,f_],.r [] [e_,e_,f_,e_,e_,f_],.r [] [e_,e_,f_,e_,e_,f_,e_,e_,f_,e_,e_,f_,e_,e_,f_]] (AV.agg [bv (k==6),bv (k==5),bv (k==3),bv (k==8),bv (k==3),bv (k==7)]) Tryz.func134 (.c8 oz0 oz0 oz0 oz3 oz3 oz3 oz6 oz6<|.c8 oz6 oz9 oz9 oz9 oz0 oz0 oz0 oz3<|.c8 oz3 oz3 oz18 oz18 oz18 oz0 oz0 oz0<|.d3 oz24 oz24 oz24)).weak (AQ_ _) (AZ_ (.cons (AB_ v_) (.cons (AB_ v_) (.cons (AB_ v_) (.cons (AB_ g1_) (.cons (AB_ v_) (.cons (AB_ v_) .nil)))))))
theorem tells_9 (k:Int) (h:k<1∨8<k):VC M_ 134 ([i64 k]) (.agg [bv false,bv false,bv false,bv false,bv false,bv false]):=by
 have oz0:=(c_ ((k==1)=false))
 have oz3:=(c_ ((k==2)=false))
 have oz6:=(c_ ((k==3)=false))
 have oz9:=(c_ ((k==6)=false))
 have oz18:=(c_ ((k==4)=false))
 have oz24:=(c_ ((k==7)=false))
 exact (cR_ [r_,.r [] [e_,e_,f_,e_,e_,f_],.r [] [e_,e_,f_,e_,e_,f_],.r [] [e_,e_,f_,e_,e_,f_,e_,e_,f_,e_,e_,f_,e_,e_,f_]] (AV.agg [bv (k==6),bv (k==5),bv (k==3),bv (k==8),bv (k==3),bv (k==7)]) Tryz.func134 (.c8 oz0 oz0 oz0 oz3 oz3 oz3 oz6 oz6<|.c8 oz6 oz9 oz9 oz9 oz0 oz0 oz0 oz3<|.c8 oz3 oz3 oz18 oz18 oz18 oz0 oz0 oz0<|.d3 oz24 oz24 oz24)).weak (AQ_ _) (AZ_ (.cons (AB_ v_) (.cons (AB_ v_) (.cons (AB_ v_) (.cons (AB_ v_) (.cons (AB_ v_) (.cons (AB_ v_) .nil)))))))
theorem tsides_1 (s:Rst) (n:Nod) (h:s.In) (hk:n.kd=1):VM M_ 166 ([.ifc 183 (.agg [.ptr 100000 0 0]),.ptr 100001 0 0,.agg [bv false,bv true,bv true,bv true,bv true,bv true]]) ([(100000,.var (rdC s)),(100001,.var (nodC n))]) (.tup []) ([(100000,.var (rdC (cntS (cntS (cntS (cntS s 1024) 1024) 1024) 1024))),(100001,.var (nodC { n with nk:=cntV s 1024,ns:=cntV (cntS s 1024) 1024,np:=cntV (cntS (cntS s 1024) 1024) 1024,no:=cntV (cntS (cntS (cntS s 1024) 1024) 1024) 1024 }))]):=by
 have oz0:=@side_n
 have oz1:=@tside_nk (s) (n) h
 have oz2:=@tside_ns (cntS s 1024) (Nod.mk n.kd n.na n.nb (cntV s 1024) n.ns n.np n.no n.za n.zb n.w n.b n.qm n.qs n.qz n.rm n.rs n.rz n.lo n.hi) r1_
 have oz9:=@tside_np (cntS (cntS s 1024) 1024) (Nod.mk n.kd n.na n.nb (cntV s 1024) (cntV (cntS s 1024) 1024) n.np n.no n.za n.zb n.w n.b n.qm n.qs n.qz n.rm n.rs n.rz n.lo n.hi) r1_
 have oz10:=@tside_no (cntS (cntS (cntS s 1024) 1024) 1024) (Nod.mk n.kd n.na n.nb (cntV s 1024) (cntV (cntS s 1024) 1024) (cntV (cntS (cntS s 1024) 1024) 1024) n.no n.za n.zb n.w n.b n.qm n.qs n.qz n.rm n.rs n.rz n.lo n.hi) r1_
 exact mR_ [r_,r_,.r [] [.callm [] [] (rM oz0) (oM oz0)],.r [] [.callm [(100000,100000),(100001,100001),(3,100002)] [] (rM oz1) (oM oz1)],.r [] [.callm [(100000,100000),(100001,100001),(3,100002)] [] (rM oz2) (oM oz2)],.r [] [f_,f_,f_,f_,f_,e_,.callm [(100000,100000),(100001,100001),(3,100002)] [] (rM oz9) (oM oz9)],.r [] [.callm [(100000,100000),(100001,100001),(3,100002)] [] (rM oz10) (oM oz10)]] [.drop [5,3],.sort] _ Tryz.func166 (.c8 oz0 oz1 oz2 z6_ z6_ z6_ z6_ z6_<|.d3 z0_ oz9 oz10)
theorem tsides_2 (s:Rst) (n:Nod) (h:s.In) (hk:n.kd=2):VM M_ 166 ([.ifc 183 (.agg [.ptr 100000 0 0]),.ptr 100001 0 0,.agg [bv false,bv true,bv false,bv true,bv true,bv true]]) ([(100000,.var (rdC s)),(100001,.var (nodC n))]) (.tup []) ([(100000,.var (rdC (cntS (cntS (cntS s 1024) 1024) 1024))),(100001,.var (nodC { n with nk:=cntV s 1024,ns:=cntV (cntS s 1024) 1024,np:=cntV (cntS (cntS s 1024) 1024) 1024 }))]):=by
 have oz0:=@side_n
 have oz1:=@tside_nk (s) (n) h
 have oz2:=@tside_ns (cntS s 1024) (Nod.mk n.kd n.na n.nb (cntV s 1024) n.ns n.np n.no n.za n.zb n.w n.b n.qm n.qs n.qz n.rm n.rs n.rz n.lo n.hi) r1_
 have oz9:=@tside_np (cntS (cntS s 1024) 1024) (Nod.mk n.kd n.na n.nb (cntV s 1024) (cntV (cntS s 1024) 1024) n.np n.no n.za n.zb n.w n.b n.qm n.qs n.qz n.rm n.rs n.rz n.lo n.hi) r1_
 exact mR_ [r_,r_,.r [] [.callm [] [] (rM oz0) (oM oz0)],.r [] [.callm [(100000,100000),(100001,100001),(3,100002)] [] (rM oz1) (oM oz1)],.r [] [.callm [(100000,100000),(100001,100001),(3,100002)] [] (rM oz2) (oM oz2)],.r [] [f_,f_,f_,f_,f_,e_,.callm [(100000,100000),(100001,100001),(3,100002)] [] (rM oz9) (oM oz9)],.r [] [.callm [] [] (rM oz0) (oM oz0)]] [.drop [5,3],.sort] _ Tryz.func166 (.c8 oz0 oz1 oz2 z6_ z6_ z6_ z6_ z6_<|.d3 z0_ oz9 oz0)
theorem tsides_3 (s:Rst) (n:Nod) (h:s.In) (hk:n.kd=3):VM M_ 166 ([.ifc 183 (.agg [.ptr 100000 0 0]),.ptr 100001 0 0,.agg [bv false,bv false,bv true,bv true,bv true,bv true]]) ([(100000,.var (rdC s)),(100001,.var (nodC n))]) (.tup []) ([(100000,.var (rdC (cntS s 1024))),(100001,.var (nodC { n with no:=cntV s 1024 }))]):=by
 have oz0:=@side_n
 have oz9:=@VM.pre _ _ ([bv (n.kd==8),AV.any,AV.any]) _ ([]) _ _ _ ([GI.weak 0 (bv false),GI.sort]) _ (@side_n) w_ (.d (AB_ (show ((n.kd==8):Bool)=(false) from v_)))
 have oz10:=@tside_no (s) (n) h
 exact mR_ [r_,r_,.r [] [.callm [] [] (rM oz0) (oM oz0)],.r [] [.callm [] [] (rM oz0) (oM oz0)],.r [] [.callm [] [] (rM oz0) (oM oz0)],.r [] [e_,e_,e_,e_,e_,f_,.callm [] [] (rM oz9) (oM oz9)],.r [] [.callm [(100000,100000),(100001,100001),(3,100002)] [] (rM oz10) (oM oz10)]] [.drop [5,3],.sort] _ Tryz.func166 (.c8 oz0 oz0 oz0 z1_ z1_ z1_ z1_ z1_<|.d3 z1_ oz9 oz10)
theorem tsides_4 (s:Rst) (n:Nod) (h:s.In) (hk:n.kd=4∨n.kd=5):VM M_ 166 ([.ifc 183 (.agg [.ptr 100000 0 0]),.ptr 100001 0 0,.agg [bv false,bv true,bv false,bv false,bv false,bv false]]) ([(100000,.var (rdC s)),(100001,.var (nodC n))]) (.tup []) ([(100000,.var (rdC (cntS (cntS (cntS s 1024) 1024) 1024))),(100001,.var (nodC { n with nk:=cntV s 1024,ns:=cntV (cntS s 1024) 1024,np:=cntV (cntS (cntS s 1024) 1024) 1024 }))]):=by
 have oz0:=@side_n
 have oz1:=@tside_nk (s) (n) h
 have oz2:=@tside_ns (cntS s 1024) (Nod.mk n.kd n.na n.nb (cntV s 1024) n.ns n.np n.no n.za n.zb n.w n.b n.qm n.qs n.qz n.rm n.rs n.rz n.lo n.hi) r1_
 have oz9:=@tside_np (cntS (cntS s 1024) 1024) (Nod.mk n.kd n.na n.nb (cntV s 1024) (cntV (cntS s 1024) 1024) n.np n.no n.za n.zb n.w n.b n.qm n.qs n.qz n.rm n.rs n.rz n.lo n.hi) r1_
 exact mR_ [r_,r_,.r [] [.callm [] [] (rM oz0) (oM oz0)],.r [] [.callm [(100000,100000),(100001,100001),(3,100002)] [] (rM oz1) (oM oz1)],.r [] [.callm [(100000,100000),(100001,100001),(3,100002)] [] (rM oz2) (oM oz2)],.r [] [f_,f_,f_,f_,f_,e_,.callm [(100000,100000),(100001,100001),(3,100002)] [] (rM oz9) (oM oz9)],.r [] [.callm [] [] (rM oz0) (oM oz0)]] [.drop [5,3],.sort] _ Tryz.func166 (.c8 oz0 oz1 oz2 z6_ z6_ z6_ z6_ z6_<|.d3 z0_ oz9 oz0)
theorem tsides_6 (s:Rst) (n:Nod) (h:s.In) (hk:n.kd=6):VM M_ 166 ([.ifc 183 (.agg [.ptr 100000 0 0]),.ptr 100001 0 0,.agg [bv true,bv false,bv false,bv true,bv false,bv true]]) ([(100000,.var (rdC s)),(100001,.var (nodC n))]) (.tup []) ([(100000,.var (rdC (cntS s 1024))),(100001,.var (nodC { n with nb:=cntV s 1024 }))]):=by
 have oz0:=@tside_nb (s) (n) h
 have oz1:=@side_n
 have oz9:=@VM.pre _ _ ([bv (n.kd==8),AV.any,AV.any]) _ ([]) _ _ _ ([GI.weak 0 (bv false),GI.sort]) _ (@side_n) w_ (.d (AB_ (show ((n.kd==8):Bool)=(false) from v_)))
 exact mR_ [r_,r_,.r [] [.callm [(100000,100000),(100001,100001),(3,100002)] [] (rM oz0) (oM oz0)],.r [] [.callm [] [] (rM oz1) (oM oz1)],.r [] [.callm [] [] (rM oz1) (oM oz1)],.r [] [e_,e_,e_,e_,e_,f_,.callm [] [] (rM oz9) (oM oz9)],.r [] [.callm [] [] (rM oz1) (oM oz1)]] [.drop [5,3],.sort] _ Tryz.func166 (.c8 oz0 oz1 oz1 z1_ z1_ z1_ z1_ z1_<|.d3 z1_ oz9 oz1)
theorem tsides_7 (s:Rst) (n:Nod) (h:s.In) (hk:n.kd=7):VM M_ 166 ([.ifc 183 (.agg [.ptr 100000 0 0]),.ptr 100001 0 0,.agg [bv false,bv false,bv false,bv true,bv false,bv true]]) ([(100000,.var (rdC s)),(100001,.var (nodC n))]) (.tup []) ([(100000,.var (rdC s)),(100001,.var (nodC n))]):=by
 have oz0:=@side_n
 have oz9:=@VM.pre _ _ ([bv (n.kd==8),AV.any,AV.any]) _ ([]) _ _ _ ([GI.weak 0 (bv false),GI.sort]) _ (@side_n) w_ (.d (AB_ (show ((n.kd==8):Bool)=(false) from v_)))
 exact mR_ [r_,r_,.r [] [.callm [] [] (rM oz0) (oM oz0)],.r [] [.callm [] [] (rM oz0) (oM oz0)],.r [] [.callm [] [] (rM oz0) (oM oz0)],.r [] [e_,e_,e_,e_,e_,f_,.callm [] [] (rM oz9) (oM oz9)],.r [] [.callm [] [] (rM oz0) (oM oz0)]] [.drop [3,5],.sort] _ Tryz.func166 (.c8 oz0 oz0 oz0 z1_ z1_ z1_ z1_ z1_<|.d3 z1_ oz9 oz0)
theorem tsides_8 (s:Rst) (n:Nod) (h:s.In) (hk:n.kd=8):VM M_ 166 ([.ifc 183 (.agg [.ptr 100000 0 0]),.ptr 100001 0 0,.agg [bv false,bv false,bv false,bv true,bv false,bv false]]) ([(100000,.var (rdC s)),(100001,.var (nodC n))]) (.tup []) ([(100000,.var (rdC (cntS s 1024))),(100001,.var (nodC { n with np:=cntV s 1024 }))]):=by
 have oz0:=@side_n
 have oz9:=@VM.pre _ _ ([bv (n.kd==8),AV.ptr 100001 0 5,AV.ptr 100002 0 0]) _ ([(100000,Blk.var [AV.sl 1 (K_ (row1 .u8) s.fst),i64 s.snd]),(100001,Blk.var [i64 n.kd,i64 n.na,i64 n.nb,i64 n.nk,i64 n.ns,i64 n.np,i64 n.no,i8 n.za,i8 n.zb,AV.sl 1 (K_ (row1 .i8) n.w),AV.sl 1 (K_ (row1 .i32) n.b),i32 n.qm,i64 n.qs,i8 n.qz,i32 n.rm,i64 n.rs,i8 n.rz,i8 n.lo,i8 n.hi]),(100002,Blk.var [AV.ifc 183 (AV.agg [AV.ptr 100000 0 0])])]) _ _ _ ([GI.weak 0 (bv true),GI.sort]) _ (@tside_np (s) (n) h) w_ (.d (AB_ (show ((n.kd==8):Bool)=(true) from g1_)))
 exact mR_ [r_,r_,.r [] [.callm [] [] (rM oz0) (oM oz0)],.r [] [.callm [] [] (rM oz0) (oM oz0)],.r [] [.callm [] [] (rM oz0) (oM oz0)],.r [] [e_,e_,e_,e_,e_,f_,.callm [(100000,100000),(100001,100001),(3,100002)] [] (rM oz9) (oM oz9)],.r [] [.callm [] [] (rM oz0) (oM oz0)]] [.drop [5,3],.sort] _ Tryz.func166 (.c8 oz0 oz0 oz0 z1_ z1_ z1_ z1_ z1_<|.d3 z1_ oz9 oz0)
theorem tsides_9 (s:Rst) (n:Nod) (h:s.In) (hk:n.kd<1∨8<n.kd):VM M_ 166 ([.ifc 183 (.agg [.ptr 100000 0 0]),.ptr 100001 0 0,.agg [bv false,bv false,bv false,bv false,bv false,bv false]]) ([(100000,.var (rdC s)),(100001,.var (nodC n))]) (.tup []) ([(100000,.var (rdC s)),(100001,.var (nodC n))]):=by
 have oz0:=@side_n
 have oz9:=@VM.pre _ _ ([bv (n.kd==8),AV.any,AV.any]) _ ([]) _ _ _ ([GI.weak 0 (bv false),GI.sort]) _ (@side_n) w_ (.d (AB_ (show ((n.kd==8):Bool)=(false) from v_)))
 exact mR_ [r_,r_,.r [] [.callm [] [] (rM oz0) (oM oz0)],.r [] [.callm [] [] (rM oz0) (oM oz0)],.r [] [.callm [] [] (rM oz0) (oM oz0)],.r [] [e_,e_,e_,e_,e_,f_,.callm [] [] (rM oz9) (oM oz9)],.r [] [.callm [] [] (rM oz0) (oM oz0)]] [.drop [3,5],.sort] _ Tryz.func166 (.c8 oz0 oz0 oz0 z1_ z1_ z1_ z1_ z1_<|.d3 z1_ oz9 oz0)
def lstW (s:Rst):List Int:=smlV (cntS s 16384) (cntV s 16384)
def lst1 (s:Rst):Rst:=smlS (cntS s 16384) (cntV s 16384)
def lstB (s:Rst):List Int:=widV (cntS (lst1 s) 16384) (cntV (lst1 s) 16384)
def lstS (s:Rst):Rst:=widS (cntS (lst1 s) 16384) (cntV (lst1 s) 16384)
def sclS (s:Rst):Rst:=cntS (cntS s 2147483647) 62
def sclM (s:Rst):Int:=cntV s 2147483647
def sclH (s:Rst):Int:=cntV (cntS s 2147483647) 62
theorem lst_in {s:Rst} (h:s.In):(lstS s).In:=wid_in (cnt_in (sml_in (cnt_in h _) _) _) _
theorem scl_in {s:Rst} (h:s.In):(sclS s).In:=cnt_in (cnt_in h _) _
theorem tlists_v (s:Rst) (n:Nod) (h:s.In):VM M_ 132 [.ifc 183 (.agg [.ptr 100000 0 0]),.ptr 100001 0 9,.ptr 100001 0 10] [(100000,.var (rdC s)),(100001,.var (nodC n))] (.tup []) [(100000,.var (rdC (lstS s))),(100001,.var (nodC { n with w:=lstW s,b:=lstB s }))]:=tlists_0 s n h
theorem tscale_qv (s:Rst) (n:Nod) (h:s.In):VM M_ 168 [.ifc 183 (.agg [.ptr 100000 0 0]),.ptr 100001 0 11] [(100000,.var (rdC s)),(100001,.var (nodC n))] (.tup []) [(100000,.var (rdC (sclS s))),(100001,.var (nodC { n with qm:=sclM s,qs:=sclH s }))]:=tscale_q s n h
theorem tscale_rv (s:Rst) (n:Nod) (h:s.In):VM M_ 168 [.ifc 183 (.agg [.ptr 100000 0 0]),.ptr 100001 0 14] [(100000,.var (rdC s)),(100001,.var (nodC n))] (.tup []) [(100000,.var (rdC (sclS s))),(100001,.var (nodC { n with rm:=sclM s,rs:=sclH s }))]:=tscale_r s n h
def ts_1 (s:Rst):Rst:=(smlS (smlS (smlS (sclS (lstS (smlS (cntS (cntS (cntS (cntS (cntS (cntS s 9) 1024) 1024) 1024) 1024) 1024) 1))) 1) 1) 1)
def tn_1 (s:Rst) (n:Nod):Nod:={ n with kd:=cntV s 9,na:=cntV (cntS s 9) 1024,nk:=cntV (cntS (cntS s 9) 1024) 1024,ns:=cntV (cntS (cntS (cntS s 9) 1024) 1024) 1024,np:=cntV (cntS (cntS (cntS (cntS s 9) 1024) 1024) 1024) 1024,no:=cntV (cntS (cntS (cntS (cntS (cntS s 9) 1024) 1024) 1024) 1024) 1024,za:=oneV (cntS (cntS (cntS (cntS (cntS (cntS s 9) 1024) 1024) 1024) 1024) 1024),w:=lstW (smlS (cntS (cntS (cntS (cntS (cntS (cntS s 9) 1024) 1024) 1024) 1024) 1024) 1),b:=lstB (smlS (cntS (cntS (cntS (cntS (cntS (cntS s 9) 1024) 1024) 1024) 1024) 1024) 1),qm:=sclM (lstS (smlS (cntS (cntS (cntS (cntS (cntS (cntS s 9) 1024) 1024) 1024) 1024) 1024) 1)),qs:=sclH (lstS (smlS (cntS (cntS (cntS (cntS (cntS (cntS s 9) 1024) 1024) 1024) 1024) 1024) 1)),qz:=oneV (sclS (lstS (smlS (cntS (cntS (cntS (cntS (cntS (cntS s 9) 1024) 1024) 1024) 1024) 1024) 1))),lo:=oneV (smlS (sclS (lstS (smlS (cntS (cntS (cntS (cntS (cntS (cntS s 9) 1024) 1024) 1024) 1024) 1024) 1))) 1),hi:=oneV (smlS (smlS (sclS (lstS (smlS (cntS (cntS (cntS (cntS (cntS (cntS s 9) 1024) 1024) 1024) 1024) 1024) 1))) 1) 1) }
theorem twalk_1 (s:Rst) (n:Nod) (h:s.In) (hk:cntV s 9=1) (z1:n.za=0) (z2:n.zb=0) (z3:n.qz=0) (z4:n.lo=0) (z5:n.hi=0):VM M_ 131 ([.ifc 183 (.agg [.ptr 100000 0 0]),.ptr 100001 0 0]) ([(100000,.var (rdC s)),(100001,.var (nodC n))]) (.tup []) ([(100000,.var (rdC (smlS (smlS (smlS (sclS (lstS (smlS (cntS (cntS (cntS (cntS (cntS (cntS s 9) 1024) 1024) 1024) 1024) 1024) 1))) 1) 1) 1))),(100001,.var (nodC { n with kd:=cntV s 9,na:=cntV (cntS s 9) 1024,nk:=cntV (cntS (cntS s 9) 1024) 1024,ns:=cntV (cntS (cntS (cntS s 9) 1024) 1024) 1024,np:=cntV (cntS (cntS (cntS (cntS s 9) 1024) 1024) 1024) 1024,no:=cntV (cntS (cntS (cntS (cntS (cntS s 9) 1024) 1024) 1024) 1024) 1024,za:=oneV (cntS (cntS (cntS (cntS (cntS (cntS s 9) 1024) 1024) 1024) 1024) 1024),w:=lstW (smlS (cntS (cntS (cntS (cntS (cntS (cntS s 9) 1024) 1024) 1024) 1024) 1024) 1),b:=lstB (smlS (cntS (cntS (cntS (cntS (cntS (cntS s 9) 1024) 1024) 1024) 1024) 1024) 1),qm:=sclM (lstS (smlS (cntS (cntS (cntS (cntS (cntS (cntS s 9) 1024) 1024) 1024) 1024) 1024) 1)),qs:=sclH (lstS (smlS (cntS (cntS (cntS (cntS (cntS (cntS s 9) 1024) 1024) 1024) 1024) 1024) 1)),qz:=oneV (sclS (lstS (smlS (cntS (cntS (cntS (cntS (cntS (cntS s 9) 1024) 1024) 1024) 1024) 1024) 1))),lo:=oneV (smlS (sclS (lstS (smlS (cntS (cntS (cntS (cntS (cntS (cntS s 9) 1024) 1024) 1024) 1024) 1024) 1))) 1),hi:=oneV (smlS (smlS (sclS (lstS (smlS (cntS (cntS (cntS (cntS (cntS (cntS s 9) 1024) 1024) 1024) 1024) 1024) 1))) 1) 1) }))]):=by
 have oz0:=(show NilNo M_ (183:Nat) "stepwell/pack.number" from (nilNo (f:=97) w_))
 have oz1:=@tnum_kd (s) (n) (9) h a_ a_
 have oz2:=(show MethodIs M_ (183:Nat) "stepwell/pack.number" (methF M_ (183:Nat) "stepwell/pack.number") from (methodIs w_))
 have oz4:=@tnum_na (cntS s 9) (Nod.mk (cntV s 9) n.na n.nb n.nk n.ns n.np n.no n.za n.zb n.w n.b n.qm n.qs n.qz n.rm n.rs n.rz n.lo n.hi) (1024) l_ z_ z_
 have oz6:=@of_1 (cntV s 9) hk
 have oz7:=@tsides_1 (cntS (cntS s 9) 1024) (Nod.mk (cntV s 9) (cntV (cntS s 9) 1024) n.nb n.nk n.ns n.np n.no n.za n.zb n.w n.b n.qm n.qs n.qz n.rm n.rs n.rz n.lo n.hi) l_ hk
 have oz9:=@tone_za (cntS (cntS (cntS (cntS (cntS (cntS s 9) 1024) 1024) 1024) 1024) 1024) (Nod.mk (cntV s 9) (cntV (cntS s 9) 1024) n.nb (cntV (cntS (cntS s 9) 1024) 1024) (cntV (cntS (cntS (cntS s 9) 1024) 1024) 1024) (cntV (cntS (cntS (cntS (cntS s 9) 1024) 1024) 1024) 1024) (cntV (cntS (cntS (cntS (cntS (cntS s 9) 1024) 1024) 1024) 1024) 1024) n.za n.zb n.w n.b n.qm n.qs n.qz n.rm n.rs n.rz n.lo n.hi) l_ z1
 have oz12:=@tlists_v (smlS (cntS (cntS (cntS (cntS (cntS (cntS s 9) 1024) 1024) 1024) 1024) 1024) 1) (Nod.mk (cntV s 9) (cntV (cntS s 9) 1024) n.nb (cntV (cntS (cntS s 9) 1024) 1024) (cntV (cntS (cntS (cntS s 9) 1024) 1024) 1024) (cntV (cntS (cntS (cntS (cntS s 9) 1024) 1024) 1024) 1024) (cntV (cntS (cntS (cntS (cntS (cntS s 9) 1024) 1024) 1024) 1024) 1024) (oneV (cntS (cntS (cntS (cntS (cntS (cntS s 9) 1024) 1024) 1024) 1024) 1024)) n.zb n.w n.b n.qm n.qs n.qz n.rm n.rs n.rz n.lo n.hi) l_
 have oz14:=@tscale_qv (lstS (smlS (cntS (cntS (cntS (cntS (cntS (cntS s 9) 1024) 1024) 1024) 1024) 1024) 1)) (Nod.mk (cntV s 9) (cntV (cntS s 9) 1024) n.nb (cntV (cntS (cntS s 9) 1024) 1024) (cntV (cntS (cntS (cntS s 9) 1024) 1024) 1024) (cntV (cntS (cntS (cntS (cntS s 9) 1024) 1024) 1024) 1024) (cntV (cntS (cntS (cntS (cntS (cntS s 9) 1024) 1024) 1024) 1024) 1024) (oneV (cntS (cntS (cntS (cntS (cntS (cntS s 9) 1024) 1024) 1024) 1024) 1024)) n.zb (lstW (smlS (cntS (cntS (cntS (cntS (cntS (cntS s 9) 1024) 1024) 1024) 1024) 1024) 1)) (lstB (smlS (cntS (cntS (cntS (cntS (cntS (cntS s 9) 1024) 1024) 1024) 1024) 1024) 1)) n.qm n.qs n.qz n.rm n.rs n.rz n.lo n.hi) l_
 have oz15:=@tone_qz (sclS (lstS (smlS (cntS (cntS (cntS (cntS (cntS (cntS s 9) 1024) 1024) 1024) 1024) 1024) 1))) (Nod.mk (cntV s 9) (cntV (cntS s 9) 1024) n.nb (cntV (cntS (cntS s 9) 1024) 1024) (cntV (cntS (cntS (cntS s 9) 1024) 1024) 1024) (cntV (cntS (cntS (cntS (cntS s 9) 1024) 1024) 1024) 1024) (cntV (cntS (cntS (cntS (cntS (cntS s 9) 1024) 1024) 1024) 1024) 1024) (oneV (cntS (cntS (cntS (cntS (cntS (cntS s 9) 1024) 1024) 1024) 1024) 1024)) n.zb (lstW (smlS (cntS (cntS (cntS (cntS (cntS (cntS s 9) 1024) 1024) 1024) 1024) 1024) 1)) (lstB (smlS (cntS (cntS (cntS (cntS (cntS (cntS s 9) 1024) 1024) 1024) 1024) 1024) 1)) (sclM (lstS (smlS (cntS (cntS (cntS (cntS (cntS (cntS s 9) 1024) 1024) 1024) 1024) 1024) 1))) (sclH (lstS (smlS (cntS (cntS (cntS (cntS (cntS (cntS s 9) 1024) 1024) 1024) 1024) 1024) 1))) n.qz n.rm n.rs n.rz n.lo n.hi) l_ z3
 have oz17:=@tone_lo (smlS (sclS (lstS (smlS (cntS (cntS (cntS (cntS (cntS (cntS s 9) 1024) 1024) 1024) 1024) 1024) 1))) 1) (Nod.mk (cntV s 9) (cntV (cntS s 9) 1024) n.nb (cntV (cntS (cntS s 9) 1024) 1024) (cntV (cntS (cntS (cntS s 9) 1024) 1024) 1024) (cntV (cntS (cntS (cntS (cntS s 9) 1024) 1024) 1024) 1024) (cntV (cntS (cntS (cntS (cntS (cntS s 9) 1024) 1024) 1024) 1024) 1024) (oneV (cntS (cntS (cntS (cntS (cntS (cntS s 9) 1024) 1024) 1024) 1024) 1024)) n.zb (lstW (smlS (cntS (cntS (cntS (cntS (cntS (cntS s 9) 1024) 1024) 1024) 1024) 1024) 1)) (lstB (smlS (cntS (cntS (cntS (cntS (cntS (cntS s 9) 1024) 1024) 1024) 1024) 1024) 1)) (sclM (lstS (smlS (cntS (cntS (cntS (cntS (cntS (cntS s 9) 1024) 1024) 1024) 1024) 1024) 1))) (sclH (lstS (smlS (cntS (cntS (cntS (cntS (cntS (cntS s 9) 1024) 1024) 1024) 1024) 1024) 1))) (oneV (sclS (lstS (smlS (cntS (cntS (cntS (cntS (cntS (cntS s 9) 1024) 1024) 1024) 1024) 1024) 1)))) n.rm n.rs n.rz n.lo n.hi) l_ z4
 have oz18:=@tone_hi (smlS (smlS (sclS (lstS (smlS (cntS (cntS (cntS (cntS (cntS (cntS s 9) 1024) 1024) 1024) 1024) 1024) 1))) 1) 1) (Nod.mk (cntV s 9) (cntV (cntS s 9) 1024) n.nb (cntV (cntS (cntS s 9) 1024) 1024) (cntV (cntS (cntS (cntS s 9) 1024) 1024) 1024) (cntV (cntS (cntS (cntS (cntS s 9) 1024) 1024) 1024) 1024) (cntV (cntS (cntS (cntS (cntS (cntS s 9) 1024) 1024) 1024) 1024) 1024) (oneV (cntS (cntS (cntS (cntS (cntS (cntS s 9) 1024) 1024) 1024) 1024) 1024)) n.zb (lstW (smlS (cntS (cntS (cntS (cntS (cntS (cntS s 9) 1024) 1024) 1024) 1024) 1024) 1)) (lstB (smlS (cntS (cntS (cntS (cntS (cntS (cntS s 9) 1024) 1024) 1024) 1024) 1024) 1)) (sclM (lstS (smlS (cntS (cntS (cntS (cntS (cntS (cntS s 9) 1024) 1024) 1024) 1024) 1024) 1))) (sclH (lstS (smlS (cntS (cntS (cntS (cntS (cntS (cntS s 9) 1024) 1024) 1024) 1024) 1024) 1))) (oneV (sclS (lstS (smlS (cntS (cntS (cntS (cntS (cntS (cntS s 9) 1024) 1024) 1024) 1024) 1024) 1)))) n.rm n.rs n.rz (oneV (smlS (sclS (lstS (smlS (cntS (cntS (cntS (cntS (cntS (cntS s 9) 1024) 1024) 1024) 1024) 1024) 1))) 1)) n.hi) l_ z5
 exact mR_ [.r [] [cn oz1],.r [] [cn oz4],.r [] [cr oz6],.r [] [cn oz7],r_,b_,.r [] [cn oz9],r_,d_,r_,b_,.r [] [cn oz12],r_,d_,.r [] [cn oz14],.r [] [cn oz15],r_,d_,.r [] [cn oz17],.r [] [cn oz18]] [.drop [4],.sort] _ Tryz.func131 (.c8 oz0 oz1 oz2 oz0 oz4 oz2 oz6 oz7<|.c8 z0_ oz9 z1_ z0_ oz12 z1_ oz14 oz15<|.d3 z1_ oz17 oz18)
theorem twalk_1v (s:Rst) (n:Nod) (h:s.In) (hk:cntV s 9=1) (z1:n.za=0) (z2:n.zb=0) (z3:n.qz=0) (z4:n.lo=0) (z5:n.hi=0):VM M_ 131 [.ifc 183 (.agg [.ptr 100000 0 0]),.ptr 100001 0 0] [(100000,.var (rdC s)),(100001,.var (nodC n))] (.tup []) [(100000,.var (rdC (ts_1 s))),(100001,.var (nodC (tn_1 s n)))]:=twalk_1 s n h hk z1 z2 z3 z4 z5
def ts_2 (s:Rst):Rst:=(smlS (smlS (smlS (sclS (lstS (smlS (cntS (cntS (cntS (cntS (cntS s 9) 1024) 1024) 1024) 1024) 1))) 1) 1) 1)
def tn_2 (s:Rst) (n:Nod):Nod:={ n with kd:=cntV s 9,na:=cntV (cntS s 9) 1024,nk:=cntV (cntS (cntS s 9) 1024) 1024,ns:=cntV (cntS (cntS (cntS s 9) 1024) 1024) 1024,np:=cntV (cntS (cntS (cntS (cntS s 9) 1024) 1024) 1024) 1024,za:=oneV (cntS (cntS (cntS (cntS (cntS s 9) 1024) 1024) 1024) 1024),w:=lstW (smlS (cntS (cntS (cntS (cntS (cntS s 9) 1024) 1024) 1024) 1024) 1),b:=lstB (smlS (cntS (cntS (cntS (cntS (cntS s 9) 1024) 1024) 1024) 1024) 1),qm:=sclM (lstS (smlS (cntS (cntS (cntS (cntS (cntS s 9) 1024) 1024) 1024) 1024) 1)),qs:=sclH (lstS (smlS (cntS (cntS (cntS (cntS (cntS s 9) 1024) 1024) 1024) 1024) 1)),qz:=oneV (sclS (lstS (smlS (cntS (cntS (cntS (cntS (cntS s 9) 1024) 1024) 1024) 1024) 1))),lo:=oneV (smlS (sclS (lstS (smlS (cntS (cntS (cntS (cntS (cntS s 9) 1024) 1024) 1024) 1024) 1))) 1),hi:=oneV (smlS (smlS (sclS (lstS (smlS (cntS (cntS (cntS (cntS (cntS s 9) 1024) 1024) 1024) 1024) 1))) 1) 1) }
theorem twalk_2 (s:Rst) (n:Nod) (h:s.In) (hk:cntV s 9=2) (z1:n.za=0) (z2:n.zb=0) (z3:n.qz=0) (z4:n.lo=0) (z5:n.hi=0):VM M_ 131 ([.ifc 183 (.agg [.ptr 100000 0 0]),.ptr 100001 0 0]) ([(100000,.var (rdC s)),(100001,.var (nodC n))]) (.tup []) ([(100000,.var (rdC (smlS (smlS (smlS (sclS (lstS (smlS (cntS (cntS (cntS (cntS (cntS s 9) 1024) 1024) 1024) 1024) 1))) 1) 1) 1))),(100001,.var (nodC { n with kd:=cntV s 9,na:=cntV (cntS s 9) 1024,nk:=cntV (cntS (cntS s 9) 1024) 1024,ns:=cntV (cntS (cntS (cntS s 9) 1024) 1024) 1024,np:=cntV (cntS (cntS (cntS (cntS s 9) 1024) 1024) 1024) 1024,za:=oneV (cntS (cntS (cntS (cntS (cntS s 9) 1024) 1024) 1024) 1024),w:=lstW (smlS (cntS (cntS (cntS (cntS (cntS s 9) 1024) 1024) 1024) 1024) 1),b:=lstB (smlS (cntS (cntS (cntS (cntS (cntS s 9) 1024) 1024) 1024) 1024) 1),qm:=sclM (lstS (smlS (cntS (cntS (cntS (cntS (cntS s 9) 1024) 1024) 1024) 1024) 1)),qs:=sclH (lstS (smlS (cntS (cntS (cntS (cntS (cntS s 9) 1024) 1024) 1024) 1024) 1)),qz:=oneV (sclS (lstS (smlS (cntS (cntS (cntS (cntS (cntS s 9) 1024) 1024) 1024) 1024) 1))),lo:=oneV (smlS (sclS (lstS (smlS (cntS (cntS (cntS (cntS (cntS s 9) 1024) 1024) 1024) 1024) 1))) 1),hi:=oneV (smlS (smlS (sclS (lstS (smlS (cntS (cntS (cntS (cntS (cntS s 9) 1024) 1024) 1024) 1024) 1))) 1) 1) }))]):=by
 have oz0:=(show NilNo M_ (183:Nat) "stepwell/pack.number" from (nilNo (f:=97) w_))
 have oz1:=@tnum_kd (s) (n) (9) h a_ a_
 have oz2:=(show MethodIs M_ (183:Nat) "stepwell/pack.number" (methF M_ (183:Nat) "stepwell/pack.number") from (methodIs w_))
 have oz4:=@tnum_na (cntS s 9) (Nod.mk (cntV s 9) n.na n.nb n.nk n.ns n.np n.no n.za n.zb n.w n.b n.qm n.qs n.qz n.rm n.rs n.rz n.lo n.hi) (1024) l_ z_ z_
 have oz6:=@of_2 (cntV s 9) hk
 have oz7:=@tsides_2 (cntS (cntS s 9) 1024) (Nod.mk (cntV s 9) (cntV (cntS s 9) 1024) n.nb n.nk n.ns n.np n.no n.za n.zb n.w n.b n.qm n.qs n.qz n.rm n.rs n.rz n.lo n.hi) l_ hk
 have oz9:=@tone_za (cntS (cntS (cntS (cntS (cntS s 9) 1024) 1024) 1024) 1024) (Nod.mk (cntV s 9) (cntV (cntS s 9) 1024) n.nb (cntV (cntS (cntS s 9) 1024) 1024) (cntV (cntS (cntS (cntS s 9) 1024) 1024) 1024) (cntV (cntS (cntS (cntS (cntS s 9) 1024) 1024) 1024) 1024) n.no n.za n.zb n.w n.b n.qm n.qs n.qz n.rm n.rs n.rz n.lo n.hi) l_ z1
 have oz12:=@tlists_v (smlS (cntS (cntS (cntS (cntS (cntS s 9) 1024) 1024) 1024) 1024) 1) (Nod.mk (cntV s 9) (cntV (cntS s 9) 1024) n.nb (cntV (cntS (cntS s 9) 1024) 1024) (cntV (cntS (cntS (cntS s 9) 1024) 1024) 1024) (cntV (cntS (cntS (cntS (cntS s 9) 1024) 1024) 1024) 1024) n.no (oneV (cntS (cntS (cntS (cntS (cntS s 9) 1024) 1024) 1024) 1024)) n.zb n.w n.b n.qm n.qs n.qz n.rm n.rs n.rz n.lo n.hi) l_
 have oz14:=@tscale_qv (lstS (smlS (cntS (cntS (cntS (cntS (cntS s 9) 1024) 1024) 1024) 1024) 1)) (Nod.mk (cntV s 9) (cntV (cntS s 9) 1024) n.nb (cntV (cntS (cntS s 9) 1024) 1024) (cntV (cntS (cntS (cntS s 9) 1024) 1024) 1024) (cntV (cntS (cntS (cntS (cntS s 9) 1024) 1024) 1024) 1024) n.no (oneV (cntS (cntS (cntS (cntS (cntS s 9) 1024) 1024) 1024) 1024)) n.zb (lstW (smlS (cntS (cntS (cntS (cntS (cntS s 9) 1024) 1024) 1024) 1024) 1)) (lstB (smlS (cntS (cntS (cntS (cntS (cntS s 9) 1024) 1024) 1024) 1024) 1)) n.qm n.qs n.qz n.rm n.rs n.rz n.lo n.hi) l_
 have oz15:=@tone_qz (sclS (lstS (smlS (cntS (cntS (cntS (cntS (cntS s 9) 1024) 1024) 1024) 1024) 1))) (Nod.mk (cntV s 9) (cntV (cntS s 9) 1024) n.nb (cntV (cntS (cntS s 9) 1024) 1024) (cntV (cntS (cntS (cntS s 9) 1024) 1024) 1024) (cntV (cntS (cntS (cntS (cntS s 9) 1024) 1024) 1024) 1024) n.no (oneV (cntS (cntS (cntS (cntS (cntS s 9) 1024) 1024) 1024) 1024)) n.zb (lstW (smlS (cntS (cntS (cntS (cntS (cntS s 9) 1024) 1024) 1024) 1024) 1)) (lstB (smlS (cntS (cntS (cntS (cntS (cntS s 9) 1024) 1024) 1024) 1024) 1)) (sclM (lstS (smlS (cntS (cntS (cntS (cntS (cntS s 9) 1024) 1024) 1024) 1024) 1))) (sclH (lstS (smlS (cntS (cntS (cntS (cntS (cntS s 9) 1024) 1024) 1024) 1024) 1))) n.qz n.rm n.rs n.rz n.lo n.hi) l_ z3
 have oz17:=@tone_lo (smlS (sclS (lstS (smlS (cntS (cntS (cntS (cntS (cntS s 9) 1024) 1024) 1024) 1024) 1))) 1) (Nod.mk (cntV s 9) (cntV (cntS s 9) 1024) n.nb (cntV (cntS (cntS s 9) 1024) 1024) (cntV (cntS (cntS (cntS s 9) 1024) 1024) 1024) (cntV (cntS (cntS (cntS (cntS s 9) 1024) 1024) 1024) 1024) n.no (oneV (cntS (cntS (cntS (cntS (cntS s 9) 1024) 1024) 1024) 1024)) n.zb (lstW (smlS (cntS (cntS (cntS (cntS (cntS s 9) 1024) 1024) 1024) 1024) 1)) (lstB (smlS (cntS (cntS (cntS (cntS (cntS s 9) 1024) 1024) 1024) 1024) 1)) (sclM (lstS (smlS (cntS (cntS (cntS (cntS (cntS s 9) 1024) 1024) 1024) 1024) 1))) (sclH (lstS (smlS (cntS (cntS (cntS (cntS (cntS s 9) 1024) 1024) 1024) 1024) 1))) (oneV (sclS (lstS (smlS (cntS (cntS (cntS (cntS (cntS s 9) 1024) 1024) 1024) 1024) 1)))) n.rm n.rs n.rz n.lo n.hi) l_ z4
 have oz18:=@tone_hi (smlS (smlS (sclS (lstS (smlS (cntS (cntS (cntS (cntS (cntS s 9) 1024) 1024) 1024) 1024) 1))) 1) 1) (Nod.mk (cntV s 9) (cntV (cntS s 9) 1024) n.nb (cntV (cntS (cntS s 9) 1024) 1024) (cntV (cntS (cntS (cntS s 9) 1024) 1024) 1024) (cntV (cntS (cntS (cntS (cntS s 9) 1024) 1024) 1024) 1024) n.no (oneV (cntS (cntS (cntS (cntS (cntS s 9) 1024) 1024) 1024) 1024)) n.zb (lstW (smlS (cntS (cntS (cntS (cntS (cntS s 9) 1024) 1024) 1024) 1024) 1)) (lstB (smlS (cntS (cntS (cntS (cntS (cntS s 9) 1024) 1024) 1024) 1024) 1)) (sclM (lstS (smlS (cntS (cntS (cntS (cntS (cntS s 9) 1024) 1024) 1024) 1024) 1))) (sclH (lstS (smlS (cntS (cntS (cntS (cntS (cntS s 9) 1024) 1024) 1024) 1024) 1))) (oneV (sclS (lstS (smlS (cntS (cntS (cntS (cntS (cntS s 9) 1024) 1024) 1024) 1024) 1)))) n.rm n.rs n.rz (oneV (smlS (sclS (lstS (smlS (cntS (cntS (cntS (cntS (cntS s 9) 1024) 1024) 1024) 1024) 1))) 1)) n.hi) l_ z5
 exact mR_ [.r [] [cn oz1],.r [] [cn oz4],.r [] [cr oz6],.r [] [cn oz7],r_,b_,.r [] [cn oz9],r_,d_,r_,b_,.r [] [cn oz12],r_,d_,.r [] [cn oz14],.r [] [cn oz15],r_,d_,.r [] [cn oz17],.r [] [cn oz18]] [.drop [4],.sort] _ Tryz.func131 (.c8 oz0 oz1 oz2 oz0 oz4 oz2 oz6 oz7<|.c8 z0_ oz9 z1_ z0_ oz12 z1_ oz14 oz15<|.d3 z1_ oz17 oz18)
theorem twalk_2v (s:Rst) (n:Nod) (h:s.In) (hk:cntV s 9=2) (z1:n.za=0) (z2:n.zb=0) (z3:n.qz=0) (z4:n.lo=0) (z5:n.hi=0):VM M_ 131 [.ifc 183 (.agg [.ptr 100000 0 0]),.ptr 100001 0 0] [(100000,.var (rdC s)),(100001,.var (nodC n))] (.tup []) [(100000,.var (rdC (ts_2 s))),(100001,.var (nodC (tn_2 s n)))]:=twalk_2 s n h hk z1 z2 z3 z4 z5
def ts_3 (s:Rst):Rst:=(smlS (smlS (smlS (sclS (lstS (smlS (cntS (cntS (cntS s 9) 1024) 1024) 1))) 1) 1) 1)
def tn_3 (s:Rst) (n:Nod):Nod:={ n with kd:=cntV s 9,na:=cntV (cntS s 9) 1024,no:=cntV (cntS (cntS s 9) 1024) 1024,za:=oneV (cntS (cntS (cntS s 9) 1024) 1024),w:=lstW (smlS (cntS (cntS (cntS s 9) 1024) 1024) 1),b:=lstB (smlS (cntS (cntS (cntS s 9) 1024) 1024) 1),qm:=sclM (lstS (smlS (cntS (cntS (cntS s 9) 1024) 1024) 1)),qs:=sclH (lstS (smlS (cntS (cntS (cntS s 9) 1024) 1024) 1)),qz:=oneV (sclS (lstS (smlS (cntS (cntS (cntS s 9) 1024) 1024) 1))),lo:=oneV (smlS (sclS (lstS (smlS (cntS (cntS (cntS s 9) 1024) 1024) 1))) 1),hi:=oneV (smlS (smlS (sclS (lstS (smlS (cntS (cntS (cntS s 9) 1024) 1024) 1))) 1) 1) }
theorem twalk_3 (s:Rst) (n:Nod) (h:s.In) (hk:cntV s 9=3) (z1:n.za=0) (z2:n.zb=0) (z3:n.qz=0) (z4:n.lo=0) (z5:n.hi=0):VM M_ 131 ([.ifc 183 (.agg [.ptr 100000 0 0]),.ptr 100001 0 0]) ([(100000,.var (rdC s)),(100001,.var (nodC n))]) (.tup []) ([(100000,.var (rdC (smlS (smlS (smlS (sclS (lstS (smlS (cntS (cntS (cntS s 9) 1024) 1024) 1))) 1) 1) 1))),(100001,.var (nodC { n with kd:=cntV s 9,na:=cntV (cntS s 9) 1024,no:=cntV (cntS (cntS s 9) 1024) 1024,za:=oneV (cntS (cntS (cntS s 9) 1024) 1024),w:=lstW (smlS (cntS (cntS (cntS s 9) 1024) 1024) 1),b:=lstB (smlS (cntS (cntS (cntS s 9) 1024) 1024) 1),qm:=sclM (lstS (smlS (cntS (cntS (cntS s 9) 1024) 1024) 1)),qs:=sclH (lstS (smlS (cntS (cntS (cntS s 9) 1024) 1024) 1)),qz:=oneV (sclS (lstS (smlS (cntS (cntS (cntS s 9) 1024) 1024) 1))),lo:=oneV (smlS (sclS (lstS (smlS (cntS (cntS (cntS s 9) 1024) 1024) 1))) 1),hi:=oneV (smlS (smlS (sclS (lstS (smlS (cntS (cntS (cntS s 9) 1024) 1024) 1))) 1) 1) }))]):=by
 have oz0:=(show NilNo M_ (183:Nat) "stepwell/pack.number" from (nilNo (f:=97) w_))
 have oz1:=@tnum_kd (s) (n) (9) h a_ a_
 have oz2:=(show MethodIs M_ (183:Nat) "stepwell/pack.number" (methF M_ (183:Nat) "stepwell/pack.number") from (methodIs w_))
 have oz4:=@tnum_na (cntS s 9) (Nod.mk (cntV s 9) n.na n.nb n.nk n.ns n.np n.no n.za n.zb n.w n.b n.qm n.qs n.qz n.rm n.rs n.rz n.lo n.hi) (1024) l_ z_ z_
 have oz6:=@of_3 (cntV s 9) hk
 have oz7:=@tsides_3 (cntS (cntS s 9) 1024) (Nod.mk (cntV s 9) (cntV (cntS s 9) 1024) n.nb n.nk n.ns n.np n.no n.za n.zb n.w n.b n.qm n.qs n.qz n.rm n.rs n.rz n.lo n.hi) l_ hk
 have oz9:=@tone_za (cntS (cntS (cntS s 9) 1024) 1024) (Nod.mk (cntV s 9) (cntV (cntS s 9) 1024) n.nb n.nk n.ns n.np (cntV (cntS (cntS s 9) 1024) 1024) n.za n.zb n.w n.b n.qm n.qs n.qz n.rm n.rs n.rz n.lo n.hi) l_ z1
 have oz12:=@tlists_v (smlS (cntS (cntS (cntS s 9) 1024) 1024) 1) (Nod.mk (cntV s 9) (cntV (cntS s 9) 1024) n.nb n.nk n.ns n.np (cntV (cntS (cntS s 9) 1024) 1024) (oneV (cntS (cntS (cntS s 9) 1024) 1024)) n.zb n.w n.b n.qm n.qs n.qz n.rm n.rs n.rz n.lo n.hi) l_
 have oz14:=@tscale_qv (lstS (smlS (cntS (cntS (cntS s 9) 1024) 1024) 1)) (Nod.mk (cntV s 9) (cntV (cntS s 9) 1024) n.nb n.nk n.ns n.np (cntV (cntS (cntS s 9) 1024) 1024) (oneV (cntS (cntS (cntS s 9) 1024) 1024)) n.zb (lstW (smlS (cntS (cntS (cntS s 9) 1024) 1024) 1)) (lstB (smlS (cntS (cntS (cntS s 9) 1024) 1024) 1)) n.qm n.qs n.qz n.rm n.rs n.rz n.lo n.hi) l_
 have oz15:=@tone_qz (sclS (lstS (smlS (cntS (cntS (cntS s 9) 1024) 1024) 1))) (Nod.mk (cntV s 9) (cntV (cntS s 9) 1024) n.nb n.nk n.ns n.np (cntV (cntS (cntS s 9) 1024) 1024) (oneV (cntS (cntS (cntS s 9) 1024) 1024)) n.zb (lstW (smlS (cntS (cntS (cntS s 9) 1024) 1024) 1)) (lstB (smlS (cntS (cntS (cntS s 9) 1024) 1024) 1)) (sclM (lstS (smlS (cntS (cntS (cntS s 9) 1024) 1024) 1))) (sclH (lstS (smlS (cntS (cntS (cntS s 9) 1024) 1024) 1))) n.qz n.rm n.rs n.rz n.lo n.hi) l_ z3
 have oz17:=@tone_lo (smlS (sclS (lstS (smlS (cntS (cntS (cntS s 9) 1024) 1024) 1))) 1) (Nod.mk (cntV s 9) (cntV (cntS s 9) 1024) n.nb n.nk n.ns n.np (cntV (cntS (cntS s 9) 1024) 1024) (oneV (cntS (cntS (cntS s 9) 1024) 1024)) n.zb (lstW (smlS (cntS (cntS (cntS s 9) 1024) 1024) 1)) (lstB (smlS (cntS (cntS (cntS s 9) 1024) 1024) 1)) (sclM (lstS (smlS (cntS (cntS (cntS s 9) 1024) 1024) 1))) (sclH (lstS (smlS (cntS (cntS (cntS s 9) 1024) 1024) 1))) (oneV (sclS (lstS (smlS (cntS (cntS (cntS s 9) 1024) 1024) 1)))) n.rm n.rs n.rz n.lo n.hi) l_ z4
 have oz18:=@tone_hi (smlS (smlS (sclS (lstS (smlS (cntS (cntS (cntS s 9) 1024) 1024) 1))) 1) 1) (Nod.mk (cntV s 9) (cntV (cntS s 9) 1024) n.nb n.nk n.ns n.np (cntV (cntS (cntS s 9) 1024) 1024) (oneV (cntS (cntS (cntS s 9) 1024) 1024)) n.zb (lstW (smlS (cntS (cntS (cntS s 9) 1024) 1024) 1)) (lstB (smlS (cntS (cntS (cntS s 9) 1024) 1024) 1)) (sclM (lstS (smlS (cntS (cntS (cntS s 9) 1024) 1024) 1))) (sclH (lstS (smlS (cntS (cntS (cntS s 9) 1024) 1024) 1))) (oneV (sclS (lstS (smlS (cntS (cntS (cntS s 9) 1024) 1024) 1)))) n.rm n.rs n.rz (oneV (smlS (sclS (lstS (smlS (cntS (cntS (cntS s 9) 1024) 1024) 1))) 1)) n.hi) l_ z5
 exact mR_ [.r [] [cn oz1],.r [] [cn oz4],.r [] [cr oz6],.r [] [cn oz7],r_,b_,.r [] [cn oz9],r_,d_,r_,b_,.r [] [cn oz12],r_,d_,.r [] [cn oz14],.r [] [cn oz15],r_,d_,.r [] [cn oz17],.r [] [cn oz18]] [.drop [4],.sort] _ Tryz.func131 (.c8 oz0 oz1 oz2 oz0 oz4 oz2 oz6 oz7<|.c8 z0_ oz9 z1_ z0_ oz12 z1_ oz14 oz15<|.d3 z1_ oz17 oz18)
theorem twalk_3v (s:Rst) (n:Nod) (h:s.In) (hk:cntV s 9=3) (z1:n.za=0) (z2:n.zb=0) (z3:n.qz=0) (z4:n.lo=0) (z5:n.hi=0):VM M_ 131 [.ifc 183 (.agg [.ptr 100000 0 0]),.ptr 100001 0 0] [(100000,.var (rdC s)),(100001,.var (nodC n))] (.tup []) [(100000,.var (rdC (ts_3 s))),(100001,.var (nodC (tn_3 s n)))]:=twalk_3 s n h hk z1 z2 z3 z4 z5
def ts_4 (s:Rst):Rst:=(cntS (cntS (cntS (cntS (cntS s 9) 1024) 1024) 1024) 1024)
def tn_4 (s:Rst) (n:Nod):Nod:={ n with kd:=cntV s 9,na:=cntV (cntS s 9) 1024,nk:=cntV (cntS (cntS s 9) 1024) 1024,ns:=cntV (cntS (cntS (cntS s 9) 1024) 1024) 1024,np:=cntV (cntS (cntS (cntS (cntS s 9) 1024) 1024) 1024) 1024 }
theorem twalk_4 (s:Rst) (n:Nod) (h:s.In) (hk:cntV s 9=4∨cntV s 9=5) (z1:n.za=0) (z2:n.zb=0) (z3:n.qz=0) (z4:n.lo=0) (z5:n.hi=0):VM M_ 131 ([.ifc 183 (.agg [.ptr 100000 0 0]),.ptr 100001 0 0]) ([(100000,.var (rdC s)),(100001,.var (nodC n))]) (.tup []) ([(100000,.var (rdC (cntS (cntS (cntS (cntS (cntS s 9) 1024) 1024) 1024) 1024))),(100001,.var (nodC { n with kd:=cntV s 9,na:=cntV (cntS s 9) 1024,nk:=cntV (cntS (cntS s 9) 1024) 1024,ns:=cntV (cntS (cntS (cntS s 9) 1024) 1024) 1024,np:=cntV (cntS (cntS (cntS (cntS s 9) 1024) 1024) 1024) 1024 }))]):=by
 have oz0:=(show NilNo M_ (183:Nat) "stepwell/pack.number" from (nilNo (f:=97) w_))
 have oz1:=@tnum_kd (s) (n) (9) h a_ a_
 have oz2:=(show MethodIs M_ (183:Nat) "stepwell/pack.number" (methF M_ (183:Nat) "stepwell/pack.number") from (methodIs w_))
 have oz4:=@tnum_na (cntS s 9) (Nod.mk (cntV s 9) n.na n.nb n.nk n.ns n.np n.no n.za n.zb n.w n.b n.qm n.qs n.qz n.rm n.rs n.rz n.lo n.hi) (1024) l_ z_ z_
 have oz6:=@of_4 (cntV s 9) hk
 have oz7:=@tsides_4 (cntS (cntS s 9) 1024) (Nod.mk (cntV s 9) (cntV (cntS s 9) 1024) n.nb n.nk n.ns n.np n.no n.za n.zb n.w n.b n.qm n.qs n.qz n.rm n.rs n.rz n.lo n.hi) l_ hk
 exact mR_ [.r [] [cn oz1],.r [] [cn oz4],.r [] [cr oz6],.r [] [cn oz7],r_,d_,r_,d_,r_,d_,r_,b_] [.drop [4],.sort] _ Tryz.func131 (.c8 oz0 oz1 oz2 oz0 oz4 oz2 oz6 oz7<|.d4 z1_ z1_ z1_ z0_)
theorem twalk_4v (s:Rst) (n:Nod) (h:s.In) (hk:cntV s 9=4∨cntV s 9=5) (z1:n.za=0) (z2:n.zb=0) (z3:n.qz=0) (z4:n.lo=0) (z5:n.hi=0):VM M_ 131 [.ifc 183 (.agg [.ptr 100000 0 0]),.ptr 100001 0 0] [(100000,.var (rdC s)),(100001,.var (nodC n))] (.tup []) [(100000,.var (rdC (ts_4 s))),(100001,.var (nodC (tn_4 s n)))]:=twalk_4 s n h hk z1 z2 z3 z4 z5
def ts_6 (s:Rst):Rst:=(smlS (smlS (sclS (smlS (sclS (smlS (smlS (cntS (cntS (cntS s 9) 1024) 1024) 1) 1)) 1)) 1) 1)
def tn_6 (s:Rst) (n:Nod):Nod:={ n with kd:=cntV s 9,na:=cntV (cntS s 9) 1024,nb:=cntV (cntS (cntS s 9) 1024) 1024,za:=oneV (cntS (cntS (cntS s 9) 1024) 1024),zb:=oneV (smlS (cntS (cntS (cntS s 9) 1024) 1024) 1),qm:=sclM (smlS (smlS (cntS (cntS (cntS s 9) 1024) 1024) 1) 1),qs:=sclH (smlS (smlS (cntS (cntS (cntS s 9) 1024) 1024) 1) 1),qz:=oneV (sclS (smlS (smlS (cntS (cntS (cntS s 9) 1024) 1024) 1) 1)),rm:=sclM (smlS (sclS (smlS (smlS (cntS (cntS (cntS s 9) 1024) 1024) 1) 1)) 1),rs:=sclH (smlS (sclS (smlS (smlS (cntS (cntS (cntS s 9) 1024) 1024) 1) 1)) 1),lo:=oneV (sclS (smlS (sclS (smlS (smlS (cntS (cntS (cntS s 9) 1024) 1024) 1) 1)) 1)),hi:=oneV (smlS (sclS (smlS (sclS (smlS (smlS (cntS (cntS (cntS s 9) 1024) 1024) 1) 1)) 1)) 1) }
theorem twalk_6 (s:Rst) (n:Nod) (h:s.In) (hk:cntV s 9=6) (z1:n.za=0) (z2:n.zb=0) (z3:n.qz=0) (z4:n.lo=0) (z5:n.hi=0):VM M_ 131 ([.ifc 183 (.agg [.ptr 100000 0 0]),.ptr 100001 0 0]) ([(100000,.var (rdC s)),(100001,.var (nodC n))]) (.tup []) ([(100000,.var (rdC (smlS (smlS (sclS (smlS (sclS (smlS (smlS (cntS (cntS (cntS s 9) 1024) 1024) 1) 1)) 1)) 1) 1))),(100001,.var (nodC { n with kd:=cntV s 9,na:=cntV (cntS s 9) 1024,nb:=cntV (cntS (cntS s 9) 1024) 1024,za:=oneV (cntS (cntS (cntS s 9) 1024) 1024),zb:=oneV (smlS (cntS (cntS (cntS s 9) 1024) 1024) 1),qm:=sclM (smlS (smlS (cntS (cntS (cntS s 9) 1024) 1024) 1) 1),qs:=sclH (smlS (smlS (cntS (cntS (cntS s 9) 1024) 1024) 1) 1),qz:=oneV (sclS (smlS (smlS (cntS (cntS (cntS s 9) 1024) 1024) 1) 1)),rm:=sclM (smlS (sclS (smlS (smlS (cntS (cntS (cntS s 9) 1024) 1024) 1) 1)) 1),rs:=sclH (smlS (sclS (smlS (smlS (cntS (cntS (cntS s 9) 1024) 1024) 1) 1)) 1),lo:=oneV (sclS (smlS (sclS (smlS (smlS (cntS (cntS (cntS s 9) 1024) 1024) 1) 1)) 1)),hi:=oneV (smlS (sclS (smlS (sclS (smlS (smlS (cntS (cntS (cntS s 9) 1024) 1024) 1) 1)) 1)) 1) }))]):=by
 have oz0:=(show NilNo M_ (183:Nat) "stepwell/pack.number" from (nilNo (f:=97) w_))
 have oz1:=@tnum_kd (s) (n) (9) h a_ a_
 have oz2:=(show MethodIs M_ (183:Nat) "stepwell/pack.number" (methF M_ (183:Nat) "stepwell/pack.number") from (methodIs w_))
 have oz4:=@tnum_na (cntS s 9) (Nod.mk (cntV s 9) n.na n.nb n.nk n.ns n.np n.no n.za n.zb n.w n.b n.qm n.qs n.qz n.rm n.rs n.rz n.lo n.hi) (1024) l_ z_ z_
 have oz6:=@of_6 (cntV s 9) hk
 have oz7:=@tsides_6 (cntS (cntS s 9) 1024) (Nod.mk (cntV s 9) (cntV (cntS s 9) 1024) n.nb n.nk n.ns n.np n.no n.za n.zb n.w n.b n.qm n.qs n.qz n.rm n.rs n.rz n.lo n.hi) l_ hk
 have oz9:=@tone_za (cntS (cntS (cntS s 9) 1024) 1024) (Nod.mk (cntV s 9) (cntV (cntS s 9) 1024) (cntV (cntS (cntS s 9) 1024) 1024) n.nk n.ns n.np n.no n.za n.zb n.w n.b n.qm n.qs n.qz n.rm n.rs n.rz n.lo n.hi) l_ z1
 have oz11:=@tone_zb (smlS (cntS (cntS (cntS s 9) 1024) 1024) 1) (Nod.mk (cntV s 9) (cntV (cntS s 9) 1024) (cntV (cntS (cntS s 9) 1024) 1024) n.nk n.ns n.np n.no (oneV (cntS (cntS (cntS s 9) 1024) 1024)) n.zb n.w n.b n.qm n.qs n.qz n.rm n.rs n.rz n.lo n.hi) l_ z2
 have oz14:=@tscale_qv (smlS (smlS (cntS (cntS (cntS s 9) 1024) 1024) 1) 1) (Nod.mk (cntV s 9) (cntV (cntS s 9) 1024) (cntV (cntS (cntS s 9) 1024) 1024) n.nk n.ns n.np n.no (oneV (cntS (cntS (cntS s 9) 1024) 1024)) (oneV (smlS (cntS (cntS (cntS s 9) 1024) 1024) 1)) n.w n.b n.qm n.qs n.qz n.rm n.rs n.rz n.lo n.hi) l_
 have oz15:=@tone_qz (sclS (smlS (smlS (cntS (cntS (cntS s 9) 1024) 1024) 1) 1)) (Nod.mk (cntV s 9) (cntV (cntS s 9) 1024) (cntV (cntS (cntS s 9) 1024) 1024) n.nk n.ns n.np n.no (oneV (cntS (cntS (cntS s 9) 1024) 1024)) (oneV (smlS (cntS (cntS (cntS s 9) 1024) 1024) 1)) n.w n.b (sclM (smlS (smlS (cntS (cntS (cntS s 9) 1024) 1024) 1) 1)) (sclH (smlS (smlS (cntS (cntS (cntS s 9) 1024) 1024) 1) 1)) n.qz n.rm n.rs n.rz n.lo n.hi) l_ z3
 have oz17:=@tscale_rv (smlS (sclS (smlS (smlS (cntS (cntS (cntS s 9) 1024) 1024) 1) 1)) 1) (Nod.mk (cntV s 9) (cntV (cntS s 9) 1024) (cntV (cntS (cntS s 9) 1024) 1024) n.nk n.ns n.np n.no (oneV (cntS (cntS (cntS s 9) 1024) 1024)) (oneV (smlS (cntS (cntS (cntS s 9) 1024) 1024) 1)) n.w n.b (sclM (smlS (smlS (cntS (cntS (cntS s 9) 1024) 1024) 1) 1)) (sclH (smlS (smlS (cntS (cntS (cntS s 9) 1024) 1024) 1) 1)) (oneV (sclS (smlS (smlS (cntS (cntS (cntS s 9) 1024) 1024) 1) 1))) n.rm n.rs n.rz n.lo n.hi) l_
 have oz18:=@tone_lo (sclS (smlS (sclS (smlS (smlS (cntS (cntS (cntS s 9) 1024) 1024) 1) 1)) 1)) (Nod.mk (cntV s 9) (cntV (cntS s 9) 1024) (cntV (cntS (cntS s 9) 1024) 1024) n.nk n.ns n.np n.no (oneV (cntS (cntS (cntS s 9) 1024) 1024)) (oneV (smlS (cntS (cntS (cntS s 9) 1024) 1024) 1)) n.w n.b (sclM (smlS (smlS (cntS (cntS (cntS s 9) 1024) 1024) 1) 1)) (sclH (smlS (smlS (cntS (cntS (cntS s 9) 1024) 1024) 1) 1)) (oneV (sclS (smlS (smlS (cntS (cntS (cntS s 9) 1024) 1024) 1) 1))) (sclM (smlS (sclS (smlS (smlS (cntS (cntS (cntS s 9) 1024) 1024) 1) 1)) 1)) (sclH (smlS (sclS (smlS (smlS (cntS (cntS (cntS s 9) 1024) 1024) 1) 1)) 1)) n.rz n.lo n.hi) l_ z4
 have oz19:=@tone_hi (smlS (sclS (smlS (sclS (smlS (smlS (cntS (cntS (cntS s 9) 1024) 1024) 1) 1)) 1)) 1) (Nod.mk (cntV s 9) (cntV (cntS s 9) 1024) (cntV (cntS (cntS s 9) 1024) 1024) n.nk n.ns n.np n.no (oneV (cntS (cntS (cntS s 9) 1024) 1024)) (oneV (smlS (cntS (cntS (cntS s 9) 1024) 1024) 1)) n.w n.b (sclM (smlS (smlS (cntS (cntS (cntS s 9) 1024) 1024) 1) 1)) (sclH (smlS (smlS (cntS (cntS (cntS s 9) 1024) 1024) 1) 1)) (oneV (sclS (smlS (smlS (cntS (cntS (cntS s 9) 1024) 1024) 1) 1))) (sclM (smlS (sclS (smlS (smlS (cntS (cntS (cntS s 9) 1024) 1024) 1) 1)) 1)) (sclH (smlS (sclS (smlS (smlS (cntS (cntS (cntS s 9) 1024) 1024) 1) 1)) 1)) n.rz (oneV (sclS (smlS (sclS (smlS (smlS (cntS (cntS (cntS s 9) 1024) 1024) 1) 1)) 1))) n.hi) l_ z5
 exact mR_ [.r [] [cn oz1],.r [] [cn oz4],.r [] [cr oz6],.r [] [cn oz7],r_,b_,.r [] [cn oz9],r_,b_,.r [] [cn oz11],r_,d_,r_,d_,.r [] [cn oz14],.r [] [cn oz15],r_,b_,.r [] [cn oz17],.r [] [cn oz18],.r [] [cn oz19]] [.drop [4],.sort] _ Tryz.func131 (.c8 oz0 oz1 oz2 oz0 oz4 oz2 oz6 oz7<|.c8 z0_ oz9 z0_ oz11 z1_ z1_ oz14 oz15<|.d4 z0_ oz17 oz18 oz19)
theorem twalk_6v (s:Rst) (n:Nod) (h:s.In) (hk:cntV s 9=6) (z1:n.za=0) (z2:n.zb=0) (z3:n.qz=0) (z4:n.lo=0) (z5:n.hi=0):VM M_ 131 [.ifc 183 (.agg [.ptr 100000 0 0]),.ptr 100001 0 0] [(100000,.var (rdC s)),(100001,.var (nodC n))] (.tup []) [(100000,.var (rdC (ts_6 s))),(100001,.var (nodC (tn_6 s n)))]:=twalk_6 s n h hk z1 z2 z3 z4 z5
def ts_7 (s:Rst):Rst:=(smlS (smlS (smlS (sclS (smlS (cntS (cntS s 9) 1024) 1)) 1) 1) 1)
def tn_7 (s:Rst) (n:Nod):Nod:={ n with kd:=cntV s 9,na:=cntV (cntS s 9) 1024,za:=oneV (cntS (cntS s 9) 1024),qm:=sclM (smlS (cntS (cntS s 9) 1024) 1),qs:=sclH (smlS (cntS (cntS s 9) 1024) 1),qz:=oneV (sclS (smlS (cntS (cntS s 9) 1024) 1)),lo:=oneV (smlS (sclS (smlS (cntS (cntS s 9) 1024) 1)) 1),hi:=oneV (smlS (smlS (sclS (smlS (cntS (cntS s 9) 1024) 1)) 1) 1) }
theorem twalk_7 (s:Rst) (n:Nod) (h:s.In) (hk:cntV s 9=7) (z1:n.za=0) (z2:n.zb=0) (z3:n.qz=0) (z4:n.lo=0) (z5:n.hi=0):VM M_ 131 ([.ifc 183 (.agg [.ptr 100000 0 0]),.ptr 100001 0 0]) ([(100000,.var (rdC s)),(100001,.var (nodC n))]) (.tup []) ([(100000,.var (rdC (smlS (smlS (smlS (sclS (smlS (cntS (cntS s 9) 1024) 1)) 1) 1) 1))),(100001,.var (nodC { n with kd:=cntV s 9,na:=cntV (cntS s 9) 1024,za:=oneV (cntS (cntS s 9) 1024),qm:=sclM (smlS (cntS (cntS s 9) 1024) 1),qs:=sclH (smlS (cntS (cntS s 9) 1024) 1),qz:=oneV (sclS (smlS (cntS (cntS s 9) 1024) 1)),lo:=oneV (smlS (sclS (smlS (cntS (cntS s 9) 1024) 1)) 1),hi:=oneV (smlS (smlS (sclS (smlS (cntS (cntS s 9) 1024) 1)) 1) 1) }))]):=by
 have oz0:=(show NilNo M_ (183:Nat) "stepwell/pack.number" from (nilNo (f:=97) w_))
 have oz1:=@tnum_kd (s) (n) (9) h a_ a_
 have oz2:=(show MethodIs M_ (183:Nat) "stepwell/pack.number" (methF M_ (183:Nat) "stepwell/pack.number") from (methodIs w_))
 have oz4:=@tnum_na (cntS s 9) (Nod.mk (cntV s 9) n.na n.nb n.nk n.ns n.np n.no n.za n.zb n.w n.b n.qm n.qs n.qz n.rm n.rs n.rz n.lo n.hi) (1024) l_ z_ z_
 have oz6:=@of_7 (cntV s 9) hk
 have oz7:=@tsides_7 (cntS (cntS s 9) 1024) (Nod.mk (cntV s 9) (cntV (cntS s 9) 1024) n.nb n.nk n.ns n.np n.no n.za n.zb n.w n.b n.qm n.qs n.qz n.rm n.rs n.rz n.lo n.hi) l_ hk
 have oz9:=@tone_za (cntS (cntS s 9) 1024) (Nod.mk (cntV s 9) (cntV (cntS s 9) 1024) n.nb n.nk n.ns n.np n.no n.za n.zb n.w n.b n.qm n.qs n.qz n.rm n.rs n.rz n.lo n.hi) l_ z1
 have oz13:=@tscale_qv (smlS (cntS (cntS s 9) 1024) 1) (Nod.mk (cntV s 9) (cntV (cntS s 9) 1024) n.nb n.nk n.ns n.np n.no (oneV (cntS (cntS s 9) 1024)) n.zb n.w n.b n.qm n.qs n.qz n.rm n.rs n.rz n.lo n.hi) l_
 have oz14:=@tone_qz (sclS (smlS (cntS (cntS s 9) 1024) 1)) (Nod.mk (cntV s 9) (cntV (cntS s 9) 1024) n.nb n.nk n.ns n.np n.no (oneV (cntS (cntS s 9) 1024)) n.zb n.w n.b (sclM (smlS (cntS (cntS s 9) 1024) 1)) (sclH (smlS (cntS (cntS s 9) 1024) 1)) n.qz n.rm n.rs n.rz n.lo n.hi) l_ z3
 have oz16:=@tone_lo (smlS (sclS (smlS (cntS (cntS s 9) 1024) 1)) 1) (Nod.mk (cntV s 9) (cntV (cntS s 9) 1024) n.nb n.nk n.ns n.np n.no (oneV (cntS (cntS s 9) 1024)) n.zb n.w n.b (sclM (smlS (cntS (cntS s 9) 1024) 1)) (sclH (smlS (cntS (cntS s 9) 1024) 1)) (oneV (sclS (smlS (cntS (cntS s 9) 1024) 1))) n.rm n.rs n.rz n.lo n.hi) l_ z4
 have oz17:=@tone_hi (smlS (smlS (sclS (smlS (cntS (cntS s 9) 1024) 1)) 1) 1) (Nod.mk (cntV s 9) (cntV (cntS s 9) 1024) n.nb n.nk n.ns n.np n.no (oneV (cntS (cntS s 9) 1024)) n.zb n.w n.b (sclM (smlS (cntS (cntS s 9) 1024) 1)) (sclH (smlS (cntS (cntS s 9) 1024) 1)) (oneV (sclS (smlS (cntS (cntS s 9) 1024) 1))) n.rm n.rs n.rz (oneV (smlS (sclS (smlS (cntS (cntS s 9) 1024) 1)) 1)) n.hi) l_ z5
 exact mR_ [.r [] [cn oz1],.r [] [cn oz4],.r [] [cr oz6],.r [] [cn oz7],r_,b_,.r [] [cn oz9],r_,d_,r_,d_,r_,d_,.r [] [cn oz13],.r [] [cn oz14],r_,d_,.r [] [cn oz16],.r [] [cn oz17]] [.drop [4],.sort] _ Tryz.func131 (.c8 oz0 oz1 oz2 oz0 oz4 oz2 oz6 oz7<|.c8 z0_ oz9 z1_ z1_ z1_ oz13 oz14 z1_<|.d2 oz16 oz17)
theorem twalk_7v (s:Rst) (n:Nod) (h:s.In) (hk:cntV s 9=7) (z1:n.za=0) (z2:n.zb=0) (z3:n.qz=0) (z4:n.lo=0) (z5:n.hi=0):VM M_ 131 [.ifc 183 (.agg [.ptr 100000 0 0]),.ptr 100001 0 0] [(100000,.var (rdC s)),(100001,.var (nodC n))] (.tup []) [(100000,.var (rdC (ts_7 s))),(100001,.var (nodC (tn_7 s n)))]:=twalk_7 s n h hk z1 z2 z3 z4 z5
def ts_8 (s:Rst):Rst:=(smlS (cntS (cntS (cntS s 9) 1024) 1024) 1)
def tn_8 (s:Rst) (n:Nod):Nod:={ n with kd:=cntV s 9,na:=cntV (cntS s 9) 1024,np:=cntV (cntS (cntS s 9) 1024) 1024,za:=oneV (cntS (cntS (cntS s 9) 1024) 1024) }
theorem twalk_8 (s:Rst) (n:Nod) (h:s.In) (hk:cntV s 9=8) (z1:n.za=0) (z2:n.zb=0) (z3:n.qz=0) (z4:n.lo=0) (z5:n.hi=0):VM M_ 131 ([.ifc 183 (.agg [.ptr 100000 0 0]),.ptr 100001 0 0]) ([(100000,.var (rdC s)),(100001,.var (nodC n))]) (.tup []) ([(100000,.var (rdC (smlS (cntS (cntS (cntS s 9) 1024) 1024) 1))),(100001,.var (nodC { n with kd:=cntV s 9,na:=cntV (cntS s 9) 1024,np:=cntV (cntS (cntS s 9) 1024) 1024,za:=oneV (cntS (cntS (cntS s 9) 1024) 1024) }))]):=by
 have oz0:=(show NilNo M_ (183:Nat) "stepwell/pack.number" from (nilNo (f:=97) w_))
 have oz1:=@tnum_kd (s) (n) (9) h a_ a_
 have oz2:=(show MethodIs M_ (183:Nat) "stepwell/pack.number" (methF M_ (183:Nat) "stepwell/pack.number") from (methodIs w_))
 have oz4:=@tnum_na (cntS s 9) (Nod.mk (cntV s 9) n.na n.nb n.nk n.ns n.np n.no n.za n.zb n.w n.b n.qm n.qs n.qz n.rm n.rs n.rz n.lo n.hi) (1024) l_ z_ z_
 have oz6:=@of_8 (cntV s 9) hk
 have oz7:=@tsides_8 (cntS (cntS s 9) 1024) (Nod.mk (cntV s 9) (cntV (cntS s 9) 1024) n.nb n.nk n.ns n.np n.no n.za n.zb n.w n.b n.qm n.qs n.qz n.rm n.rs n.rz n.lo n.hi) l_ hk
 have oz9:=@tone_za (cntS (cntS (cntS s 9) 1024) 1024) (Nod.mk (cntV s 9) (cntV (cntS s 9) 1024) n.nb n.nk n.ns (cntV (cntS (cntS s 9) 1024) 1024) n.no n.za n.zb n.w n.b n.qm n.qs n.qz n.rm n.rs n.rz n.lo n.hi) l_ z1
 exact mR_ [.r [] [cn oz1],.r [] [cn oz4],.r [] [cr oz6],.r [] [cn oz7],r_,b_,.r [] [cn oz9],r_,d_,r_,d_,r_,b_] [.drop [4],.sort] _ Tryz.func131 (.c8 oz0 oz1 oz2 oz0 oz4 oz2 oz6 oz7<|.d5 z0_ oz9 z1_ z1_ z0_)
theorem twalk_8v (s:Rst) (n:Nod) (h:s.In) (hk:cntV s 9=8) (z1:n.za=0) (z2:n.zb=0) (z3:n.qz=0) (z4:n.lo=0) (z5:n.hi=0):VM M_ 131 [.ifc 183 (.agg [.ptr 100000 0 0]),.ptr 100001 0 0] [(100000,.var (rdC s)),(100001,.var (nodC n))] (.tup []) [(100000,.var (rdC (ts_8 s))),(100001,.var (nodC (tn_8 s n)))]:=twalk_8 s n h hk z1 z2 z3 z4 z5
def ts_9 (s:Rst):Rst:=(cntS (cntS s 9) 1024)
def tn_9 (s:Rst) (n:Nod):Nod:={ n with kd:=cntV s 9,na:=cntV (cntS s 9) 1024 }
theorem twalk_9 (s:Rst) (n:Nod) (h:s.In) (hk:cntV s 9<1∨8<cntV s 9) (z1:n.za=0) (z2:n.zb=0) (z3:n.qz=0) (z4:n.lo=0) (z5:n.hi=0):VM M_ 131 ([.ifc 183 (.agg [.ptr 100000 0 0]),.ptr 100001 0 0]) ([(100000,.var (rdC s)),(100001,.var (nodC n))]) (.tup []) ([(100000,.var (rdC (cntS (cntS s 9) 1024))),(100001,.var (nodC { n with kd:=cntV s 9,na:=cntV (cntS s 9) 1024 }))]):=by
 have oz0:=(show NilNo M_ (183:Nat) "stepwell/pack.number" from (nilNo (f:=97) w_))
 have oz1:=@tnum_kd (s) (n) (9) h a_ a_
 have oz2:=(show MethodIs M_ (183:Nat) "stepwell/pack.number" (methF M_ (183:Nat) "stepwell/pack.number") from (methodIs w_))
 have oz4:=@tnum_na (cntS s 9) (Nod.mk (cntV s 9) n.na n.nb n.nk n.ns n.np n.no n.za n.zb n.w n.b n.qm n.qs n.qz n.rm n.rs n.rz n.lo n.hi) (1024) l_ z_ z_
 have oz6:=@of_9 (cntV s 9) hk
 have oz7:=@tsides_9 (cntS (cntS s 9) 1024) (Nod.mk (cntV s 9) (cntV (cntS s 9) 1024) n.nb n.nk n.ns n.np n.no n.za n.zb n.w n.b n.qm n.qs n.qz n.rm n.rs n.rz n.lo n.hi) l_ hk
 exact mR_ [.r [] [cn oz1],.r [] [cn oz4],.r [] [cr oz6],.r [] [cn oz7],r_,d_,r_,d_,r_,d_,r_,b_] [.drop [4],.sort] _ Tryz.func131 (.c8 oz0 oz1 oz2 oz0 oz4 oz2 oz6 oz7<|.d4 z1_ z1_ z1_ z0_)
theorem twalk_9v (s:Rst) (n:Nod) (h:s.In) (hk:cntV s 9<1∨8<cntV s 9) (z1:n.za=0) (z2:n.zb=0) (z3:n.qz=0) (z4:n.lo=0) (z5:n.hi=0):VM M_ 131 [.ifc 183 (.agg [.ptr 100000 0 0]),.ptr 100001 0 0] [(100000,.var (rdC s)),(100001,.var (nodC n))] (.tup []) [(100000,.var (rdC (ts_9 s))),(100001,.var (nodC (tn_9 s n)))]:=twalk_9 s n h hk z1 z2 z3 z4 z5
theorem nodEq_false {a b:Nod} (h:(a.kd != b.kd || a.na != b.na || a.nb != b.nb || a.nk != b.nk || a.ns != b.ns || a.np != b.np || a.no != b.no)=true):false=nodEq a b:=by
 symm
 rw[Bool.eq_false_iff]
 intro h'
 have h':=(nodEq_iff _ _).1 h'
 subst h'
 simp at h
theorem nodEq_rest {a b:Nod} (h:(a.kd != b.kd || a.na != b.na || a.nb != b.nb || a.nk != b.nk || a.ns != b.ns || a.np != b.np || a.no != b.no)=false) :
  (a.za==b.za&&a.zb==b.zb&&a.lo==b.lo&&a.hi==b.hi&&eqNums [(AL_,a.qm,b.qm),(U_,a.qs,b.qs),(Z_,a.qz,b.qz)]&&eqNums [(AL_,a.rm,b.rm),(U_,a.rs,b.rs),(Z_,a.rz,b.rz)]&&decide (a.w=b.w)&&decide (a.b=b.b))=nodEq a b:=by
 simp only[T_,G_] at h
 obtain ⟨⟨⟨⟨⟨⟨h1,h2⟩,h3⟩,h4⟩,h5⟩,h6⟩,h7⟩:=h
 rw[Bool.eq_iff_iff]
 simp only[nodEq,eqNums,h1,h2,h3,h4,h5,h6,h7,P_,E_,I_,true_and,and_true]
 constructor
 ·rintro ⟨⟨⟨⟨⟨⟨⟨q1,q2⟩,q3⟩,q4⟩,q5⟩,q6⟩,q7⟩,q8⟩;exact ⟨⟨⟨⟨q7,q8⟩,q1,q2,q3,q4⟩,q5⟩,q6⟩
 ·rintro ⟨⟨⟨⟨q7,q8⟩,q1,q2,q3,q4⟩,q5⟩,q6⟩;exact ⟨⟨⟨⟨⟨⟨⟨q1,q2⟩,q3⟩,q4⟩,q5⟩,q6⟩,q7⟩,q8⟩
theorem refSame_v (a b:Nod) (hw:a.w.length≤100000) (hb:a.b.length≤100000):VC M_ 102 ([nod a,nod b]) (bv (nodEq a b)):=by
 rcases bft (a.kd != b.kd || a.na != b.na || a.nb != b.nb || a.nk != b.nk || a.ns != b.ns || a.np != b.np || a.no != b.no) with hc0|hc0
 ·have gc0:(((((¬a.kd=b.kd∨¬a.na=b.na)∨¬a.nb=b.nb)∨¬a.nk=b.nk)∨¬a.ns=b.ns)∨¬a.np=b.np)∨¬a.no=b.no:=gc0_ hc0
  exact (cR_ [r_,.r [] [o_,o_,o_,o_,o_,.sel 1,o_,o_,o_,o_,o_,.sel 1,o_,o_,o_,o_,o_,.sel 1,o_,o_,o_,o_,o_,.sel 1,o_,o_,o_,o_,o_,.sel 1,o_,o_,o_,o_,o_,.sel 1],b_,r_] (bv false) Tryz.func102 (.d hc0)).weak (AQ_ _) (AB_ (by (exact nodEq_false b0_)))
 ·have gc0:(((((a.kd=b.kd∧a.na=b.na)∧a.nb=b.nb)∧a.nk=b.nk)∧a.ns=b.ns)∧a.np=b.np)∧a.no=b.no:=gc0_ hc0
  have oz3:=@rsame8_v (a.w) (b.w) a_
  have oz4:=@rsame32_v (a.b) (b.b) a_
  exact (cR_ [r_,.r [] [o_,o_,o_,o_,o_,.sel 1,o_,o_,o_,o_,o_,.sel 1,o_,o_,o_,o_,o_,.sel 1,o_,o_,o_,o_,o_,.sel 1,o_,o_,o_,o_,o_,.sel 1,o_,o_,o_,o_,o_,.sel 1],d_,.r [] [o_,o_,o_,o_,o_,.sel 2,o_,o_,o_,o_,o_,.sel 2,o_,o_,o_,o_,o_,.sel 2,o_,o_,o_,o_,o_,.v (BI_ (eqNums [(AL_,a.qm,b.qm),(U_,a.qs,b.qs),(Z_,a.qz,b.qz)])),.sel 2,o_,o_,o_,o_,o_,.v (BI_ (eqNums [(AL_,a.rm,b.rm),(U_,a.rs,b.rs),(Z_,a.rz,b.rz)])),.sel 2,o_,o_,o_,o_,o_,cr oz3,.sel 2,o_,o_,o_,o_,o_,cr oz4,.sel 2]] (bv (a.za==b.za&&a.zb==b.zb&&a.lo==b.lo&&a.hi==b.hi&&eqNums [(AL_,a.qm,b.qm),(U_,a.qs,b.qs),(Z_,a.qz,b.qz)]&&eqNums [(AL_,a.rm,b.rm),(U_,a.rs,b.rs),(Z_,a.rz,b.rz)]&&decide (a.w=b.w)&&decide (a.b=b.b))) Tryz.func102 (.d5 hc0 (show BinTo M_ BinOp.eql 54 (Operand.tmp 80) (Operand.tmp 82) (CX_ #[AW_ AL_ a.qm,AW_ U_ a.qs,AW_ Z_ a.qz]) (CX_ #[AW_ AL_ b.qm,AW_ U_ b.qs,AW_ Z_ b.qz]) (BI_ (eqNums [(AL_,a.qm,b.qm),(U_,a.qs,b.qs),(Z_,a.qz,b.qz)])) from ((bin_nums (l:=[(AL_,a.qm,b.qm),(U_,a.qs,b.qs),(Z_,a.qz,b.qz)]) w_ w_ w_ w_ _ _).1)) (show BinTo M_ BinOp.eql 54 (Operand.tmp 87) (Operand.tmp 89) (CX_ #[AW_ AL_ a.rm,AW_ U_ a.rs,AW_ Z_ a.rz]) (CX_ #[AW_ AL_ b.rm,AW_ U_ b.rs,AW_ Z_ b.rz]) (BI_ (eqNums [(AL_,a.rm,b.rm),(U_,a.rs,b.rs),(Z_,a.rz,b.rz)])) from ((bin_nums (l:=[(AL_,a.rm,b.rm),(U_,a.rs,b.rs),(Z_,a.rz,b.rz)]) w_ w_ w_ w_ _ _).1)) oz3 oz4)).weak (AQ_ _) (AB_ (by (exact nodEq_rest b0_)))
def nod0:Nod:=⟨0,0,0,0,0,0,0,0,0,[],[],0,0,0,0,0,0,0,0⟩
def takeS (s:Rst):Rst:=if cntV s 9=1 then ts_1 s else if cntV s 9=2 then ts_2 s else if cntV s 9=3 then ts_3 s else if cntV s 9=4∨cntV s 9=5 then ts_4 s else if cntV s 9=6 then ts_6 s else if cntV s 9=7 then ts_7 s else if cntV s 9=8 then ts_8 s else ts_9 s
def takeN (s:Rst):Nod:=if cntV s 9=1 then tn_1 s nod0 else if cntV s 9=2 then tn_2 s nod0 else if cntV s 9=3 then tn_3 s nod0 else if cntV s 9=4∨cntV s 9=5 then tn_4 s nod0 else if cntV s 9=6 then tn_6 s nod0 else if cntV s 9=7 then tn_7 s nod0 else if cntV s 9=8 then tn_8 s nod0 else tn_9 s nod0
theorem twalk_v (s:Rst) (h:s.In):VM M_ 131 [.ifc 183 (.agg [.ptr 100000 0 0]),.ptr 100001 0 0] [(100000,.var (rdC s)),(100001,.var [i64 0,i64 0,i64 0,i64 0,i64 0,i64 0,i64 0,i8 0,i8 0,.sl 1 [],.sl 1 [],i32 0,i64 0,i8 0,i32 0,i64 0,i8 0,i8 0,i8 0])] (.tup []) [(100000,.var (rdC (takeS s))),(100001,.var (nodC (takeN s)))]:=by
 by_cases k1:cntV s 9=1
 ·rw[show takeS s=ts_1 s from by unfold takeS;rw[i_ k1],show takeN s=tn_1 s nod0 from by unfold takeN;rw[i_ k1]]
  exact twalk_1v s nod0 h k1 rfl rfl rfl rfl rfl
 by_cases k2:cntV s 9=2
 ·rw[show takeS s=ts_2 s from by unfold takeS;rw[j_ k1,i_ k2],show takeN s=tn_2 s nod0 from by unfold takeN;rw[j_ k1,i_ k2]]
  exact twalk_2v s nod0 h k2 rfl rfl rfl rfl rfl
 by_cases k3:cntV s 9=3
 ·rw[show takeS s=ts_3 s from by unfold takeS;rw[j_ k1,j_ k2,i_ k3],show takeN s=tn_3 s nod0 from by unfold takeN;rw[j_ k1,j_ k2,i_ k3]]
  exact twalk_3v s nod0 h k3 rfl rfl rfl rfl rfl
 by_cases k4:cntV s 9=4∨cntV s 9=5
 ·rw[show takeS s=ts_4 s from by unfold takeS;rw[j_ k1,j_ k2,j_ k3,i_ k4],show takeN s=tn_4 s nod0 from by unfold takeN;rw[j_ k1,j_ k2,j_ k3,i_ k4]]
  exact twalk_4v s nod0 h k4 rfl rfl rfl rfl rfl
 by_cases k6:cntV s 9=6
 ·rw[show takeS s=ts_6 s from by unfold takeS;rw[j_ k1,j_ k2,j_ k3,j_ k4,i_ k6],show takeN s=tn_6 s nod0 from by unfold takeN;rw[j_ k1,j_ k2,j_ k3,j_ k4,i_ k6]]
  exact twalk_6v s nod0 h k6 rfl rfl rfl rfl rfl
 by_cases k7:cntV s 9=7
 ·rw[show takeS s=ts_7 s from by unfold takeS;rw[j_ k1,j_ k2,j_ k3,j_ k4,j_ k6,i_ k7],show takeN s=tn_7 s nod0 from by unfold takeN;rw[j_ k1,j_ k2,j_ k3,j_ k4,j_ k6,i_ k7]]
  exact twalk_7v s nod0 h k7 rfl rfl rfl rfl rfl
 by_cases k8:cntV s 9=8
 ·rw[show takeS s=ts_8 s from by unfold takeS;rw[j_ k1,j_ k2,j_ k3,j_ k4,j_ k6,j_ k7,i_ k8],show takeN s=tn_8 s nod0 from by unfold takeN;rw[j_ k1,j_ k2,j_ k3,j_ k4,j_ k6,j_ k7,i_ k8]]
  exact twalk_8v s nod0 h k8 rfl rfl rfl rfl rfl
 rw[show takeS s=ts_9 s from by unfold takeS;rw[j_ k1,j_ k2,j_ k3,j_ k4,j_ k6,j_ k7,j_ k8],show takeN s=tn_9 s nod0 from by unfold takeN;rw[j_ k1,j_ k2,j_ k3,j_ k4,j_ k6,j_ k7,j_ k8]]
 exact twalk_9v s nod0 h a_ rfl rfl rfl rfl rfl
theorem bad_e (s:Rst) (h:s.2≠0) (h2:s.2≠24):VM M_ 99 ([.agg [.ptr 100000 0 0]]) ([(100000,.var (rdC s))]) (i64 s.2) ([(100000,.var (rdC s))]):=by
 have oz0:=@end_e (s) h
 exact mR_ [r_,.r [] [cm oz0],r_,b_,r_] [.drop [1],.sort] _ Tryz.func99 (.d2 oz0 (h_ ((s.snd != 24)=true)))
theorem bad_m (l:List Int) (h:0<l.length):VM M_ 99 ([.agg [.ptr 100000 0 0]]) ([(100000,.var (rdC (l,0)))]) (i64 0) ([(100000,.var (rdC (l,0)))]):=by
 have oz0:=@end_m (l) h
 exact mR_ [r_,.r [] [cm oz0],r_,d_,r_] [.drop [1],.sort] _ Tryz.func99 (.d2 oz0 z1_)
theorem bad_z   : VM M_ 99 ([.agg [.ptr 100000 0 0]]) ([(100000,.var (rdC ([],0)))]) (i64 0) ([(100000,.var (rdC ([],0)))]):=by
 have oz0:=@end_z
 exact mR_ [r_,.r [] [cm oz0],r_,b_,r_] [.drop [1],.sort] _ Tryz.func99 (.d2 oz0 z0_)
theorem bad_v (s:Rst) (h2:s.2≠24):VM M_ 99 [.agg [.ptr 100000 0 0]] [(100000,.var (rdC s))] (i64 s.2) [(100000,.var (rdC s))]:=by
 obtain ⟨l,e⟩:=s
 by_cases he:e=0
 ·subst he
  cases l with
  | nil=>exact bad_z
  | cons x l=>exact bad_m (x::l) v0_
 ·exact bad_e (l,e) he h2
theorem getE_24 {l:List Int} (hb:∀ x∈l,0≤x∧x≤255):getE l≠24:=by
 have:=getAt_range l hb;unfold getE;omega
theorem cnt_24 {s:Rst} (h:s.In) (h2:s.2≠24) (m:Int):(cntS s m).2≠24:=by
 unfold cntS
 split
 ·exact h2
 ·split
  ·exact getE_24 h.b
  ·split
   ·simp
   ·simp
theorem int_24 {s:Rst} (h:s.In) (h2:s.2≠24) (lo hi:Int):(intS s lo hi).2≠24:=by
 unfold intS
 split
 ·exact h2
 ·split
  ·exact getE_24 h.b
  ·split
   ·simp
   ·simp
theorem sml_24 {s:Rst} (h2:s.2≠24) (n:Int):(smlS s n).2≠24:=by
 unfold smlS
 split
 ·exact h2
 ·split
  ·exact h2
  ·split
   ·simp
   ·simp
theorem it_24 {s:Rst} (h:s.In) (h2:s.2≠24) (k:Nat):(itS s k).2≠24:=by
 induction k with
 | zero=>exact h2
 | succ k ih=>exact int_24 (itS_in h k) ih _ _
theorem wid_24 {s:Rst} (h:s.In) (h2:s.2≠24) (n:Int):(widS s n).2≠24:=by
 unfold widS
 split
 ·exact h2
 ·split
  ·exact h2
  ·split
   ·simp
   ·exact it_24 h h2 _
theorem cnt_le {s:Rst} {k:Nat} (h:s.1.length≤k) (m:Int):(cntS s m).1.length≤k:=by
 unfold cntS
 split
 ·exact h
 ·split
  ·simp
  ·split
   ·simp
   ·simp only[AS_];omega
theorem int_le {s:Rst} {k:Nat} (h:s.1.length≤k) (lo hi:Int):(intS s lo hi).1.length≤k:=by
 unfold intS
 split
 ·exact h
 ·split
  ·simp
  ·split
   ·simp
   ·simp only[AS_];omega
theorem sml_le {s:Rst} {k:Nat} (h:s.1.length≤k) (n:Int):(smlS s n).1.length≤k:=by
 unfold smlS
 split
 ·exact h
 ·split
  ·exact h
  ·split
   ·simp
   ·dsimp only;rw[dpW_eq,AS_];omega
theorem it_le {s:Rst} {k:Nat} (h:s.1.length≤k) (n:Nat):(itS s n).1.length≤k:=by
 induction n with
 | zero=>exact h
 | succ n ih=>exact int_le ih _ _
theorem wid_le {s:Rst} {k:Nat} (h:s.1.length≤k) (n:Int):(widS s n).1.length≤k:=by
 unfold widS
 split
 ·exact h
 ·split
  ·exact h
  ·split
   ·simp
   ·exact it_le h _
structure Rst.Fit (s:Rst):Prop where
 b:∀ x∈s.1,0≤x∧x≤255
 l:s.1.length≤1000000
 e:s.2≠24
theorem Rst.Fit.i {s:Rst} (h:s.Fit):s.In:=⟨h.b,by have:=h.l;omega⟩
theorem cnt_fit {s:Rst} (h:s.Fit) (m:Int):(cntS s m).Fit:=⟨(cnt_in h.i m).b,cnt_le h.l m,cnt_24 h.i h.e m⟩
theorem sml_fit {s:Rst} (h:s.Fit) (n:Int):(smlS s n).Fit:=⟨(sml_in h.i n).b,sml_le h.l n,sml_24 h.e n⟩
theorem wid_fit {s:Rst} (h:s.Fit) (n:Int):(widS s n).Fit:=⟨(wid_in h.i n).b,wid_le h.l n,wid_24 h.i h.e n⟩
theorem lst_fit {s:Rst} (h:s.Fit):(lstS s).Fit:=wid_fit (cnt_fit (sml_fit (cnt_fit h _) _) _) _
theorem scl_fit {s:Rst} (h:s.Fit):(sclS s).Fit:=cnt_fit (cnt_fit h _) _
theorem smlV_cnt (s:Rst) (n:Int):(smlV s n).length≤n.toNat:=by
 unfold smlV
 split
 ·exact CO_ _
 ·split
  ·exact CO_ _
  ·split
   ·exact CO_ _
   ·rw[tkW_len];exact AE_ _
theorem widV_cnt (s:Rst) (n:Int):(widV s n).length≤n.toNat:=by
 unfold widV
 split
 ·exact CO_ _
 ·split
  ·exact CO_ _
  ·split
   ·exact CO_ _
   ·split
    ·exact CO_ _
    ·rw[itV_len];exact AE_ _
theorem lstW_le {s:Rst} (h:s.Fit):(lstW s).length≤100000:=Nat.le_trans (smlV_cnt _ _) (by have:=cntV_rng (m:=16384) h.i x_;omega)
theorem lstB_le {s:Rst} (h:s.Fit):(lstB s).length≤100000:=Nat.le_trans (widV_cnt _ _) (by have:=cntV_rng (m:=16384) (sml_fit (cnt_fit h 16384) (cntV s 16384)).i x_;unfold lst1;omega)
theorem takeS_fit {s:Rst} (h:s.Fit):(takeS s).Fit:=by
 unfold takeS
 repeat' split
 all_goals (first|unfold ts_1|unfold ts_2|unfold ts_3|unfold ts_4|unfold ts_6|unfold ts_7|unfold ts_8|unfold ts_9)
 all_goals (repeat first|exact h|apply cnt_fit|apply sml_fit|apply lst_fit|apply scl_fit)
theorem takeN_le {s:Rst} (h:s.Fit):(takeN s).w.length≤100000∧(takeN s).b.length≤100000:=by
 unfold takeN
 repeat' split
 all_goals (first|unfold tn_1|unfold tn_2|unfold tn_3|unfold tn_4|unfold tn_6|unfold tn_7|unfold tn_8|unfold tn_9)
 all_goals (constructor<;>first|exact CO_ _|(apply lstW_le;repeat first|exact h|apply cnt_fit|apply sml_fit|apply lst_fit|apply scl_fit)|(apply lstB_le;repeat first|exact h|apply cnt_fit|apply sml_fit|apply lst_fit|apply scl_fit))
theorem takeN_kd {s:Rst} (h:s.In):In64 (takeN s).kd:=by
 have q:=cntV_rng (m:=9) h x_
 have e:(takeN s).kd=cntV s 9:=by
  unfold takeN
  repeat' split
  all_goals rfl
 rw[e];exact ⟨by omega,by omega⟩
theorem take_b (s:Rst) (h:s.Fit) (hb:(takeS s).2≠0):VM M_ 133 ([.ptr 100000 0 0]) ([(100000,.var (rdC s))]) (.tup [.agg [i64 0,i64 0,i64 0,i64 0,i64 0,i64 0,i64 0,i8 0,i8 0,.sl 1 [],.sl 1 [],i32 0,i64 0,i8 0,i32 0,i64 0,i8 0,i8 0,i8 0],i64 (takeS s).2]) ([(100000,.var (rdC (takeS s)))]):=by
 have hi:=h.i
 have q:=takeS_fit h
 have oz1:=@VM.pre _ _ ([AV.ifc 183 (AV.agg [AV.ptr 100000 0 0]),AV.ptr 100001 0 0]) _ ([(100000,Blk.var [AV.sl 1 (K_ (row1 .u8) s.fst),i64 s.snd]),(100001,Blk.var [i64 0,i64 0,i64 0,i64 0,i64 0,i64 0,i64 0,i8 0,i8 0,AV.lit (AK_ none 0 0),AV.lit (AK_ none 0 0),i32 0,i64 0,i8 0,i32 0,i64 0,i8 0,i8 0,i8 0])]) _ _ _ ([GI.blk 100001 (Blk.var [i64 0,i64 0,i64 0,i64 0,i64 0,i64 0,i64 0,i8 0,i8 0,AV.sl 1 [],AV.sl 1 [],i32 0,i64 0,i8 0,i32 0,i64 0,i8 0,i8 0,i8 0]),GI.sort]) _ (@twalk_v (s) hi) w_ (.d (BlkW.var (m:=[i64 0,i64 0,i64 0,i64 0,i64 0,i64 0,i64 0,i8 0,i8 0,AV.sl 1 [],AV.sl 1 [],i32 0,i64 0,i8 0,i32 0,i64 0,i8 0,i8 0,i8 0]) (.cons (.refl _) (.cons (.refl _) (.cons (.refl _) (.cons (.refl _) (.cons (.refl _) (.cons (.refl _) (.cons (.refl _) (.cons (.refl _) (.cons (.refl _) (.cons (AV_ _) (.cons (AV_ _) (.cons (.refl _) (.cons (.refl _) (.cons (.refl _) (.cons (.refl _) (.cons (.refl _) (.cons (.refl _) (.cons (.refl _) (.cons (.refl _) .nil)))))))))))))))))))))
 have oz2:=@bad_v (takeS s) (by (exact q.e))
 exact mR_ [r_,r_,d_,r_,.r [] [.callm [(100000,100000),(5,100001)] [] (rM oz1) (oM oz1)],.r [] [cm oz2],r_,b_,r_] [.drop [2,4,5],.weak 0 (AV.tup [AV.agg [i64 0,i64 0,i64 0,i64 0,i64 0,i64 0,i64 0,i8 0,i8 0,AV.sl 1 [],AV.sl 1 [],i32 0,i64 0,i8 0,i32 0,i64 0,i8 0,i8 0,i8 0],i64 (takeS s).snd]),.sort] _ Tryz.func133 (.d5 z1_ oz1 oz2 (h_ (((takeS s).snd != 0)=true)) (show Weak (AV.tup [AV.agg [i64 0,i64 0,i64 0,i64 0,i64 0,i64 0,i64 0,i8 0,i8 0,AV.lit (AK_ none 0 0),AV.lit (AK_ none 0 0),i32 0,i64 0,i8 0,i32 0,i64 0,i8 0,i8 0,i8 0],i64 (takeS s).snd]) (AV.tup [AV.agg [i64 0,i64 0,i64 0,i64 0,i64 0,i64 0,i64 0,i8 0,i8 0,AV.sl 1 [],AV.sl 1 [],i32 0,i64 0,i8 0,i32 0,i64 0,i8 0,i8 0,i8 0],i64 (takeS s).snd]) from (AA_ (.cons (AZ_ (.cons (.refl _) (.cons (.refl _) (.cons (.refl _) (.cons (.refl _) (.cons (.refl _) (.cons (.refl _) (.cons (.refl _) (.cons (.refl _) (.cons (.refl _) (.cons (AV_ _) (.cons (AV_ _) (.cons (.refl _) (.cons (.refl _) (.cons (.refl _) (.cons (.refl _) (.cons (.refl _) (.cons (.refl _) (.cons (.refl _) (.cons (.refl _) .nil)))))))))))))))))))) (.cons (.refl _) .nil)))))
theorem take_c (s:Rst) (h:s.Fit) (hb:(takeS s).2=0) (hc:checkE (takeN s)≠0):VM M_ 133 ([.ptr 100000 0 0]) ([(100000,.var (rdC s))]) (.tup [.agg [i64 0,i64 0,i64 0,i64 0,i64 0,i64 0,i64 0,i8 0,i8 0,.sl 1 [],.sl 1 [],i32 0,i64 0,i8 0,i32 0,i64 0,i8 0,i8 0,i8 0],i64 (checkE (takeN s))]) ([(100000,.var (rdC (takeS s)))]):=by
 have hi:=h.i
 have q:=takeS_fit h
 obtain ⟨q1,q2⟩:=takeN_le h
 have q3:=takeN_kd hi
 have oz1:=@VM.pre _ _ ([AV.ifc 183 (AV.agg [AV.ptr 100000 0 0]),AV.ptr 100001 0 0]) _ ([(100000,Blk.var [AV.sl 1 (K_ (row1 .u8) s.fst),i64 s.snd]),(100001,Blk.var [i64 0,i64 0,i64 0,i64 0,i64 0,i64 0,i64 0,i8 0,i8 0,AV.lit (AK_ none 0 0),AV.lit (AK_ none 0 0),i32 0,i64 0,i8 0,i32 0,i64 0,i8 0,i8 0,i8 0])]) _ _ _ ([GI.blk 100001 (Blk.var [i64 0,i64 0,i64 0,i64 0,i64 0,i64 0,i64 0,i8 0,i8 0,AV.sl 1 [],AV.sl 1 [],i32 0,i64 0,i8 0,i32 0,i64 0,i8 0,i8 0,i8 0]),GI.sort]) _ (@twalk_v (s) hi) w_ (.d (BlkW.var (m:=[i64 0,i64 0,i64 0,i64 0,i64 0,i64 0,i64 0,i8 0,i8 0,AV.sl 1 [],AV.sl 1 [],i32 0,i64 0,i8 0,i32 0,i64 0,i8 0,i8 0,i8 0]) (.cons (.refl _) (.cons (.refl _) (.cons (.refl _) (.cons (.refl _) (.cons (.refl _) (.cons (.refl _) (.cons (.refl _) (.cons (.refl _) (.cons (.refl _) (.cons (AV_ _) (.cons (AV_ _) (.cons (.refl _) (.cons (.refl _) (.cons (.refl _) (.cons (.refl _) (.cons (.refl _) (.cons (.refl _) (.cons (.refl _) (.cons (.refl _) .nil)))))))))))))))))))))
 have oz2:=@bad_v (takeS s) a_
 have oz4:=@check_v (takeN s) q1 q2 q3
 exact mR_ [r_,r_,d_,r_,.r [] [.callm [(100000,100000),(5,100001)] [] (rM oz1) (oM oz1)],.r [] [cm oz2],r_,d_,.r [] [cr oz4],r_,b_,r_] [.drop [2,4,5],.weak 0 (AV.tup [AV.agg [i64 0,i64 0,i64 0,i64 0,i64 0,i64 0,i64 0,i8 0,i8 0,AV.sl 1 [],AV.sl 1 [],i32 0,i64 0,i8 0,i32 0,i64 0,i8 0,i8 0,i8 0],i64 (checkE (takeN s))]),.sort] _ Tryz.func133 (.d7 z1_ oz1 oz2 (h_ (((takeS s).snd != 0)=false)) oz4 (h_ ((checkE (takeN s) != 0)=true)) (show Weak (AV.tup [AV.agg [i64 0,i64 0,i64 0,i64 0,i64 0,i64 0,i64 0,i8 0,i8 0,AV.lit (AK_ none 0 0),AV.lit (AK_ none 0 0),i32 0,i64 0,i8 0,i32 0,i64 0,i8 0,i8 0,i8 0],i64 (checkE (takeN s))]) (AV.tup [AV.agg [i64 0,i64 0,i64 0,i64 0,i64 0,i64 0,i64 0,i8 0,i8 0,AV.sl 1 [],AV.sl 1 [],i32 0,i64 0,i8 0,i32 0,i64 0,i8 0,i8 0,i8 0],i64 (checkE (takeN s))]) from (AA_ (.cons (AZ_ (.cons (.refl _) (.cons (.refl _) (.cons (.refl _) (.cons (.refl _) (.cons (.refl _) (.cons (.refl _) (.cons (.refl _) (.cons (.refl _) (.cons (.refl _) (.cons (AV_ _) (.cons (AV_ _) (.cons (.refl _) (.cons (.refl _) (.cons (.refl _) (.cons (.refl _) (.cons (.refl _) (.cons (.refl _) (.cons (.refl _) (.cons (.refl _) .nil)))))))))))))))))))) (.cons (.refl _) .nil)))))
theorem take_y (s:Rst) (h:s.Fit) (hb:(takeS s).2=0) (hc:checkE (takeN s)=0):VM M_ 133 ([.ptr 100000 0 0]) ([(100000,.var (rdC s))]) (.tup [nod (takeN s),i64 0]) ([(100000,.var (rdC (takeS s)))]):=by
 have hi:=h.i
 have q:=takeS_fit h
 obtain ⟨q1,q2⟩:=takeN_le h
 have q3:=takeN_kd hi
 have oz1:=@VM.pre _ _ ([AV.ifc 183 (AV.agg [AV.ptr 100000 0 0]),AV.ptr 100001 0 0]) _ ([(100000,Blk.var [AV.sl 1 (K_ (row1 .u8) s.fst),i64 s.snd]),(100001,Blk.var [i64 0,i64 0,i64 0,i64 0,i64 0,i64 0,i64 0,i8 0,i8 0,AV.lit (AK_ none 0 0),AV.lit (AK_ none 0 0),i32 0,i64 0,i8 0,i32 0,i64 0,i8 0,i8 0,i8 0])]) _ _ _ ([GI.blk 100001 (Blk.var [i64 0,i64 0,i64 0,i64 0,i64 0,i64 0,i64 0,i8 0,i8 0,AV.sl 1 [],AV.sl 1 [],i32 0,i64 0,i8 0,i32 0,i64 0,i8 0,i8 0,i8 0]),GI.sort]) _ (@twalk_v (s) hi) w_ (.d (BlkW.var (m:=[i64 0,i64 0,i64 0,i64 0,i64 0,i64 0,i64 0,i8 0,i8 0,AV.sl 1 [],AV.sl 1 [],i32 0,i64 0,i8 0,i32 0,i64 0,i8 0,i8 0,i8 0]) (.cons (.refl _) (.cons (.refl _) (.cons (.refl _) (.cons (.refl _) (.cons (.refl _) (.cons (.refl _) (.cons (.refl _) (.cons (.refl _) (.cons (.refl _) (.cons (AV_ _) (.cons (AV_ _) (.cons (.refl _) (.cons (.refl _) (.cons (.refl _) (.cons (.refl _) (.cons (.refl _) (.cons (.refl _) (.cons (.refl _) (.cons (.refl _) .nil)))))))))))))))))))))
 have oz2:=@bad_v (takeS s) a_
 have oz4:=@check_v (takeN s) q1 q2 q3
 exact mR_ [r_,r_,d_,r_,.r [] [.callm [(100000,100000),(5,100001)] [] (rM oz1) (oM oz1)],.r [] [cm oz2],r_,d_,.r [] [cr oz4],r_,d_,r_] [.drop [2,4,5],.sort] _ Tryz.func133 (.d6 z1_ oz1 oz2 (h_ (((takeS s).snd != 0)=false)) oz4 (h_ ((checkE (takeN s) != 0)=false)))
def takeR (s:Rst):Nod×Int:=if (takeS s).2≠0 then (nod0,(takeS s).2) else if checkE (takeN s)≠0 then (nod0,checkE (takeN s)) else (takeN s,0)
theorem take_v (s:Rst) (h:s.Fit):VM M_ 133 [.ptr 100000 0 0] [(100000,.var (rdC s))] (.tup [nod (takeR s).1,i64 (takeR s).2]) [(100000,.var (rdC (takeS s)))]:=by
 by_cases hb:(takeS s).2=0
 ·by_cases hc:checkE (takeN s)=0
  ·rw[show takeR s=(takeN s,0) from by unfold takeR;rw[j_ t1_,j_ (by simpa using hc)]]
   exact take_y s h hb hc
  ·rw[show takeR s=(nod0,checkE (takeN s)) from by unfold takeR;rw[j_ t1_,i_ hc]]
   exact take_c s h hb hc
 ·rw[show takeR s=(nod0,(takeS s).2) from by unfold takeR;rw[i_ hb]]
  exact take_b s h hb
theorem oneV8 (s:Rst):In8 (oneV s):=by
 unfold oneV smlV
 repeat' split
 all_goals (first|decide|skip)
 rename_i h1 h2 h3
 rw[show ((1:Int)).toNat=1 from rfl,tkW,tkW]
 show In8 (IntKind.i8.wrap _)
 unfold In8 IntKind.wrap;simp[IntKind.bits,IntKind.signed];omega
theorem tkW8 (l:List Int) (k:Nat):∀ x∈tkW l k,In8 x:=by
 induction k with
 | zero=>intro x hx;cases hx
 | succ k ih =>
  intro x hx
  rw[tkW,CA_] at hx
  rcases hx with hx|hx
  ·exact ih x hx
  ·rw[List.mem_singleton] at hx;subst hx
   unfold In8 IntKind.wrap;simp[IntKind.bits,IntKind.signed];omega
theorem smlV8 (s:Rst) (n:Int):∀ x∈smlV s n,In8 x:=by
 unfold smlV
 repeat' split
 all_goals (first|exact tkW8 _ _|(intro x hx;cases hx))
theorem itV32 (s:Rst) (k:Nat):∀ x∈itV s k,In32 x:=by
 induction k with
 | zero=>intro x hx;cases hx
 | succ k ih =>
  intro x hx
  rw[itV,CA_] at hx
  rcases hx with hx|hx
  ·exact ih x hx
  ·rw[List.mem_singleton] at hx;subst hx
   have:=@intV_rng (itS s k) (-2147483648) 2147483647 x_ x_
   exact ⟨by omega,by omega⟩
theorem widV32 (s:Rst) (n:Int):∀ x∈widV s n,In32 x:=by
 unfold widV
 repeat' split
 all_goals (first|exact itV32 _ _|(intro x hx;cases hx))
theorem cntV64 {s:Rst} (h:s.In) {m:Int} (h0:0≤m) (h1:m≤2147483647):In64 (cntV s m):=by
 have:=cntV_rng h h0;exact ⟨by omega,by omega⟩
theorem cntV32 {s:Rst} (h:s.In) {m:Int} (h0:0≤m) (h1:m≤2147483647):In32 (cntV s m):=by
 have:=cntV_rng h h0;exact ⟨by omega,by omega⟩
theorem sclM32 {s:Rst} (h:s.In):In32 (sclM s):=cntV32 h x_ x_
theorem sclH64 {s:Rst} (h:s.In):In64 (sclH s):=cntV64 (cnt_in h _) x_ x_
theorem z8:In8 0:=by decide
theorem z32:In32 0:=by decide
theorem z64:In64 0:=by decide
theorem nil8:∀ x∈([]:List Int),In8 x:=fun _ h=>by cases h
theorem nil32:∀ x∈([]:List Int),In32 x:=fun _ h=>by cases h
theorem tn_1_ok (s:Rst) (h:s.In):(tn_1 s nod0).Ok:=⟨(cntV64 t_ x_ x_),(cntV64 t_ x_ x_),z64,(cntV64 t_ x_ x_),(cntV64 t_ x_ x_),(cntV64 t_ x_ x_),(cntV64 t_ x_ x_),(oneV8 _),z8,(smlV8 _ _),(widV32 _ _),(sclM32 t_),(sclH64 t_),(oneV8 _),z32,z64,z8,(oneV8 _),(oneV8 _)⟩
theorem tn_2_ok (s:Rst) (h:s.In):(tn_2 s nod0).Ok:=⟨(cntV64 t_ x_ x_),(cntV64 t_ x_ x_),z64,(cntV64 t_ x_ x_),(cntV64 t_ x_ x_),(cntV64 t_ x_ x_),z64,(oneV8 _),z8,(smlV8 _ _),(widV32 _ _),(sclM32 t_),(sclH64 t_),(oneV8 _),z32,z64,z8,(oneV8 _),(oneV8 _)⟩
theorem tn_3_ok (s:Rst) (h:s.In):(tn_3 s nod0).Ok:=⟨(cntV64 t_ x_ x_),(cntV64 t_ x_ x_),z64,z64,z64,z64,(cntV64 t_ x_ x_),(oneV8 _),z8,(smlV8 _ _),(widV32 _ _),(sclM32 t_),(sclH64 t_),(oneV8 _),z32,z64,z8,(oneV8 _),(oneV8 _)⟩
theorem tn_4_ok (s:Rst) (h:s.In):(tn_4 s nod0).Ok:=⟨(cntV64 t_ x_ x_),(cntV64 t_ x_ x_),z64,(cntV64 t_ x_ x_),(cntV64 t_ x_ x_),(cntV64 t_ x_ x_),z64,z8,z8,nil8,nil32,z32,z64,z8,z32,z64,z8,z8,z8⟩
theorem tn_6_ok (s:Rst) (h:s.In):(tn_6 s nod0).Ok:=⟨(cntV64 t_ x_ x_),(cntV64 t_ x_ x_),(cntV64 t_ x_ x_),z64,z64,z64,z64,(oneV8 _),(oneV8 _),nil8,nil32,(sclM32 t_),(sclH64 t_),(oneV8 _),(sclM32 t_),(sclH64 t_),z8,(oneV8 _),(oneV8 _)⟩
theorem tn_7_ok (s:Rst) (h:s.In):(tn_7 s nod0).Ok:=⟨(cntV64 t_ x_ x_),(cntV64 t_ x_ x_),z64,z64,z64,z64,z64,(oneV8 _),z8,nil8,nil32,(sclM32 t_),(sclH64 t_),(oneV8 _),z32,z64,z8,(oneV8 _),(oneV8 _)⟩
theorem tn_8_ok (s:Rst) (h:s.In):(tn_8 s nod0).Ok:=⟨(cntV64 t_ x_ x_),(cntV64 t_ x_ x_),z64,z64,z64,(cntV64 t_ x_ x_),z64,(oneV8 _),z8,nil8,nil32,z32,z64,z8,z32,z64,z8,z8,z8⟩
theorem tn_9_ok (s:Rst) (h:s.In):(tn_9 s nod0).Ok:=⟨(cntV64 t_ x_ x_),(cntV64 t_ x_ x_),z64,z64,z64,z64,z64,z8,z8,nil8,nil32,z32,z64,z8,z32,z64,z8,z8,z8⟩
theorem takeN_ok (s:Rst) (h:s.In):(takeN s).Ok:=by
 unfold takeN
 repeat' split
 all_goals (first|exact tn_1_ok s h|exact tn_2_ok s h|exact tn_3_ok s h|exact tn_4_ok s h|exact tn_6_ok s h|exact tn_7_ok s h|exact tn_8_ok s h|exact tn_9_ok s h)
theorem nod0_ok:(nod0:Nod).Ok:=by constructor<;>first|(constructor<;>decide)|(intro v hv;cases hv)
theorem takeR_ok (s:Rst) (h:s.In):(takeR s).1.Ok:=by
 unfold takeR
 repeat' split
 ·exact nod0_ok
 ·exact nod0_ok
 ·exact takeN_ok s h
theorem tsml_x (s:Rst) (l:List Nod) (w b:List Int) (nd:Int) (e:Bool) (m:Int) (h:s.In):VM M_ 243 ([.agg [.ptr 100000 0 0],.ptr 100001 0 2,i64 m]) ([(950,.slc 56 19 (l.map nodC)),(100000,.var (rdC s)),(100001,.var [.own 950,bv e,ints .i8 w,ints .i32 b,i32 nd])]) (.tup []) ([(950,.slc 56 19 (l.map nodC)),(100000,.var (rdC (smlS s m))),(100001,.var [.own 950,bv e,ints .i8 (smlV s m),ints .i32 b,i32 nd])]):=by
 have oz0:=@smallR_v (s) (m) h
 exact mR_ [r_,.r [] [cm oz0]] [.drop [3],.sort] _ Tryz.func243 (.d oz0)
theorem twid_x (s:Rst) (l:List Nod) (w b:List Int) (nd:Int) (e:Bool) (m:Int) (h:s.In):VM M_ 244 ([.agg [.ptr 100000 0 0],.ptr 100001 0 3,i64 m]) ([(950,.slc 56 19 (l.map nodC)),(100000,.var (rdC s)),(100001,.var [.own 950,bv e,ints .i8 w,ints .i32 b,i32 nd])]) (.tup []) ([(950,.slc 56 19 (l.map nodC)),(100000,.var (rdC (widS s m))),(100001,.var [.own 950,bv e,ints .i8 w,ints .i32 (widV s m),i32 nd])]):=by
 have oz0:=@wideR_v (s) (m) h
 exact mR_ [r_,.r [] [cm oz0]] [.drop [3],.sort] _ Tryz.func244 (.d oz0)
theorem tlists_x0 (s:Rst) (l:List Nod) (w b:List Int) (nd:Int) (e:Bool) (h:s.In):VM M_ 132 ([.ifc 183 (.agg [.ptr 100000 0 0]),.ptr 100001 0 2,.ptr 100001 0 3]) ([(950,.slc 56 19 (l.map nodC)),(100000,.var (rdC s)),(100001,.var [.own 950,bv e,ints .i8 w,ints .i32 b,i32 nd])]) (.tup []) ([(950,.slc 56 19 (l.map nodC)),(100000,.var (rdC (widS (cntS (smlS (cntS s 16384) (cntV s 16384)) 16384) (cntV (smlS (cntS s 16384) (cntV s 16384)) 16384)))),(100001,.var [.own 950,bv e,ints .i8 (smlV (cntS s 16384) (cntV s 16384)),ints .i32 (widV (cntS (smlS (cntS s 16384) (cntV s 16384)) 16384) (cntV (smlS (cntS s 16384) (cntV s 16384)) 16384)),i32 nd])]):=by
 have oz0:=@tnum_1 (s) (((K_ (row1 .i8) w).length:Int)) (16384) h a_ a_
 have oz1:=(show MethodIs M_ (183:Nat) "stepwell/pack.number" (methF M_ (183:Nat) "stepwell/pack.number") from (methodIs w_))
 have oz2:=@tsml_x (cntS s 16384) (l) (w) (b) (nd) (e) (cntV s 16384) i1_
 have oz4:=@tnum_1 (smlS (cntS s 16384) (cntV s 16384)) (((K_ (row1 .i32) b).length:Int)) (16384) i1_ a_ a_
 have oz6:=@twid_x (cntS (smlS (cntS s 16384) (cntV s 16384)) 16384) (l) (smlV (cntS s 16384) (cntV s 16384)) (b) (nd) (e) (cntV (smlS (cntS s 16384) (cntV s 16384)) 16384) i1_
 exact mR_ [r_,.r [] [.callm [(100000,100000),(6,100001)] [] (rM oz0) (oM oz0)],.r [] [.callm [(950,950),(100000,100000),(100001,100001)] [(950,20000)] (rM oz2) (oM oz2)],r_,.r [] [.callm [(100000,100000),(7,100001)] [] (rM oz4) (oM oz4)],.r [] [.callm [(20000,950),(100000,100000),(100001,100001)] [(950,20001)] (rM oz6) (oM oz6)]] [.drop [6,7],.ren 20001 950,.sort] _ Tryz.func132 (.d8 oz0 oz1 oz2 (show MethodIs M_ (183:Nat) "stepwell/pack.small" (methF M_ (183:Nat) "stepwell/pack.small") from (methodIs w_)) oz4 oz1 oz6 (show MethodIs M_ (183:Nat) "stepwell/pack.wides" (methF M_ (183:Nat) "stepwell/pack.wides") from (methodIs w_)))
theorem tlists_x (s:Rst) (l:List Nod) (w b:List Int) (nd:Int) (e:Bool) (h:s.In):VM M_ 132 [.ifc 183 (.agg [.ptr 100000 0 0]),.ptr 100001 0 2,.ptr 100001 0 3] [(950,.slc 56 19 (l.map nodC)),(100000,.var (rdC s)),(100001,.var [.own 950,bv e,ints .i8 w,ints .i32 b,i32 nd])] (.tup []) [(950,.slc 56 19 (l.map nodC)),(100000,.var (rdC (lstS s))),(100001,.var [.own 950,bv e,ints .i8 (lstW s),ints .i32 (lstB s),i32 nd])]:=tlists_x0 s l w b nd e h
theorem texit_y (s:Rst) (l:List Nod) (w b:List Int) (nd:Int) (h:s.In) (hk:cntV s 1=1):VM M_ 93 ([.ifc 183 (.agg [.ptr 100000 0 0]),.ptr 100001 0 0]) ([(950,.slc 56 19 (l.map nodC)),(100000,.var (rdC s)),(100001,.var [.own 950,bv false,ints .i8 w,ints .i32 b,i32 nd])]) (.tup []) ([(950,.slc 56 19 (l.map nodC)),(100000,.var (rdC (cntS (lstS (cntS s 1)) 2147483647))),(100001,.var [.own 950,bv true,ints .i8 (lstW (cntS s 1)),ints .i32 (lstB (cntS s 1)),i32 (cntV (lstS (cntS s 1)) 2147483647)])]):=by
 have q:=@cntV_rng (lstS (cntS s 1)) 2147483647 (lst_in (cnt_in h _)) x_
 have oz1:=@tnum_1 (s) (0) (1) h a_ a_
 have oz2:=(show MethodIs M_ (183:Nat) "stepwell/pack.number" (methF M_ (183:Nat) "stepwell/pack.number") from (methodIs w_))
 have oz4:=@tlists_x (cntS s 1) (l) (w) (b) (nd) (cntV s 1==1) (by (repeat first|exact h|apply cnt_in|apply sml_in|apply lst_in))
 have oz5:=@tnum_1 (lstS (cntS s 1)) (IntKind.i64.wrap nd) (2147483647) (by (repeat first|exact h|apply cnt_in|apply sml_in|apply lst_in)) a_ a_
 have oz7:=(AI_ (cntV (lstS (cntS s 1)) 2147483647) a_)
 exact mR_ [r_,r_,d_,.r [] [.callm [(100000,100000),(4,100001)] [] (rM oz1) (oM oz1)],r_,r_,d_,.r [] [.callm [(950,950),(100000,100000),(100001,100001)] [(950,20000)] (rM oz4) (oM oz4)],.r [] [.w],.r [] [.callm [(100000,100000),(5,100001)] [] (rM oz5) (oM oz5)],.r [] [.n (nO oz7)]] [.drop [4,5],.ren 20000 950,.blk 100001 (Blk.var [AV.own 950,bv true,AV.sl 1 (K_ (row1 .i8) (lstW (cntS s 1))),AV.sl 1 (K_ (row1 .i32) (lstB (cntS s 1))),i32 (cntV (lstS (cntS s 1)) 2147483647)]),.sort] _ Tryz.func93 (.c8 z1_ oz1 oz2 (h_ ((!cntV s 1==1)=false)) oz4 oz5 oz2 oz7<|.d (show BlkW (Blk.var [AV.own 950,bv (cntV s 1==1),AV.sl 1 (K_ (row1 .i8) (lstW (cntS s 1))),AV.sl 1 (K_ (row1 .i32) (lstB (cntS s 1))),i32 (cntV (lstS (cntS s 1)) 2147483647)]) (Blk.var [AV.own 950,bv true,AV.sl 1 (K_ (row1 .i8) (lstW (cntS s 1))),AV.sl 1 (K_ (row1 .i32) (lstB (cntS s 1))),i32 (cntV (lstS (cntS s 1)) 2147483647)]) from (BlkW.var (m:=[AV.own 950,bv true,AV.sl 1 (K_ (row1 .i8) (lstW (cntS s 1))),AV.sl 1 (K_ (row1 .i32) (lstB (cntS s 1))),i32 (cntV (lstS (cntS s 1)) 2147483647)]) (.cons (.refl _) (.cons (AB_ g1_) (.cons (.refl _) (.cons (.refl _) (.cons (.refl _) .nil))))))))
theorem texit_n (s:Rst) (l:List Nod) (w b:List Int) (nd:Int) (h:s.In) (hk:cntV s 1≠1):VM M_ 93 ([.ifc 183 (.agg [.ptr 100000 0 0]),.ptr 100001 0 0]) ([(950,.slc 56 19 (l.map nodC)),(100000,.var (rdC s)),(100001,.var [.own 950,bv false,ints .i8 w,ints .i32 b,i32 nd])]) (.tup []) ([(950,.slc 56 19 (l.map nodC)),(100000,.var (rdC (cntS s 1))),(100001,.var [.own 950,bv false,ints .i8 w,ints .i32 b,i32 nd])]):=by
 have oz1:=@tnum_1 (s) (0) (1) h a_ a_
 exact mR_ [r_,r_,d_,.r [] [.callm [(100000,100000),(4,100001)] [] (rM oz1) (oM oz1)],r_,r_,b_] [.drop [4],.blk 100001 (Blk.var [AV.own 950,bv false,AV.sl 1 (K_ (row1 .i8) w),AV.sl 1 (K_ (row1 .i32) b),i32 nd]),.sort] _ Tryz.func93 (.d5 z1_ oz1 (show MethodIs M_ (183:Nat) "stepwell/pack.number" (methF M_ (183:Nat) "stepwell/pack.number") from (methodIs w_)) (h_ ((!cntV s 1==1)=true)) (show BlkW (Blk.var [AV.own 950,bv (cntV s 1==1),AV.sl 1 (K_ (row1 .i8) w),AV.sl 1 (K_ (row1 .i32) b),i32 nd]) (Blk.var [AV.own 950,bv false,AV.sl 1 (K_ (row1 .i8) w),AV.sl 1 (K_ (row1 .i32) b),i32 nd]) from (BlkW.var (m:=[AV.own 950,bv false,AV.sl 1 (K_ (row1 .i8) w),AV.sl 1 (K_ (row1 .i32) b),i32 nd]) (.cons (.refl _) (.cons (AB_ v_) (.cons (.refl _) (.cons (.refl _) (.cons (.refl _) .nil))))))))
def tkS (s:Rst):Nat→Rst
 | 0=>s
 | k+1=>takeS (tkS s k)
def tkL (s:Rst):Nat→List Nod
 | 0=>[]
 | k+1=>tkL s k++[(takeR (tkS s k)).1]
theorem tkS_fit {s:Rst} (h:s.Fit) (k:Nat):(tkS s k).Fit:=by
 induction k with
 | zero=>exact h
 | succ k ih=>exact takeS_fit ih
theorem tkL_len (s:Rst) (k:Nat):(tkL s k).length=k:=by
 induction k with
 | zero=>rfl
 | succ k ih=>rw[tkL,AD_,ih];rfl
def stB (s:Rst):Rst:=tkS (cntS s 8) (cntV s 8).toNat
def exS (s:Rst):Rst:=if cntV s 1=1 then cntS (lstS (cntS s 1)) 2147483647 else cntS s 1
noncomputable def ptkb_y_I (s:Rst) (k:Nat):VS:=stt 47 [(0,.ptr 100000 0 0),(2,.ptr 2 0 0),(4,.ptr 4 0 0),(5,.ptr 5 0 0),(18,i64 (cntV s 8)),(19,i64 k)] [(2,.var [.any,.any,.any,.any,.any]),(4,.var [.ptr 100000 0 0]),(5,.var [.own 900,bv false,ints .i8 [],ints .i32 [],i32 0]),(900,.slc 56 19 ((tkL (cntS s 8) k).map nodC)),(100000,.var (rdC (tkS (cntS s 8) k)))]
noncomputable def ptkb_y_Z (s:Rst):VS:=ptkb_y_I s ((cntV s 8).toNat)
theorem ptkb_y_s (s:Rst) (h:s.Fit) (hh:∀ k,k<(cntV s 8).toNat→(takeR (tkS (cntS s 8) k)).2=0) (k:Nat) (hk:k<(cntV s 8).toNat):VT M_ (fnC Tryz.f98 [1,1,1,1,1,0,1,0,0]) (ptkb_y_I s k) .normal (ptkb_y_I s (k+1)):=by
 have q:=cntV_rng (m:=8) h.i x_
 have q0:=tkS_fit (cnt_fit h 8) k
 have q1:=tkL_len (cntS s 8) k
 have q2:=hh k hk
 have oz1:=@take_v (tkS (cntS s 8) k) q0
 exact tR_ [r_,b_,.r [] [cm oz1],r_,d_,r_,.r [] [.n ((↑k:Int)+1)]] [.any (rg [(7,2),(20,8),(30,7)]),.drop [7,33],.ren 34 900,.weak 19 (i64 (↑(k+1):Int)),.blk 900 (Blk.slc 56 19 (K_ nodC (tkL (cntS s 8) (k+1)))),.blk 100000 (Blk.var [AV.sl 1 (K_ (row1 .u8) (tkS (cntS s 8) (k+1)).fst),i64 (tkS (cntS s 8) (k+1)).snd]),.sort] (.c8 (decide_eq_true (p:=((↑k:Int)<cntV s 8)) a_) oz1 (h_ (((takeR (tkS (cntS s 8) k)).snd != 0)=false)) (h_ (((K_ nodC (tkL (cntS s 8) k)).length+1)*168≤140737488355328)) (h_ ((K_ nodC (tkL (cntS s 8) k)).length+1≤9223372036854775807)) (i6n ((↑k:Int)+1) a_) (wS_ k) (show BlkW (Blk.slc 56 19 (K_ nodC (tkL (cntS s 8) k)++[[i64 (takeR (tkS (cntS s 8) k)).fst.kd,i64 (takeR (tkS (cntS s 8) k)).fst.na,i64 (takeR (tkS (cntS s 8) k)).fst.nb,i64 (takeR (tkS (cntS s 8) k)).fst.nk,i64 (takeR (tkS (cntS s 8) k)).fst.ns,i64 (takeR (tkS (cntS s 8) k)).fst.np,i64 (takeR (tkS (cntS s 8) k)).fst.no,i8 (takeR (tkS (cntS s 8) k)).fst.za,i8 (takeR (tkS (cntS s 8) k)).fst.zb,AV.sl 1 (K_ (row1 .i8) (takeR (tkS (cntS s 8) k)).fst.w),AV.sl 1 (K_ (row1 .i32) (takeR (tkS (cntS s 8) k)).fst.b),i32 (takeR (tkS (cntS s 8) k)).fst.qm,i64 (takeR (tkS (cntS s 8) k)).fst.qs,i8 (takeR (tkS (cntS s 8) k)).fst.qz,i32 (takeR (tkS (cntS s 8) k)).fst.rm,i64 (takeR (tkS (cntS s 8) k)).fst.rs,i8 (takeR (tkS (cntS s 8) k)).fst.rz,i8 (takeR (tkS (cntS s 8) k)).fst.lo,i8 (takeR (tkS (cntS s 8) k)).fst.hi]])) (Blk.slc 56 19 (K_ nodC (tkL (cntS s 8) (k+1)))) from (CW_ (e:=56) (z:=19) (rows_to (nodC) (r:=K_ nodC (tkL (cntS s 8) k)++[[i64 (takeR (tkS (cntS s 8) k)).fst.kd,i64 (takeR (tkS (cntS s 8) k)).fst.na,i64 (takeR (tkS (cntS s 8) k)).fst.nb,i64 (takeR (tkS (cntS s 8) k)).fst.nk,i64 (takeR (tkS (cntS s 8) k)).fst.ns,i64 (takeR (tkS (cntS s 8) k)).fst.np,i64 (takeR (tkS (cntS s 8) k)).fst.no,i8 (takeR (tkS (cntS s 8) k)).fst.za,i8 (takeR (tkS (cntS s 8) k)).fst.zb,AV.sl 1 (K_ (row1 .i8) (takeR (tkS (cntS s 8) k)).fst.w),AV.sl 1 (K_ (row1 .i32) (takeR (tkS (cntS s 8) k)).fst.b),i32 (takeR (tkS (cntS s 8) k)).fst.qm,i64 (takeR (tkS (cntS s 8) k)).fst.qs,i8 (takeR (tkS (cntS s 8) k)).fst.qz,i32 (takeR (tkS (cntS s 8) k)).fst.rm,i64 (takeR (tkS (cntS s 8) k)).fst.rs,i8 (takeR (tkS (cntS s 8) k)).fst.rz,i8 (takeR (tkS (cntS s 8) k)).fst.lo,i8 (takeR (tkS (cntS s 8) k)).fst.hi]]) (l:=tkL (cntS s 8) k++[Nod.mk (takeR (tkS (cntS s 8) k)).fst.kd (takeR (tkS (cntS s 8) k)).fst.na (takeR (tkS (cntS s 8) k)).fst.nb (takeR (tkS (cntS s 8) k)).fst.nk (takeR (tkS (cntS s 8) k)).fst.ns (takeR (tkS (cntS s 8) k)).fst.np (takeR (tkS (cntS s 8) k)).fst.no (takeR (tkS (cntS s 8) k)).fst.za (takeR (tkS (cntS s 8) k)).fst.zb (takeR (tkS (cntS s 8) k)).fst.w (takeR (tkS (cntS s 8) k)).fst.b (takeR (tkS (cntS s 8) k)).fst.qm (takeR (tkS (cntS s 8) k)).fst.qs (takeR (tkS (cntS s 8) k)).fst.qz (takeR (tkS (cntS s 8) k)).fst.rm (takeR (tkS (cntS s 8) k)).fst.rs (takeR (tkS (cntS s 8) k)).fst.rz (takeR (tkS (cntS s 8) k)).fst.lo (takeR (tkS (cntS s 8) k)).fst.hi]) (m:=tkL (cntS s 8) (k+1)) b1_ (show (tkL (cntS s 8) k++[Nod.mk (takeR (tkS (cntS s 8) k)).fst.kd (takeR (tkS (cntS s 8) k)).fst.na (takeR (tkS (cntS s 8) k)).fst.nb (takeR (tkS (cntS s 8) k)).fst.nk (takeR (tkS (cntS s 8) k)).fst.ns (takeR (tkS (cntS s 8) k)).fst.np (takeR (tkS (cntS s 8) k)).fst.no (takeR (tkS (cntS s 8) k)).fst.za (takeR (tkS (cntS s 8) k)).fst.zb (takeR (tkS (cntS s 8) k)).fst.w (takeR (tkS (cntS s 8) k)).fst.b (takeR (tkS (cntS s 8) k)).fst.qm (takeR (tkS (cntS s 8) k)).fst.qs (takeR (tkS (cntS s 8) k)).fst.qz (takeR (tkS (cntS s 8) k)).fst.rm (takeR (tkS (cntS s 8) k)).fst.rs (takeR (tkS (cntS s 8) k)).fst.rz (takeR (tkS (cntS s 8) k)).fst.lo (takeR (tkS (cntS s 8) k)).fst.hi])=(tkL (cntS s 8) (k+1)) from t0_))))<|.d (show BlkW (Blk.var [AV.sl 1 (K_ (row1 .u8) (takeS (tkS (cntS s 8) k)).fst),i64 (takeS (tkS (cntS s 8) k)).snd]) (Blk.var [AV.sl 1 (K_ (row1 .u8) (tkS (cntS s 8) (k+1)).fst),i64 (tkS (cntS s 8) (k+1)).snd]) from (BlkW.var (m:=[AV.sl 1 (K_ (row1 .u8) (tkS (cntS s 8) (k+1)).fst),i64 (tkS (cntS s 8) (k+1)).snd]) (.cons (AH_ (rows_to (row1 .u8) (r:=K_ (row1 .u8) (takeS (tkS (cntS s 8) k)).fst) (l:=(takeS (tkS (cntS s 8) k)).fst) (m:=(tkS (cntS s 8) (k+1)).fst) rfl (show ((takeS (tkS (cntS s 8) k)).fst)=((tkS (cntS s 8) (k+1)).fst) from t0_))) (.cons (N_ t0_) .nil)))))
theorem ptkb_y_e (s:Rst) (h:s.Fit) (hh:∀ k,k<(cntV s 8).toNat→(takeR (tkS (cntS s 8) k)).2=0):VT M_ (fnC Tryz.f98 [1,1,1,1,1,0,1,0,0]) (ptkb_y_I s ((cntV s 8).toNat)) (.exit 0) (ptkb_y_Z s):=by
 exact tR_ [r_,d_] [.any [20],.sort] (.d (decide_eq_false (p:=((↑(cntV s 8).toNat:Int)<cntV s 8)) a_))
theorem ptkb_y (s:Rst) (h:s.Fit) (hh:∀ k,k<(cntV s 8).toNat→(takeR (tkS (cntS s 8) k)).2=0):VT M_ (fnC Tryz.f98 [1,1,1,1,1,0,1,0]) (ptkb_y_I s 0) (.exit 0) (ptkb_y_Z s) :=
 VT.loop (fun k=>ptkb_y_I s k) ((cntV s 8).toNat) (fun k hk=>ptkb_y_s s h hh k hk) (ptkb_y_e s h hh) c0_
noncomputable def ptkb_n_I (s:Rst) (m:Nat) (k:Nat):VS:=stt 47 [(0,.ptr 100000 0 0),(2,.ptr 2 0 0),(4,.ptr 4 0 0),(5,.ptr 5 0 0),(18,i64 (cntV s 8)),(19,i64 k)] [(2,.var [.any,.any,.any,.any,.any]),(4,.var [.ptr 100000 0 0]),(5,.var [.own 900,bv false,ints .i8 [],ints .i32 [],i32 0]),(900,.slc 56 19 ((tkL (cntS s 8) k).map nodC)),(100000,.var (rdC (tkS (cntS s 8) k)))]
noncomputable def ptkb_n_Z (s:Rst) (m:Nat):VS:=stt 47 [(2,.ptr 2 0 0),(3,i64 (takeR (tkS (cntS s 8) m)).2)] [(2,.var [nilv,bv false,nilv,nilv,i32 0]),(100000,.var (rdC (tkS (cntS s 8) (m+1))))]
theorem ptkb_n_s (s:Rst) (m:Nat) (h:s.Fit) (hm:m<(cntV s 8).toNat) (hf:(takeR (tkS (cntS s 8) m)).2≠0) (hh:∀ k,k<m→(takeR (tkS (cntS s 8) k)).2=0) (k:Nat) (hk:k<m):VT M_ (fnC Tryz.f98 [1,1,1,1,1,0,1,0,0]) (ptkb_n_I s m k) .normal (ptkb_n_I s m (k+1)):=by
 have q:=cntV_rng (m:=8) h.i x_
 have q0:=tkS_fit (cnt_fit h 8) k
 have q1:=tkL_len (cntS s 8) k
 have q2:=hh k hk
 have oz1:=@take_v (tkS (cntS s 8) k) q0
 exact tR_ [r_,b_,.r [] [cm oz1],r_,d_,r_,.r [] [.n ((↑k:Int)+1)]] [.any (rg [(7,2),(20,8),(30,7)]),.drop [7,33],.ren 34 900,.weak 19 (i64 (↑(k+1):Int)),.blk 900 (Blk.slc 56 19 (K_ nodC (tkL (cntS s 8) (k+1)))),.blk 100000 (Blk.var [AV.sl 1 (K_ (row1 .u8) (tkS (cntS s 8) (k+1)).fst),i64 (tkS (cntS s 8) (k+1)).snd]),.sort] (.c8 (decide_eq_true (p:=((↑k:Int)<cntV s 8)) a_) oz1 (h_ (((takeR (tkS (cntS s 8) k)).snd != 0)=false)) (h_ (((K_ nodC (tkL (cntS s 8) k)).length+1)*168≤140737488355328)) (h_ ((K_ nodC (tkL (cntS s 8) k)).length+1≤9223372036854775807)) (i6n ((↑k:Int)+1) a_) (wS_ k) (show BlkW (Blk.slc 56 19 (K_ nodC (tkL (cntS s 8) k)++[[i64 (takeR (tkS (cntS s 8) k)).fst.kd,i64 (takeR (tkS (cntS s 8) k)).fst.na,i64 (takeR (tkS (cntS s 8) k)).fst.nb,i64 (takeR (tkS (cntS s 8) k)).fst.nk,i64 (takeR (tkS (cntS s 8) k)).fst.ns,i64 (takeR (tkS (cntS s 8) k)).fst.np,i64 (takeR (tkS (cntS s 8) k)).fst.no,i8 (takeR (tkS (cntS s 8) k)).fst.za,i8 (takeR (tkS (cntS s 8) k)).fst.zb,AV.sl 1 (K_ (row1 .i8) (takeR (tkS (cntS s 8) k)).fst.w),AV.sl 1 (K_ (row1 .i32) (takeR (tkS (cntS s 8) k)).fst.b),i32 (takeR (tkS (cntS s 8) k)).fst.qm,i64 (takeR (tkS (cntS s 8) k)).fst.qs,i8 (takeR (tkS (cntS s 8) k)).fst.qz,i32 (takeR (tkS (cntS s 8) k)).fst.rm,i64 (takeR (tkS (cntS s 8) k)).fst.rs,i8 (takeR (tkS (cntS s 8) k)).fst.rz,i8 (takeR (tkS (cntS s 8) k)).fst.lo,i8 (takeR (tkS (cntS s 8) k)).fst.hi]])) (Blk.slc 56 19 (K_ nodC (tkL (cntS s 8) (k+1)))) from (CW_ (e:=56) (z:=19) (rows_to (nodC) (r:=K_ nodC (tkL (cntS s 8) k)++[[i64 (takeR (tkS (cntS s 8) k)).fst.kd,i64 (takeR (tkS (cntS s 8) k)).fst.na,i64 (takeR (tkS (cntS s 8) k)).fst.nb,i64 (takeR (tkS (cntS s 8) k)).fst.nk,i64 (takeR (tkS (cntS s 8) k)).fst.ns,i64 (takeR (tkS (cntS s 8) k)).fst.np,i64 (takeR (tkS (cntS s 8) k)).fst.no,i8 (takeR (tkS (cntS s 8) k)).fst.za,i8 (takeR (tkS (cntS s 8) k)).fst.zb,AV.sl 1 (K_ (row1 .i8) (takeR (tkS (cntS s 8) k)).fst.w),AV.sl 1 (K_ (row1 .i32) (takeR (tkS (cntS s 8) k)).fst.b),i32 (takeR (tkS (cntS s 8) k)).fst.qm,i64 (takeR (tkS (cntS s 8) k)).fst.qs,i8 (takeR (tkS (cntS s 8) k)).fst.qz,i32 (takeR (tkS (cntS s 8) k)).fst.rm,i64 (takeR (tkS (cntS s 8) k)).fst.rs,i8 (takeR (tkS (cntS s 8) k)).fst.rz,i8 (takeR (tkS (cntS s 8) k)).fst.lo,i8 (takeR (tkS (cntS s 8) k)).fst.hi]]) (l:=tkL (cntS s 8) k++[Nod.mk (takeR (tkS (cntS s 8) k)).fst.kd (takeR (tkS (cntS s 8) k)).fst.na (takeR (tkS (cntS s 8) k)).fst.nb (takeR (tkS (cntS s 8) k)).fst.nk (takeR (tkS (cntS s 8) k)).fst.ns (takeR (tkS (cntS s 8) k)).fst.np (takeR (tkS (cntS s 8) k)).fst.no (takeR (tkS (cntS s 8) k)).fst.za (takeR (tkS (cntS s 8) k)).fst.zb (takeR (tkS (cntS s 8) k)).fst.w (takeR (tkS (cntS s 8) k)).fst.b (takeR (tkS (cntS s 8) k)).fst.qm (takeR (tkS (cntS s 8) k)).fst.qs (takeR (tkS (cntS s 8) k)).fst.qz (takeR (tkS (cntS s 8) k)).fst.rm (takeR (tkS (cntS s 8) k)).fst.rs (takeR (tkS (cntS s 8) k)).fst.rz (takeR (tkS (cntS s 8) k)).fst.lo (takeR (tkS (cntS s 8) k)).fst.hi]) (m:=tkL (cntS s 8) (k+1)) b1_ (show (tkL (cntS s 8) k++[Nod.mk (takeR (tkS (cntS s 8) k)).fst.kd (takeR (tkS (cntS s 8) k)).fst.na (takeR (tkS (cntS s 8) k)).fst.nb (takeR (tkS (cntS s 8) k)).fst.nk (takeR (tkS (cntS s 8) k)).fst.ns (takeR (tkS (cntS s 8) k)).fst.np (takeR (tkS (cntS s 8) k)).fst.no (takeR (tkS (cntS s 8) k)).fst.za (takeR (tkS (cntS s 8) k)).fst.zb (takeR (tkS (cntS s 8) k)).fst.w (takeR (tkS (cntS s 8) k)).fst.b (takeR (tkS (cntS s 8) k)).fst.qm (takeR (tkS (cntS s 8) k)).fst.qs (takeR (tkS (cntS s 8) k)).fst.qz (takeR (tkS (cntS s 8) k)).fst.rm (takeR (tkS (cntS s 8) k)).fst.rs (takeR (tkS (cntS s 8) k)).fst.rz (takeR (tkS (cntS s 8) k)).fst.lo (takeR (tkS (cntS s 8) k)).fst.hi])=(tkL (cntS s 8) (k+1)) from t0_))))<|.d (show BlkW (Blk.var [AV.sl 1 (K_ (row1 .u8) (takeS (tkS (cntS s 8) k)).fst),i64 (takeS (tkS (cntS s 8) k)).snd]) (Blk.var [AV.sl 1 (K_ (row1 .u8) (tkS (cntS s 8) (k+1)).fst),i64 (tkS (cntS s 8) (k+1)).snd]) from (BlkW.var (m:=[AV.sl 1 (K_ (row1 .u8) (tkS (cntS s 8) (k+1)).fst),i64 (tkS (cntS s 8) (k+1)).snd]) (.cons (AH_ (rows_to (row1 .u8) (r:=K_ (row1 .u8) (takeS (tkS (cntS s 8) k)).fst) (l:=(takeS (tkS (cntS s 8) k)).fst) (m:=(tkS (cntS s 8) (k+1)).fst) rfl (show ((takeS (tkS (cntS s 8) k)).fst)=((tkS (cntS s 8) (k+1)).fst) from t0_))) (.cons (N_ t0_) .nil)))))
theorem ptkb_n_e (s:Rst) (m:Nat) (h:s.Fit) (hm:m<(cntV s 8).toNat) (hf:(takeR (tkS (cntS s 8) m)).2≠0) (hh:∀ k,k<m→(takeR (tkS (cntS s 8) k)).2=0):VT M_ (fnC Tryz.f98 [1,1,1,1,1,0,1,0,0]) (ptkb_n_I s m (m)) (.ret) (ptkb_n_Z s m):=by
 have q:=cntV_rng (m:=8) h.i x_
 have q0:=tkS_fit (cnt_fit h 8) m
 have q1:=tkL_len (cntS s 8) m
 have oz1:=@take_v (tkS (cntS s 8) m) q0
 exact tR_ [r_,b_,.r [] [cm oz1],r_,b_,r_] [.any (rg [(0,1),(4,2),(7,2),(18,12)]),.drop [4,5,900,7],.blk 100000 (Blk.var [AV.sl 1 (K_ (row1 .u8) (tkS (cntS s 8) (m+1)).fst),i64 (tkS (cntS s 8) (m+1)).snd]),.sort] (.d4 (decide_eq_true (p:=((↑m:Int)<cntV s 8)) a_) oz1 (h_ (((takeR (tkS (cntS s 8) m)).snd != 0)=true)) (show BlkW (Blk.var [AV.sl 1 (K_ (row1 .u8) (takeS (tkS (cntS s 8) m)).fst),i64 (takeS (tkS (cntS s 8) m)).snd]) (Blk.var [AV.sl 1 (K_ (row1 .u8) (tkS (cntS s 8) (m+1)).fst),i64 (tkS (cntS s 8) (m+1)).snd]) from (BlkW.var (m:=[AV.sl 1 (K_ (row1 .u8) (tkS (cntS s 8) (m+1)).fst),i64 (tkS (cntS s 8) (m+1)).snd]) (.cons (AH_ (rows_to (row1 .u8) (r:=K_ (row1 .u8) (takeS (tkS (cntS s 8) m)).fst) (l:=(takeS (tkS (cntS s 8) m)).fst) (m:=(tkS (cntS s 8) (m+1)).fst) rfl (show ((takeS (tkS (cntS s 8) m)).fst)=((tkS (cntS s 8) (m+1)).fst) from t0_))) (.cons (N_ t0_) .nil)))))
theorem ptkb_n (s:Rst) (m:Nat) (h:s.Fit) (hm:m<(cntV s 8).toNat) (hf:(takeR (tkS (cntS s 8) m)).2≠0) (hh:∀ k,k<m→(takeR (tkS (cntS s 8) k)).2=0):VT M_ (fnC Tryz.f98 [1,1,1,1,1,0,1,0]) (ptkb_n_I s m 0) (.ret) (ptkb_n_Z s m) :=
 VT.loop (fun k=>ptkb_n_I s m k) (m) (fun k hk=>ptkb_n_s s m h hm hf hh k hk) (ptkb_n_e s m h hm hf hh) c0_
theorem ptake_f (s:Rst) (m:Nat) (h:s.Fit) (hm:m<(cntV s 8).toNat) (hf:(takeR (tkS (cntS s 8) m)).2≠0) (hh:∀ k,k<m→(takeR (tkS (cntS s 8) k)).2=0):VM M_ 98 ([.ptr 100000 0 0]) ([(100000,.var (rdC s))]) (.tup [.agg [.sl 19 [],bv false,.sl 1 [],.sl 1 [],i32 0],i64 (takeR (tkS (cntS s 8) m)).2]) ([(100000,.var (rdC (tkS (cntS s 8) (m+1))))]):=by
 have q:=cntV_rng (m:=8) h.i x_
 have q9:=h.i
 have qa:(tkS (cntS s 8) (cntV s 8).toNat).In:=(tkS_fit (cnt_fit h 8) _).i
 have qc:=tkS_fit (cnt_fit h 8) (cntV s 8).toNat
 have qd:=(cnt_fit qc 1).e
 have qe:=(cnt_fit (lst_fit (cnt_fit qc 1)) 2147483647).e
 have oz1:=@tnum_1 (s) (0) (8) q9 a_ a_
 have oz6:=@ptkb_n (s) (m) h hm hf hh
 exact mR_ [r_,r_,d_,r_,r_,.r [] [.callm [(100000,100000),(6,100001)] [] (rM oz1) (oM oz1)],r_,.code [.any [3,6,10,11,13,14,15,16,17],.drop [6],.weak 19 (i64 (↑0:Int)),.nilc 900 56 19 5 0,.blk 2 (Blk.var [AV.any,AV.any,AV.any,AV.any,AV.any]),.blk 5 (Blk.var [AV.own 900,bv false,AV.sl 1 [],AV.sl 1 [],i32 0]),.blk 100000 (Blk.var [AV.sl 1 (K_ (row1 .u8) (tkS (cntS s 8) 0).fst),i64 (tkS (cntS s 8) 0).snd]),.sort] (DT_) (zO oz6)] [.drop [2],.weak 0 (AV.tup [AV.agg [AV.sl 19 [],bv false,AV.sl 1 [],AV.sl 1 [],i32 0],i64 (takeR (tkS (cntS s 8) m)).snd]),.sort] _ Tryz.func98 (.d8 z1_ oz1 w0_ (show BlkW (Blk.var [AV.lit (AK_ none (0:Nat) (0:Nat)),bv false,AV.lit (AK_ none (0:Nat) (0:Nat)),AV.lit (AK_ none (0:Nat) (0:Nat)),i32 (0:Int)]) (Blk.var [AV.any,AV.any,AV.any,AV.any,AV.any]) from (BlkW.var (m:=[AV.any,AV.any,AV.any,AV.any,AV.any]) (.cons (AG_ _) (.cons (AG_ _) (.cons (AG_ _) (.cons (AG_ _) (.cons (AG_ _) .nil))))))) (show BlkW (Blk.var [AV.own (900:Nat),bv false,AV.lit (AK_ none (0:Nat) (0:Nat)),AV.lit (AK_ none (0:Nat) (0:Nat)),i32 (0:Int)]) (Blk.var [AV.own (900:Nat),bv false,AV.sl (1:Nat) [],AV.sl (1:Nat) [],i32 (0:Int)]) from (BlkW.var (m:=[AV.own 900,bv false,AV.sl 1 [],AV.sl 1 [],i32 0]) (.cons (.refl _) (.cons (.refl _) (.cons (AV_ _) (.cons (AV_ _) (.cons (.refl _) .nil))))))) (show BlkW (Blk.var [AV.sl 1 (K_ (row1 .u8) (cntS s 8).fst),i64 (cntS s 8).snd]) (Blk.var [AV.sl 1 (K_ (row1 .u8) (tkS (cntS s 8) 0).fst),i64 (tkS (cntS s 8) 0).snd]) from (BlkW.var (m:=[AV.sl 1 (K_ (row1 .u8) (tkS (cntS s 8) 0).fst),i64 (tkS (cntS s 8) 0).snd]) (.cons (AH_ (rows_to (row1 .u8) (r:=K_ (row1 .u8) (cntS s 8).fst) (l:=(cntS s 8).fst) (m:=(tkS (cntS s 8) 0).fst) rfl (show ((cntS s 8).fst)=((tkS (cntS s 8) 0).fst) from t0_))) (.cons (N_ t0_) .nil)))) oz6 (show Weak (AV.tup [AV.agg [AV.lit (AK_ none 0 0),bv false,AV.lit (AK_ none 0 0),AV.lit (AK_ none 0 0),i32 0],i64 (takeR (tkS (cntS s 8) m)).snd]) (AV.tup [AV.agg [AV.sl 19 [],bv false,AV.sl 1 [],AV.sl 1 [],i32 0],i64 (takeR (tkS (cntS s 8) m)).snd]) from (AA_ (.cons (AZ_ (.cons (AV_ _) (.cons (.refl _) (.cons (AV_ _) (.cons (AV_ _) (.cons (.refl _) .nil)))))) (.cons (.refl _) .nil)))))
theorem ptake_nb (s:Rst) (h:s.Fit) (hh:∀ k,k<(cntV s 8).toNat→(takeR (tkS (cntS s 8) k)).2=0) (hx:cntV (tkS (cntS s 8) (cntV s 8).toNat) 1≠1) (hb:(cntS (tkS (cntS s 8) (cntV s 8).toNat) 1).2≠0):VM M_ 98 ([.ptr 100000 0 0]) ([(100000,.var (rdC s))]) (.tup [.agg [.sl 19 [],bv false,.sl 1 [],.sl 1 [],i32 0],i64 (cntS (tkS (cntS s 8) (cntV s 8).toNat) 1).2]) ([(100000,.var (rdC (cntS (tkS (cntS s 8) (cntV s 8).toNat) 1)))]):=by
 have q:=cntV_rng (m:=8) h.i x_
 have q9:=h.i
 have qa:(tkS (cntS s 8) (cntV s 8).toNat).In:=(tkS_fit (cnt_fit h 8) _).i
 have qc:=tkS_fit (cnt_fit h 8) (cntV s 8).toNat
 have qd:=(cnt_fit qc 1).e
 have qe:=(cnt_fit (lst_fit (cnt_fit qc 1)) 2147483647).e
 have oz1:=@tnum_1 (s) (0) (8) q9 a_ a_
 have oz6:=@ptkb_y (s) h hh
 have oz7:=@VM.pre _ _ ([AV.ifc 183 (AV.agg [AV.ptr 100000 0 0]),AV.ptr 100001 0 0]) _ ([(950,Blk.slc 56 19 (K_ nodC (tkL (cntS s 8) (cntV s 8).toNat))),(100000,Blk.var [AV.sl 1 (K_ (row1 .u8) (tkS (cntS s 8) (cntV s 8).toNat).fst),i64 (tkS (cntS s 8) (cntV s 8).toNat).snd]),(100001,Blk.var [AV.own 950,bv false,AV.sl 1 [],AV.sl 1 [],i32 0])]) _ _ _ ([GI.sort]) _ (@texit_n (tkS (cntS s 8) (cntV s 8).toNat) (tkL (cntS s 8) (cntV s 8).toNat) ([]) ([]) (0) qa hx) w_ (.n)
 have oz8:=@bad_v (cntS (tkS (cntS s 8) (cntV s 8).toNat) 1) qd
 exact mR_ [r_,r_,d_,r_,r_,.r [] [.callm [(100000,100000),(6,100001)] [] (rM oz1) (oM oz1)],r_,.code [.any [3,6,10,11,13,14,15,16,17],.drop [6],.weak 19 (i64 (↑0:Int)),.nilc 900 56 19 5 0,.blk 2 (Blk.var [AV.any,AV.any,AV.any,AV.any,AV.any]),.blk 5 (Blk.var [AV.own 900,bv false,AV.sl 1 [],AV.sl 1 [],i32 0]),.blk 100000 (Blk.var [AV.sl 1 (K_ (row1 .u8) (tkS (cntS s 8) 0).fst),i64 (tkS (cntS s 8) 0).snd]),.sort] (BS_ 0) (zO oz6),.r [] [.callm [(900,950),(100000,100000),(5,100001)] [(950,20000)] (rM oz7) (oM oz7)],.r [] [cm oz8],r_,b_,r_] [.drop [2,4,20000,5],.weak 0 (AV.tup [AV.agg [AV.sl 19 [],bv false,AV.sl 1 [],AV.sl 1 [],i32 0],i64 (cntS (tkS (cntS s 8) (cntV s 8).toNat) 1).snd]),.sort] _ Tryz.func98 (.c8 z1_ oz1 w0_ (show BlkW (Blk.var [AV.lit (AK_ none (0:Nat) (0:Nat)),bv false,AV.lit (AK_ none (0:Nat) (0:Nat)),AV.lit (AK_ none (0:Nat) (0:Nat)),i32 (0:Int)]) (Blk.var [AV.any,AV.any,AV.any,AV.any,AV.any]) from (BlkW.var (m:=[AV.any,AV.any,AV.any,AV.any,AV.any]) (.cons (AG_ _) (.cons (AG_ _) (.cons (AG_ _) (.cons (AG_ _) (.cons (AG_ _) .nil))))))) (show BlkW (Blk.var [AV.own (900:Nat),bv false,AV.lit (AK_ none (0:Nat) (0:Nat)),AV.lit (AK_ none (0:Nat) (0:Nat)),i32 (0:Int)]) (Blk.var [AV.own (900:Nat),bv false,AV.sl (1:Nat) [],AV.sl (1:Nat) [],i32 (0:Int)]) from (BlkW.var (m:=[AV.own 900,bv false,AV.sl 1 [],AV.sl 1 [],i32 0]) (.cons (.refl _) (.cons (.refl _) (.cons (AV_ _) (.cons (AV_ _) (.cons (.refl _) .nil))))))) (show BlkW (Blk.var [AV.sl 1 (K_ (row1 .u8) (cntS s 8).fst),i64 (cntS s 8).snd]) (Blk.var [AV.sl 1 (K_ (row1 .u8) (tkS (cntS s 8) 0).fst),i64 (tkS (cntS s 8) 0).snd]) from (BlkW.var (m:=[AV.sl 1 (K_ (row1 .u8) (tkS (cntS s 8) 0).fst),i64 (tkS (cntS s 8) 0).snd]) (.cons (AH_ (rows_to (row1 .u8) (r:=K_ (row1 .u8) (cntS s 8).fst) (l:=(cntS s 8).fst) (m:=(tkS (cntS s 8) 0).fst) rfl (show ((cntS s 8).fst)=((tkS (cntS s 8) 0).fst) from t0_))) (.cons (N_ t0_) .nil)))) oz6 oz7<|.d3 oz8 (h_ (((cntS (tkS (cntS s 8) (cntV s 8).toNat) 1).snd != 0)=true)) (show Weak (AV.tup [AV.agg [AV.lit (AK_ none 0 0),bv false,AV.lit (AK_ none 0 0),AV.lit (AK_ none 0 0),i32 0],i64 (cntS (tkS (cntS s 8) (cntV s 8).toNat) 1).snd]) (AV.tup [AV.agg [AV.sl 19 [],bv false,AV.sl 1 [],AV.sl 1 [],i32 0],i64 (cntS (tkS (cntS s 8) (cntV s 8).toNat) 1).snd]) from (AA_ (.cons (AZ_ (.cons (AV_ _) (.cons (.refl _) (.cons (AV_ _) (.cons (AV_ _) (.cons (.refl _) .nil)))))) (.cons (.refl _) .nil)))))
theorem ptake_ny (s:Rst) (h:s.Fit) (hh:∀ k,k<(cntV s 8).toNat→(takeR (tkS (cntS s 8) k)).2=0) (hx:cntV (tkS (cntS s 8) (cntV s 8).toNat) 1≠1) (hb:(cntS (tkS (cntS s 8) (cntV s 8).toNat) 1).2=0):VM M_ 98 ([.ptr 100000 0 0]) ([(100000,.var (rdC s))]) (.tup [.agg [.sl 19 ((tkL (cntS s 8) (cntV s 8).toNat).map nodC),bv false,ints .i8 [],ints .i32 [],i32 0],i64 0]) ([(100000,.var (rdC (cntS (tkS (cntS s 8) (cntV s 8).toNat) 1)))]):=by
 have q:=cntV_rng (m:=8) h.i x_
 have q9:=h.i
 have qa:(tkS (cntS s 8) (cntV s 8).toNat).In:=(tkS_fit (cnt_fit h 8) _).i
 have qc:=tkS_fit (cnt_fit h 8) (cntV s 8).toNat
 have qd:=(cnt_fit qc 1).e
 have qe:=(cnt_fit (lst_fit (cnt_fit qc 1)) 2147483647).e
 have oz1:=@tnum_1 (s) (0) (8) q9 a_ a_
 have oz6:=@ptkb_y (s) h hh
 have oz7:=@VM.pre _ _ ([AV.ifc 183 (AV.agg [AV.ptr 100000 0 0]),AV.ptr 100001 0 0]) _ ([(950,Blk.slc 56 19 (K_ nodC (tkL (cntS s 8) (cntV s 8).toNat))),(100000,Blk.var [AV.sl 1 (K_ (row1 .u8) (tkS (cntS s 8) (cntV s 8).toNat).fst),i64 (tkS (cntS s 8) (cntV s 8).toNat).snd]),(100001,Blk.var [AV.own 950,bv false,AV.sl 1 [],AV.sl 1 [],i32 0])]) _ _ _ ([GI.sort]) _ (@texit_n (tkS (cntS s 8) (cntV s 8).toNat) (tkL (cntS s 8) (cntV s 8).toNat) ([]) ([]) (0) qa hx) w_ (.n)
 have oz8:=@bad_v (cntS (tkS (cntS s 8) (cntV s 8).toNat) 1) qd
 exact mR_ [r_,r_,d_,r_,r_,.r [] [.callm [(100000,100000),(6,100001)] [] (rM oz1) (oM oz1)],r_,.code [.any [3,6,10,11,13,14,15,16,17],.drop [6],.weak 19 (i64 (↑0:Int)),.nilc 900 56 19 5 0,.blk 2 (Blk.var [AV.any,AV.any,AV.any,AV.any,AV.any]),.blk 5 (Blk.var [AV.own 900,bv false,AV.sl 1 [],AV.sl 1 [],i32 0]),.blk 100000 (Blk.var [AV.sl 1 (K_ (row1 .u8) (tkS (cntS s 8) 0).fst),i64 (tkS (cntS s 8) 0).snd]),.sort] (BS_ 0) (zO oz6),.r [] [.callm [(900,950),(100000,100000),(5,100001)] [(950,20000)] (rM oz7) (oM oz7)],.r [] [cm oz8],r_,d_,r_] [.frz 20000,.drop [2,4,5],.sort] _ Tryz.func98 (.c8 z1_ oz1 w0_ (show BlkW (Blk.var [AV.lit (AK_ none (0:Nat) (0:Nat)),bv false,AV.lit (AK_ none (0:Nat) (0:Nat)),AV.lit (AK_ none (0:Nat) (0:Nat)),i32 (0:Int)]) (Blk.var [AV.any,AV.any,AV.any,AV.any,AV.any]) from (BlkW.var (m:=[AV.any,AV.any,AV.any,AV.any,AV.any]) (.cons (AG_ _) (.cons (AG_ _) (.cons (AG_ _) (.cons (AG_ _) (.cons (AG_ _) .nil))))))) (show BlkW (Blk.var [AV.own (900:Nat),bv false,AV.lit (AK_ none (0:Nat) (0:Nat)),AV.lit (AK_ none (0:Nat) (0:Nat)),i32 (0:Int)]) (Blk.var [AV.own (900:Nat),bv false,AV.sl (1:Nat) [],AV.sl (1:Nat) [],i32 (0:Int)]) from (BlkW.var (m:=[AV.own 900,bv false,AV.sl 1 [],AV.sl 1 [],i32 0]) (.cons (.refl _) (.cons (.refl _) (.cons (AV_ _) (.cons (AV_ _) (.cons (.refl _) .nil))))))) (show BlkW (Blk.var [AV.sl 1 (K_ (row1 .u8) (cntS s 8).fst),i64 (cntS s 8).snd]) (Blk.var [AV.sl 1 (K_ (row1 .u8) (tkS (cntS s 8) 0).fst),i64 (tkS (cntS s 8) 0).snd]) from (BlkW.var (m:=[AV.sl 1 (K_ (row1 .u8) (tkS (cntS s 8) 0).fst),i64 (tkS (cntS s 8) 0).snd]) (.cons (AH_ (rows_to (row1 .u8) (r:=K_ (row1 .u8) (cntS s 8).fst) (l:=(cntS s 8).fst) (m:=(tkS (cntS s 8) 0).fst) rfl (show ((cntS s 8).fst)=((tkS (cntS s 8) 0).fst) from t0_))) (.cons (N_ t0_) .nil)))) oz6 oz7<|.d2 oz8 (h_ (((cntS (tkS (cntS s 8) (cntV s 8).toNat) 1).snd != 0)=false)))
theorem ptake_yb (s:Rst) (h:s.Fit) (hh:∀ k,k<(cntV s 8).toNat→(takeR (tkS (cntS s 8) k)).2=0) (hx:cntV (tkS (cntS s 8) (cntV s 8).toNat) 1=1) (hb:(cntS (lstS (cntS (tkS (cntS s 8) (cntV s 8).toNat) 1)) 2147483647).2≠0):VM M_ 98 ([.ptr 100000 0 0]) ([(100000,.var (rdC s))]) (.tup [.agg [.sl 19 [],bv false,.sl 1 [],.sl 1 [],i32 0],i64 (cntS (lstS (cntS (tkS (cntS s 8) (cntV s 8).toNat) 1)) 2147483647).2]) ([(100000,.var (rdC (cntS (lstS (cntS (tkS (cntS s 8) (cntV s 8).toNat) 1)) 2147483647)))]):=by
 have q:=cntV_rng (m:=8) h.i x_
 have q9:=h.i
 have qa:(tkS (cntS s 8) (cntV s 8).toNat).In:=(tkS_fit (cnt_fit h 8) _).i
 have qc:=tkS_fit (cnt_fit h 8) (cntV s 8).toNat
 have qd:=(cnt_fit qc 1).e
 have qe:=(cnt_fit (lst_fit (cnt_fit qc 1)) 2147483647).e
 have oz1:=@tnum_1 (s) (0) (8) q9 a_ a_
 have oz6:=@ptkb_y (s) h hh
 have oz7:=@VM.pre _ _ ([AV.ifc 183 (AV.agg [AV.ptr 100000 0 0]),AV.ptr 100001 0 0]) _ ([(950,Blk.slc 56 19 (K_ nodC (tkL (cntS s 8) (cntV s 8).toNat))),(100000,Blk.var [AV.sl 1 (K_ (row1 .u8) (tkS (cntS s 8) (cntV s 8).toNat).fst),i64 (tkS (cntS s 8) (cntV s 8).toNat).snd]),(100001,Blk.var [AV.own 950,bv false,AV.sl 1 [],AV.sl 1 [],i32 0])]) _ _ _ ([GI.sort]) _ (@texit_y (tkS (cntS s 8) (cntV s 8).toNat) (tkL (cntS s 8) (cntV s 8).toNat) ([]) ([]) (0) qa hx) w_ (.n)
 have oz8:=@bad_v (cntS (lstS (cntS (tkS (cntS s 8) (cntV s 8).toNat) 1)) 2147483647) qe
 exact mR_ [r_,r_,d_,r_,r_,.r [] [.callm [(100000,100000),(6,100001)] [] (rM oz1) (oM oz1)],r_,.code [.any [3,6,10,11,13,14,15,16,17],.drop [6],.weak 19 (i64 (↑0:Int)),.nilc 900 56 19 5 0,.blk 2 (Blk.var [AV.any,AV.any,AV.any,AV.any,AV.any]),.blk 5 (Blk.var [AV.own 900,bv false,AV.sl 1 [],AV.sl 1 [],i32 0]),.blk 100000 (Blk.var [AV.sl 1 (K_ (row1 .u8) (tkS (cntS s 8) 0).fst),i64 (tkS (cntS s 8) 0).snd]),.sort] (BS_ 0) (zO oz6),.r [] [.callm [(900,950),(100000,100000),(5,100001)] [(950,20000)] (rM oz7) (oM oz7)],.r [] [cm oz8],r_,b_,r_] [.drop [2,4,20000,5],.weak 0 (AV.tup [AV.agg [AV.sl 19 [],bv false,AV.sl 1 [],AV.sl 1 [],i32 0],i64 (cntS (lstS (cntS (tkS (cntS s 8) (cntV s 8).toNat) 1)) 2147483647).snd]),.sort] _ Tryz.func98 (.c8 z1_ oz1 w0_ (show BlkW (Blk.var [AV.lit (AK_ none (0:Nat) (0:Nat)),bv false,AV.lit (AK_ none (0:Nat) (0:Nat)),AV.lit (AK_ none (0:Nat) (0:Nat)),i32 (0:Int)]) (Blk.var [AV.any,AV.any,AV.any,AV.any,AV.any]) from (BlkW.var (m:=[AV.any,AV.any,AV.any,AV.any,AV.any]) (.cons (AG_ _) (.cons (AG_ _) (.cons (AG_ _) (.cons (AG_ _) (.cons (AG_ _) .nil))))))) (show BlkW (Blk.var [AV.own (900:Nat),bv false,AV.lit (AK_ none (0:Nat) (0:Nat)),AV.lit (AK_ none (0:Nat) (0:Nat)),i32 (0:Int)]) (Blk.var [AV.own (900:Nat),bv false,AV.sl (1:Nat) [],AV.sl (1:Nat) [],i32 (0:Int)]) from (BlkW.var (m:=[AV.own 900,bv false,AV.sl 1 [],AV.sl 1 [],i32 0]) (.cons (.refl _) (.cons (.refl _) (.cons (AV_ _) (.cons (AV_ _) (.cons (.refl _) .nil))))))) (show BlkW (Blk.var [AV.sl 1 (K_ (row1 .u8) (cntS s 8).fst),i64 (cntS s 8).snd]) (Blk.var [AV.sl 1 (K_ (row1 .u8) (tkS (cntS s 8) 0).fst),i64 (tkS (cntS s 8) 0).snd]) from (BlkW.var (m:=[AV.sl 1 (K_ (row1 .u8) (tkS (cntS s 8) 0).fst),i64 (tkS (cntS s 8) 0).snd]) (.cons (AH_ (rows_to (row1 .u8) (r:=K_ (row1 .u8) (cntS s 8).fst) (l:=(cntS s 8).fst) (m:=(tkS (cntS s 8) 0).fst) rfl (show ((cntS s 8).fst)=((tkS (cntS s 8) 0).fst) from t0_))) (.cons (N_ t0_) .nil)))) oz6 oz7<|.d3 oz8 (h_ (((cntS (lstS (cntS (tkS (cntS s 8) (cntV s 8).toNat) 1)) 2147483647).snd != 0)=true)) (show Weak (AV.tup [AV.agg [AV.lit (AK_ none 0 0),bv false,AV.lit (AK_ none 0 0),AV.lit (AK_ none 0 0),i32 0],i64 (cntS (lstS (cntS (tkS (cntS s 8) (cntV s 8).toNat) 1)) 2147483647).snd]) (AV.tup [AV.agg [AV.sl 19 [],bv false,AV.sl 1 [],AV.sl 1 [],i32 0],i64 (cntS (lstS (cntS (tkS (cntS s 8) (cntV s 8).toNat) 1)) 2147483647).snd]) from (AA_ (.cons (AZ_ (.cons (AV_ _) (.cons (.refl _) (.cons (AV_ _) (.cons (AV_ _) (.cons (.refl _) .nil)))))) (.cons (.refl _) .nil)))))
theorem ptake_yy (s:Rst) (h:s.Fit) (hh:∀ k,k<(cntV s 8).toNat→(takeR (tkS (cntS s 8) k)).2=0) (hx:cntV (tkS (cntS s 8) (cntV s 8).toNat) 1=1) (hb:(cntS (lstS (cntS (tkS (cntS s 8) (cntV s 8).toNat) 1)) 2147483647).2=0):VM M_ 98 ([.ptr 100000 0 0]) ([(100000,.var (rdC s))]) (.tup [.agg [.sl 19 ((tkL (cntS s 8) (cntV s 8).toNat).map nodC),bv true,ints .i8 (lstW (cntS (tkS (cntS s 8) (cntV s 8).toNat) 1)),ints .i32 (lstB (cntS (tkS (cntS s 8) (cntV s 8).toNat) 1)),i32 (cntV (lstS (cntS (tkS (cntS s 8) (cntV s 8).toNat) 1)) 2147483647)],i64 0]) ([(100000,.var (rdC (cntS (lstS (cntS (tkS (cntS s 8) (cntV s 8).toNat) 1)) 2147483647)))]):=by
 have q:=cntV_rng (m:=8) h.i x_
 have q9:=h.i
 have qa:(tkS (cntS s 8) (cntV s 8).toNat).In:=(tkS_fit (cnt_fit h 8) _).i
 have qc:=tkS_fit (cnt_fit h 8) (cntV s 8).toNat
 have qd:=(cnt_fit qc 1).e
 have qe:=(cnt_fit (lst_fit (cnt_fit qc 1)) 2147483647).e
 have oz1:=@tnum_1 (s) (0) (8) q9 a_ a_
 have oz6:=@ptkb_y (s) h hh
 have oz7:=@VM.pre _ _ ([AV.ifc 183 (AV.agg [AV.ptr 100000 0 0]),AV.ptr 100001 0 0]) _ ([(950,Blk.slc 56 19 (K_ nodC (tkL (cntS s 8) (cntV s 8).toNat))),(100000,Blk.var [AV.sl 1 (K_ (row1 .u8) (tkS (cntS s 8) (cntV s 8).toNat).fst),i64 (tkS (cntS s 8) (cntV s 8).toNat).snd]),(100001,Blk.var [AV.own 950,bv false,AV.sl 1 [],AV.sl 1 [],i32 0])]) _ _ _ ([GI.sort]) _ (@texit_y (tkS (cntS s 8) (cntV s 8).toNat) (tkL (cntS s 8) (cntV s 8).toNat) ([]) ([]) (0) qa hx) w_ (.n)
 have oz8:=@bad_v (cntS (lstS (cntS (tkS (cntS s 8) (cntV s 8).toNat) 1)) 2147483647) qe
 exact mR_ [r_,r_,d_,r_,r_,.r [] [.callm [(100000,100000),(6,100001)] [] (rM oz1) (oM oz1)],r_,.code [.any [3,6,10,11,13,14,15,16,17],.drop [6],.weak 19 (i64 (↑0:Int)),.nilc 900 56 19 5 0,.blk 2 (Blk.var [AV.any,AV.any,AV.any,AV.any,AV.any]),.blk 5 (Blk.var [AV.own 900,bv false,AV.sl 1 [],AV.sl 1 [],i32 0]),.blk 100000 (Blk.var [AV.sl 1 (K_ (row1 .u8) (tkS (cntS s 8) 0).fst),i64 (tkS (cntS s 8) 0).snd]),.sort] (BS_ 0) (zO oz6),.r [] [.callm [(900,950),(100000,100000),(5,100001)] [(950,20000)] (rM oz7) (oM oz7)],.r [] [cm oz8],r_,d_,r_] [.frz 20000,.drop [2,4,5],.sort] _ Tryz.func98 (.c8 z1_ oz1 w0_ (show BlkW (Blk.var [AV.lit (AK_ none (0:Nat) (0:Nat)),bv false,AV.lit (AK_ none (0:Nat) (0:Nat)),AV.lit (AK_ none (0:Nat) (0:Nat)),i32 (0:Int)]) (Blk.var [AV.any,AV.any,AV.any,AV.any,AV.any]) from (BlkW.var (m:=[AV.any,AV.any,AV.any,AV.any,AV.any]) (.cons (AG_ _) (.cons (AG_ _) (.cons (AG_ _) (.cons (AG_ _) (.cons (AG_ _) .nil))))))) (show BlkW (Blk.var [AV.own (900:Nat),bv false,AV.lit (AK_ none (0:Nat) (0:Nat)),AV.lit (AK_ none (0:Nat) (0:Nat)),i32 (0:Int)]) (Blk.var [AV.own (900:Nat),bv false,AV.sl (1:Nat) [],AV.sl (1:Nat) [],i32 (0:Int)]) from (BlkW.var (m:=[AV.own 900,bv false,AV.sl 1 [],AV.sl 1 [],i32 0]) (.cons (.refl _) (.cons (.refl _) (.cons (AV_ _) (.cons (AV_ _) (.cons (.refl _) .nil))))))) (show BlkW (Blk.var [AV.sl 1 (K_ (row1 .u8) (cntS s 8).fst),i64 (cntS s 8).snd]) (Blk.var [AV.sl 1 (K_ (row1 .u8) (tkS (cntS s 8) 0).fst),i64 (tkS (cntS s 8) 0).snd]) from (BlkW.var (m:=[AV.sl 1 (K_ (row1 .u8) (tkS (cntS s 8) 0).fst),i64 (tkS (cntS s 8) 0).snd]) (.cons (AH_ (rows_to (row1 .u8) (r:=K_ (row1 .u8) (cntS s 8).fst) (l:=(cntS s 8).fst) (m:=(tkS (cntS s 8) 0).fst) rfl (show ((cntS s 8).fst)=((tkS (cntS s 8) 0).fst) from t0_))) (.cons (N_ t0_) .nil)))) oz6 oz7<|.d2 oz8 (h_ (((cntS (lstS (cntS (tkS (cntS s 8) (cntV s 8).toNat) 1)) 2147483647).snd != 0)=false)))
theorem tkS_succ (s:Rst) (k:Nat):tkS s (k+1)=tkS (takeS s) k:=by
 induction k with
 | zero=>rfl
 | succ k ih=>rw[tkS,ih];rfl
def takeB:Nat→Rst→Int×Rst
 | 0,s=>(0,s)
 | n+1,s=>if (takeR s).2≠0 then ((takeR s).2,takeS s) else takeB n (takeS s)
theorem takeB_y {n:Nat}:∀ {s:Rst},(∀ k,k<n→(takeR (tkS s k)).2=0)→takeB n s=(0,tkS s n):=by
 induction n with
 | zero=>intro s _;rfl
 | succ n ih =>
  intro s h
  have h0:(takeR s).2=0:=h 0 a_
  rw[takeB,j_ a3_,tkS_succ]
  refine ih fun k hk=>?_
  rw[←tkS_succ];exact h (k+1) a_
theorem takeB_n {n:Nat}:∀ {s:Rst} {m:Nat},m<n→(takeR (tkS s m)).2≠0→(∀ k,k<m→(takeR (tkS s k)).2=0)→takeB n s=((takeR (tkS s m)).2,tkS s (m+1)):=by
 induction n with
 | zero=>intro s m hm;omega
 | succ n ih =>
  intro s m hm hf h
  cases m with
  | zero=>rw[takeB,i_ (by exact hf)];rfl
  | succ m =>
   have h0:(takeR s).2=0:=h 0 a_
   rw[takeB,j_ a3_,tkS_succ s m,tkS_succ s (m+1)]
   rw[tkS_succ] at hf
   refine ih a_ hf fun k hk=>?_
   rw[←tkS_succ];exact h (k+1) a_
theorem first_of {n:Nat} {p:Nat→Prop}:(∀ k,k<n→p k)∨∃ m,m<n∧¬ p m∧∀ k,k<m→p k:=by
 induction n with
 | zero=>exact .inl fun k hk=>by omega
 | succ n ih =>
  rcases ih with h|⟨m,hm,hf,h⟩
  ·by_cases hp:p n
   ·exact .inl fun k hk=>by
     by_cases hk2:k<n
     ·exact h k hk2
     ·rw[show k=n by omega];exact hp
   ·exact .inr ⟨n,by omega,hp,h⟩
  ·exact .inr ⟨m,by omega,hf,h⟩
def blc0:Blc:=⟨[],false,[],[],0⟩
def exN (s:Rst) (l:List Nod):Blc:=if cntV s 1=1 then ⟨l,true,lstW (cntS s 1),lstB (cntS s 1),cntV (lstS (cntS s 1)) 2147483647⟩ else ⟨l,false,[],[],0⟩
def nodesT (s:Rst):List Nod:=tkL (cntS s 8) (cntV s 8).toNat
def blkT (s:Rst):(Blc×Int)×Rst :=
 if (takeB (cntV s 8).toNat (cntS s 8)).1≠0 then ((blc0,(takeB (cntV s 8).toNat (cntS s 8)).1),(takeB (cntV s 8).toNat (cntS s 8)).2)
 else if (exS (stB s)).2≠0 then ((blc0,(exS (stB s)).2),exS (stB s)) else ((exN (stB s) (nodesT s),0),exS (stB s))
theorem blkT_f {s:Rst} {m:Nat} (hm:m<(cntV s 8).toNat) (hf:(takeR (tkS (cntS s 8) m)).2≠0) (h:∀ k,k<m→(takeR (tkS (cntS s 8) k)).2=0):blkT s=((blc0,(takeR (tkS (cntS s 8) m)).2),tkS (cntS s 8) (m+1)):=by
 unfold blkT;rw[takeB_n hm hf h,i_ (by exact hf)]
theorem blkT_b {s:Rst} (h:∀ k,k<(cntV s 8).toNat→(takeR (tkS (cntS s 8) k)).2=0) (hb:(exS (stB s)).2≠0):blkT s=((blc0,(exS (stB s)).2),exS (stB s)):=by
 unfold blkT;rw[takeB_y h,j_ v0_,i_ hb]
theorem blkT_y {s:Rst} (h:∀ k,k<(cntV s 8).toNat→(takeR (tkS (cntS s 8) k)).2=0) (hb:(exS (stB s)).2=0):blkT s=((exN (stB s) (nodesT s),0),exS (stB s)):=by
 unfold blkT;rw[takeB_y h,j_ v0_,j_ t1_]
theorem blkT_cases (s:Rst):(∃ m,m<(cntV s 8).toNat∧(takeR (tkS (cntS s 8) m)).2≠0∧∀ k,k<m→(takeR (tkS (cntS s 8) k)).2=0)∨((∀ k,k<(cntV s 8).toNat→(takeR (tkS (cntS s 8) k)).2=0)∧(exS (stB s)).2≠0)∨((∀ k,k<(cntV s 8).toNat→(takeR (tkS (cntS s 8) k)).2=0)∧(exS (stB s)).2=0):=by
 rcases first_of (n:=(cntV s 8).toNat) (p:=fun k=>(takeR (tkS (cntS s 8) k)).2=0) with h|h
 ·by_cases hb:(exS (stB s)).2=0
  ·exact .inr (.inr ⟨h,hb⟩)
  ·exact .inr (.inl ⟨h,hb⟩)
 ·exact .inl h
theorem exS_fit {s:Rst} (h:s.Fit):(exS s).Fit:=by
 unfold exS
 split
 ·exact cnt_fit (lst_fit (cnt_fit h 1)) _
 ·exact cnt_fit h 1
theorem blkT_fit {s:Rst} (h:s.Fit):(blkT s).2.Fit:=by
 rcases blkT_cases s with ⟨m,hm,hf,hh⟩|⟨hh,hb⟩|⟨hh,hb⟩
 ·rw[blkT_f hm hf hh];exact tkS_fit (cnt_fit h 8) _
 ·rw[blkT_b hh hb];exact exS_fit (tkS_fit (cnt_fit h 8) _)
 ·rw[blkT_y hh hb];exact exS_fit (tkS_fit (cnt_fit h 8) _)
theorem ptake_v (s:Rst) (h:s.Fit):VM M_ 98 [.ptr 100000 0 0] [(100000,.var (rdC s))] (.tup [blc (blkT s).1.1,i64 (blkT s).1.2]) [(100000,.var (rdC (blkT s).2))]:=by
 rcases blkT_cases s with ⟨m,hm,hf,hh⟩|⟨hh,hb⟩|⟨hh,hb⟩
 ·rw[blkT_f hm hf hh];exact ptake_f s m h hm hf hh
 ·rw[blkT_b hh hb]
  unfold exS stB at hb ⊢
  by_cases hx:cntV (tkS (cntS s 8) (cntV s 8).toNat) 1=1
  ·rw[i_ hx] at hb ⊢;exact ptake_yb s h hh hx hb
  ·rw[j_ hx] at hb ⊢;exact ptake_nb s h hh hx hb
 ·rw[blkT_y hh hb]
  unfold exS at hb ⊢
  unfold stB at hb ⊢
  unfold exN
  by_cases hx:cntV (tkS (cntS s 8) (cntV s 8).toNat) 1=1
  ·rw[i_ hx] at hb ⊢;rw[i_ hx];exact ptake_yy s h hh hx hb
  ·rw[j_ hx] at hb ⊢;rw[j_ hx];exact ptake_ny s h hh hx hb
noncomputable def same06_l_I (l:List Int) (k:Nat):VS:=stt 26 [(0,.sl 1 (l.map (row1 .u8))),(1,.sl 1 (l.map (row1 .u8))),(5,i64 k)] []
noncomputable def same06_l_Z (l:List Int):VS:=same06_l_I l (l.length)
theorem same06_l_s (l:List Int) (hl:l.length≤10000000) (k:Nat) (hk:k<l.length):VT M_ (fnC Tryz.f33 [1,1,0,1,0,0]) (same06_l_I l k) .normal (same06_l_I l (k+1)):=by
 have oz1:=(s_ (0≤(↑k:Int)))
 have oz2:=(map_at (row1 .u8) (0) (l:=l) (i:=k) hk)
 exact tR_ [r_,b_,.r [] [.row (sO oz2),.row (sO oz2)],d_,.r [] [.n ((↑k:Int)+1)]] [.any (rg [(11,15)]),.weak 5 (i64 (↑(k+1):Int)),.sort] (.d8 (h_ (decide ((↑k:Int)<((K_ (row1 .u8) l).length:Int))=true)) oz1 oz2 oz1 oz2 (s0_ ((l.getD k 0 != l.getD k 0)=false)) (i6n ((↑k:Int)+1) a_) (wS_ k))
theorem same06_l_e (l:List Int) (hl:l.length≤10000000):VT M_ (fnC Tryz.f33 [1,1,0,1,0,0]) (same06_l_I l (l.length)) (.exit 0) (same06_l_Z l):=by
 exact tR_ [r_,d_] [.any (rg [(11,4)]),.sort] (.d (s0_ (decide ((l.length:Int)<((K_ (row1 .u8) l).length:Int))=false)))
theorem same06_l (l:List Int) (hl:l.length≤10000000):VT M_ (fnC Tryz.f33 [1,1,0,1,0]) (same06_l_I l 0) (.exit 0) (same06_l_Z l) :=
 VT.loop (fun k=>same06_l_I l k) (l.length) (fun k hk=>same06_l_s l hl k hk) (same06_l_e l hl) c0_
theorem same06_v (l:List Int) (hl:l.length≤10000000):VC M_ 33 ([.sl 1 (l.map (row1 .u8)),.sl 1 (l.map (row1 .u8))]) (bv true):=by
 have oz2:=@same06_l (l) hl
 exact cR_ [r_,r_,d_,r_,.code [.any [4,6,7,8,9,10],.weak 5 (i64 (↑0:Int)),.sort] (BS_ 0) (zO oz2),r_] _ Tryz.func33 (.d3 (s0_ ((((K_ (row1 .u8) l).length:Int) != ((K_ (row1 .u8) l).length:Int))=false)) w0_ oz2)
theorem read_v (d:List Int) (hd:d.length≤1000000):VM M_ 29 ([.sl 1 (d.map (row1 .u8))]) ([]) (.ptr 950 0 0) ([(950,.var (rdC (d,0)))]):=by
 exact mR_ [r_,r_] [.frz 4,.ren 6 950,.sort] _ Tryz.func29 (.d2 (show (K_ (row1 .u8) d).length*1≤140737488355328 by (simp only[V_];omega)) (show (K_ (row1 .u8) d).length≤9223372036854775807 by (simp only[V_];omega)))
def ByR (l:List Int):Prop:=∀ x∈l,0≤x∧x≤255
theorem ByR.app {a b:List Int} (h:ByR a) (g:ByR b):ByR (a++b):=fun x hx=>by
 rcases List.mem_append.1 hx with q|q
 ·exact h x q
 ·exact g x q
theorem rone_v (xs:List Int) (r:Rrf) (h:Rrf.In xs r):hRo8_ 135 xs r (oneV (toS xs r)) (smlR xs r 1):=by
 rcases one_len (toS xs r) with h1|h1
 ·rw[oneV_0 h1];exact rone_y xs r h h1
 ·exact rone_n xs r h a_ a_
inductive Stp
 | c (m:Int)
 | o
 | s
 | w
def SpV (xs:List Int):Stp→Int→Rrf→Int→List Int→Rrf→Prop
 | .c m,_,r,v,_,q=>hRm_ 34 xs r m v q
 | .o,_,r,v,_,q=>hRo8_ 135 xs r v q
 | .s,p,r,_,l,q=>VM M_ 105 [.ptr 100000 0 0,i64 p] [(100000,.var (rrC xs r))] (.sl 1 ((l).map (row1 .i8))) [(100000,.var (rrC xs q))]
 | .w,p,r,_,l,q=>VM M_ 106 [.ptr 100000 0 0,i64 p] [(100000,.var (rrC xs r))] (.sl 1 ((l).map (row1 .i32))) [(100000,.var (rrC xs q))]
def Scr (xs:List Int) (l:List Stp) (D:Nat→Rrf) (V:Nat→Int) (W:Nat→List Int):Prop:=∀ k,k<l.length→SpV xs (l.getD k .o) (V (k-1)) (D k) (V k) (W k) (D (k+1))
theorem Scr.c {xs:List Int} {l:List Stp} {D:Nat→Rrf} {V:Nat→Int} {W:Nat→List Int} (H:Scr xs l D V W) (k j:Nat) (m:Int) (h:k<l.length:=by decide) (e:l.getD k .o=.c m:=by rfl) (hj:k+1=j:=by rfl):hRm_ 34 xs (D k) m (V k) (D j):=by
 have:=H k h;rw[e] at this;subst hj;exact this
theorem Scr.o {xs:List Int} {l:List Stp} {D:Nat→Rrf} {V:Nat→Int} {W:Nat→List Int} (H:Scr xs l D V W) (k j:Nat) (h:k<l.length:=by decide) (e:l.getD k .o=.o:=by rfl) (hj:k+1=j:=by rfl):hRo8_ 135 xs (D k) (V k) (D j):=by
 have:=H k h;rw[e] at this;subst hj;exact this
theorem Scr.s {xs:List Int} {l:List Stp} {D:Nat→Rrf} {V:Nat→Int} {W:Nat→List Int} (H:Scr xs l D V W) (i k j:Nat) (h:k<l.length:=by decide) (e:l.getD k .o=.s:=by rfl) (hi:k-1=i:=by rfl) (hj:k+1=j:=by rfl):VM M_ 105 [.ptr 100000 0 0,i64 (V i)] [(100000,.var (rrC xs (D k)))] (.sl 1 ((W k).map (row1 .i8))) [(100000,.var (rrC xs (D j)))]:=by
 have:=H k h;rw[e] at this;subst hi;subst hj;exact this
theorem Scr.w {xs:List Int} {l:List Stp} {D:Nat→Rrf} {V:Nat→Int} {W:Nat→List Int} (H:Scr xs l D V W) (i k j:Nat) (h:k<l.length:=by decide) (e:l.getD k .o=.w:=by rfl) (hi:k-1=i:=by rfl) (hj:k+1=j:=by rfl):VM M_ 106 [.ptr 100000 0 0,i64 (V i)] [(100000,.var (rrC xs (D k)))] (.sl 1 ((W k).map (row1 .i32))) [(100000,.var (rrC xs (D j)))]:=by
 have:=H k h;rw[e] at this;subst hi;subst hj;exact this
def sc1:List Stp:=[.c 9,.c 1024,.c 1024,.c 1024,.c 1024,.c 1024,.o,.c 16384,.s,.c 16384,.w,.c 2147483647,.c 62,.o,.o,.o]
theorem z7_:(0:Int)<(↑(6:Nat):Int):=by omega
theorem z8_:[[bv false],[bv true],[bv true],[bv true],[bv true],[bv true]][(0:Nat)]? = some [bv false]:=rfl
theorem z9_:(0:Int)≤(1:Int):=by omega
theorem z10_:(1:Int)<(↑(6:Nat):Int):=by omega
theorem z11_:[[bv false],[bv true],[bv true],[bv true],[bv true],[bv true]][(1:Nat)]? = some [bv true]:=rfl
theorem z12_:[[bv false],[bv true],[bv true],[bv true],[bv true],[bv true]][(2:Nat)]? = some [bv true]:=rfl
theorem z13_:[[bv false],[bv true],[bv true],[bv true],[bv true],[bv true]][(3:Nat)]? = some [bv true]:=rfl
theorem z14_:[[bv false],[bv true],[bv true],[bv true],[bv true],[bv true]][(4:Nat)]? = some [bv true]:=rfl
theorem z15_:[[bv false],[bv true],[bv true],[bv true],[bv true],[bv true]][(5:Nat)]? = some [bv true]:=rfl
theorem z16_:(0:Int)≤(2:Int):=by omega
theorem z17_:(2:Int)<(↑(6:Nat):Int):=by omega
theorem z18_:(0:Int)≤(3:Int):=by omega
theorem z19_:(3:Int)<(↑(6:Nat):Int):=by omega
theorem z20_:(0:Int)≤(4:Int):=by omega
theorem z21_:(4:Int)<(↑(6:Nat):Int):=by omega
theorem z22_:(0:Int)≤(5:Int):=by omega
theorem z23_:(5:Int)<(↑(6:Nat):Int):=by omega
theorem rw_1b (xs:List Int) (D:Nat→Rrf) (V:Nat→Int) (W:Nat→List Int) (H:Scr xs sc1 D V W) (hk:V 0=1) (h9:In64 (V 0)) (h_qm:0≤V 11∧V 11≤2147483647) (hbad:(D 16).2≠0):VM M_ 104 ([.ptr 100000 0 0]) ([(100000,.var (rrC xs (D 0)))]) (.tup [.agg [i64 0,i64 0,i64 0,i64 0,i64 0,i64 0,i64 0,i8 0,i8 0,.sl 1 [],.sl 1 [],i32 0,i64 0,i8 0,i32 0,i64 0,i8 0,i8 0,i8 0],i64 (D 16).2]) ([(100000,.var (rrC xs (D 16)))]):=by
 have g0:=H.c 0 1 9
 have g1:=H.c 1 2 1024
 have g2:=H.c 2 3 1024
 have g3:=H.c 3 4 1024
 have g4:=H.c 4 5 1024
 have g5:=H.c 5 6 1024
 have g6:=H.o 6 7
 have g7:=H.c 7 8 16384
 have g8:=H.s 7 8 9
 have g9:=H.c 9 10 16384
 have g10:=H.w 9 10 11
 have g11:=H.c 11 12 2147483647
 have g12:=H.c 12 13 62
 have g13:=H.o 13 14
 have g14:=H.o 14 15
 have g15:=H.o 15 16
 clear H
 have oz2:=@tells_1 (V 0) hk
 exact VM.run (fn:=CJ_) (W:=[r_,.r [] [cm g0,cm g1],.r [] [cr oz2],.r [] [.row (sO z8_)],d_,.r [] [.row (sO z11_)],b_,.r [] [cm g2],.r [] [cm g3],.r [] [.row (sO z11_),f_,f_,f_,e_],b_,.r [] [cm g4],.r [] [.row (sO z12_)],b_,.r [] [cm g5],.r [] [.row (sO z13_)],b_,.r [] [cm g6],.r [] [.row (sO z8_)],d_,.r [] [.row (sO z14_)],b_,.r [] [cm g7,cm g8],.r [] [cm g9,cm g10],.r [] [.row (sO z15_)],b_,.r [] [cm g11,.n (V 11),cm g12,cm g13],.r [] [.row (sO z8_)],d_,.r [] [cm g14],.r [] [cm g15],r_,b_,r_]) (G:=[.drop [2,4,5],.weak 0 (AV.tup [AV.agg [i64 0,i64 0,i64 0,i64 0,i64 0,i64 0,i64 0,i8 0,i8 0,AV.sl 1 [],AV.sl 1 [],i32 0,i64 0,i8 0,i32 0,i64 0,i8 0,i8 0,i8 0],i64 (D 16).snd]),.sort]) CP_ w_ (.c8 g0 g1 oz2 z3_ z7_ z8_ z1_ z9_<|.c8 z10_ z11_ z0_ g2 g3 z9_ z10_ z11_<|.c8 z6_ z6_ z6_ z0_ z0_ g4 z16_ z17_<|.c8 z12_ z0_ g5 z18_ z19_ z13_ z0_ g6<|.c8 z3_ z7_ z8_ z1_ z20_ z21_ z14_ z0_<|.c8 g7 g8 g9 g10 z22_ z23_ z15_ z0_<|.c8 g11 (AI_ (V 11) a_) g12 g13 z3_ z7_ z8_ z1_<|.d4 g14 g15 (h_ (((D 16).snd != 0)=true)) (show Weak (AV.tup [AV.agg [i64 0,i64 0,i64 0,i64 0,i64 0,i64 0,i64 0,i8 0,i8 0,AV.lit (AK_ none 0 0),AV.lit (AK_ none 0 0),i32 0,i64 0,i8 0,i32 0,i64 0,i8 0,i8 0,i8 0],i64 (D 16).snd]) (AV.tup [AV.agg [i64 0,i64 0,i64 0,i64 0,i64 0,i64 0,i64 0,i8 0,i8 0,AV.sl 1 [],AV.sl 1 [],i32 0,i64 0,i8 0,i32 0,i64 0,i8 0,i8 0,i8 0],i64 (D 16).snd]) from (AA_ (.cons (AZ_ (.cons (.refl _) (.cons (.refl _) (.cons (.refl _) (.cons (.refl _) (.cons (.refl _) (.cons (.refl _) (.cons (.refl _) (.cons (.refl _) (.cons (.refl _) (.cons (AV_ _) (.cons (AV_ _) (.cons (.refl _) (.cons (.refl _) (.cons (.refl _) (.cons (.refl _) (.cons (.refl _) (.cons (.refl _) (.cons (.refl _) (.cons (.refl _) .nil)))))))))))))))))))) (.cons (.refl _) .nil)))))
theorem rw_1c (xs:List Int) (D:Nat→Rrf) (V:Nat→Int) (W:Nat→List Int) (H:Scr xs sc1 D V W) (hk:V 0=1) (h9:In64 (V 0)) (h_qm:0≤V 11∧V 11≤2147483647) (hbad:(D 16).2=0) (hw:(W 8).length≤100000) (hb:(W 10).length≤100000) (hc:checkE (⟨V 0,V 1,0,V 2,V 3,V 4,V 5,V 6,0,W 8,W 10,V 11,V 12,V 13,0,0,0,V 14,V 15⟩:Nod)≠0):VM M_ 104 ([.ptr 100000 0 0]) ([(100000,.var (rrC xs (D 0)))]) (.tup [.agg [i64 0,i64 0,i64 0,i64 0,i64 0,i64 0,i64 0,i8 0,i8 0,.sl 1 [],.sl 1 [],i32 0,i64 0,i8 0,i32 0,i64 0,i8 0,i8 0,i8 0],i64 (checkE (⟨V 0,V 1,0,V 2,V 3,V 4,V 5,V 6,0,W 8,W 10,V 11,V 12,V 13,0,0,0,V 14,V 15⟩:Nod))]) ([(100000,.var (rrC xs (D 16)))]):=by
 have g0:=H.c 0 1 9
 have g1:=H.c 1 2 1024
 have g2:=H.c 2 3 1024
 have g3:=H.c 3 4 1024
 have g4:=H.c 4 5 1024
 have g5:=H.c 5 6 1024
 have g6:=H.o 6 7
 have g7:=H.c 7 8 16384
 have g8:=H.s 7 8 9
 have g9:=H.c 9 10 16384
 have g10:=H.w 9 10 11
 have g11:=H.c 11 12 2147483647
 have g12:=H.c 12 13 62
 have g13:=H.o 13 14
 have g14:=H.o 14 15
 have g15:=H.o 15 16
 clear H
 have oz2:=@tells_1 (V 0) hk
 have oz59:=@refCheck_v (Nod.mk (V 0) (V 1) 0 (V 2) (V 3) (V 4) (V 5) (V 6) 0 (W 8) (W 10) (V 11) (V 12) (V 13) 0 0 0 (V 14) (V 15)) hw hb h9
 exact VM.run (fn:=CJ_) (W:=[r_,.r [] [cm g0,cm g1],.r [] [cr oz2],.r [] [.row (sO z8_)],d_,.r [] [.row (sO z11_)],b_,.r [] [cm g2],.r [] [cm g3],.r [] [.row (sO z11_),f_,f_,f_,e_],b_,.r [] [cm g4],.r [] [.row (sO z12_)],b_,.r [] [cm g5],.r [] [.row (sO z13_)],b_,.r [] [cm g6],.r [] [.row (sO z8_)],d_,.r [] [.row (sO z14_)],b_,.r [] [cm g7,cm g8],.r [] [cm g9,cm g10],.r [] [.row (sO z15_)],b_,.r [] [cm g11,.n (V 11),cm g12,cm g13],.r [] [.row (sO z8_)],d_,.r [] [cm g14],.r [] [cm g15],r_,d_,.r [] [cr oz59],r_,b_,r_]) (G:=[.drop [2,4,5],.weak 0 (AV.tup [AV.agg [i64 0,i64 0,i64 0,i64 0,i64 0,i64 0,i64 0,i8 0,i8 0,AV.sl 1 [],AV.sl 1 [],i32 0,i64 0,i8 0,i32 0,i64 0,i8 0,i8 0,i8 0],i64 (checkE (Nod.mk (V 0) (V 1) 0 (V 2) (V 3) (V 4) (V 5) (V 6) 0 (W 8) (W 10) (V 11) (V 12) (V 13) 0 0 0 (V 14) (V 15)))]),.sort]) CP_ w_ (.c8 g0 g1 oz2 z3_ z7_ z8_ z1_ z9_<|.c8 z10_ z11_ z0_ g2 g3 z9_ z10_ z11_<|.c8 z6_ z6_ z6_ z0_ z0_ g4 z16_ z17_<|.c8 z12_ z0_ g5 z18_ z19_ z13_ z0_ g6<|.c8 z3_ z7_ z8_ z1_ z20_ z21_ z14_ z0_<|.c8 g7 g8 g9 g10 z22_ z23_ z15_ z0_<|.c8 g11 (AI_ (V 11) z_) g12 g13 z3_ z7_ z8_ z1_<|.d6 g14 g15 (h_ (((D 16).snd != 0)=false)) oz59 (h_ ((checkE (Nod.mk (V 0) (V 1) 0 (V 2) (V 3) (V 4) (V 5) (V 6) 0 (W 8) (W 10) (V 11) (V 12) (V 13) 0 0 0 (V 14) (V 15)) != 0)=true)) (show Weak (AV.tup [AV.agg [i64 0,i64 0,i64 0,i64 0,i64 0,i64 0,i64 0,i8 0,i8 0,AV.lit (AK_ none 0 0),AV.lit (AK_ none 0 0),i32 0,i64 0,i8 0,i32 0,i64 0,i8 0,i8 0,i8 0],i64 (checkE (Nod.mk (V 0) (V 1) 0 (V 2) (V 3) (V 4) (V 5) (V 6) 0 (W 8) (W 10) (V 11) (V 12) (V 13) 0 0 0 (V 14) (V 15)))]) (AV.tup [AV.agg [i64 0,i64 0,i64 0,i64 0,i64 0,i64 0,i64 0,i8 0,i8 0,AV.sl 1 [],AV.sl 1 [],i32 0,i64 0,i8 0,i32 0,i64 0,i8 0,i8 0,i8 0],i64 (checkE (Nod.mk (V 0) (V 1) 0 (V 2) (V 3) (V 4) (V 5) (V 6) 0 (W 8) (W 10) (V 11) (V 12) (V 13) 0 0 0 (V 14) (V 15)))]) from (AA_ (.cons (AZ_ (.cons (.refl _) (.cons (.refl _) (.cons (.refl _) (.cons (.refl _) (.cons (.refl _) (.cons (.refl _) (.cons (.refl _) (.cons (.refl _) (.cons (.refl _) (.cons (AV_ _) (.cons (AV_ _) (.cons (.refl _) (.cons (.refl _) (.cons (.refl _) (.cons (.refl _) (.cons (.refl _) (.cons (.refl _) (.cons (.refl _) (.cons (.refl _) .nil)))))))))))))))))))) (.cons (.refl _) .nil)))))
theorem rw_1y (xs:List Int) (D:Nat→Rrf) (V:Nat→Int) (W:Nat→List Int) (H:Scr xs sc1 D V W) (hk:V 0=1) (h9:In64 (V 0)) (h_qm:0≤V 11∧V 11≤2147483647) (hbad:(D 16).2=0) (hw:(W 8).length≤100000) (hb:(W 10).length≤100000) (hc:checkE (⟨V 0,V 1,0,V 2,V 3,V 4,V 5,V 6,0,W 8,W 10,V 11,V 12,V 13,0,0,0,V 14,V 15⟩:Nod)=0):VM M_ 104 ([.ptr 100000 0 0]) ([(100000,.var (rrC xs (D 0)))]) (.tup [nod (⟨V 0,V 1,0,V 2,V 3,V 4,V 5,V 6,0,W 8,W 10,V 11,V 12,V 13,0,0,0,V 14,V 15⟩:Nod),i64 0]) ([(100000,.var (rrC xs (D 16)))]):=by
 have g0:=H.c 0 1 9
 have g1:=H.c 1 2 1024
 have g2:=H.c 2 3 1024
 have g3:=H.c 3 4 1024
 have g4:=H.c 4 5 1024
 have g5:=H.c 5 6 1024
 have g6:=H.o 6 7
 have g7:=H.c 7 8 16384
 have g8:=H.s 7 8 9
 have g9:=H.c 9 10 16384
 have g10:=H.w 9 10 11
 have g11:=H.c 11 12 2147483647
 have g12:=H.c 12 13 62
 have g13:=H.o 13 14
 have g14:=H.o 14 15
 have g15:=H.o 15 16
 clear H
 have oz2:=@tells_1 (V 0) hk
 have oz59:=@refCheck_v (Nod.mk (V 0) (V 1) 0 (V 2) (V 3) (V 4) (V 5) (V 6) 0 (W 8) (W 10) (V 11) (V 12) (V 13) 0 0 0 (V 14) (V 15)) hw hb h9
 exact VM.run (fn:=CJ_) (W:=[r_,.r [] [cm g0,cm g1],.r [] [cr oz2],.r [] [.row (sO z8_)],d_,.r [] [.row (sO z11_)],b_,.r [] [cm g2],.r [] [cm g3],.r [] [.row (sO z11_),f_,f_,f_,e_],b_,.r [] [cm g4],.r [] [.row (sO z12_)],b_,.r [] [cm g5],.r [] [.row (sO z13_)],b_,.r [] [cm g6],.r [] [.row (sO z8_)],d_,.r [] [.row (sO z14_)],b_,.r [] [cm g7,cm g8],.r [] [cm g9,cm g10],.r [] [.row (sO z15_)],b_,.r [] [cm g11,.n (V 11),cm g12,cm g13],.r [] [.row (sO z8_)],d_,.r [] [cm g14],.r [] [cm g15],r_,d_,.r [] [cr oz59],r_,d_,r_]) (G:=[.drop [2,4,5],.sort]) CP_ w_ (.c8 g0 g1 oz2 z3_ z7_ z8_ z1_ z9_<|.c8 z10_ z11_ z0_ g2 g3 z9_ z10_ z11_<|.c8 z6_ z6_ z6_ z0_ z0_ g4 z16_ z17_<|.c8 z12_ z0_ g5 z18_ z19_ z13_ z0_ g6<|.c8 z3_ z7_ z8_ z1_ z20_ z21_ z14_ z0_<|.c8 g7 g8 g9 g10 z22_ z23_ z15_ z0_<|.c8 g11 (AI_ (V 11) z_) g12 g13 z3_ z7_ z8_ z1_<|.d5 g14 g15 (h_ (((D 16).snd != 0)=false)) oz59 (h_ ((checkE (Nod.mk (V 0) (V 1) 0 (V 2) (V 3) (V 4) (V 5) (V 6) 0 (W 8) (W 10) (V 11) (V 12) (V 13) 0 0 0 (V 14) (V 15)) != 0)=false)))
def sc2:List Stp:=[.c 9,.c 1024,.c 1024,.c 1024,.c 1024,.o,.c 16384,.s,.c 16384,.w,.c 2147483647,.c 62,.o,.o,.o]
theorem z24_:[[bv false],[bv true],[bv false],[bv true],[bv true],[bv true]][(0:Nat)]? = some [bv false]:=rfl
theorem z25_:[[bv false],[bv true],[bv false],[bv true],[bv true],[bv true]][(1:Nat)]? = some [bv true]:=rfl
theorem z26_:[[bv false],[bv true],[bv false],[bv true],[bv true],[bv true]][(2:Nat)]? = some [bv false]:=rfl
theorem z27_:[[bv false],[bv true],[bv false],[bv true],[bv true],[bv true]][(3:Nat)]? = some [bv true]:=rfl
theorem z28_:[[bv false],[bv true],[bv false],[bv true],[bv true],[bv true]][(4:Nat)]? = some [bv true]:=rfl
theorem z29_:[[bv false],[bv true],[bv false],[bv true],[bv true],[bv true]][(5:Nat)]? = some [bv true]:=rfl
theorem rw_2b (xs:List Int) (D:Nat→Rrf) (V:Nat→Int) (W:Nat→List Int) (H:Scr xs sc2 D V W) (hk:V 0=2) (h9:In64 (V 0)) (h_qm:0≤V 10∧V 10≤2147483647) (hbad:(D 15).2≠0):VM M_ 104 ([.ptr 100000 0 0]) ([(100000,.var (rrC xs (D 0)))]) (.tup [.agg [i64 0,i64 0,i64 0,i64 0,i64 0,i64 0,i64 0,i8 0,i8 0,.sl 1 [],.sl 1 [],i32 0,i64 0,i8 0,i32 0,i64 0,i8 0,i8 0,i8 0],i64 (D 15).2]) ([(100000,.var (rrC xs (D 15)))]):=by
 have g0:=H.c 0 1 9
 have g1:=H.c 1 2 1024
 have g2:=H.c 2 3 1024
 have g3:=H.c 3 4 1024
 have g4:=H.c 4 5 1024
 have g5:=H.o 5 6
 have g6:=H.c 6 7 16384
 have g7:=H.s 6 7 8
 have g8:=H.c 8 9 16384
 have g9:=H.w 8 9 10
 have g10:=H.c 10 11 2147483647
 have g11:=H.c 11 12 62
 have g12:=H.o 12 13
 have g13:=H.o 13 14
 have g14:=H.o 14 15
 clear H
 have oz2:=@tells_2 (V 0) hk
 exact VM.run (fn:=CJ_) (W:=[r_,.r [] [cm g0,cm g1],.r [] [cr oz2],.r [] [.row (sO z24_)],d_,.r [] [.row (sO z25_)],b_,.r [] [cm g2],.r [] [cm g3],.r [] [.row (sO z25_),f_,f_,f_,e_],b_,.r [] [cm g4],.r [] [.row (sO z26_)],d_,.r [] [.row (sO z27_)],b_,.r [] [cm g5],.r [] [.row (sO z24_)],d_,.r [] [.row (sO z28_)],b_,.r [] [cm g6,cm g7],.r [] [cm g8,cm g9],.r [] [.row (sO z29_)],b_,.r [] [cm g10,.n (V 10),cm g11,cm g12],.r [] [.row (sO z24_)],d_,.r [] [cm g13],.r [] [cm g14],r_,b_,r_]) (G:=[.drop [2,4,5],.weak 0 (AV.tup [AV.agg [i64 0,i64 0,i64 0,i64 0,i64 0,i64 0,i64 0,i8 0,i8 0,AV.sl 1 [],AV.sl 1 [],i32 0,i64 0,i8 0,i32 0,i64 0,i8 0,i8 0,i8 0],i64 (D 15).snd]),.sort]) CP_ w_ (.c8 g0 g1 oz2 z3_ z7_ z24_ z1_ z9_<|.c8 z10_ z25_ z0_ g2 g3 z9_ z10_ z25_<|.c8 z6_ z6_ z6_ z0_ z0_ g4 z16_ z17_<|.c8 z26_ z1_ z18_ z19_ z27_ z0_ g5 z3_<|.c8 z7_ z24_ z1_ z20_ z21_ z28_ z0_ g6<|.c8 g7 g8 g9 z22_ z23_ z29_ z0_ g10<|.c8 (AI_ (V 10) a_) g11 g12 z3_ z7_ z24_ z1_ g13<|.d3 g14 (h_ (((D 15).snd != 0)=true)) (show Weak (AV.tup [AV.agg [i64 0,i64 0,i64 0,i64 0,i64 0,i64 0,i64 0,i8 0,i8 0,AV.lit (AK_ none 0 0),AV.lit (AK_ none 0 0),i32 0,i64 0,i8 0,i32 0,i64 0,i8 0,i8 0,i8 0],i64 (D 15).snd]) (AV.tup [AV.agg [i64 0,i64 0,i64 0,i64 0,i64 0,i64 0,i64 0,i8 0,i8 0,AV.sl 1 [],AV.sl 1 [],i32 0,i64 0,i8 0,i32 0,i64 0,i8 0,i8 0,i8 0],i64 (D 15).snd]) from (AA_ (.cons (AZ_ (.cons (.refl _) (.cons (.refl _) (.cons (.refl _) (.cons (.refl _) (.cons (.refl _) (.cons (.refl _) (.cons (.refl _) (.cons (.refl _) (.cons (.refl _) (.cons (AV_ _) (.cons (AV_ _) (.cons (.refl _) (.cons (.refl _) (.cons (.refl _) (.cons (.refl _) (.cons (.refl _) (.cons (.refl _) (.cons (.refl _) (.cons (.refl _) .nil)))))))))))))))))))) (.cons (.refl _) .nil)))))
theorem rw_2c (xs:List Int) (D:Nat→Rrf) (V:Nat→Int) (W:Nat→List Int) (H:Scr xs sc2 D V W) (hk:V 0=2) (h9:In64 (V 0)) (h_qm:0≤V 10∧V 10≤2147483647) (hbad:(D 15).2=0) (hw:(W 7).length≤100000) (hb:(W 9).length≤100000) (hc:checkE (⟨V 0,V 1,0,V 2,V 3,V 4,0,V 5,0,W 7,W 9,V 10,V 11,V 12,0,0,0,V 13,V 14⟩:Nod)≠0):VM M_ 104 ([.ptr 100000 0 0]) ([(100000,.var (rrC xs (D 0)))]) (.tup [.agg [i64 0,i64 0,i64 0,i64 0,i64 0,i64 0,i64 0,i8 0,i8 0,.sl 1 [],.sl 1 [],i32 0,i64 0,i8 0,i32 0,i64 0,i8 0,i8 0,i8 0],i64 (checkE (⟨V 0,V 1,0,V 2,V 3,V 4,0,V 5,0,W 7,W 9,V 10,V 11,V 12,0,0,0,V 13,V 14⟩:Nod))]) ([(100000,.var (rrC xs (D 15)))]):=by
 have g0:=H.c 0 1 9
 have g1:=H.c 1 2 1024
 have g2:=H.c 2 3 1024
 have g3:=H.c 3 4 1024
 have g4:=H.c 4 5 1024
 have g5:=H.o 5 6
 have g6:=H.c 6 7 16384
 have g7:=H.s 6 7 8
 have g8:=H.c 8 9 16384
 have g9:=H.w 8 9 10
 have g10:=H.c 10 11 2147483647
 have g11:=H.c 11 12 62
 have g12:=H.o 12 13
 have g13:=H.o 13 14
 have g14:=H.o 14 15
 clear H
 have oz2:=@tells_2 (V 0) hk
 have oz58:=@refCheck_v (Nod.mk (V 0) (V 1) 0 (V 2) (V 3) (V 4) 0 (V 5) 0 (W 7) (W 9) (V 10) (V 11) (V 12) 0 0 0 (V 13) (V 14)) hw hb h9
 exact VM.run (fn:=CJ_) (W:=[r_,.r [] [cm g0,cm g1],.r [] [cr oz2],.r [] [.row (sO z24_)],d_,.r [] [.row (sO z25_)],b_,.r [] [cm g2],.r [] [cm g3],.r [] [.row (sO z25_),f_,f_,f_,e_],b_,.r [] [cm g4],.r [] [.row (sO z26_)],d_,.r [] [.row (sO z27_)],b_,.r [] [cm g5],.r [] [.row (sO z24_)],d_,.r [] [.row (sO z28_)],b_,.r [] [cm g6,cm g7],.r [] [cm g8,cm g9],.r [] [.row (sO z29_)],b_,.r [] [cm g10,.n (V 10),cm g11,cm g12],.r [] [.row (sO z24_)],d_,.r [] [cm g13],.r [] [cm g14],r_,d_,.r [] [cr oz58],r_,b_,r_]) (G:=[.drop [2,4,5],.weak 0 (AV.tup [AV.agg [i64 0,i64 0,i64 0,i64 0,i64 0,i64 0,i64 0,i8 0,i8 0,AV.sl 1 [],AV.sl 1 [],i32 0,i64 0,i8 0,i32 0,i64 0,i8 0,i8 0,i8 0],i64 (checkE (Nod.mk (V 0) (V 1) 0 (V 2) (V 3) (V 4) 0 (V 5) 0 (W 7) (W 9) (V 10) (V 11) (V 12) 0 0 0 (V 13) (V 14)))]),.sort]) CP_ w_ (.c8 g0 g1 oz2 z3_ z7_ z24_ z1_ z9_<|.c8 z10_ z25_ z0_ g2 g3 z9_ z10_ z25_<|.c8 z6_ z6_ z6_ z0_ z0_ g4 z16_ z17_<|.c8 z26_ z1_ z18_ z19_ z27_ z0_ g5 z3_<|.c8 z7_ z24_ z1_ z20_ z21_ z28_ z0_ g6<|.c8 g7 g8 g9 z22_ z23_ z29_ z0_ g10<|.c8 (AI_ (V 10) z_) g11 g12 z3_ z7_ z24_ z1_ g13<|.d5 g14 (h_ (((D 15).snd != 0)=false)) oz58 (h_ ((checkE (Nod.mk (V 0) (V 1) 0 (V 2) (V 3) (V 4) 0 (V 5) 0 (W 7) (W 9) (V 10) (V 11) (V 12) 0 0 0 (V 13) (V 14)) != 0)=true)) (show Weak (AV.tup [AV.agg [i64 0,i64 0,i64 0,i64 0,i64 0,i64 0,i64 0,i8 0,i8 0,AV.lit (AK_ none 0 0),AV.lit (AK_ none 0 0),i32 0,i64 0,i8 0,i32 0,i64 0,i8 0,i8 0,i8 0],i64 (checkE (Nod.mk (V 0) (V 1) 0 (V 2) (V 3) (V 4) 0 (V 5) 0 (W 7) (W 9) (V 10) (V 11) (V 12) 0 0 0 (V 13) (V 14)))]) (AV.tup [AV.agg [i64 0,i64 0,i64 0,i64 0,i64 0,i64 0,i64 0,i8 0,i8 0,AV.sl 1 [],AV.sl 1 [],i32 0,i64 0,i8 0,i32 0,i64 0,i8 0,i8 0,i8 0],i64 (checkE (Nod.mk (V 0) (V 1) 0 (V 2) (V 3) (V 4) 0 (V 5) 0 (W 7) (W 9) (V 10) (V 11) (V 12) 0 0 0 (V 13) (V 14)))]) from (AA_ (.cons (AZ_ (.cons (.refl _) (.cons (.refl _) (.cons (.refl _) (.cons (.refl _) (.cons (.refl _) (.cons (.refl _) (.cons (.refl _) (.cons (.refl _) (.cons (.refl _) (.cons (AV_ _) (.cons (AV_ _) (.cons (.refl _) (.cons (.refl _) (.cons (.refl _) (.cons (.refl _) (.cons (.refl _) (.cons (.refl _) (.cons (.refl _) (.cons (.refl _) .nil)))))))))))))))))))) (.cons (.refl _) .nil)))))
theorem rw_2y (xs:List Int) (D:Nat→Rrf) (V:Nat→Int) (W:Nat→List Int) (H:Scr xs sc2 D V W) (hk:V 0=2) (h9:In64 (V 0)) (h_qm:0≤V 10∧V 10≤2147483647) (hbad:(D 15).2=0) (hw:(W 7).length≤100000) (hb:(W 9).length≤100000) (hc:checkE (⟨V 0,V 1,0,V 2,V 3,V 4,0,V 5,0,W 7,W 9,V 10,V 11,V 12,0,0,0,V 13,V 14⟩:Nod)=0):VM M_ 104 ([.ptr 100000 0 0]) ([(100000,.var (rrC xs (D 0)))]) (.tup [nod (⟨V 0,V 1,0,V 2,V 3,V 4,0,V 5,0,W 7,W 9,V 10,V 11,V 12,0,0,0,V 13,V 14⟩:Nod),i64 0]) ([(100000,.var (rrC xs (D 15)))]):=by
 have g0:=H.c 0 1 9
 have g1:=H.c 1 2 1024
 have g2:=H.c 2 3 1024
 have g3:=H.c 3 4 1024
 have g4:=H.c 4 5 1024
 have g5:=H.o 5 6
 have g6:=H.c 6 7 16384
 have g7:=H.s 6 7 8
 have g8:=H.c 8 9 16384
 have g9:=H.w 8 9 10
 have g10:=H.c 10 11 2147483647
 have g11:=H.c 11 12 62
 have g12:=H.o 12 13
 have g13:=H.o 13 14
 have g14:=H.o 14 15
 clear H
 have oz2:=@tells_2 (V 0) hk
 have oz58:=@refCheck_v (Nod.mk (V 0) (V 1) 0 (V 2) (V 3) (V 4) 0 (V 5) 0 (W 7) (W 9) (V 10) (V 11) (V 12) 0 0 0 (V 13) (V 14)) hw hb h9
 exact VM.run (fn:=CJ_) (W:=[r_,.r [] [cm g0,cm g1],.r [] [cr oz2],.r [] [.row (sO z24_)],d_,.r [] [.row (sO z25_)],b_,.r [] [cm g2],.r [] [cm g3],.r [] [.row (sO z25_),f_,f_,f_,e_],b_,.r [] [cm g4],.r [] [.row (sO z26_)],d_,.r [] [.row (sO z27_)],b_,.r [] [cm g5],.r [] [.row (sO z24_)],d_,.r [] [.row (sO z28_)],b_,.r [] [cm g6,cm g7],.r [] [cm g8,cm g9],.r [] [.row (sO z29_)],b_,.r [] [cm g10,.n (V 10),cm g11,cm g12],.r [] [.row (sO z24_)],d_,.r [] [cm g13],.r [] [cm g14],r_,d_,.r [] [cr oz58],r_,d_,r_]) (G:=[.drop [2,4,5],.sort]) CP_ w_ (.c8 g0 g1 oz2 z3_ z7_ z24_ z1_ z9_<|.c8 z10_ z25_ z0_ g2 g3 z9_ z10_ z25_<|.c8 z6_ z6_ z6_ z0_ z0_ g4 z16_ z17_<|.c8 z26_ z1_ z18_ z19_ z27_ z0_ g5 z3_<|.c8 z7_ z24_ z1_ z20_ z21_ z28_ z0_ g6<|.c8 g7 g8 g9 z22_ z23_ z29_ z0_ g10<|.c8 (AI_ (V 10) z_) g11 g12 z3_ z7_ z24_ z1_ g13<|.d4 g14 (h_ (((D 15).snd != 0)=false)) oz58 (h_ ((checkE (Nod.mk (V 0) (V 1) 0 (V 2) (V 3) (V 4) 0 (V 5) 0 (W 7) (W 9) (V 10) (V 11) (V 12) 0 0 0 (V 13) (V 14)) != 0)=false)))
def sc3:List Stp:=[.c 9,.c 1024,.c 1024,.o,.c 16384,.s,.c 16384,.w,.c 2147483647,.c 62,.o,.o,.o]
theorem z30_:[[bv false],[bv false],[bv true],[bv true],[bv true],[bv true]][(0:Nat)]? = some [bv false]:=rfl
theorem z31_:[[bv false],[bv false],[bv true],[bv true],[bv true],[bv true]][(1:Nat)]? = some [bv false]:=rfl
theorem z32_:[[bv false],[bv false],[bv true],[bv true],[bv true],[bv true]][(2:Nat)]? = some [bv true]:=rfl
theorem z33_:[[bv false],[bv false],[bv true],[bv true],[bv true],[bv true]][(3:Nat)]? = some [bv true]:=rfl
theorem z34_:[[bv false],[bv false],[bv true],[bv true],[bv true],[bv true]][(4:Nat)]? = some [bv true]:=rfl
theorem z35_:[[bv false],[bv false],[bv true],[bv true],[bv true],[bv true]][(5:Nat)]? = some [bv true]:=rfl
theorem rw_3b (xs:List Int) (D:Nat→Rrf) (V:Nat→Int) (W:Nat→List Int) (H:Scr xs sc3 D V W) (hk:V 0=3) (h9:In64 (V 0)) (h_qm:0≤V 8∧V 8≤2147483647) (hbad:(D 13).2≠0):VM M_ 104 ([.ptr 100000 0 0]) ([(100000,.var (rrC xs (D 0)))]) (.tup [.agg [i64 0,i64 0,i64 0,i64 0,i64 0,i64 0,i64 0,i8 0,i8 0,.sl 1 [],.sl 1 [],i32 0,i64 0,i8 0,i32 0,i64 0,i8 0,i8 0,i8 0],i64 (D 13).2]) ([(100000,.var (rrC xs (D 13)))]):=by
 have g0:=H.c 0 1 9
 have g1:=H.c 1 2 1024
 have g2:=H.c 2 3 1024
 have g3:=H.o 3 4
 have g4:=H.c 4 5 16384
 have g5:=H.s 4 5 6
 have g6:=H.c 6 7 16384
 have g7:=H.w 6 7 8
 have g8:=H.c 8 9 2147483647
 have g9:=H.c 9 10 62
 have g10:=H.o 10 11
 have g11:=H.o 11 12
 have g12:=H.o 12 13
 clear H
 have oz2:=@tells_3 (V 0) hk
 exact VM.run (fn:=CJ_) (W:=[r_,.r [] [cm g0,cm g1],.r [] [cr oz2],.r [] [.row (sO z30_)],d_,.r [] [.row (sO z30_)],d_,.r [] [.row (sO z30_),e_,e_,e_,f_],d_,.r [] [.row (sO z32_)],b_,.r [] [cm g2],.r [] [.row (sO z33_)],b_,.r [] [cm g3],.r [] [.row (sO z30_)],d_,.r [] [.row (sO z34_)],b_,.r [] [cm g4,cm g5],.r [] [cm g6,cm g7],.r [] [.row (sO z35_)],b_,.r [] [cm g8,.n (V 8),cm g9,cm g10],.r [] [.row (sO z30_)],d_,.r [] [cm g11],.r [] [cm g12],r_,b_,r_]) (G:=[.drop [2,4,5],.weak 0 (AV.tup [AV.agg [i64 0,i64 0,i64 0,i64 0,i64 0,i64 0,i64 0,i8 0,i8 0,AV.sl 1 [],AV.sl 1 [],i32 0,i64 0,i8 0,i32 0,i64 0,i8 0,i8 0,i8 0],i64 (D 13).snd]),.sort]) CP_ w_ (.c8 g0 g1 oz2 z3_ z7_ z30_ z1_ z9_<|.c8 z10_ z31_ z1_ z9_ z10_ z31_ z1_ z1_<|.c8 z1_ z1_ (c_ ((V 0==8)=false)) z16_ z17_ z32_ z0_ g2<|.c8 z18_ z19_ z33_ z0_ g3 z3_ z7_ z30_<|.c8 z1_ z20_ z21_ z34_ z0_ g4 g5 g6<|.c8 g7 z22_ z23_ z35_ z0_ g8 (AI_ (V 8) a_) g9<|.c8 g10 z3_ z7_ z30_ z1_ g11 g12 (h_ (((D 13).snd != 0)=true))<|.d (show Weak (AV.tup [AV.agg [i64 0,i64 0,i64 0,i64 0,i64 0,i64 0,i64 0,i8 0,i8 0,AV.lit (AK_ none 0 0),AV.lit (AK_ none 0 0),i32 0,i64 0,i8 0,i32 0,i64 0,i8 0,i8 0,i8 0],i64 (D 13).snd]) (AV.tup [AV.agg [i64 0,i64 0,i64 0,i64 0,i64 0,i64 0,i64 0,i8 0,i8 0,AV.sl 1 [],AV.sl 1 [],i32 0,i64 0,i8 0,i32 0,i64 0,i8 0,i8 0,i8 0],i64 (D 13).snd]) from (AA_ (.cons (AZ_ (.cons (.refl _) (.cons (.refl _) (.cons (.refl _) (.cons (.refl _) (.cons (.refl _) (.cons (.refl _) (.cons (.refl _) (.cons (.refl _) (.cons (.refl _) (.cons (AV_ _) (.cons (AV_ _) (.cons (.refl _) (.cons (.refl _) (.cons (.refl _) (.cons (.refl _) (.cons (.refl _) (.cons (.refl _) (.cons (.refl _) (.cons (.refl _) .nil)))))))))))))))))))) (.cons (.refl _) .nil)))))
theorem rw_3c (xs:List Int) (D:Nat→Rrf) (V:Nat→Int) (W:Nat→List Int) (H:Scr xs sc3 D V W) (hk:V 0=3) (h9:In64 (V 0)) (h_qm:0≤V 8∧V 8≤2147483647) (hbad:(D 13).2=0) (hw:(W 5).length≤100000) (hb:(W 7).length≤100000) (hc:checkE (⟨V 0,V 1,0,0,0,0,V 2,V 3,0,W 5,W 7,V 8,V 9,V 10,0,0,0,V 11,V 12⟩:Nod)≠0):VM M_ 104 ([.ptr 100000 0 0]) ([(100000,.var (rrC xs (D 0)))]) (.tup [.agg [i64 0,i64 0,i64 0,i64 0,i64 0,i64 0,i64 0,i8 0,i8 0,.sl 1 [],.sl 1 [],i32 0,i64 0,i8 0,i32 0,i64 0,i8 0,i8 0,i8 0],i64 (checkE (⟨V 0,V 1,0,0,0,0,V 2,V 3,0,W 5,W 7,V 8,V 9,V 10,0,0,0,V 11,V 12⟩:Nod))]) ([(100000,.var (rrC xs (D 13)))]):=by
 have g0:=H.c 0 1 9
 have g1:=H.c 1 2 1024
 have g2:=H.c 2 3 1024
 have g3:=H.o 3 4
 have g4:=H.c 4 5 16384
 have g5:=H.s 4 5 6
 have g6:=H.c 6 7 16384
 have g7:=H.w 6 7 8
 have g8:=H.c 8 9 2147483647
 have g9:=H.c 9 10 62
 have g10:=H.o 10 11
 have g11:=H.o 11 12
 have g12:=H.o 12 13
 clear H
 have oz2:=@tells_3 (V 0) hk
 have oz56:=@refCheck_v (Nod.mk (V 0) (V 1) 0 0 0 0 (V 2) (V 3) 0 (W 5) (W 7) (V 8) (V 9) (V 10) 0 0 0 (V 11) (V 12)) hw hb h9
 exact VM.run (fn:=CJ_) (W:=[r_,.r [] [cm g0,cm g1],.r [] [cr oz2],.r [] [.row (sO z30_)],d_,.r [] [.row (sO z30_)],d_,.r [] [.row (sO z30_),e_,e_,e_,f_],d_,.r [] [.row (sO z32_)],b_,.r [] [cm g2],.r [] [.row (sO z33_)],b_,.r [] [cm g3],.r [] [.row (sO z30_)],d_,.r [] [.row (sO z34_)],b_,.r [] [cm g4,cm g5],.r [] [cm g6,cm g7],.r [] [.row (sO z35_)],b_,.r [] [cm g8,.n (V 8),cm g9,cm g10],.r [] [.row (sO z30_)],d_,.r [] [cm g11],.r [] [cm g12],r_,d_,.r [] [cr oz56],r_,b_,r_]) (G:=[.drop [2,4,5],.weak 0 (AV.tup [AV.agg [i64 0,i64 0,i64 0,i64 0,i64 0,i64 0,i64 0,i8 0,i8 0,AV.sl 1 [],AV.sl 1 [],i32 0,i64 0,i8 0,i32 0,i64 0,i8 0,i8 0,i8 0],i64 (checkE (Nod.mk (V 0) (V 1) 0 0 0 0 (V 2) (V 3) 0 (W 5) (W 7) (V 8) (V 9) (V 10) 0 0 0 (V 11) (V 12)))]),.sort]) CP_ w_ (.c8 g0 g1 oz2 z3_ z7_ z30_ z1_ z9_<|.c8 z10_ z31_ z1_ z9_ z10_ z31_ z1_ z1_<|.c8 z1_ z1_ (c_ ((V 0==8)=false)) z16_ z17_ z32_ z0_ g2<|.c8 z18_ z19_ z33_ z0_ g3 z3_ z7_ z30_<|.c8 z1_ z20_ z21_ z34_ z0_ g4 g5 g6<|.c8 g7 z22_ z23_ z35_ z0_ g8 (AI_ (V 8) z_) g9<|.c8 g10 z3_ z7_ z30_ z1_ g11 g12 (h_ (((D 13).snd != 0)=false))<|.d3 oz56 (h_ ((checkE (Nod.mk (V 0) (V 1) 0 0 0 0 (V 2) (V 3) 0 (W 5) (W 7) (V 8) (V 9) (V 10) 0 0 0 (V 11) (V 12)) != 0)=true)) (show Weak (AV.tup [AV.agg [i64 0,i64 0,i64 0,i64 0,i64 0,i64 0,i64 0,i8 0,i8 0,AV.lit (AK_ none 0 0),AV.lit (AK_ none 0 0),i32 0,i64 0,i8 0,i32 0,i64 0,i8 0,i8 0,i8 0],i64 (checkE (Nod.mk (V 0) (V 1) 0 0 0 0 (V 2) (V 3) 0 (W 5) (W 7) (V 8) (V 9) (V 10) 0 0 0 (V 11) (V 12)))]) (AV.tup [AV.agg [i64 0,i64 0,i64 0,i64 0,i64 0,i64 0,i64 0,i8 0,i8 0,AV.sl 1 [],AV.sl 1 [],i32 0,i64 0,i8 0,i32 0,i64 0,i8 0,i8 0,i8 0],i64 (checkE (Nod.mk (V 0) (V 1) 0 0 0 0 (V 2) (V 3) 0 (W 5) (W 7) (V 8) (V 9) (V 10) 0 0 0 (V 11) (V 12)))]) from (AA_ (.cons (AZ_ (.cons (.refl _) (.cons (.refl _) (.cons (.refl _) (.cons (.refl _) (.cons (.refl _) (.cons (.refl _) (.cons (.refl _) (.cons (.refl _) (.cons (.refl _) (.cons (AV_ _) (.cons (AV_ _) (.cons (.refl _) (.cons (.refl _) (.cons (.refl _) (.cons (.refl _) (.cons (.refl _) (.cons (.refl _) (.cons (.refl _) (.cons (.refl _) .nil)))))))))))))))))))) (.cons (.refl _) .nil)))))
theorem rw_3y (xs:List Int) (D:Nat→Rrf) (V:Nat→Int) (W:Nat→List Int) (H:Scr xs sc3 D V W) (hk:V 0=3) (h9:In64 (V 0)) (h_qm:0≤V 8∧V 8≤2147483647) (hbad:(D 13).2=0) (hw:(W 5).length≤100000) (hb:(W 7).length≤100000) (hc:checkE (⟨V 0,V 1,0,0,0,0,V 2,V 3,0,W 5,W 7,V 8,V 9,V 10,0,0,0,V 11,V 12⟩:Nod)=0):VM M_ 104 ([.ptr 100000 0 0]) ([(100000,.var (rrC xs (D 0)))]) (.tup [nod (⟨V 0,V 1,0,0,0,0,V 2,V 3,0,W 5,W 7,V 8,V 9,V 10,0,0,0,V 11,V 12⟩:Nod),i64 0]) ([(100000,.var (rrC xs (D 13)))]):=by
 have g0:=H.c 0 1 9
 have g1:=H.c 1 2 1024
 have g2:=H.c 2 3 1024
 have g3:=H.o 3 4
 have g4:=H.c 4 5 16384
 have g5:=H.s 4 5 6
 have g6:=H.c 6 7 16384
 have g7:=H.w 6 7 8
 have g8:=H.c 8 9 2147483647
 have g9:=H.c 9 10 62
 have g10:=H.o 10 11
 have g11:=H.o 11 12
 have g12:=H.o 12 13
 clear H
 have oz2:=@tells_3 (V 0) hk
 have oz56:=@refCheck_v (Nod.mk (V 0) (V 1) 0 0 0 0 (V 2) (V 3) 0 (W 5) (W 7) (V 8) (V 9) (V 10) 0 0 0 (V 11) (V 12)) hw hb h9
 exact VM.run (fn:=CJ_) (W:=[r_,.r [] [cm g0,cm g1],.r [] [cr oz2],.r [] [.row (sO z30_)],d_,.r [] [.row (sO z30_)],d_,.r [] [.row (sO z30_),e_,e_,e_,f_],d_,.r [] [.row (sO z32_)],b_,.r [] [cm g2],.r [] [.row (sO z33_)],b_,.r [] [cm g3],.r [] [.row (sO z30_)],d_,.r [] [.row (sO z34_)],b_,.r [] [cm g4,cm g5],.r [] [cm g6,cm g7],.r [] [.row (sO z35_)],b_,.r [] [cm g8,.n (V 8),cm g9,cm g10],.r [] [.row (sO z30_)],d_,.r [] [cm g11],.r [] [cm g12],r_,d_,.r [] [cr oz56],r_,d_,r_]) (G:=[.drop [2,4,5],.sort]) CP_ w_ (.c8 g0 g1 oz2 z3_ z7_ z30_ z1_ z9_<|.c8 z10_ z31_ z1_ z9_ z10_ z31_ z1_ z1_<|.c8 z1_ z1_ (c_ ((V 0==8)=false)) z16_ z17_ z32_ z0_ g2<|.c8 z18_ z19_ z33_ z0_ g3 z3_ z7_ z30_<|.c8 z1_ z20_ z21_ z34_ z0_ g4 g5 g6<|.c8 g7 z22_ z23_ z35_ z0_ g8 (AI_ (V 8) z_) g9<|.c8 g10 z3_ z7_ z30_ z1_ g11 g12 (h_ (((D 13).snd != 0)=false))<|.d2 oz56 (h_ ((checkE (Nod.mk (V 0) (V 1) 0 0 0 0 (V 2) (V 3) 0 (W 5) (W 7) (V 8) (V 9) (V 10) 0 0 0 (V 11) (V 12)) != 0)=false)))
def sc4:List Stp:=[.c 9,.c 1024,.c 1024,.c 1024,.c 1024]
theorem z36_:[[bv false],[bv true],[bv false],[bv false],[bv false],[bv false]][(0:Nat)]? = some [bv false]:=rfl
theorem z37_:[[bv false],[bv true],[bv false],[bv false],[bv false],[bv false]][(1:Nat)]? = some [bv true]:=rfl
theorem z38_:[[bv false],[bv true],[bv false],[bv false],[bv false],[bv false]][(2:Nat)]? = some [bv false]:=rfl
theorem z39_:[[bv false],[bv true],[bv false],[bv false],[bv false],[bv false]][(3:Nat)]? = some [bv false]:=rfl
theorem z40_:[[bv false],[bv true],[bv false],[bv false],[bv false],[bv false]][(4:Nat)]? = some [bv false]:=rfl
theorem z41_:[[bv false],[bv true],[bv false],[bv false],[bv false],[bv false]][(5:Nat)]? = some [bv false]:=rfl
theorem rw_4b (xs:List Int) (D:Nat→Rrf) (V:Nat→Int) (W:Nat→List Int) (H:Scr xs sc4 D V W) (hk:V 0=4∨V 0=5) (h9:In64 (V 0))  (hbad:(D 5).2≠0):VM M_ 104 ([.ptr 100000 0 0]) ([(100000,.var (rrC xs (D 0)))]) (.tup [.agg [i64 0,i64 0,i64 0,i64 0,i64 0,i64 0,i64 0,i8 0,i8 0,.sl 1 [],.sl 1 [],i32 0,i64 0,i8 0,i32 0,i64 0,i8 0,i8 0,i8 0],i64 (D 5).2]) ([(100000,.var (rrC xs (D 5)))]):=by
 have g0:=H.c 0 1 9
 have g1:=H.c 1 2 1024
 have g2:=H.c 2 3 1024
 have g3:=H.c 3 4 1024
 have g4:=H.c 4 5 1024
 clear H
 have oz2:=@tells_4 (V 0) hk
 exact VM.run (fn:=CJ_) (W:=[r_,.r [] [cm g0,cm g1],.r [] [cr oz2],.r [] [.row (sO z36_)],d_,.r [] [.row (sO z37_)],b_,.r [] [cm g2],.r [] [cm g3],.r [] [.row (sO z37_),f_,f_,f_,e_],b_,.r [] [cm g4],.r [] [.row (sO z38_)],d_,.r [] [.row (sO z38_)],d_,.r [] [.row (sO z38_)],d_,.r [] [.row (sO z38_)],d_,.r [] [.row (sO z38_)],d_,r_,b_,r_]) (G:=[.drop [2,4,5],.weak 0 (AV.tup [AV.agg [i64 0,i64 0,i64 0,i64 0,i64 0,i64 0,i64 0,i8 0,i8 0,AV.sl 1 [],AV.sl 1 [],i32 0,i64 0,i8 0,i32 0,i64 0,i8 0,i8 0,i8 0],i64 (D 5).snd]),.sort]) CP_ w_ (.c8 g0 g1 oz2 z3_ z7_ z36_ z1_ z9_<|.c8 z10_ z37_ z0_ g2 g3 z9_ z10_ z37_<|.c8 z6_ z6_ z6_ z0_ z0_ g4 z16_ z17_<|.c8 z38_ z1_ z18_ z19_ z39_ z1_ z3_ z7_<|.c8 z36_ z1_ z20_ z21_ z40_ z1_ z22_ z23_<|.d4 z41_ z1_ (h_ (((D 5).snd != 0)=true)) (show Weak (AV.tup [AV.agg [i64 0,i64 0,i64 0,i64 0,i64 0,i64 0,i64 0,i8 0,i8 0,AV.lit (AK_ none 0 0),AV.lit (AK_ none 0 0),i32 0,i64 0,i8 0,i32 0,i64 0,i8 0,i8 0,i8 0],i64 (D 5).snd]) (AV.tup [AV.agg [i64 0,i64 0,i64 0,i64 0,i64 0,i64 0,i64 0,i8 0,i8 0,AV.sl 1 [],AV.sl 1 [],i32 0,i64 0,i8 0,i32 0,i64 0,i8 0,i8 0,i8 0],i64 (D 5).snd]) from (AA_ (.cons (AZ_ (.cons (.refl _) (.cons (.refl _) (.cons (.refl _) (.cons (.refl _) (.cons (.refl _) (.cons (.refl _) (.cons (.refl _) (.cons (.refl _) (.cons (.refl _) (.cons (AV_ _) (.cons (AV_ _) (.cons (.refl _) (.cons (.refl _) (.cons (.refl _) (.cons (.refl _) (.cons (.refl _) (.cons (.refl _) (.cons (.refl _) (.cons (.refl _) .nil)))))))))))))))))))) (.cons (.refl _) .nil)))))
theorem rw_4c (xs:List Int) (D:Nat→Rrf) (V:Nat→Int) (W:Nat→List Int) (H:Scr xs sc4 D V W) (hk:V 0=4∨V 0=5) (h9:In64 (V 0))  (hbad:(D 5).2=0)  (hc:checkE (⟨V 0,V 1,0,V 2,V 3,V 4,0,0,0,[],[],0,0,0,0,0,0,0,0⟩:Nod)≠0):VM M_ 104 ([.ptr 100000 0 0]) ([(100000,.var (rrC xs (D 0)))]) (.tup [.agg [i64 0,i64 0,i64 0,i64 0,i64 0,i64 0,i64 0,i8 0,i8 0,.sl 1 [],.sl 1 [],i32 0,i64 0,i8 0,i32 0,i64 0,i8 0,i8 0,i8 0],i64 (checkE (⟨V 0,V 1,0,V 2,V 3,V 4,0,0,0,[],[],0,0,0,0,0,0,0,0⟩:Nod))]) ([(100000,.var (rrC xs (D 5)))]):=by
 have g0:=H.c 0 1 9
 have g1:=H.c 1 2 1024
 have g2:=H.c 2 3 1024
 have g3:=H.c 3 4 1024
 have g4:=H.c 4 5 1024
 clear H
 have oz2:=@tells_4 (V 0) hk
 have oz44:=@refCheck_v (Nod.mk (V 0) (V 1) 0 (V 2) (V 3) (V 4) 0 0 0 [] [] 0 0 0 0 0 0 0 0) k0_ k0_ h9
 exact VM.run (fn:=CJ_) (W:=[r_,.r [] [cm g0,cm g1],.r [] [cr oz2],.r [] [.row (sO z36_)],d_,.r [] [.row (sO z37_)],b_,.r [] [cm g2],.r [] [cm g3],.r [] [.row (sO z37_),f_,f_,f_,e_],b_,.r [] [cm g4],.r [] [.row (sO z38_)],d_,.r [] [.row (sO z38_)],d_,.r [] [.row (sO z38_)],d_,.r [] [.row (sO z38_)],d_,.r [] [.row (sO z38_)],d_,r_,d_,.r [] [ca oz44],r_,b_,r_]) (G:=[.drop [2,4,5],.weak 0 (AV.tup [AV.agg [i64 0,i64 0,i64 0,i64 0,i64 0,i64 0,i64 0,i8 0,i8 0,AV.sl 1 [],AV.sl 1 [],i32 0,i64 0,i8 0,i32 0,i64 0,i8 0,i8 0,i8 0],i64 (checkE (Nod.mk (V 0) (V 1) 0 (V 2) (V 3) (V 4) 0 0 0 [] [] 0 0 0 0 0 0 0 0))]),.sort]) CP_ w_ (.c8 g0 g1 oz2 z3_ z7_ z36_ z1_ z9_<|.c8 z10_ z37_ z0_ g2 g3 z9_ z10_ z37_<|.c8 z6_ z6_ z6_ z0_ z0_ g4 z16_ z17_<|.c8 z38_ z1_ z18_ z19_ z39_ z1_ z3_ z7_<|.c8 z36_ z1_ z20_ z21_ z40_ z1_ z22_ z23_<|.d7 z41_ z1_ (h_ (((D 5).snd != 0)=false)) (show WeakL [AV.agg [i64 (V 0),i64 (V 1),i64 0,i64 (V 2),i64 (V 3),i64 (V 4),i64 0,i8 0,i8 0,AV.lit (AK_ none 0 0),AV.lit (AK_ none 0 0),i32 0,i64 0,i8 0,i32 0,i64 0,i8 0,i8 0,i8 0]] [AV.agg [i64 (Nod.mk (V 0) (V 1) 0 (V 2) (V 3) (V 4) 0 0 0 [] [] 0 0 0 0 0 0 0 0).kd,i64 (Nod.mk (V 0) (V 1) 0 (V 2) (V 3) (V 4) 0 0 0 [] [] 0 0 0 0 0 0 0 0).na,i64 (Nod.mk (V 0) (V 1) 0 (V 2) (V 3) (V 4) 0 0 0 [] [] 0 0 0 0 0 0 0 0).nb,i64 (Nod.mk (V 0) (V 1) 0 (V 2) (V 3) (V 4) 0 0 0 [] [] 0 0 0 0 0 0 0 0).nk,i64 (Nod.mk (V 0) (V 1) 0 (V 2) (V 3) (V 4) 0 0 0 [] [] 0 0 0 0 0 0 0 0).ns,i64 (Nod.mk (V 0) (V 1) 0 (V 2) (V 3) (V 4) 0 0 0 [] [] 0 0 0 0 0 0 0 0).np,i64 (Nod.mk (V 0) (V 1) 0 (V 2) (V 3) (V 4) 0 0 0 [] [] 0 0 0 0 0 0 0 0).no,i8 (Nod.mk (V 0) (V 1) 0 (V 2) (V 3) (V 4) 0 0 0 [] [] 0 0 0 0 0 0 0 0).za,i8 (Nod.mk (V 0) (V 1) 0 (V 2) (V 3) (V 4) 0 0 0 [] [] 0 0 0 0 0 0 0 0).zb,AV.sl 1 [],AV.sl 1 [],i32 (Nod.mk (V 0) (V 1) 0 (V 2) (V 3) (V 4) 0 0 0 [] [] 0 0 0 0 0 0 0 0).qm,i64 (Nod.mk (V 0) (V 1) 0 (V 2) (V 3) (V 4) 0 0 0 [] [] 0 0 0 0 0 0 0 0).qs,i8 (Nod.mk (V 0) (V 1) 0 (V 2) (V 3) (V 4) 0 0 0 [] [] 0 0 0 0 0 0 0 0).qz,i32 (Nod.mk (V 0) (V 1) 0 (V 2) (V 3) (V 4) 0 0 0 [] [] 0 0 0 0 0 0 0 0).rm,i64 (Nod.mk (V 0) (V 1) 0 (V 2) (V 3) (V 4) 0 0 0 [] [] 0 0 0 0 0 0 0 0).rs,i8 (Nod.mk (V 0) (V 1) 0 (V 2) (V 3) (V 4) 0 0 0 [] [] 0 0 0 0 0 0 0 0).rz,i8 (Nod.mk (V 0) (V 1) 0 (V 2) (V 3) (V 4) 0 0 0 [] [] 0 0 0 0 0 0 0 0).lo,i8 (Nod.mk (V 0) (V 1) 0 (V 2) (V 3) (V 4) 0 0 0 [] [] 0 0 0 0 0 0 0 0).hi]] from (.cons (AZ_ (.cons (.refl _) (.cons (.refl _) (.cons (.refl _) (.cons (.refl _) (.cons (.refl _) (.cons (.refl _) (.cons (.refl _) (.cons (.refl _) (.cons (.refl _) (.cons (AV_ _) (.cons (AV_ _) (.cons (.refl _) (.cons (.refl _) (.cons (.refl _) (.cons (.refl _) (.cons (.refl _) (.cons (.refl _) (.cons (.refl _) (.cons (.refl _) .nil)))))))))))))))))))) .nil)) oz44 (h_ ((checkE (Nod.mk (V 0) (V 1) 0 (V 2) (V 3) (V 4) 0 0 0 [] [] 0 0 0 0 0 0 0 0) != 0)=true)) (show Weak (AV.tup [AV.agg [i64 0,i64 0,i64 0,i64 0,i64 0,i64 0,i64 0,i8 0,i8 0,AV.lit (AK_ none 0 0),AV.lit (AK_ none 0 0),i32 0,i64 0,i8 0,i32 0,i64 0,i8 0,i8 0,i8 0],i64 (checkE (Nod.mk (V 0) (V 1) 0 (V 2) (V 3) (V 4) 0 0 0 [] [] 0 0 0 0 0 0 0 0))]) (AV.tup [AV.agg [i64 0,i64 0,i64 0,i64 0,i64 0,i64 0,i64 0,i8 0,i8 0,AV.sl 1 [],AV.sl 1 [],i32 0,i64 0,i8 0,i32 0,i64 0,i8 0,i8 0,i8 0],i64 (checkE (Nod.mk (V 0) (V 1) 0 (V 2) (V 3) (V 4) 0 0 0 [] [] 0 0 0 0 0 0 0 0))]) from (AA_ (.cons (AZ_ (.cons (.refl _) (.cons (.refl _) (.cons (.refl _) (.cons (.refl _) (.cons (.refl _) (.cons (.refl _) (.cons (.refl _) (.cons (.refl _) (.cons (.refl _) (.cons (AV_ _) (.cons (AV_ _) (.cons (.refl _) (.cons (.refl _) (.cons (.refl _) (.cons (.refl _) (.cons (.refl _) (.cons (.refl _) (.cons (.refl _) (.cons (.refl _) .nil)))))))))))))))))))) (.cons (.refl _) .nil)))))
end Go.Proofs.YtdfihaminnmgpaaGreat
