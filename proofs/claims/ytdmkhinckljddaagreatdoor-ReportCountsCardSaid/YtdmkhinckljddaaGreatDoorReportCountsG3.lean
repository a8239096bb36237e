/- A part of this claim. No condition. -/
import Derived.OwnWalk
import Derived.Test.YtdmkhinckljddaaGreatDoorProg
import Derived.WalkKit
import Derived.Below
import Derived.LoopTactic
import Derived.RegionTactic
import Derived.ChangeAlike
import Derived.BigRegion
import Derived.Deep.QuietTactic
import Derived.BigQuiet
import Derived.Lib.Hide
import Derived.WalkSpells
import Derived.WalkLawsBesides
import Derived.WalkSmall
import Derived.Laws.BytesString
import Derived.Laws.IdiomStrings
import Derived.Laws.BitsAllLaws
import Derived.Laws.AppendOwnNone
import Derived.PlainAid
import Derived.Laws.Tables
import Derived.Laws.CopyOwn
import Derived.Deep.WholeRow
import Derived.Laws.ResultCell
import Derived.Shelf.Bits.Mul64
import Derived.Handy
import Derived.ScopeJumps
import Derived.Deep.Slices
import Derived.ProofKit
import Derived.OpenShut
import Derived.ShutString
import Derived.ChangeOld
import Derived.Shelf.Strings.OnBuilder
import Derived.Shelf.LaysM
import Derived.Shelf.Strconv.Itoa3
import Derived.Test.YtdmkhinckljddaaGreatDoorReportCountsG2
set_option maxRecDepth 100000
set_option maxHeartbeats 2000000
set_option linter.unusedVariables false
set_option linter.unusedSimpArgs false
set_option linter.unnecessarySimpa false
namespace Go.Proofs.YtdmkhinckljddaaGreatDoor
open Go.RowKit
open BlkW renaming rows→BB_
open Bool renaming and_eq_true→M_,and_eq_false_iff→P_,or_eq_false_iff→R_,not_eq_false'→V_,not_eq_true'→W_,or_eq_true→A_,and_true→AM_,false_eq_true→AB_,false_and→AI_,not_true→BN_,false_or→BO_,not_false→BQ_,and_false→BR_,true_and→BV_,or_false→BA_,true_eq_false→CM_,or_true→CX_
open Exit renaming exit→BM_
open Int renaming reduceEq→AH_,toNat_natCast→BU_,natCast_nonpos_iff→BC_,not_lt→CW_
open IntKind renaming i64→O_,i8→Y_,i32→AQ_
open List renaming map→K_,getElem?_eq_getElem→S_,length_map→T_,map_replicate→U_,map_append→X_,map_cons→Z_,map_take→AK_,map_drop→AL_,getD_eq_getElem?_getD→AN_,getElem?_map→AO_,map_nil→AP_,map_set→AR_,eq_nil_of_length_eq_zero→AX_,length_eq_zero_iff→BY_,getElem?_eq_none→BZ_,length_take→BF_,getElem?_append→BI_,take→BJ_,drop→CL_,length_drop→CO_
open Nat renaming le_refl→AU_
open Option renaming map_eq_some_iff→B_,getD_some→BS_
open Tryz renaming prog→L_,ntmps126→CV_
open Value renaming string→Q_,int→AV_,slice→AC_
open Weak renaming int→N_,agg→BL_
open WeakL renaming refl→D_
theorem cR_ {P:Program} {f:Nat} {fn:Func} {args:List AV} {ob:List Prop} (W:List WI) (r:AV) (hf:P.funcs[f]? = some fn) (hob:All ob) (h:vcrun P fn args W=some (ob,r):=by kernel_rfl):VC P f args r:=VC.run hf h hob
theorem tR_ {P:Program} {c:Code} {σ σ':VS} {e:Exit} {ob:List Prop} (W:List WI) (G:List GI) (hob:All ob) (h:vtrun P c σ W G=some (ob,e,σ'):=by kernel_rfl):VT P c σ e σ':=VT.run h hob
theorem mR_ {P:Program} {f:Nat} {fn:Func} {args:List AV} {o o':List (Nat×Blk)} {ob:List Prop} (W:List WI) (G:List GI) (r:AV) (hf:P.funcs[f]? = some fn) (hob:All ob) (h:vmrun P fn args o W G=some (ob,r,o'):=by kernel_rfl):VM P f args o r o':=VM.run hf h hob
theorem All.d {a:Prop} (ha:a):All [a]:=.c ha<|.n
theorem All.d2 {a b:Prop} (ha:a) (hb:b):All [a,b]:=.c ha<|.c hb<|.n
theorem All.d3 {a b c:Prop} (ha:a) (hb:b) (hc:c):All [a,b,c]:=.c ha<|.c hb<|.c hc<|.n
theorem All.d4 {a b c d:Prop} (ha:a) (hb:b) (hc:c) (hd:d):All [a,b,c,d]:=.c ha<|.c hb<|.c hc<|.c hd<|.n
theorem All.d5 {a b c d e:Prop} (ha:a) (hb:b) (hc:c) (hd:d) (he:e):All [a,b,c,d,e]:=.c ha<|.c hb<|.c hc<|.c hd<|.c he<|.n
theorem All.d6 {a b c d e f:Prop} (ha:a) (hb:b) (hc:c) (hd:d) (he:e) (hf:f):All [a,b,c,d,e,f]:=.c ha<|.c hb<|.c hc<|.c hd<|.c he<|.c hf<|.n
theorem All.d7 {a b c d e f g:Prop} (ha:a) (hb:b) (hc:c) (hd:d) (he:e) (hf:f) (hg:g):All [a,b,c,d,e,f,g]:=.c ha<|.c hb<|.c hc<|.c hd<|.c he<|.c hf<|.c hg<|.n
theorem All.d8 {a b c d e f g h:Prop} (ha:a) (hb:b) (hc:c) (hd:d) (he:e) (hf:f) (hg:g) (hh:h):All [a,b,c,d,e,f,g,h]:=.c ha<|.c hb<|.c hc<|.c hd<|.c he<|.c hf<|.c hg<|.c hh<|.n
theorem All.c8 {a b c d e f g h:Prop} {l:List Prop} (ha:a) (hb:b) (hc:c) (hd:d) (he:e) (hf:f) (hg:g) (hh:h) (t:All l):All (a::b::c::d::e::f::g::h::l):=.c ha<|.c hb<|.c hc<|.c hd<|.c he<|.c hf<|.c hg<|.c hh<|t
theorem s_ (p:Prop) (h:p:=by omega):p:=h
theorem gc0_ {p q:Prop} (h:p) (i:p→q:=by intro h;first|(simp only[A_,R_,M_,P_,W_,V_,E_,F_,I_,J_,ne_eq,H_,G_,eqNums,AM_] at h;first|exact h|omega)|simpa using h|(simp at h ⊢;omega)|(apply Classical.byContradiction;intro hn;simp_all[eqNums];done)|(apply Classical.byContradiction;intro hn;simp[eqNums] at h hn;omega)):q:=i h
abbrev cm {P:Program} {f:Nat} {a:List AV} {o z:List (Nat×Blk)} {r:AV} (h:VM P f a o r z):PI:=.callm [(100000,100000)] [] (rM h) (oM h)
abbrev cn {P:Program} {f:Nat} {a:List AV} {o z:List (Nat×Blk)} {r:AV} (h:VM P f a o r z):PI:=.callm [(100000,100000),(100001,100001)] [] (rM h) (oM h)
abbrev cr {P:Program} {f:Nat} {a:List AV} {r:AV} (h:VC P f a r):PI:=.callr (rO h)
abbrev ca {P:Program} {f:Nat} {a:List AV} {r:AV} (h:VC P f a r):PI:=.call (aO h) (rO h)
abbrev o_:PI:=.op false
abbrev p_:PI:=.op true
abbrev e_:PI:=.br true
abbrev f_:PI:=.br false
abbrev b_:WI:=.br true
abbrev d_:WI:=.br false
abbrev r_:WI:=.r [] []
theorem wS_ (k:Nat):Weak (.lit (.int .i64 ((k:Int)+1))) (.lit (.int .i64 ((k+1:Nat):Int))):=Weak.int (by omega)
theorem w0_:Weak (.lit (.int .i64 0)) (.lit (.int .i64 ((0:Nat):Int))):=Weak.int (by omega)
theorem cbc {p:Prop} (h:¬p→False):p:=Classical.byContradiction h
theorem i6n (n:Int) (h:-9223372036854775808≤n∧n≤9223372036854775807):IntKind.i64.wrap n=n:=IntWalk.i64_in n h
theorem bft (b:Bool):b=true∨b=false:=Bool.eq_false_or_eq_true b
theorem ret_int {k:IntKind} {a b:Int} (h:a=b):Ending.returned (.int k a)=.returned (.int k b):=by rw[h]
theorem lt_of_cell {w:World} {a:Addr} {v:Value} (h:w.cell? a=some v):a.block<w.heap.size:=World.block_lt_of_cell? w a h
theorem bl_get {w w':World} (hb:Below w.heap.size w w') {b o:Nat} {v:Value} (h:w.cell? ⟨b,o,none⟩=some v):w'.cell? ⟨b,o,none⟩=some v :=
 (hb.cell (p:=⟨b,o,none⟩) (lt_of_cell h)).trans h
def Held (p:Prop):Prop:=p
theorem hold {p:Prop} (h:Held p):p:=h
theorem unheld {p:Prop} (h:p):Held p:=h
theorem add_off (b off j:Nat):(⟨b,off,none⟩:Addr).add j=⟨b,off+j,none⟩:=by unfold Addr.add;split<;>simp_all
theorem wf_i64 {n:Int} (h:(Lit.int .i64 n).wf=true) : -9223372036854775808≤n∧n≤9223372036854775807:=by
 simp only[Lit.wf,IntKind.min,IntKind.max,IntKind.signed,IntKind.bits,M_,E_] at h;simp at h;omega
theorem wf_i32 {n:Int} (h:(Lit.int .i32 n).wf=true) : -2147483648≤n∧n≤2147483647:=by
 simp only[Lit.wf,IntKind.min,IntKind.max,IntKind.signed,IntKind.bits,M_] at h;simp at h;omega
theorem wf_i8 {n:Int} (h:(Lit.int .i8 n).wf=true) : -128≤n∧n≤127:=by
 simp only[Lit.wf,IntKind.min,IntKind.max,IntKind.signed,IntKind.bits,M_] at h;simp at h;omega
def At (w:World) (g:Nat) (t:TypeId) (cs:Array Value):Prop:=w.heap[g]? = some (.cells cs t (0,0))
theorem At.cell {w:World} {g:Nat} {t:TypeId} {cs:Array Value} (h:At w g t cs) (i:Nat):w.cell? ⟨g,i,none⟩=cs[i]?:=by
 unfold At at h;simp[World.cell?,h]
theorem At.new (w:World) (t:TypeId) (cs:Array Value):At (w.alloc (.cells cs t)) w.heap.size t cs:=by
 show (w.heap.push _)[w.heap.size]? = _
 simp
theorem mul64_any (x y:Nat) (hx:x<18446744073709551616) (hy:y<18446744073709551616) (w:World) :
  Calls L_ 138 #[.int .u64 x,.int .u64 y] w fun e w'=>e=.returned (.tuple #[.int .u64 ((x*y/18446744073709551616:Nat):Int),.int .u64 ((x*y % 18446744073709551616:Nat):Int)])∧w'=w:=by
 obtain ⟨bd,bt,bw,hhi⟩:=Lib.mul64_hi x y hx hy
 have ba:=Lib.half_mul_le (a:=x/4294967296) (b:=y/4294967296) (by omega) (by omega)
 have bb:=Lib.half_mul_le (a:=x/4294967296) (b:=y % 4294967296) (by omega) (by omega)
 have bc:=Lib.half_mul_le (a:=x % 4294967296) (b:=y/4294967296) (by omega) (by omega)
 have ba':x/4294967296*(y/4294967296)<18446744073709551616:=by omega
 have bb':x/4294967296*(y % 4294967296)<18446744073709551616:=by omega
 have bc':x % 4294967296*(y/4294967296)<18446744073709551616:=by omega
 have bh1:x/4294967296*(y/4294967296)+(x/4294967296*(y % 4294967296)+x % 4294967296*(y % 4294967296)/4294967296)/4294967296<18446744073709551616:=by omega
 have bh:x/4294967296*(y/4294967296)+(x/4294967296*(y % 4294967296)+x % 4294967296*(y % 4294967296)/4294967296)/4294967296+((x/4294967296*(y % 4294967296)+x % 4294967296*(y % 4294967296)/4294967296) % 4294967296+x % 4294967296*(y/4294967296))/4294967296<18446744073709551616:=by omega
 go_enter Tryz.func138,Tryz.ntmps138
 go_wp2
 simp only[Mul64.maskN x hx,Mul64.maskN y hy,Mul64.divN,Mul64.mulN,Mul64.addN,Mul64.wrapN _ bd,Mul64.wrapN _ bb',Mul64.wrapN _ bt,Mul64.maskN _ bt,Mul64.wrapN _ bc',Mul64.wrapN _ bw,Mul64.wrapN _ ba',Mul64.wrapN _ bh1,Mul64.wrapN _ bh,Mul64.wrapM (x*y)]
 rw[hhi]
 go_ret2
 exact ⟨rfl,rfl⟩
theorem satSize_any (a:Int) (w:World) (a0 : -9223372036854775808≤a) (a1:a≤9223372036854775807) :
  Calls L_ 139 #[.int .i64 a] w fun e w'=>e=.returned (.int .u64 ((a.natAbs:Nat):Int))∧w=w':=by
 by_cases h:a<0
 ·go_enter Tryz.func139,Tryz.ntmps139
  go_wp2
  go_ret
  refine ⟨ret_int ?_,rfl⟩
  rw[IntKind.wrap_u64,IntKind.wrap_u64];omega
 ·have h':0≤a:=by omega
  go_enter Tryz.func139,Tryz.ntmps139
  go_wp2
  go_ret
  refine ⟨ret_int ?_,rfl⟩
  omega
theorem abs_sign (a b:Int):(((a<0)=(b<0))→a*b=((a.natAbs*b.natAbs:Nat):Int))∧((¬ (a<0)=(b<0))→a*b = -((a.natAbs*b.natAbs:Nat):Int)):=by
 rw[Int.natCast_mul]
 rcases Int.lt_or_le a 0 with ha|ha<;>rcases Int.lt_or_le b 0 with hb|hb
 ·rw[show ((a.natAbs:Nat):Int) = -a by omega,show ((b.natAbs:Nat):Int) = -b by omega,Int.neg_mul_neg]
  exact ⟨fun _=>rfl,fun h=>absurd (by simp[ha,hb]) h⟩
 ·rw[show ((a.natAbs:Nat):Int) = -a by omega,show ((b.natAbs:Nat):Int)=b by omega,Int.neg_mul,Int.neg_neg]
  exact ⟨fun h=>by simp[ha] at h;omega,fun _=>rfl⟩
 ·rw[show ((a.natAbs:Nat):Int)=a by omega,show ((b.natAbs:Nat):Int) = -b by omega,Int.mul_neg,Int.neg_neg]
  exact ⟨fun h=>by simp[hb] at h;omega,fun _=>rfl⟩
 ·rw[show ((a.natAbs:Nat):Int)=a by omega,show ((b.natAbs:Nat):Int)=b by omega]
  exact ⟨fun _=>rfl,fun h=>absurd (by simp[show ¬ a<0 by omega,show ¬ b<0 by omega]) h⟩
theorem times_any (a b:Int) (w:World) (a0 : -9223372036854775808≤a) (a1:a≤9223372036854775807) (b0 : -9223372036854775808≤b) (b1:b≤9223372036854775807) :
  Calls L_ 126 #[.int .i64 a,.int .i64 b] w fun e w'=>∃ q r,e=.returned (.tuple #[.int .i64 q,.bool r])∧((r=true∧q=a*b ∧ -9223372036854775808≤a*b∧a*b≤9223372036854775807)∨(r=false∧(a*b < -9223372036854775808∨9223372036854775807<a*b)))∧w=w':=by
 obtain ⟨hs1,hs2⟩:=abs_sign a b
 obtain ⟨x,hx⟩:∃ x,x=a.natAbs:=⟨_,rfl⟩
 obtain ⟨y,hy⟩:∃ y,y=b.natAbs:=⟨_,rfl⟩
 have hxb:x<18446744073709551616:=by omega
 have hyb:y<18446744073709551616:=by omega
 rw[←hx,←hy] at hs1 hs2
 obtain ⟨m,hm⟩:∃ m,m=a*b:=⟨_,rfl⟩
 rw[←hm] at hs1 hs2 ⊢
 obtain ⟨H,hH⟩:∃ H,H=x*y/18446744073709551616:=⟨_,rfl⟩
 obtain ⟨L,hL⟩:∃ L,L=x*y % 18446744073709551616:=⟨_,rfl⟩
 have hp:x*y=18446744073709551616*H+L:=by rw[hH,hL];exact (Nat.div_add_mod _ _).symm
 have hLb:L<18446744073709551616:=by rw[hL];exact Nat.mod_lt _ (by decide)
 have hM:=Lib.hid (mul64_any x y hxb hyb w)
 rw[←hH,←hL] at hM
 have hS1:=Lib.hid (satSize_any a w a0 a1)
 have hS2:=Lib.hid (satSize_any b w b0 b1)
 rw[←hx] at hS1
 rw[←hy] at hS2
 rw[hp] at hs1 hs2
 have K1:=Lib.hid hs1;have K2:=Lib.hid hs2
 clear hs1 hs2 hp hH hL hm hx hy
 by_cases h1:H=0
 ·subst h1
  have e1:(((0:Nat):Int) != 0)=false:=rfl
  have e1':(((0:Nat):Int)==0)=true:=rfl
  rcases Int.lt_or_le a 0 with ha|ha<;>rcases Int.lt_or_le b 0 with hb|hb
  ·skip
   have da:decide (a<0)=true:=by rw[E_];omega
   have db:decide (b<0)=true:=by rw[E_];omega
   have hm:=K1.out (by simp only[eq_iff_iff];omega)
   by_cases hL:L≤9223372036854775807
   ·have d1:decide ((9223372036854775808:Int)<(L:Int))=false:=by rw[F_];omega
    have d2:((L:Int)==9223372036854775808)=false:=by rw[H_];omega
    go_enter Tryz.func126,CV_
    go_wp2_with fail
    refine hS1.out.mono ?_
    rintro e w' ⟨rfl,rfl⟩
    go_wp2_with fail
    refine hS2.out.mono ?_
    rintro e w' ⟨rfl,rfl⟩
    go_wp2_with fail
    refine hM.out.mono ?_
    rintro e w' ⟨rfl,rfl⟩
    go_wp2_with fail
    go_ret2
    refine ⟨_,true,rfl,.inl ⟨rfl,?_,?_,?_⟩,rfl⟩<;>first|omega|(simp[wrap64];omega)
   ·by_cases hL2:L=9223372036854775808
    ·subst hL2
     have d1:decide ((9223372036854775808:Int)<((9223372036854775808:Nat):Int))=false:=by decide
     have d2:(((9223372036854775808:Nat):Int)==9223372036854775808)=true:=by decide
     go_enter Tryz.func126,CV_
     go_wp2_with fail
     refine hS1.out.mono ?_
     rintro e w' ⟨rfl,rfl⟩
     go_wp2_with fail
     refine hS2.out.mono ?_
     rintro e w' ⟨rfl,rfl⟩
     go_wp2_with fail
     refine hM.out.mono ?_
     rintro e w' ⟨rfl,rfl⟩
     go_wp2_with fail
     go_ret2
     exact ⟨_,_,rfl,.inr ⟨rfl,by omega⟩,rfl⟩
    ·have d1:decide ((9223372036854775808:Int)<(L:Int))=true:=by rw[E_];omega
     go_enter Tryz.func126,CV_
     go_wp2_with fail
     refine hS1.out.mono ?_
     rintro e w' ⟨rfl,rfl⟩
     go_wp2_with fail
     refine hS2.out.mono ?_
     rintro e w' ⟨rfl,rfl⟩
     go_wp2_with fail
     refine hM.out.mono ?_
     rintro e w' ⟨rfl,rfl⟩
     go_wp2_with fail
     go_ret2
     exact ⟨_,_,rfl,.inr ⟨rfl,by omega⟩,rfl⟩
  ·skip
   have da:decide (a<0)=true:=by rw[E_];omega
   have db:decide (b<0)=false:=by rw[F_];omega
   have hm:=K2.out (by simp only[eq_iff_iff];omega)
   by_cases hL:L≤9223372036854775807
   ·have d1:decide ((9223372036854775808:Int)<(L:Int))=false:=by rw[F_];omega
    have d2:((L:Int)==9223372036854775808)=false:=by rw[H_];omega
    go_enter Tryz.func126,CV_
    go_wp2_with fail
    refine hS1.out.mono ?_
    rintro e w' ⟨rfl,rfl⟩
    go_wp2_with fail
    refine hS2.out.mono ?_
    rintro e w' ⟨rfl,rfl⟩
    go_wp2_with fail
    refine hM.out.mono ?_
    rintro e w' ⟨rfl,rfl⟩
    go_wp2_with fail
    go_ret2
    refine ⟨_,true,rfl,.inl ⟨rfl,?_,?_,?_⟩,rfl⟩<;>first|omega|(simp only[IntKind.wrap_u64];unfold wrap64;omega)
   ·by_cases hL2:L=9223372036854775808
    ·subst hL2
     have d1:decide ((9223372036854775808:Int)<((9223372036854775808:Nat):Int))=false:=by decide
     have d2:(((9223372036854775808:Nat):Int)==9223372036854775808)=true:=by decide
     go_enter Tryz.func126,CV_
     go_wp2_with fail
     refine hS1.out.mono ?_
     rintro e w' ⟨rfl,rfl⟩
     go_wp2_with fail
     refine hS2.out.mono ?_
     rintro e w' ⟨rfl,rfl⟩
     go_wp2_with fail
     refine hM.out.mono ?_
     rintro e w' ⟨rfl,rfl⟩
     go_wp2_with fail
     go_ret2
     refine ⟨_,true,rfl,.inl ⟨rfl,?_,?_,?_⟩,rfl⟩<;>first|omega|(rw[IntKind.wrap_u64];unfold wrap64;omega)
    ·have d1:decide ((9223372036854775808:Int)<(L:Int))=true:=by rw[E_];omega
     go_enter Tryz.func126,CV_
     go_wp2_with fail
     refine hS1.out.mono ?_
     rintro e w' ⟨rfl,rfl⟩
     go_wp2_with fail
     refine hS2.out.mono ?_
     rintro e w' ⟨rfl,rfl⟩
     go_wp2_with fail
     refine hM.out.mono ?_
     rintro e w' ⟨rfl,rfl⟩
     go_wp2_with fail
     go_ret2
     exact ⟨_,_,rfl,.inr ⟨rfl,by omega⟩,rfl⟩
  ·skip
   have da:decide (a<0)=false:=by rw[F_];omega
   have db:decide (b<0)=true:=by rw[E_];omega
   have hm:=K2.out (by simp only[eq_iff_iff];omega)
   by_cases hL:L≤9223372036854775807
   ·have d1:decide ((9223372036854775808:Int)<(L:Int))=false:=by rw[F_];omega
    have d2:((L:Int)==9223372036854775808)=false:=by rw[H_];omega
    go_enter Tryz.func126,CV_
    go_wp2_with fail
    refine hS1.out.mono ?_
    rintro e w' ⟨rfl,rfl⟩
    go_wp2_with fail
    refine hS2.out.mono ?_
    rintro e w' ⟨rfl,rfl⟩
    go_wp2_with fail
    refine hM.out.mono ?_
    rintro e w' ⟨rfl,rfl⟩
    go_wp2_with fail
    go_ret2
    refine ⟨_,true,rfl,.inl ⟨rfl,?_,?_,?_⟩,rfl⟩<;>first|omega|(simp only[IntKind.wrap_u64];unfold wrap64;omega)
   ·by_cases hL2:L=9223372036854775808
    ·subst hL2
     have d1:decide ((9223372036854775808:Int)<((9223372036854775808:Nat):Int))=false:=by decide
     have d2:(((9223372036854775808:Nat):Int)==9223372036854775808)=true:=by decide
     go_enter Tryz.func126,CV_
     go_wp2_with fail
     refine hS1.out.mono ?_
     rintro e w' ⟨rfl,rfl⟩
     go_wp2_with fail
     refine hS2.out.mono ?_
     rintro e w' ⟨rfl,rfl⟩
     go_wp2_with fail
     refine hM.out.mono ?_
     rintro e w' ⟨rfl,rfl⟩
     go_wp2_with fail
     go_ret2
     refine ⟨_,true,rfl,.inl ⟨rfl,?_,?_,?_⟩,rfl⟩<;>first|omega|(rw[IntKind.wrap_u64];unfold wrap64;omega)
    ·have d1:decide ((9223372036854775808:Int)<(L:Int))=true:=by rw[E_];omega
     go_enter Tryz.func126,CV_
     go_wp2_with fail
     refine hS1.out.mono ?_
     rintro e w' ⟨rfl,rfl⟩
     go_wp2_with fail
     refine hS2.out.mono ?_
     rintro e w' ⟨rfl,rfl⟩
     go_wp2_with fail
     refine hM.out.mono ?_
     rintro e w' ⟨rfl,rfl⟩
     go_wp2_with fail
     go_ret2
     exact ⟨_,_,rfl,.inr ⟨rfl,by omega⟩,rfl⟩
  ·skip
   have da:decide (a<0)=false:=by rw[F_];omega
   have db:decide (b<0)=false:=by rw[F_];omega
   have hm:=K1.out (by simp only[eq_iff_iff];omega)
   by_cases hL:L≤9223372036854775807
   ·have d1:decide ((9223372036854775808:Int)<(L:Int))=false:=by rw[F_];omega
    have d2:((L:Int)==9223372036854775808)=false:=by rw[H_];omega
    go_enter Tryz.func126,CV_
    go_wp2_with fail
    refine hS1.out.mono ?_
    rintro e w' ⟨rfl,rfl⟩
    go_wp2_with fail
    refine hS2.out.mono ?_
    rintro e w' ⟨rfl,rfl⟩
    go_wp2_with fail
    refine hM.out.mono ?_
    rintro e w' ⟨rfl,rfl⟩
    go_wp2_with fail
    go_ret2
    refine ⟨_,true,rfl,.inl ⟨rfl,?_,?_,?_⟩,rfl⟩<;>first|omega|(simp[wrap64];omega)
   ·by_cases hL2:L=9223372036854775808
    ·subst hL2
     have d1:decide ((9223372036854775808:Int)<((9223372036854775808:Nat):Int))=false:=by decide
     have d2:(((9223372036854775808:Nat):Int)==9223372036854775808)=true:=by decide
     go_enter Tryz.func126,CV_
     go_wp2_with fail
     refine hS1.out.mono ?_
     rintro e w' ⟨rfl,rfl⟩
     go_wp2_with fail
     refine hS2.out.mono ?_
     rintro e w' ⟨rfl,rfl⟩
     go_wp2_with fail
     refine hM.out.mono ?_
     rintro e w' ⟨rfl,rfl⟩
     go_wp2_with fail
     go_ret2
     exact ⟨_,_,rfl,.inr ⟨rfl,by omega⟩,rfl⟩
    ·have d1:decide ((9223372036854775808:Int)<(L:Int))=true:=by rw[E_];omega
     go_enter Tryz.func126,CV_
     go_wp2_with fail
     refine hS1.out.mono ?_
     rintro e w' ⟨rfl,rfl⟩
     go_wp2_with fail
     refine hS2.out.mono ?_
     rintro e w' ⟨rfl,rfl⟩
     go_wp2_with fail
     refine hM.out.mono ?_
     rintro e w' ⟨rfl,rfl⟩
     go_wp2_with fail
     go_ret2
     exact ⟨_,_,rfl,.inr ⟨rfl,by omega⟩,rfl⟩
 ·have e1:((H:Int) != 0)=true:=by rw[J_];omega
  have e1':((H:Int)==0)=false:=by rw[H_];omega
  have hbig:m < -9223372036854775808∨9223372036854775807<m:=by
   by_cases h:(a<0)=(b<0)
   ·have:=K1.out h;omega
   ·have:=K2.out h;omega
  clear h1
  go_enter Tryz.func126,CV_
  go_wp2_with fail
  refine hS1.out.mono ?_
  rintro e w' ⟨rfl,rfl⟩
  go_wp2_with fail
  refine hS2.out.mono ?_
  rintro e w' ⟨rfl,rfl⟩
  go_wp2_with fail
  refine hM.out.mono ?_
  rintro e w' ⟨rfl,rfl⟩
  go_wp2_with fail
  go_ret2
  exact ⟨_,_,rfl,.inr ⟨rfl,hbig⟩,rfl⟩
def elems (h w c:Int):Int:=if 1≤h∧h≤16∧1≤w∧w≤16∧1≤c∧c≤1024∧h*w*c≤1024 then h*w*c else 0
def prodTo:List Int→Int→Option Int
 | [],n=>some n
 | x::l,n=>if 1≤x∧n*x≤1024 then prodTo l (n*x) else none
theorem prodTo_elems (h w c:Int) (h16:h≤16) (w16:w≤16):(prodTo [h,w,c] 1).getD 0=elems h w c:=by
 unfold elems
 simp only[prodTo,Int.one_mul]
 by_cases h1:1≤h
 ·by_cases w1:1≤w
  ·by_cases c1:1≤c
   ·have p1:1≤h*w:=by have:=Int.mul_le_mul h1 w1 (by omega) (by omega);simpa using this
    have p2:c≤h*w*c:=by have:=Int.mul_le_mul_of_nonneg_right p1 (s_ (0≤c));simpa using this
    have p3:h*w≤h*w*c:=by have:=Int.mul_le_mul_of_nonneg_left c1 (s_ (0≤h*w));simpa using this
    by_cases hp:h*w*c≤1024
    ·rw[i_ ⟨h1,by omega⟩,i_ ⟨w1,by omega⟩,i_ ⟨c1,hp⟩,i_ ⟨h1,h16,w1,w16,c1,by omega,hp⟩];rfl
    ·rw[j_ (c:=1≤h∧h≤16∧_) (fun x=>hp x.2.2.2.2.2.2)]
     split
     ·split
      ·rw[j_ (fun x=>hp x.2)];rfl
      ·rfl
     ·rfl
   ·rw[j_ (c:=1≤h∧h≤16∧_) (fun x=>c1 x.2.2.2.2.1)]
    split
    ·split
     ·rw[j_ (fun x=>c1 x.1)];rfl
     ·rfl
    ·rfl
  ·rw[j_ (c:=1≤h∧h≤16∧_) (fun x=>w1 x.2.2.1)]
   split
   ·rw[j_ (fun x=>w1 x.1)];rfl
   ·rfl
 ·rw[j_ (c:=1≤h∧h≤16∧_) (fun x=>h1 x.1),j_ (fun x=>h1 x.1)];rfl
theorem product_any (x y z:Int) (w:World) (x0 : -9223372036854775808≤x) (x1:x≤9223372036854775807) (y0 : -9223372036854775808≤y) (y1:y≤9223372036854775807) (z0 : -9223372036854775808≤z) (z1:z≤9223372036854775807) :
  Calls L_ 101 #[.agg #[.int .i64 x,.int .i64 y,.int .i64 z]] w fun e w'=>e=.returned (.int .i64 ((prodTo [x,y,z] 1).getD 0))∧Below w.heap.size w w':=by
 go_enter Tryz.func101,Tryz.ntmps101
 go_wp2_with fail
 obtain ⟨w1,hw1⟩:∃ w1,w1=w.alloc (.cells #[.int .i64 x,.int .i64 y,.int .i64 z] 179):=⟨_,rfl⟩
 have ha:=At.new w 179 #[.int .i64 x,.int .i64 y,.int .i64 z]
 have hb1:Below w.heap.size w w1:=by rw[hw1];exact (Below.refl _ _).alloc (AU_ _) _
 rw[←hw1] at ha ⊢
 clear hw1
 go_loop [2,3,4,5,6,7] (fun r n _ _ _ i=>∃ (k:Nat) (N:Int),r=.int .i64 0∧i=.int .i64 k∧k≤3∧n=.int .i64 N∧1≤N∧N≤1024∧prodTo ([x,y,z].drop k) N=prodTo [x,y,z] 1) (fun _ _ _ _ _ i=>3-(intOf i).toNat)
 case atStart=>exact ⟨0,1,rfl,rfl,by omega,rfl,by omega,by omega,rfl⟩
 case round =>
  obtain ⟨k,N,rfl,rfl,hk,rfl,N0,N1,hp⟩:=hrel
  by_cases hlt:k<3
  ·obtain ⟨v,hv,v0,v1,hd⟩:∃ v,w1.cell? ⟨w.heap.size,k,none⟩=some (.int .i64 v) ∧ -9223372036854775808≤v∧v≤9223372036854775807∧[x,y,z].drop k=v::[x,y,z].drop (k+1):=by
    match k,hlt with
    | 0,_=>exact ⟨x,ha.cell 0,x0,x1,rfl⟩
    | 1,_=>exact ⟨y,ha.cell 1,y0,y1,rfl⟩
    | 2,_=>exact ⟨z,ha.cell 2,z0,z1,rfl⟩
   rw[hd] at hp
   have HP:=Lib.hid hp
   have kk0:(0:Int)≤(k:Int):=by omega
   have kk1:(k:Int)<3:=by omega
   clear hp hd
   go_wp2_with fail
   refine (times_any N v _ (by omega) (by omega) v0 v1).mono ?_
   rintro e w' ⟨q,r,rfl,hqr,rfl⟩
   rcases hqr with ⟨rfl,rfl,q0,q1⟩|⟨rfl,hq⟩
   ·by_cases hv1:v<1
    ·have HN:Hid ((prodTo [x,y,z] 1).getD 0=0):=by
      refine Lib.hid ?_
      rw[←HP.out];simp only[prodTo];rw[j_ (by omega)];rfl
     go_wp2_with fail
     go_ret
     exact ⟨by rw[HN.out];rfl,hb1⟩
    ·by_cases hb:1024<N*v
     ·have HN:Hid ((prodTo [x,y,z] 1).getD 0=0):=by
       refine Lib.hid ?_
       rw[←HP.out];simp only[prodTo];rw[j_ (by omega)];rfl
      go_wp2_with fail
      go_ret
      exact ⟨by rw[HN.out];rfl,hb1⟩
     ·have hpos:1≤N*v:=by have:=Int.mul_le_mul N0 (s_ (1≤v)) (by omega) (by omega);simpa using this
      go_wp2_with fail
      go_round
      case rel=>exact ⟨k+1,N*v,rfl,by go_num,by omega,rfl,hpos,by omega,by rw[←HP.out];simp only[prodTo];rw[i_ (by omega)]⟩
      case measure=>simp[intOf];omega
   ·have HN:Hid ((prodTo [x,y,z] 1).getD 0=0):=by
     refine Lib.hid ?_
     rw[←HP.out];simp only[prodTo];rw[j_ ?_];rfl
     intro hh
     have:0≤N*v:=Int.mul_nonneg (by omega) (by omega)
     omega
    go_wp2_with fail
    go_ret
    exact ⟨by rw[HN.out];rfl,hb1⟩
  ·obtain rfl:k=3:=by omega
   have hp':some N=prodTo [x,y,z] 1:=hp
   have HN:Hid ((prodTo [x,y,z] 1).getD 0=N):=by refine Lib.hid ?_;rw[←hp'];rfl
   clear hp hp'
   go_wp2_with fail
   go_ret
   exact ⟨by rw[HN.out];rfl,hb1⟩
theorem elems_any (h x c:Int) (w:World) (h0 : -9223372036854775808≤h) (h1:h≤9223372036854775807) (x0 : -9223372036854775808≤x) (x1:x≤9223372036854775807) (c0 : -9223372036854775808≤c) (c1:c≤9223372036854775807) :
  Calls L_ 85 #[.agg #[.int .i64 h,.int .i64 x,.int .i64 c]] w fun e w'=>e=.returned (.int .i64 (elems h x c))∧Below w.heap.size w w':=by
 by_cases hh:16<h
 ·have HE:Hid (elems h x c=0):=by refine Lib.hid ?_;unfold elems;rw[j_ (by omega)]
  go_enter Tryz.func85,Tryz.ntmps85
  go_wp2
  go_ret
  exact ⟨by rw[HE.out];rfl,(Below.refl _ _).alloc (AU_ _) _⟩
 ·by_cases hx:16<x
  ·have HE:Hid (elems h x c=0):=by refine Lib.hid ?_;unfold elems;rw[j_ (by omega)]
   go_enter Tryz.func85,Tryz.ntmps85
   go_wp2
   go_ret
   exact ⟨by rw[HE.out];rfl,(Below.refl _ _).alloc (AU_ _) _⟩
  ·have HE:=Lib.hid (prodTo_elems h x c (by omega) (by omega))
   go_enter Tryz.func85,Tryz.ntmps85
   go_wp2_with fail
   refine (product_any h x c _ h0 h1 x0 x1 c0 c1).mono ?_
   rintro e w' ⟨rfl,hb⟩
   rw[HE.out]
   go_wp2
   go_ret
   exact ⟨rfl,((Below.refl _ _).alloc (AU_ _) _).trans (hb.mono (by simp))⟩
end Go.Proofs.YtdmkhinckljddaaGreatDoor
namespace Go.Proofs.YtdmkhinckljddaaGreatDoor
open BlkW renaming rows→BB_
open Bool renaming and_eq_true→M_,and_eq_false_iff→P_,or_eq_false_iff→R_,not_eq_false'→V_,not_eq_true'→W_,or_eq_true→A_,and_true→AM_,false_eq_true→AB_,false_and→AI_,not_true→BN_,false_or→BO_,not_false→BQ_,and_false→BR_,true_and→BV_,or_false→BA_,true_eq_false→CM_,or_true→CX_
open Exit renaming exit→BM_
open Int renaming reduceEq→AH_,toNat_natCast→BU_,natCast_nonpos_iff→BC_,not_lt→CW_
open IntKind renaming i64→O_,i8→Y_,i32→AQ_
open List renaming map→K_,getElem?_eq_getElem→S_,length_map→T_,map_replicate→U_,map_append→X_,map_cons→Z_,map_take→AK_,map_drop→AL_,getD_eq_getElem?_getD→AN_,getElem?_map→AO_,map_nil→AP_,map_set→AR_,eq_nil_of_length_eq_zero→AX_,length_eq_zero_iff→BY_,getElem?_eq_none→BZ_,length_take→BF_,getElem?_append→BI_,take→BJ_,drop→CL_,length_drop→CO_
open Nat renaming le_refl→AU_
open Option renaming map_eq_some_iff→B_,getD_some→BS_
open Tryz renaming prog→L_,ntmps126→CV_
open Value renaming string→Q_,int→AV_,slice→AC_
open Weak renaming int→N_,agg→BL_
open WeakL renaming refl→D_
def rn (m s:Nat):Nat:=if s=0 then m else m/2 ^ s+m/2 ^ (s-1) % 2
def rnd (v s:Int):Int:=if s<0∨62<s then 0 else if 0≤v then (rn v.toNat s.toNat:Int) else -(rn (-v).toNat s.toNat:Int)
theorem rn_succ (m s:Nat):rn m (s+1)=(m/2 ^ s+1)/2:=by
 unfold rn
 rw[j_ (by omega),Nat.add_sub_cancel,Nat.pow_succ,←Nat.div_div_eq_div_mul]
 omega
theorem rn_le (m s:Nat):rn m s≤m:=by
 by_cases hs:s=0
 ·subst hs;simp[rn]
 ·obtain ⟨t,rfl⟩:∃ t,s=t+1:=⟨s-1,by omega⟩
  rw[rn_succ]
  have:=Nat.div_le_self m (2 ^ t)
  omega
theorem rnd_abs (v s:Int) : -(v.natAbs:Int)≤rnd v s∧rnd v s≤v.natAbs:=by
 unfold rnd
 split
 ·omega
 ·split
  ·have:=rn_le v.toNat s.toNat;omega
  ·have:=rn_le (-v).toNat s.toNat;omega
theorem rnd_bd (v s:Int) (B:Int) (h1 : -B≤v) (h2:v≤B) : -B≤rnd v s∧rnd v s≤B:=by
 have:=rnd_abs v s;omega
def clampI (v lo hi:Int):Int:=if v<lo then lo else if hi<v then hi else v
def rightQ (mult shift:Int):Bool:=decide (0<mult)&&decide (0≤shift)&&decide (shift≤62)
def heldQ (acc mult shift zero lo hi:Int):Int:=if rightQ mult shift=true then clampI (rnd (acc*mult) shift+zero) lo hi else 0
end Go.Proofs.YtdmkhinckljddaaGreatDoor
namespace Go.Proofs.YtdmkhinckljddaaGreatDoor
open Go.RowKit
open BlkW renaming rows→BB_
open Bool renaming and_eq_true→M_,and_eq_false_iff→P_,or_eq_false_iff→R_,not_eq_false'→V_,not_eq_true'→W_,or_eq_true→A_,and_true→AM_,false_eq_true→AB_,false_and→AI_,not_true→BN_,false_or→BO_,not_false→BQ_,and_false→BR_,true_and→BV_,or_false→BA_,true_eq_false→CM_,or_true→CX_
open Exit renaming exit→BM_
open Int renaming reduceEq→AH_,toNat_natCast→BU_,natCast_nonpos_iff→BC_,not_lt→CW_
open IntKind renaming i64→O_,i8→Y_,i32→AQ_
open List renaming map→K_,getElem?_eq_getElem→S_,length_map→T_,map_replicate→U_,map_append→X_,map_cons→Z_,map_take→AK_,map_drop→AL_,getD_eq_getElem?_getD→AN_,getElem?_map→AO_,map_nil→AP_,map_set→AR_,eq_nil_of_length_eq_zero→AX_,length_eq_zero_iff→BY_,getElem?_eq_none→BZ_,length_take→BF_,getElem?_append→BI_,take→BJ_,drop→CL_,length_drop→CO_
open Nat renaming le_refl→AU_
open Option renaming map_eq_some_iff→B_,getD_some→BS_
open Tryz renaming prog→L_,ntmps126→CV_
open Value renaming string→Q_,int→AV_,slice→AC_
open Weak renaming int→N_,agg→BL_
open WeakL renaming refl→D_
theorem and_bit (x k:Nat):(x &&& 2 ^ k)/2 ^ k=x/2 ^ k % 2:=by
 rw[Nat.and_div_two_pow,Nat.div_self (Nat.two_pow_pos k),Nat.and_one_is_mod]
theorem satHeld_any (v lo hi:Int) (w:World):Calls L_ 154 #[.int .i64 v,.int .i64 lo,.int .i64 hi] w fun e w'=>e=.returned (.int .i64 (clampI v lo hi))∧w=w':=by
 by_cases h1:v<lo
 ·have e:clampI v lo hi=lo:=by unfold clampI;rw[i_ h1]
  rw[e];clear e
  go_enter Tryz.func154,Tryz.ntmps154
  go_wp2
  go_ret
  exact ⟨rfl,rfl⟩
 ·by_cases h2:hi<v
  ·have e:clampI v lo hi=hi:=by unfold clampI;rw[j_ h1,i_ h2]
   rw[e];clear e
   go_enter Tryz.func154,Tryz.ntmps154
   go_wp2
   go_ret
   exact ⟨rfl,rfl⟩
  ·have e:clampI v lo hi=v:=by unfold clampI;rw[j_ h1,j_ h2]
   rw[e];clear e
   go_enter Tryz.func154,Tryz.ntmps154
   go_wp2
   go_ret
   exact ⟨rfl,rfl⟩
theorem wp_scope_fwd {P:Program} {a:Act} {w:World} {Q:Exit→Act→World→Prop} {c rest:Code} (l:Nat) (hf:findLabel c l=some rest)
  (h:c.wp P (Exit.jump l (fun a w=>rest.wp P (Exit.noGoto Q) a w) Q) a w):(Code.scope c).wp P Q a w :=
 wp_scope_jumps l (fun a w=>rest.wp P (Exit.noGoto Q) a w) (fun _ _=>0) hf h fun a w hJ=>wp_mono hJ fun e a w hq=>by
  cases e<;>first|exact hq|exact hq.elim
theorem jump_ret {l:Nat} {J:Act→World→Prop} {Q:Exit→Act→World→Prop}:Exit.jump l J Q .ret=Q .ret:=rfl
theorem rnd_pos (v s:Int) (hv:0≤v) (h0:0≤s) (h1:s≤62):rnd v s=(rn v.toNat s.toNat:Int):=by unfold rnd;rw[j_ (by omega),i_ hv]
theorem rnd_below (v s:Int) (hv:v<0) (h0:0≤s) (h1:s≤62):rnd v s = -(rn (-v).toNat s.toNat:Int):=by unfold rnd;rw[j_ (by omega),j_ (by omega)]
theorem rn_bits (m t:Nat) (hm:m≤9223372036854775808) (h1:1≤t) (h2:t≤62) :
  (m:Int)/2 ^ t+bits BinOp.and IntKind.u64 (m:Int) (IntKind.u64.wrap (2 ^ (t-1)))/2 ^ (t-1)=(rn m t:Int):=by
 have hp:2 ^ (t-1)≤2 ^ 62:=Nat.pow_le_pow_right (by decide) (by omega)
 generalize hH:2 ^ (t-1)=H at hp
 have e1:IntKind.u64.wrap (2 ^ (t-1))=((2 ^ (t-1):Nat):Int):=by
  rw[show ((2:Int) ^ (t-1))=((2 ^ (t-1):Nat):Int) from by simp,hH]
  exact IntWalk.u64_in _ (by omega)
 rw[e1,hH,u64_and_nat _ _ (by omega) (by omega),←hH]
 unfold rn
 rw[j_ (by omega),←and_bit]
 simp
theorem u64_neg_eq (v:Int) (h0 : -9223372036854775808≤v) (h1:v<0):IntKind.u64.wrap (-IntKind.u64.wrap v)=(((-v).toNat:Nat):Int):=by
 simp only[IntKind.wrap_u64];omega
theorem back_neg (r:Nat) (h:r≤9223372036854775808):wrap64 (IntKind.u64.wrap (-(r:Int))) = -(r:Int):=by
 simp only[IntKind.wrap_u64,wrap64];omega
theorem round_any (v s:Int) (w:World) (h0 : -9223372036854775808≤v) (h1:v≤9223372036854775807) :
  Calls L_ 156 #[.int .i64 v,.int .i64 s] w fun e w'=>e=.returned (.int .i64 (rnd v s))∧∃ n,w'=w.drewN n:=by
 by_cases hs:s<0
 ·have e:rnd v s=0:=by unfold rnd;rw[i_ (.inl hs)]
  rw[e];clear e
  go_enter Tryz.func156,Tryz.ntmps156
  go_wp2
  refine wp_scope_fwd 0 rfl ?_
  go_wp2
  (try rw[jump_ret])
  go_ret
  exact ⟨rfl,0,rfl⟩
 ·by_cases hs2:62<s
  ·have e:rnd v s=0:=by unfold rnd;rw[i_ (.inr hs2)]
   rw[e];clear e
   go_enter Tryz.func156,Tryz.ntmps156
   go_wp2
   refine wp_scope_fwd 0 rfl ?_
   go_wp2
   (try rw[jump_ret])
   go_ret
   exact ⟨rfl,0,rfl⟩
  ·by_cases hv:0≤v
   ·by_cases hs0:s=0
    ·subst hs0
     go_enter Tryz.func156,Tryz.ntmps156
     go_wp2
     refine wp_scope_fwd 0 rfl ?_
     go_wp2
     go_step3
     refine ⟨rfl,?_⟩
     go_wp2
     (try rw[Exit.noGoto_ret])
     go_ret
     refine ⟨ret_int ?_,0,rfl⟩
     rw[rnd_pos v 0 hv (by omega) (by omega)];simp[rn];omega
    ·have hs1:1≤s:=by omega
     go_enter Tryz.func156,Tryz.ntmps156
     go_wp2
     refine wp_scope_fwd 0 rfl ?_
     go_wp2
     go_step3
     refine ⟨rfl,?_⟩
     go_wp2
     go_quiet (fail)
     go_wp2
     (try rw[Exit.noGoto_ret])
     go_ret
     refine ⟨?_,nq,rfl⟩
     rw[rnd_pos v s hv (by omega) (by omega)]
     obtain ⟨m,rfl⟩:=Int.eq_ofNat_of_zero_le hv
     have e:=rn_bits m s.toNat (by omega) (by omega) (by omega)
     have hle:=rn_le m s.toNat
     exact ret_int (by rw[e,BU_,IntWalk.u64_in ((rn m s.toNat:Nat):Int) ⟨by omega,by omega⟩,IntWalk.wrap64_in _ ⟨by omega,by omega⟩])
   ·by_cases hs0:s=0
    ·subst hs0
     go_enter Tryz.func156,Tryz.ntmps156
     go_wp2
     refine wp_scope_fwd 0 rfl ?_
     go_wp2
     go_step3
     go_wp2
     (try rw[jump_ret])
     go_ret
     refine ⟨?_,0,rfl⟩
     rw[rnd_below v 0 (by omega) (by omega) (by omega)]
     exact ret_int (by rw[u64_neg_eq v h0 (by omega),back_neg _ (by omega)];simp[rn])
    ·have hs1:1≤s:=by omega
     go_enter Tryz.func156,Tryz.ntmps156
     go_wp2
     refine wp_scope_fwd 0 rfl ?_
     go_wp2
     go_step3
     go_wp2
     go_quiet (fail)
     go_wp2
     (try rw[jump_ret])
     go_ret
     refine ⟨?_,nq,rfl⟩
     rw[rnd_below v s (by omega) (by omega) (by omega)]
     have e:=rn_bits (-v).toNat s.toNat (by omega) (by omega) (by omega)
     have hle:=rn_le (-v).toNat s.toNat
     exact ret_int (by rw[u64_neg_eq v h0 (by omega),e,IntWalk.u64_in ((rn (-v).toNat s.toNat:Nat):Int) ⟨by omega,by omega⟩,back_neg _ (by omega)])
theorem scale_any (a m s:Int) (w:World) (a0 : -2147483648≤a) (a1:a≤2147483647) (m0 : -2147483648≤m) (m1:m≤2147483647) :
  Calls L_ 155 #[.int .i32 a,.int .i32 m,.int .i64 s] w fun e w'=>e=.returned (.int .i64 (rnd (a*m) s))∧∃ n,w'=w.drewN n:=by
 have hb : -4611686018427387904≤a*m∧a*m≤4611686018427387904:=by
  constructor
  ·have h1:(a.natAbs*m.natAbs:Nat)≤2147483648*2147483648:=Nat.mul_le_mul (by omega) (by omega)
   have:=Int.natAbs_mul a m
   omega
  ·have h1:(a.natAbs*m.natAbs:Nat)≤2147483648*2147483648:=Nat.mul_le_mul (by omega) (by omega)
   have:=Int.natAbs_mul a m
   omega
 obtain ⟨b0,b1⟩:=hb
 go_enter Tryz.func155,Tryz.ntmps155
 go_wp2_with fail
 refine (round_any _ _ _ (by omega) (by omega)).mono ?_
 rintro e w1 ⟨rfl,n,rfl⟩
 go_wp2
 go_ret
 exact ⟨rfl,n,rfl⟩
theorem clamp_any (v lo hi:Int) (w:World) (l0 : -128≤lo) (l1:lo≤127) (k0 : -128≤hi) (k1:hi≤127) :
  Calls L_ 149 #[.int .i64 v,.int .i8 lo,.int .i8 hi] w fun e w'=>e=.returned (.int .i8 (clampI v lo hi))∧w=w':=by
 have hb : -128≤clampI v lo hi∧clampI v lo hi≤127:=by unfold clampI;split<;>(try split)<;>omega
 obtain ⟨b0,b1⟩:=hb
 go_enter Tryz.func149,Tryz.ntmps149
 go_wp2_with fail
 refine (satHeld_any _ _ _ _).mono ?_
 rintro e w1 ⟨rfl,rfl⟩
 go_wp2
 go_ret
 exact ⟨rfl,rfl⟩
theorem right_any (m s z:Int) (w:World):Calls L_ 111 #[.agg #[.int .i32 m,.int .i64 s,.int .i8 z]] w fun e w'=>e=.returned (.bool (rightQ m s))∧Below w.heap.size w w':=by
 by_cases h1:0<m
 ·by_cases h2:0≤s
  ·by_cases h3:s≤62
   ·have e:rightQ m s=true:=by unfold rightQ;simp[h1,h2,h3]
    rw[e];clear e
    go_enter Tryz.func111,Tryz.ntmps111
    go_wp2
    go_ret
    exact ⟨rfl,(Below.refl _ _).alloc (AU_ _) _⟩
   ·have e:rightQ m s=false:=by unfold rightQ;simp[h3]
    rw[e];clear e
    go_enter Tryz.func111,Tryz.ntmps111
    go_wp2
    go_ret
    exact ⟨rfl,(Below.refl _ _).alloc (AU_ _) _⟩
  ·have e:rightQ m s=false:=by unfold rightQ;simp[h2]
   rw[e];clear e
   go_enter Tryz.func111,Tryz.ntmps111
   go_wp2
   go_ret
   exact ⟨rfl,(Below.refl _ _).alloc (AU_ _) _⟩
 ·have e:rightQ m s=false:=by unfold rightQ;simp[h1]
  rw[e];clear e
  go_enter Tryz.func111,Tryz.ntmps111
  go_wp2
  go_ret
  exact ⟨rfl,(Below.refl _ _).alloc (AU_ _) _⟩
theorem refRight_any (m s z:Int) (w:World):Calls L_ 63 #[.agg #[.int .i32 m,.int .i64 s,.int .i8 z]] w fun e w'=>e=.returned (.bool (rightQ m s))∧Below w.heap.size w w':=by
 by_cases h1:0<m
 ·by_cases h2:0≤s
  ·by_cases h3:s≤62
   ·have e:rightQ m s=true:=by unfold rightQ;simp[h1,h2,h3]
    rw[e];clear e
    go_enter Tryz.func63,Tryz.ntmps63
    go_wp2
    go_ret
    exact ⟨rfl,(Below.refl _ _).alloc (AU_ _) _⟩
   ·have e:rightQ m s=false:=by unfold rightQ;simp[h3]
    rw[e];clear e
    go_enter Tryz.func63,Tryz.ntmps63
    go_wp2
    go_ret
    exact ⟨rfl,(Below.refl _ _).alloc (AU_ _) _⟩
  ·have e:rightQ m s=false:=by unfold rightQ;simp[h2]
   rw[e];clear e
   go_enter Tryz.func63,Tryz.ntmps63
   go_wp2
   go_ret
   exact ⟨rfl,(Below.refl _ _).alloc (AU_ _) _⟩
 ·have e:rightQ m s=false:=by unfold rightQ;simp[h1]
  rw[e];clear e
  go_enter Tryz.func63,Tryz.ntmps63
  go_wp2
  go_ret
  exact ⟨rfl,(Below.refl _ _).alloc (AU_ _) _⟩
theorem mul_bd32 (a m:Int) (a0 : -2147483648≤a) (a1:a≤2147483647) (m0 : -2147483648≤m) (m1:m≤2147483647) : -4611686018427387904≤a*m∧a*m≤4611686018427387904:=by
 have h1:(a.natAbs*m.natAbs:Nat)≤2147483648*2147483648:=Nat.mul_le_mul (by omega) (by omega)
 have:=Int.natAbs_mul a m
 omega
theorem held_any (a m s z lo hi:Int) (w:World) (a0 : -2147483648≤a) (a1:a≤2147483647) (m0 : -2147483648≤m) (m1:m≤2147483647) (z0 : -128≤z) (z1:z≤127) (l0 : -128≤lo) (l1:lo≤127) (k0 : -128≤hi) (k1:hi≤127) :
  Calls L_ 151 #[.int .i32 a,.agg #[.int .i32 m,.int .i64 s,.int .i8 z],.int .i8 lo,.int .i8 hi] w fun e w'=>e=.returned (.int .i8 (heldQ a m s z lo hi))∧Below w.heap.size w w':=by
 have hb:=mul_bd32 a m a0 a1 m0 m1
 have hr:=rnd_bd (a*m) s 4611686018427387904 hb.1 hb.2
 obtain ⟨r0,r1⟩:=hr
 cases hq:rightQ m s with
 | false =>
  have e:heldQ a m s z lo hi=0:=by unfold heldQ;rw[hq];simp
  rw[e];clear e
  have HQ:=Lib.hid hq;clear hq
  go_enter Tryz.func151,Tryz.ntmps151
  go_wp2_with fail
  refine (right_any _ _ _ _).mono ?_
  rintro e w1 ⟨rfl,hb1⟩
  rw[HQ.out]
  go_wp2
  go_ret
  exact ⟨rfl,((Below.refl _ _).alloc (AU_ _) _).trans (hb1.mono (by simp))⟩
 | true =>
  have e:heldQ a m s z lo hi=clampI (rnd (a*m) s+z) lo hi:=by unfold heldQ;rw[hq];simp
  rw[e];clear e
  have HQ:=Lib.hid hq;clear hq
  go_enter Tryz.func151,Tryz.ntmps151
  go_wp2_with fail
  refine (right_any _ _ _ _).mono ?_
  rintro e w1 ⟨rfl,hb1⟩
  rw[HQ.out]
  have c0:=bl_get hb1 (b:=w.heap.size) (o:=0) (v:=.int .i32 m) (by rw[World.cell?_alloc_at _ _ _ _ rfl];rfl)
  have c1:=bl_get hb1 (b:=w.heap.size) (o:=1) (v:=.int .i64 s) (by rw[World.cell?_alloc_at _ _ _ _ rfl];rfl)
  have c2:=bl_get hb1 (b:=w.heap.size) (o:=2) (v:=.int .i8 z) (by rw[World.cell?_alloc_at _ _ _ _ rfl];rfl)
  go_wp2_with fail
  go_quiet (first|(go_at_call 155;refine Calls.quiet_of (scale_any _ _ _ _ a0 a1 m0 m1))|(go_at_call 149;refine Calls.quiet_of_same ((clamp_any _ _ _ _ l0 l1 k0 k1).mono fun _ _ h=>⟨h.1,h.2.symm⟩)))
  go_wp2
  go_ret
  refine ⟨rfl,below_drewN (((Below.refl _ _).alloc (AU_ _) _).trans (hb1.mono (by simp))) _⟩
structure Ten where
 h:Int
 x:Int
 c:Int
 d:List Int
abbrev In64 (n:Int):Prop := -9223372036854775808≤n∧n≤9223372036854775807
abbrev In32 (n:Int):Prop := -2147483648≤n∧n≤2147483647
abbrev In8 (n:Int):Prop := -128≤n∧n≤127
abbrev ten (k:IntKind) (T:Ten):AV:=.agg [i64 T.h,i64 T.x,i64 T.c,ints k T.d]
structure Nod where
 kd:Int
 na:Int
 nb:Int
 nk:Int
 ns:Int
 np:Int
 no:Int
 za:Int
 zb:Int
 w:List Int
 b:List Int
 qm:Int
 qs:Int
 qz:Int
 rm:Int
 rs:Int
 rz:Int
 lo:Int
 hi:Int
abbrev nodC (n:Nod):List AV:=[i64 n.kd,i64 n.na,i64 n.nb,i64 n.nk,i64 n.ns,i64 n.np,i64 n.no,i8 n.za,i8 n.zb,ints .i8 n.w,ints .i32 n.b,i32 n.qm,i64 n.qs,i8 n.qz,i32 n.rm,i64 n.rs,i8 n.rz,i8 n.lo,i8 n.hi]
abbrev nod (n:Nod):AV:=.agg (nodC n)
structure Nod.Ok (n:Nod):Prop where
 kd:In64 n.kd
 na:In64 n.na
 nb:In64 n.nb
 nk:In64 n.nk
 ns:In64 n.ns
 np:In64 n.np
 no:In64 n.no
 za:In8 n.za
 zb:In8 n.zb
 w:∀ v∈n.w,In8 v
 b:∀ v∈n.b,In32 v
 qm:In32 n.qm
 qs:In64 n.qs
 qz:In8 n.qz
 rm:In32 n.rm
 rs:In64 n.rs
 rz:In8 n.rz
 lo:In8 n.lo
 hi:In8 n.hi
theorem elems_v (h x c:Int) (hh:In64 h) (hx:In64 x) (hc:In64 c):VC L_ 85 [.agg [i64 h,i64 x,i64 c]] (i64 (elems h x c)) :=
 VC.ofCalls (x:=.int .i64 (elems h x c)) rfl rfl fun w=>elems_any h x c w hh.1 hh.2 hx.1 hx.2 hc.1 hc.2
theorem right_v (m s z:Int):VC L_ 111 [.agg [i32 m,i64 s,i8 z]] (bv (rightQ m s)) :=
 VC.ofCalls (x:=.bool (rightQ m s)) rfl rfl fun w=>right_any m s z w
theorem refRight_v (m s z:Int):VC L_ 63 [.agg [i32 m,i64 s,i8 z]] (bv (rightQ m s)) :=
 VC.ofCalls (x:=.bool (rightQ m s)) rfl rfl fun w=>refRight_any m s z w
theorem held_v (a m s z lo hi:Int) (ha:In32 a) (hm:In32 m) (hz:In8 z) (hl:In8 lo) (hh:In8 hi):VC L_ 151 [i32 a,.agg [i32 m,i64 s,i8 z],i8 lo,i8 hi] (i8 (heldQ a m s z lo hi)) :=
 VC.ofCalls (x:=.int .i8 (heldQ a m s z lo hi)) rfl rfl fun w=>held_any a m s z lo hi w ha.1 ha.2 hm.1 hm.2 hz.1 hz.2 hl.1 hl.2 hh.1 hh.2
theorem clamp_v (v lo hi:Int) (hl:In8 lo) (hh:In8 hi):VC L_ 149 [i64 v,i8 lo,i8 hi] (i8 (clampI v lo hi)) :=
 VC.ofSame (x:=.int .i8 (clampI v lo hi)) rfl rfl fun w=>clamp_any v lo hi w hl.1 hl.2 hh.1 hh.2
theorem scale_v (a m s:Int) (ha:In32 a) (hm:In32 m):VC L_ 155 [i32 a,i32 m,i64 s] (i64 (rnd (a*m) s)) :=
 VC.ofCalls (x:=.int .i64 (rnd (a*m) s)) rfl rfl fun w=>(scale_any a m s w ha.1 ha.2 hm.1 hm.2).mono fun _ _ ⟨he,n,hn⟩=>⟨he,hn▸below_drewN (Below.refl _ _) n⟩
def RelL (w:World) (l:List AV) (vs:List Value):Prop:=vs.length=l.length∧∀ (i:Nat) (c:AV) (v:Value),l[i]? = some c→vs[i]? = some v→Rel (fun _=>none) (fun _=>False) w c v
theorem RelL.nil (w:World):RelL w [] []:=⟨rfl,fun i c v h=>by simp at h⟩
theorem RelL.cons {w:World} {c:AV} {v:Value} {l:List AV} {vs:List Value} (h:Rel (fun _=>none) (fun _=>False) w c v) (hl:RelL w l vs):RelL w (c::l) (v::vs):=⟨by simp[hl.1],fun i a b ha hb=>by
 cases i with
 | zero=>simp at ha hb;subst ha hb;exact h
 | succ i=>exact hl.2 i a b (by simpa using ha) (by simpa using hb)⟩
theorem RelL.agg {w:World} {l:List AV} {vs:List Value} (h:RelL w l vs):Rel (fun _=>none) (fun _=>False) w (.agg l) (.agg vs.toArray):=.agg h.1 h.2
theorem law_of {P:Program} {f:Nat} {args:List AV} {xs:List Value} {w:World} (h:VC P f args (bv true)) (hr:RelL w args xs) (ht:TabW w:=by intro p hp;cases hp):Calls P f xs.toArray w fun e w'=>e=.returned (.bool true)∧Below w.heap.size w w' :=
 (h (fun _=>False) w xs ⟨fun _ h=>h.elim,ht⟩ hr.1 hr.2).mono fun e w' ⟨x,he,hx,hb⟩=>⟨by rw[he,rel_lit hx],hb⟩
def RdN (c:Nat) (w:World) (v:Value) (rs:List (List Value)):Prop :=
 (∀ r∈rs,r.length=c)∧∃ ao cap,v=.slice ao rs.length cap∧(rs.length≤cap∧cap≤maxLen∧(ao=none→cap=0)) ∧
  (rs≠[]→∃ b off,ao=some ⟨b,off,none⟩∧∀ j r i u,rs[j]? = some r→r[i]? = some u→w.cell? ⟨b,off+j*c+i,none⟩=some u)
theorem RdN.nil (c:Nat) (w:World):RdN c w (.slice none 0 0) []:=⟨by simp,none,0,rfl,⟨AU_ _,Nat.zero_le _,fun _=>rfl⟩,fun h=>absurd rfl h⟩
end Go.Proofs.YtdmkhinckljddaaGreatDoor
namespace Go.Proofs.YtdmkhinckljddaaGreatDoor
open Go.RowKit Go.ChangeShapes Go.WideShapes
open BlkW renaming rows→BB_
open Bool renaming and_eq_true→M_,and_eq_false_iff→P_,or_eq_false_iff→R_,not_eq_false'→V_,not_eq_true'→W_,or_eq_true→A_,and_true→AM_,false_eq_true→AB_,false_and→AI_,not_true→BN_,false_or→BO_,not_false→BQ_,and_false→BR_,true_and→BV_,or_false→BA_,true_eq_false→CM_,or_true→CX_
open Exit renaming exit→BM_
open Int renaming reduceEq→AH_,toNat_natCast→BU_,natCast_nonpos_iff→BC_,not_lt→CW_
open IntKind renaming i64→O_,i8→Y_,i32→AQ_
open List renaming map→K_,getElem?_eq_getElem→S_,length_map→T_,map_replicate→U_,map_append→X_,map_cons→Z_,map_take→AK_,map_drop→AL_,getD_eq_getElem?_getD→AN_,getElem?_map→AO_,map_nil→AP_,map_set→AR_,eq_nil_of_length_eq_zero→AX_,length_eq_zero_iff→BY_,getElem?_eq_none→BZ_,length_take→BF_,getElem?_append→BI_,take→BJ_,drop→CL_,length_drop→CO_
open Nat renaming le_refl→AU_
open Option renaming map_eq_some_iff→B_,getD_some→BS_
open Tryz renaming prog→L_,ntmps126→CV_
open Value renaming string→Q_,int→AV_,slice→AC_
open Weak renaming int→N_,agg→BL_
open WeakL renaming refl→D_
section
variable {H:Type} {enc:TypeId×Value→H} {P:Program} {w:World} {sp:Nat→Bool} {held:Bool}
def Can {H:Type} (enc:TypeId×Value→H) (P:Program) (w:World) (sp:Nat→Bool) (held:Bool) (t:TypeId) (cs:List Value):Prop:=∃ m x,DataW.trod enc P w 0 sp held m t cs=some x
theorem Can.of {t:TypeId} {v:Value} {d:DataW H} {p:List MemPlace} (h:DataW.Trod enc P w 0 sp held t v d p):Can enc P w sp held t v.cells.toList:=by
 obtain ⟨m,h⟩:=h;exact ⟨m,_,h⟩
theorem Can.int {t:TypeId} {k:IntKind} {c:Value} (ht:P.underlying t=some (.int k)) (h:Can enc P w sp held t [c]):∃ n,c=.int k n∧(Lit.int k n).wf=true:=by
 obtain ⟨m,x,h⟩:=h
 obtain ⟨n,hc,_,hw⟩:=DataW.trod_int ht h
 exact ⟨n,by simpa using hc,hw⟩
theorem Can.bool {t:TypeId} {c:Value} (ht:P.underlying t=some .bool) (h:Can enc P w sp held t [c]):∃ b,c=.bool b:=by
 obtain ⟨m,x,h⟩:=h
 obtain ⟨n,hc,_⟩:=DataW.trod_bool ht h
 exact ⟨n,by simpa using hc⟩
theorem Can.fields {t:TypeId} {fs:Array Field} {cs:List Value} (ht:P.underlying t=some (.struct fs)) (h:Can enc P w sp held t cs) :
  ∀ (i:Nat) (f:Field),fs[i]? = some f→Can enc P w sp held f.type ((cs.drop f.offset).take (P.cellsOf f.type)):=by
 obtain ⟨m,x,h⟩:=h
 obtain ⟨xs,n,_,_,_,hl,hf⟩:=DataW.trod_struct ht h
 intro i f hi
 have hlt:i<xs.length:=by rw[hl];exact (Array.getElem?_eq_some_iff.1 hi).1
 exact ⟨n,xs[i],by rw[hf i f hi,S_ hlt]⟩
theorem Can.slice {t e:TypeId} {v:Value} {c:Nat} (ht:P.underlying t=some (.slice e)) (hc:P.cellsOf e=c) (hc0:0<c) (h:Can enc P w sp held t [v]) :
  ∃ rs:List (List Value),RdN c w v rs∧∀ r∈rs,Can enc P w sp held e r:=by
 obtain ⟨m0,x,h⟩:=h
 rcases Go.Deep.open_slice ht h with ⟨hcs,_⟩|⟨a,len,cap,m,n,D,Pl,hcs,_,hl,hm,hmm,_,hel⟩
 ·simp only[List.cons.injEq,and_true] at hcs
  rw[hcs];exact ⟨[],RdN.nil _ _,by simp⟩
 ·simp only[List.cons.injEq,and_true] at hcs
  subst hcs
  have hlm:len≤m:=by rw[hmm];split<;>omega
  have hel':∀ i:Nat,∃ r:List Value,i<len→w.cells? 0 (a.add (i*c)) c=some r∧Can enc P w sp held e r:=by
   intro i
   by_cases hi:i<len
   ·obtain ⟨cs',h1,h2⟩:=hel i (by omega)
    rw[hc] at h1
    exact ⟨cs',fun _=>⟨h1,n,_,h2⟩⟩
   ·exact ⟨[],fun h=>absurd h hi⟩
  obtain ⟨R,hR⟩:∃ R:Nat→List Value,∀ i,i<len→w.cells? 0 (a.add (i*c)) c=some (R i)∧Can enc P w sp held e (R i):=⟨fun i=>Classical.choose (hel' i),fun i=>Classical.choose_spec (hel' i)⟩
  have key:∀ i,i<len→(R i).length=c∧∀ k,k<c→w.cell? ((a.add (i*c)).add k)=(R i)[k]?:=by
   intro i hi
   have:=World.cells?_some (hR i hi).1
   exact ⟨this.2.1,this.2.2⟩
  refine ⟨(List.range len).map R,⟨?_,some a,cap,by simp,⟨by simpa using hl,hm,by simp⟩,fun hne=>?_⟩,?_⟩
  ·intro r hr
   obtain ⟨i,hi,rfl⟩:=List.mem_map.1 hr
   exact (key i (List.mem_range.1 hi)).1
  ·have h0:0<len:=by
    rcases Nat.eq_zero_or_pos len with h0|h0
    ·subst h0;simp at hne
    ·exact h0
   obtain ⟨b,off,spot⟩:=a
   have g0:=(key 0 h0).2 0 hc0
   have hlt:0<(R 0).length:=by rw[(key 0 h0).1];exact hc0
   rw[S_ hlt] at g0
   have hs:spot=none:=by simpa [Addr.add] using World.cell?_spot g0
   subst hs
   refine ⟨b,off,rfl,fun j r i u hj hi=>?_⟩
   rw[AO_] at hj
   obtain ⟨j',hj',rfl⟩:=Option.map_eq_some_iff.1 hj
   obtain ⟨hjl,rfl⟩:j<len∧j'=j:=by
    have:=List.getElem?_eq_some_iff.1 hj'
    obtain ⟨h1,h2⟩:=this
    simp at h1 h2;exact ⟨h1,h2.symm⟩
   have hic:i<c:=by have:=(List.getElem?_eq_some_iff.1 hi).1;rw[(key j' hjl).1] at this;exact this
   have:=(key j' hjl).2 i hic
   rw[hi,add_off,add_off] at this
   rw[←this]
  ·intro r hr
   obtain ⟨i,hi,rfl⟩:=List.mem_map.1 hr
   exact (hR i (List.mem_range.1 hi)).2
end
end Go.Proofs.YtdmkhinckljddaaGreatDoor
namespace Go.Proofs.YtdmkhinckljddaaGreatDoor
open Go.RowKit Go.ChangeShapes Go.WideShapes
open BlkW renaming rows→BB_
open Bool renaming and_eq_true→M_,and_eq_false_iff→P_,or_eq_false_iff→R_,not_eq_false'→V_,not_eq_true'→W_,or_eq_true→A_,and_true→AM_,false_eq_true→AB_,false_and→AI_,not_true→BN_,false_or→BO_,not_false→BQ_,and_false→BR_,true_and→BV_,or_false→BA_,true_eq_false→CM_,or_true→CX_
open Exit renaming exit→BM_
open Int renaming reduceEq→AH_,toNat_natCast→BU_,natCast_nonpos_iff→BC_,not_lt→CW_
open IntKind renaming i64→O_,i8→Y_,i32→AQ_
open List renaming map→K_,getElem?_eq_getElem→S_,length_map→T_,map_replicate→U_,map_append→X_,map_cons→Z_,map_take→AK_,map_drop→AL_,getD_eq_getElem?_getD→AN_,getElem?_map→AO_,map_nil→AP_,map_set→AR_,eq_nil_of_length_eq_zero→AX_,length_eq_zero_iff→BY_,getElem?_eq_none→BZ_,length_take→BF_,getElem?_append→BI_,take→BJ_,drop→CL_,length_drop→CO_
open Nat renaming le_refl→AU_
open Option renaming map_eq_some_iff→B_,getD_some→BS_
open Tryz renaming prog→L_,ntmps126→CV_
open Value renaming string→Q_,int→AV_,slice→AC_
open Weak renaming int→N_,agg→BL_
open WeakL renaming refl→D_
def CellsAre (w:World) (l:List AV) (cs:List Value):Prop:=cs.length=l.length∧∀ (i:Nat) (a:AV) (v:Value),l[i]? = some a→cs[i]? = some v→PRel (fun _=>False) w a v∧v.oneCell'=true
theorem CellsAre.one {w:World} {a:AV} {v:Value} (h:PRel (fun _=>False) w a v) (h1:v.oneCell'=true):CellsAre w [a] [v]:=⟨rfl,fun i x y hx hy=>by
 cases i with
 | zero=>simp at hx hy;subst hx hy;exact ⟨h,h1⟩
 | succ i=>simp at hx⟩
theorem CellsAre.app {w:World} {l m:List AV} {cs ds:List Value} (h:CellsAre w l cs) (g:CellsAre w m ds):CellsAre w (l++m) (cs++ds):=⟨by simp[h.1,g.1],fun i a v ha hv=>by
 rw[BI_] at ha hv
 rw[h.1] at hv
 split at ha
 ·rw[i_ ‹_›] at hv;exact h.2 i a v ha hv
 ·rw[j_ ‹_›] at hv;exact g.2 _ a v ha hv⟩
theorem CellsAre.rel {w:World} {l:List AV} {cs:List Value} (h:CellsAre w l cs):RelL w l cs:=⟨h.1,fun i a v ha hv=>.pure (h.2 i a v ha hv).1⟩
theorem CellsAre.agg {w:World} {l:List AV} {cs:List Value} (h:CellsAre w l cs):Rel (fun _=>none) (fun _=>False) w (.agg l) (.agg cs.toArray):=RelL.agg h.rel
section
variable {H:Type} (enc:TypeId×Value→H) (P:Program) (w:World)
def Rdr (t:TypeId) (D:Type) (av:D→List AV) (ok:D→Prop):Prop:=∀ cs,Can enc P w (fun _=>true) true t cs→cs.length=P.cellsOf t→∃ d,ok d∧CellsAre w (av d) cs
variable {enc P w}
theorem Rdr.map {t:TypeId} {D E:Type} {av:D→List AV} {ok:D→Prop} {av':E→List AV} {ok':E→Prop} (h:Rdr enc P w t D av ok) (g:D→E) (ha:∀ d,av' (g d)=av d) (hk:∀ d,ok d→ok' (g d)):Rdr enc P w t E av' ok':=fun cs hc hl=>by
 obtain ⟨d,h1,h2⟩:=h cs hc hl
 exact ⟨g d,hk d h1,by rw[ha];exact h2⟩
theorem one_of_len {cs:List Value} (h:cs.length=1):∃ c,cs=[c]:=by
 match cs,h with
 | [c],_=>exact ⟨c,rfl⟩
theorem Rdr.int {t:TypeId} {k:IntKind} {ok:Int→Prop} (ht:P.underlying t=some (.int k)) (hc:P.cellsOf t=1) (hk:∀ n,(Lit.int k n).wf=true→ok n):Rdr enc P w t Int (fun n=>[.lit (.int k n)]) ok:=fun cs h hl=>by
 obtain ⟨c,rfl⟩:=one_of_len (hl.trans hc)
 obtain ⟨n,rfl,hw⟩:=Can.int ht h
 exact ⟨n,hk n hw,.one (.lit _) rfl⟩
theorem Rdr.bool {t:TypeId} (ht:P.underlying t=some .bool) (hc:P.cellsOf t=1):Rdr enc P w t Bool (fun b=>[.lit (.bool b)]) (fun _=>True):=fun cs h hl=>by
 obtain ⟨c,rfl⟩:=one_of_len (hl.trans hc)
 obtain ⟨b,rfl⟩:=Can.bool ht h
 exact ⟨b,trivial,.one (.lit _) rfl⟩
theorem Rdr.slice {t e:TypeId} {c:Nat} {D:Type} {av:D→List AV} {ok:D→Prop} (ht:P.underlying t=some (.slice e)) (hct:P.cellsOf t=1) (hc:P.cellsOf e=c) (hc0:0<c) (h:Rdr enc P w e D av ok) :
  Rdr enc P w t (List D) (fun l=>[.sl c (l.map av)]) (fun l=>∀ d∈l,ok d):=fun cs hcan hl=>by
 obtain ⟨v,rfl⟩:=one_of_len (hl.trans hct)
 obtain ⟨rs,⟨hlen,ao,cap,rfl,⟨h1,h2,h3⟩,hcell⟩,hr⟩:=Can.slice ht hc hc0 hcan
 have hds:∀ (rs:List (List Value)),(∀ r∈rs,r.length=c)→(∀ r∈rs,Can enc P w (fun _=>true) true e r)→∃ l:List D,l.length=rs.length∧(∀ d∈l,ok d)∧∀ (i:Nat) (d:D) (r:List Value),l[i]? = some d→rs[i]? = some r→CellsAre w (av d) r:=by
  intro rs
  induction rs with
  | nil=>intro _ _;exact ⟨[],rfl,by simp,by simp⟩
  | cons r rs ih =>
   intro hl hr
   obtain ⟨d,g1,g2⟩:=h r (hr r (by simp)) ((hl r (by simp)).trans hc.symm)
   obtain ⟨l,g3,g4,g5⟩:=ih (fun q hq=>hl q (by simp[hq])) (fun q hq=>hr q (by simp[hq]))
   refine ⟨d::l,by simp[g3],fun x hx=>?_,fun i x q hx hq=>?_⟩
   ·rcases List.mem_cons.1 hx with rfl|hx
    ·exact g1
    ·exact g4 x hx
   ·cases i with
    | zero=>simp at hx hq;subst hx hq;exact g2
    | succ i=>exact g5 i x q (by simpa using hx) (by simpa using hq)
 obtain ⟨l,g1,g2,g3⟩:=hds rs hlen hr
 refine ⟨l,g2,.one ?_ rfl⟩
 by_cases hne:rs=[]
 ·subst hne
  have:l=[]:=AX_ g1
  subst this
  exact .nil c h2 h3
 ·obtain ⟨b,off,rfl,hcv⟩:=hcell hne
  have hlm:rs.length=(l.map av).length:=by rw[T_,g1]
  rw[hlm]
  have get:∀ (i:Nat) (q:List AV),(l.map av)[i]? = some q→∃ (r:List Value),rs[i]? = some r∧CellsAre w q r∧r.length=c:=by
   intro i q hq
   rw[AO_,B_] at hq
   obtain ⟨d,hd,rfl⟩:=hq
   have hi:i<rs.length:=by rw[←g1];exact (List.getElem?_eq_some_iff.1 hd).1
   exact ⟨rs[i],S_ hi,g3 i d _ hd (S_ hi),hlen _ (List.getElem_mem hi)⟩
  have cell:∀ (i:Nat) (q:List AV) (j:Nat) (a:AV),(l.map av)[i]? = some q→q[j]? = some a→w.cell? ⟨b,off+i*c+j,none⟩=some (((rs[i]?).getD [])[j]?.getD undef)∧PRel (fun _=>False) w a (((rs[i]?).getD [])[j]?.getD undef)∧(((rs[i]?).getD [])[j]?.getD undef).oneCell'=true:=by
   intro i q j a hq ha
   obtain ⟨r,hr,hca,_⟩:=get i q hq
   have hj:j<r.length:=by rw[hca.1];exact (List.getElem?_eq_some_iff.1 ha).1
   rw[hr,BS_,S_ hj,BS_]
   have:=hca.2 j a _ ha (S_ hj)
   exact ⟨hcv i r j _ hr (S_ hj),this.1,this.2⟩
  refine .sl (fun i j=>((rs[i]?).getD [])[j]?.getD undef) (fun _ h=>h) (fun hn=>?_) (by rw[←hlm];exact h1) h2 (fun i q hq=>?_) (fun i q j a hq ha=>(cell i q j a hq ha).1) (fun i q j a hq ha=>(cell i q j a hq ha).2.1) (fun i q j a hq ha=>(cell i q j a hq ha).2.2)
  ·have h0:0<rs.length:=List.length_pos_iff.2 hne
   have hl0:0<(rs[0]).length:=by rw[hlen _ (List.getElem_mem h0)];exact hc0
   exact World.block_lt_of_cell? w _ (hcv 0 rs[0] 0 _ (S_ h0) (S_ hl0))
  ·obtain ⟨r,_,hca,hrl⟩:=get i q hq
   rw[←hca.1,hrl]
def RdrF (enc:TypeId×Value→H) (P:Program) (w:World) (fs:List Field) (off n:Nat) (D:Type) (av:D→List AV) (ok:D→Prop):Prop :=
 ∀ cs:List Value,cs.length=n→(∀ f∈fs,Can enc P w (fun _=>true) true f.type ((cs.drop f.offset).take (P.cellsOf f.type)))→∃ d,ok d∧CellsAre w (av d) (cs.drop off)
theorem RdrF.nil {n off:Nat} (h:n≤off):RdrF enc P w [] off n Unit (fun _=>[]) (fun _=>True):=fun cs hl _=>⟨(),trivial,by
 rw[List.drop_eq_nil_of_le (by omega)];exact ⟨rfl,by simp⟩⟩
theorem RdrF.cons {f:Field} {fs:List Field} {off n c:Nat} {D E:Type} {av:D→List AV} {ok:D→Prop} {av':E→List AV} {ok':E→Prop} (ho:f.offset=off) (hc:P.cellsOf f.type=c) (hn:off+c≤n) (h:Rdr enc P w f.type D av ok) (g:RdrF enc P w fs (off+c) n E av' ok') :
  RdrF enc P w (f::fs) off n (D×E) (fun d=>av d.1++av' d.2) (fun d=>ok d.1∧ok' d.2):=fun cs hl hf=>by
 obtain ⟨d,h1,h2⟩:=h _ (hf f (by simp)) (by simp;omega)
 obtain ⟨e,h3,h4⟩:=g cs hl (fun x hx=>hf x (by simp[hx]))
 refine ⟨(d,e),⟨h1,h3⟩,?_⟩
 have:cs.drop off=(cs.drop f.offset).take (P.cellsOf f.type)++cs.drop (off+c):=by
  rw[ho,hc,←List.drop_drop,List.take_append_drop]
 rw[this];exact h2.app h4
theorem Rdr.struct {t:TypeId} {fs:List Field} {n:Nat} {D:Type} {av:D→List AV} {ok:D→Prop} (ht:P.underlying t=some (.struct fs.toArray)) (hn:P.cellsOf t=n) (h:RdrF enc P w fs 0 n D av ok):Rdr enc P w t D av ok:=fun cs hc hl=>by
 obtain ⟨d,h1,h2⟩:=h cs (hl.trans hn) (fun f hf=>by
  obtain ⟨i,hi⟩:=List.mem_iff_getElem?.1 hf
  exact Can.fields ht hc i f (by simpa using hi))
 exact ⟨d,h1,by simpa using h2⟩
theorem Rdr.aggV {t:TypeId} {fs:Array Field} {D:Type} {av:D→List AV} {ok:D→Prop} {v:Value} {d:DataW H} {p:List MemPlace} {r:Reach} {base:Nat} (h:Rdr enc P w t D av ok) (ht:P.underlying t=some (.struct fs)) (hv:Value.okWide P w r base t v) (hd:DataW.Trod enc P w 0 (fun _=>true) true t v d p) :
  ∃ x,ok x∧Rel (fun _=>none) (fun _=>False) w (.agg (av x)) v:=by
 obtain ⟨cs,rfl,hs⟩:=okWide_struct ht hv
 obtain ⟨x,h1,h2⟩:=h _ (Can.of hd) (by simpa [Value.cells] using hs)
 refine ⟨x,h1,?_⟩
 have:=h2.agg
 simpa [Value.cells] using this
end
end Go.Proofs.YtdmkhinckljddaaGreatDoor
namespace Go.Proofs.YtdmkhinckljddaaGreatDoor
open Go.RowKit
open BlkW renaming rows→BB_
open Bool renaming and_eq_true→M_,and_eq_false_iff→P_,or_eq_false_iff→R_,not_eq_false'→V_,not_eq_true'→W_,or_eq_true→A_,and_true→AM_,false_eq_true→AB_,false_and→AI_,not_true→BN_,false_or→BO_,not_false→BQ_,and_false→BR_,true_and→BV_,or_false→BA_,true_eq_false→CM_,or_true→CX_
open Exit renaming exit→BM_
open Int renaming reduceEq→AH_,toNat_natCast→BU_,natCast_nonpos_iff→BC_,not_lt→CW_
open IntKind renaming i64→O_,i8→Y_,i32→AQ_
open List renaming map→K_,getElem?_eq_getElem→S_,length_map→T_,map_replicate→U_,map_append→X_,map_cons→Z_,map_take→AK_,map_drop→AL_,getD_eq_getElem?_getD→AN_,getElem?_map→AO_,map_nil→AP_,map_set→AR_,eq_nil_of_length_eq_zero→AX_,length_eq_zero_iff→BY_,getElem?_eq_none→BZ_,length_take→BF_,getElem?_append→BI_,take→BJ_,drop→CL_,length_drop→CO_
open Nat renaming le_refl→AU_
open Option renaming map_eq_some_iff→B_,getD_some→BS_
open Tryz renaming prog→L_,ntmps126→CV_
open Value renaming string→Q_,int→AV_,slice→AC_
open Weak renaming int→N_,agg→BL_
open WeakL renaming refl→D_
section
open Go.Shelf
def shl156_ren:Go.Shelf.Ren:=⟨fun|156=>19|165=>35|166=>36|169=>37|240=>55|241=>56|276=>78|277=>79|n=>n,fun|31=>29|9=>9|3=>3|4=>4|0=>0|20=>20|72=>98|76=>102|70=>95|37=>96|75=>101|127=>129|164=>151|5=>5|80=>104|n=>n,fun|n=>n⟩
theorem shl156:Go.Proofs.Lays.n156 L_ shl156_ren:={
 mixed:=by kernel_rfl
 f156:=Tryz.func19.trans (congrArg some (by kernel_rfl))
 f165:=Tryz.func35.trans (congrArg some (by kernel_rfl))
 f166:=Tryz.func36.trans (congrArg some (by kernel_rfl))
 f169:=Tryz.func37.trans (congrArg some (by kernel_rfl))
 f240:=Tryz.func55.trans (congrArg some (by kernel_rfl))
 f241:=Tryz.func56.trans (congrArg some (by kernel_rfl))
 f276:=Tryz.func78.trans (congrArg some (by kernel_rfl))
 f277:=Tryz.func79.trans (congrArg some (by kernel_rfl))
 t0:=Tryz.underlying0
 a0:=Tryz.isAgg0
 z0:=Tryz.sizeOf0
 v0:=Tryz.zeroValue0
 t3:=Tryz.underlying3
 a3:=Tryz.isAgg3
 z3:=Tryz.sizeOf3
 v3:=Tryz.zeroValue3
 t4:=Tryz.underlying4
 a4:=Tryz.isAgg4
 z4:=Tryz.sizeOf4
 v4:=Tryz.zeroValue4
 t9:=Tryz.underlying9
 a9:=Tryz.isAgg9
 z9:=Tryz.sizeOf9
 v9:=Tryz.zeroValue9
 t20:=Tryz.underlying20
 a20:=Tryz.isAgg20
 z20:=Tryz.sizeOf20
 v20:=Tryz.zeroValue20
 t31:=Tryz.underlying29
 a31:=Tryz.isAgg29
 z31:=Tryz.sizeOf29
 v31:=Tryz.zeroValue29
 t37:=Tryz.underlying96
 a37:=Tryz.isAgg96
 z37:=Tryz.sizeOf96
 v37:=Tryz.zeroValue96
 t70:=Tryz.underlying95
 a70:=Tryz.isAgg95
 z70:=Tryz.sizeOf95
 v70:=Tryz.zeroValue95
 t72:=Tryz.underlying98
 a72:=Tryz.isAgg98
 z72:=Tryz.sizeOf98
 v72:=Tryz.zeroValue98
 t75:=Tryz.underlying101
 a75:=Tryz.isAgg101
 z75:=Tryz.sizeOf101
 v75:=Tryz.zeroValue101
 t76:=Tryz.underlying102
 a76:=Tryz.isAgg102
 z76:=Tryz.sizeOf102
 v76:=Tryz.zeroValue102
 t127:=Tryz.underlying129
 a127:=Tryz.isAgg129
 z127:=Tryz.sizeOf129
 v127:=Tryz.zeroValue129
 t164:=Tryz.underlying151
 a164:=Tryz.isAgg151
 z164:=Tryz.sizeOf151
 v164:=Tryz.zeroValue151 }
theorem shlX156:Builder.Extra L_ shl156_ren:={
 sizeBuilder:=by kernel_rfl
 liesBuilder:=by kernel_rfl
 t5:=Tryz.underlying5
 a5:=Tryz.isAgg5
 z5:=Tryz.sizeOf5
 v5:=Tryz.zeroValue5
 infoByte:=by kernel_rfl
 cellsByte:=by kernel_rfl
 sizeByte:=by kernel_rfl
 neB5:=by decide }
def shlM171_ren:Go.Shelf.Ren:=⟨fun|171=>46|243=>68|246=>84|283=>97|284=>98|285=>99|286=>100|129=>122|317=>121|318=>123|319=>124|320=>125|337=>136|338=>137|n=>n,fun|3=>3|9=>9|2=>2|4=>4|171=>173|0=>0|53=>111|37=>96|5=>5|173=>176|212=>196|51=>197|20=>20|213=>198|46=>199|232=>224|233=>225|n=>n,fun|17=>1|18=>2|19=>3|n=>n⟩
theorem shlM171:Go.Proofs.LaysM.n171 L_ shlM171_ren:={
 mixed:=by kernel_rfl
 f129:=Tryz.func122.trans (congrArg some (by kernel_rfl))
 f171:=Tryz.func46.trans (congrArg some (by kernel_rfl))
 f243:=Tryz.func68.trans (congrArg some (by kernel_rfl))
 f246:=Tryz.func84.trans (congrArg some (by kernel_rfl))
 f283:=Tryz.func97.trans (congrArg some (by kernel_rfl))
 f284:=Tryz.func98.trans (congrArg some (by kernel_rfl))
 f285:=Tryz.func99.trans (congrArg some (by kernel_rfl))
 f286:=Tryz.func100.trans (congrArg some (by kernel_rfl))
 f317:=Tryz.func121.trans (congrArg some (by kernel_rfl))
 f318:=Tryz.func123.trans (congrArg some (by kernel_rfl))
 f319:=Tryz.func124.trans (congrArg some (by kernel_rfl))
 f320:=Tryz.func125.trans (congrArg some (by kernel_rfl))
 f337:=Tryz.func136.trans (congrArg some (by kernel_rfl))
 f338:=Tryz.func137.trans (congrArg some (by kernel_rfl))
 t0:=Tryz.underlying0
 a0:=Tryz.isAgg0
 z0:=Tryz.sizeOf0
 v0:=Tryz.zeroValue0
 t2:=Tryz.underlying2
 a2:=Tryz.isAgg2
 z2:=Tryz.sizeOf2
 v2:=Tryz.zeroValue2
 t3:=Tryz.underlying3
 a3:=Tryz.isAgg3
 z3:=Tryz.sizeOf3
 v3:=Tryz.zeroValue3
 t4:=Tryz.underlying4
 a4:=Tryz.isAgg4
 z4:=Tryz.sizeOf4
 v4:=Tryz.zeroValue4
 t5:=Tryz.underlying5
 a5:=Tryz.isAgg5
 z5:=Tryz.sizeOf5
 v5:=Tryz.zeroValue5
 t9:=Tryz.underlying9
 a9:=Tryz.isAgg9
 z9:=Tryz.sizeOf9
 v9:=Tryz.zeroValue9
 t20:=Tryz.underlying20
 a20:=Tryz.isAgg20
 z20:=Tryz.sizeOf20
 v20:=Tryz.zeroValue20
 t37:=Tryz.underlying96
 a37:=Tryz.isAgg96
 z37:=Tryz.sizeOf96
 v37:=Tryz.zeroValue96
 t46:=Tryz.underlying199
 a46:=Tryz.isAgg199
 z46:=Tryz.sizeOf199
 v46:=Tryz.zeroValue199
 t51:=Tryz.underlying197
 a51:=Tryz.isAgg197
 z51:=Tryz.sizeOf197
 v51:=Tryz.zeroValue197
 t53:=Tryz.underlying111
 a53:=Tryz.isAgg111
 z53:=Tryz.sizeOf111
 v53:=Tryz.zeroValue111
 t171:=Tryz.underlying173
 a171:=Tryz.isAgg173
 z171:=Tryz.sizeOf173
 v171:=Tryz.zeroValue173
 t173:=Tryz.underlying176
 a173:=Tryz.isAgg176
 z173:=Tryz.sizeOf176
 v173:=Tryz.zeroValue176
 t212:=Tryz.underlying196
 a212:=Tryz.isAgg196
 z212:=Tryz.sizeOf196
 v212:=Tryz.zeroValue196
 t213:=Tryz.underlying198
 a213:=Tryz.isAgg198
 z213:=Tryz.sizeOf198
 t232:=Tryz.underlying224
 a232:=Tryz.isAgg224
 z232:=Tryz.sizeOf224
 v232:=Tryz.zeroValue224
 t233:=Tryz.underlying225
 a233:=Tryz.isAgg225
 z233:=Tryz.sizeOf225
 v233:=Tryz.zeroValue225
 g17:=by kernel_rfl
 g18:=by kernel_rfl
 g19:=by kernel_rfl
 i0:=by kernel_rfl
 i2:=by kernel_rfl
 i3:=by kernel_rfl
 i4:=by kernel_rfl
 i5:=by kernel_rfl
 i9:=by kernel_rfl
 i20:=by kernel_rfl
 i37:=by kernel_rfl
 i46:=by kernel_rfl
 i51:=by kernel_rfl
 i53:=by kernel_rfl
 i171:=by kernel_rfl
 i173:=by kernel_rfl
 i212:=by kernel_rfl
 i232:=by kernel_rfl
 i233:=by kernel_rfl
 m17:=by kernel_rfl
 m18:=by kernel_rfl
 m19:=by kernel_rfl }
end
def dg (n:Int):ByteArray:=⟨(Lib.itoa n).toArray⟩
abbrev st (s:ByteArray):AV:=.lit (.string s)
abbrev rowS (s:ByteArray):List AV:=[.lit (.string s)]
abbrev strs (l:List ByteArray):AV:=.sl 1 (l.map rowS)
def joinB (l:List ByteArray) (sep:ByteArray):ByteArray:=⟨(Lib.join (l.map (·.data.toList)) sep.data.toList).toArray⟩
theorem tab_is {w:World} (h:TabW w):∀ s,Tryz.prog.globalNamed s=some 1→Lib.TabIs L_ w s .u64 Lib.pow10Tab:=fun s hg=>by
 obtain ⟨T,q,h1⟩:=h (1,((List.range 20).map fun i=>AV_ .u64 ((10 ^ i:Nat):Int)).toArray) (by unfold tabs;exact List.mem_singleton.2 rfl)
 unfold Lib.TabIs World.var?
 rw[hg,Option.bind_some]
 dsimp only at h1
 rw[h1]
 dsimp only
 unfold Lib.pow10Tab
 rw[List.map_map];rfl
theorem itoa_v (n:Int) (h:In64 n):VC L_ 46 [i64 n] (st (dg n)):=by
 intro S w xs hS hl hxs
 match xs,hl with
 | [x],_ =>
  have hx:x=.int .i64 n:=by
   have:=hxs 0 _ x rfl rfl
   cases this with|pure hp=>cases hp;rfl
  subst hx
  refine (Any.strconv_Itoa shlM171 n h.1 h.2 w (tab_is hS.tab _ (by kernel_rfl))).mono fun e w' ⟨he,k,os,hw⟩=>⟨_,he,.pure (.lit _),?_⟩
  subst hw
  exact ⟨rfl,rfl,rfl,by simp[Sort.grow,World.drewN],fun b hb=>by simp[Sort.grow,World.drewN,Array.getElem?_append_left hb]⟩
theorem join_v (l:List ByteArray) (sep:ByteArray) (h:(joinB l sep).size≤140737488355328) (hn:l.length≤100000):VC L_ 19 [strs l,st sep] (st (joinB l sep)):=by
 intro S w xs hS hl hxs
 match xs,hl with
 | [x,y],_ =>
  have hy:y=.string sep:=by
   have:=hxs 1 _ y rfl rfl
   cases this with|pure hp=>cases hp;rfl
  subst hy
  have hp:PRel S w (.sl 1 (l.map rowS)) x:=by
   have:=hxs 0 _ x rfl rfl
   cases this with|pure hp=>exact hp
  generalize hL:l.map rowS=L at hp
  cases hp with
  | nil _ hm h0 =>
   have:l=[]:=by simpa using hL
   subst this
   refine (Any.strings_Join_none shl156 shlX156 _ _ sep w).mono fun e w' ⟨he,hw⟩=>⟨_,he,?_,hw▸Below.refl _ _⟩
   exact .pure (.lit _)
  | @sl _ _ b off cap cv hX hb hc hm hz h1 h2 h3 =>
   subst hL
   by_cases hne:l=[]
   ·subst hne
    refine (Any.strings_Join_none shl156 shlX156 _ _ sep w).mono fun e w' ⟨he,hw⟩=>⟨_,he,?_,hw▸Below.refl _ _⟩
    exact .pure (.lit _)
   rw[T_]
   refine (Any.strings_Join shl156 shlX156 b off cap l sep w (fun j x hj=>?_) (hb (by simpa using hne)) (by omega) (by simpa using hc) (by unfold joinB ByteArray.size at h;simpa using h)).mono fun e w' ⟨he,hw⟩=>⟨_,he,.pure (.lit _),hw⟩
   have g1:=h1 j (rowS x) 0 (.lit (.string x)) (by rw[AO_,hj];rfl) rfl
   have g2:=h2 j (rowS x) 0 (.lit (.string x)) (by rw[AO_,hj];rfl) rfl
   generalize cv j 0=u at g1 g2
   cases g2 with
   | lit =>
    rw[Nat.mul_one,Nat.add_zero] at g1;exact g1
theorem in_v (v lo hi:Int)  : VC L_ 145 ([i64 v,i64 lo,i64 hi]) (bv (decide (lo≤v)&&decide (v≤hi))):=by
 exact cR_ [r_,.r [] [o_,o_,o_,.sel 2]] _ Tryz.func145 (.n)
def stepsE (n k s p:Int):Int×Int:=if n<1∨1024<n∨k<1∨5<k∨s<1∨4<s∨p<0∨4<p∨k≤p then (0,2) else if n+2*p<k then (0,5) else ((n+2*p-k)/s+1,0)
theorem div4 (a s:Int) (h0:0≤a) (h1:a≤2000) (h2:1≤s):0≤a/s∧a/s≤2000:=⟨Int.ediv_nonneg h0 (by omega),Int.le_trans (Int.ediv_le_self s h0) h1⟩
theorem steps_v (n k s p:Int)  : VC L_ 134 ([i64 n,i64 k,i64 s,i64 p]) (.tup [i64 (stepsE n k s p).1,i64 (stepsE n k s p).2]):=by
 have oz0:=@in_v (n) (1) (1024)
 have oz1:=@in_v (k) (1) (5)
 have oz2:=@in_v (s) (1) (4)
 have oz3:=@in_v (p) (0) (4)
 rcases bft (!(decide (1≤n)&&decide (n≤1024)) || !(decide (1≤k)&&decide (k≤5)) || !(decide (1≤s)&&decide (s≤4)) || !(decide (0≤p)&&decide (p≤4)) || decide (p≥k)) with hc0|hc0
 ·have gc0:((((¬1≤n∨¬n≤1024)∨¬1≤k∨¬k≤5)∨¬1≤s∨¬s≤4)∨¬0≤p∨¬p≤4)∨p≥k:=gc0_ hc0
  exact (cR_ [r_,.r [] [cr oz0,o_,o_,cr oz1,o_,.sel 1,o_,o_,cr oz2,o_,.sel 1,o_,o_,cr oz3,o_,.sel 1,o_,o_,o_,.sel 1],b_,r_] (AV.tup [i64 0,i64 2]) Tryz.func134 (.d5 oz0 oz1 oz2 oz3 hc0)).to (by (simp only[stepsE];rw[i_ (by omega)]))
 ·have gc0:((((1≤n∧n≤1024)∧1≤k∧k≤5)∧1≤s∧s≤4)∧0≤p∧p≤4)∧¬p≥k:=gc0_ hc0
  have oz5:=(i6n (2*p) (by omega))
  have oz6:=(i6n (n+2*p) (by omega))
  rcases bft (decide (k>n+2*p)) with hc1|hc1
  ·have gc1:=of_decide_eq_true hc1
   exact (cR_ [r_,.r [] [cr oz0,o_,o_,cr oz1,o_,.sel 1,o_,o_,cr oz2,o_,.sel 1,o_,o_,cr oz3,o_,.sel 1,o_,o_,o_,.sel 1],d_,.r [] [.n (nO oz5),.n (nO oz6)],b_,r_] (AV.tup [i64 0,i64 5]) Tryz.func134 (.d8 oz0 oz1 oz2 oz3 hc0 oz5 oz6 hc1)).to (by (simp only[stepsE];rw[j_ (by omega),i_ (by omega)]))
  ·have gc1:=of_decide_eq_false hc1
   have oz12:=(show IntKind.i64.wrap ((n+2*p-k).tdiv s)=(n+2*p-k)/s from (Eq.trans (congrArg _ (Int.tdiv_eq_ediv_of_nonneg (by omega))) (by with_reducible exact i6n _ (by have:=div4 (n+2*p-k) s (by omega) (by omega) (by omega);omega))))
   have oz13:=(show IntKind.i64.wrap ((n+2*p-k)/s+1)=(n+2*p-k)/s+1 by with_reducible exact i6n _ (by have:=div4 (n+2*p-k) s (by omega) (by omega) (by omega);omega))
   exact (cR_ [r_,.r [] [cr oz0,o_,o_,cr oz1,o_,.sel 1,o_,o_,cr oz2,o_,.sel 1,o_,o_,cr oz3,o_,.sel 1,o_,o_,o_,.sel 1],d_,.r [] [.n (nO oz5),.n (nO oz6)],d_,.r [] [.n (nO oz5),.n (nO oz6),.n (n+2*p-k),.n ((n+2*p-k)/s),.n (nO oz13)]] (AV.tup [i64 ((n+2*p-k)/s+1),i64 0]) Tryz.func134 (.c8 oz0 oz1 oz2 oz3 hc0 oz5 oz6 hc1<|.d6 oz5 oz6 (i6n (n+2*p-k) (by omega)) (s_ (s≠0)) oz12 oz13)).to (by (simp only[stepsE];rw[j_ (by omega),j_ (by omega)]))
def stepsM (n w s p:Int):Nat:=(if n+2*p<w then 0 else (n+2*p-w)/s+1).toNat
structure StepsOk (n w s p:Int):Prop where
 n0:1≤n
 n1:n≤1024
 w0:1≤w
 w1:w≤5
 s0:1≤s
 s1:s≤4
 p0:0≤p
 p1:p≤4
theorem stepsM_le {n w s p:Int} (h:StepsOk n w s p):(stepsM n w s p:Int)≤1040:=by
 obtain ⟨h1,h2,h3,h4,h5,h6,h7,h8⟩:=h
 unfold stepsM
 split
 ·simp
 ·have:=div4 (n+2*p-w) s (by omega) (by omega) h5
  have h9:=Int.ediv_le_self s (s_ (0≤n+2*p-w))
  omega
theorem stepsE_bd (n k s p:Int):0≤(stepsE n k s p).1∧(stepsE n k s p).1≤2001∧0≤(stepsE n k s p).2∧(stepsE n k s p).2≤5:=by
 unfold stepsE;split
 ·simp
 ·split
  ·simp
  ·have:=div4 (n+2*p-k) s (by omega) (by omega) (by omega)
   simp only;omega
structure Shp where
 h:Int
 x:Int
 c:Int
structure Shp.Ok (s:Shp):Prop where
 h:In64 s.h
 x:In64 s.x
 c:In64 s.c
theorem Shp.mk_ok {a b c:Int} (x:In64 a) (y:In64 b) (z:In64 c):Shp.Ok ⟨a,b,c⟩:=⟨x,y,z⟩
abbrev shp (s:Shp):AV:=.agg [i64 s.h,i64 s.x,i64 s.c]
def slideE (t:Shp) (k s p o:Int):Shp×Int :=
 if ¬ 0<elems t.h t.x t.c then (⟨0,0,0⟩,5) else if (stepsE t.h k s p).2≠0 then (⟨0,0,0⟩,(stepsE t.h k s p).2) else if (stepsE t.x k s p).2≠0 then (⟨0,0,0⟩,(stepsE t.x k s p).2)
 else if ¬ 0<elems (stepsE t.h k s p).1 (stepsE t.x k s p).1 o then (⟨0,0,0⟩,5) else (⟨(stepsE t.h k s p).1,(stepsE t.x k s p).1,o⟩,0)
theorem sRight_v (t:Shp) (ok:t.Ok):VC L_ 69 ([shp t]) (bv (decide (0<elems t.h t.x t.c))):=by
 have q1:=ok.h
 have q2:=ok.x
 have q3:=ok.c
 have oz0:=@elems_v (t.h) (t.x) (t.c) q1 q2 q3
 exact cR_ [r_,.r [] [cr oz0]] _ Tryz.func69 (.d oz0)
theorem slide_v (t:Shp) (k s p o:Int) (ok:t.Ok) (ho:In64 o):VC L_ 116 ([shp t,i64 k,i64 s,i64 p,i64 o]) (.tup [shp (slideE t k s p o).1,i64 (slideE t k s p o).2]):=by
 have q1:=ok.h
 have q2:=ok.x
 have q3:=ok.c
 have q4:=stepsE_bd t.h k s p
 have q5:=stepsE_bd t.x k s p
 have oz0:=@sRight_v (t) ok
 rcases bft (!decide (0<elems t.h t.x t.c)) with hc0|hc0
 ·have gc0:=bnt hc0
  exact (cR_ [r_,.r [] [cr oz0],b_,r_] (AV.tup [AV.agg [i64 0,i64 0,i64 0],i64 5]) Tryz.func116 (.d2 oz0 hc0)).to (by (simp only[slideE];rw[i_ (by omega)]))
 ·have gc0:=bnf hc0
  have oz2:=@steps_v (t.h) (k) (s) (p)
  rcases bft ((stepsE t.h k s p).snd != 0) with hc1|hc1
  ·have gc1:¬(stepsE t.h k s p).snd=0:=bdt hc1
   exact (cR_ [r_,.r [] [cr oz0],d_,.r [] [cr oz2],r_,b_,r_] (AV.tup [AV.agg [i64 0,i64 0,i64 0],i64 (stepsE t.h k s p).snd]) Tryz.func116 (.d4 oz0 hc0 oz2 hc1)).to (by (simp only[slideE];rw[j_ (by omega),i_ (by omega)]))
  ·have gc1:(stepsE t.h k s p).snd=0:=bdf hc1
   have oz4:=@steps_v (t.x) (k) (s) (p)
   rcases bft ((stepsE t.x k s p).snd != 0) with hc2|hc2
   ·have gc2:¬(stepsE t.x k s p).snd=0:=bdt hc2
    exact (cR_ [r_,.r [] [cr oz0],d_,.r [] [cr oz2],r_,d_,.r [] [cr oz4],r_,b_,r_] (AV.tup [AV.agg [i64 0,i64 0,i64 0],i64 (stepsE t.x k s p).snd]) Tryz.func116 (.d6 oz0 hc0 oz2 hc1 oz4 hc2)).to (by (simp only[slideE];rw[j_ (by omega),j_ (by omega),i_ (by omega)]))
   ·have gc2:(stepsE t.x k s p).snd=0:=bdf hc2
    have oz6:=@sRight_v (Shp.mk (stepsE t.h k s p).fst (stepsE t.x k s p).fst o) (by (exact Shp.mk_ok ⟨by omega,by omega⟩ ⟨by omega,by omega⟩ ho))
    rcases bft (!decide (0<elems (stepsE t.h k s p).fst (stepsE t.x k s p).fst o)) with hc3|hc3
    ·have gc3:=bnt hc3
     exact (cR_ [r_,.r [] [cr oz0],d_,.r [] [cr oz2],r_,d_,.r [] [cr oz4],r_,d_,r_,.r [] [cr oz6],b_,r_] (AV.tup [AV.agg [i64 0,i64 0,i64 0],i64 5]) Tryz.func116 (.d8 oz0 hc0 oz2 hc1 oz4 hc2 oz6 hc3)).to (by (simp only[slideE];rw[j_ (by omega),j_ (by omega),j_ (by omega),i_ (by omega)]))
    ·have gc3:=bnf hc3
     exact (cR_ [r_,.r [] [cr oz0],d_,.r [] [cr oz2],r_,d_,.r [] [cr oz4],r_,d_,r_,.r [] [cr oz6],d_,r_] (AV.tup [AV.agg [i64 (stepsE t.h k s p).fst,i64 (stepsE t.x k s p).fst,i64 o],i64 0]) Tryz.func116 (.d8 oz0 hc0 oz2 hc1 oz4 hc2 oz6 hc3)).to (by (simp only[slideE];rw[j_ (by omega),j_ (by omega),j_ (by omega),j_ (by omega)]))
theorem mul_bd {a b A B:Int} (a0:0≤a) (a1:a≤A) (b0:0≤b) (b1:b≤B):0≤a*b∧a*b≤A*B :=
 ⟨Int.mul_nonneg a0 b0,Int.mul_le_mul a1 b1 b0 (by omega)⟩
theorem slideE_ok {t:Shp} {k s p o:Int} (h:(slideE t k s p o).2=0):0<elems t.h t.x t.c∧1≤k∧k≤5∧1≤s∧s≤4∧0≤p∧p≤4∧p<k∧t.h+2*p≥k∧t.x+2*p≥k ∧
  (slideE t k s p o).1=⟨(t.h+2*p-k)/s+1,(t.x+2*p-k)/s+1,o⟩∧0<elems ((t.h+2*p-k)/s+1) ((t.x+2*p-k)/s+1) o:=by
 have step:∀ n,(stepsE n k s p).2=0→(1≤n∧1≤k∧k≤5∧1≤s∧s≤4∧0≤p∧p≤4∧p<k∧n+2*p≥k)∧(stepsE n k s p).1=(n+2*p-k)/s+1:=by
  intro n hn
  unfold stepsE at hn ⊢
  split at hn
  ·simp at hn
  ·split at hn
   ·simp at hn
   ·rename_i h1 h2
    rw[j_ h1,j_ h2]
    exact ⟨by omega,rfl⟩
 unfold slideE at h ⊢
 split at h
 ·simp at h
 ·split at h
  ·rename_i h1 h2;exact absurd h h2
  ·split at h
   ·rename_i h1 h2 h3;exact absurd h h3
   ·split at h
    ·simp at h
    ·rename_i h1 h2 h3 h4
     have a1:=step t.h (by omega)
     have a2:=step t.x (by omega)
     rw[j_ h1,j_ h2,j_ h3,j_ h4]
     rw[a1.2,a2.2] at h4 ⊢
     refine ⟨by omega,by omega,by omega,by omega,by omega,by omega,by omega,by omega,by omega,by omega,rfl,by omega⟩
theorem elems_ok {h x c:Int} (q:0<elems h x c):1≤h∧h≤16∧1≤x∧x≤16∧1≤c∧c≤1024∧h*x*c≤1024∧elems h x c=h*x*c:=by
 unfold elems at q ⊢
 split at q
 ·rename_i g;rw[i_ g];obtain ⟨g1,g2,g3,g4,g5,g6,g7⟩:=g;exact ⟨g1,g2,g3,g4,g5,g6,g7,rfl⟩
 ·omega
theorem wts_bd {t:Shp} {k s p o:Int} (h:(slideE t k s p o).2=0):(0≤o*k∧o*k≤5120)∧(0≤o*k*k∧o*k*k≤25600)∧(0≤o*k*k*t.c∧o*k*k*t.c≤26214400):=by
 have h1:=slideE_ok h
 have h2:=elems_ok h1.1
 have h3:=elems_ok h1.2.2.2.2.2.2.2.2.2.2.2
 have a1:=mul_bd (A:=1024) (B:=5) (a:=o) (b:=k) (by omega) (by omega) (by omega) (by omega)
 have a2:=mul_bd (A:=5120) (B:=5) (a:=o*k) (b:=k) (by omega) (by omega) (by omega) (by omega)
 have a3:=mul_bd (A:=25600) (B:=1024) (a:=o*k*k) (b:=t.c) (by omega) (by omega) (by omega) (by omega)
 omega
def convE (t:Shp) (n:Nod):Shp×Int :=
 if (slideE t n.nk n.ns n.np n.no).2≠0 then (⟨0,0,0⟩,(slideE t n.nk n.ns n.np n.no).2)
 else if (n.w.length:Int)≠n.no*n.nk*n.nk*t.c∨16384<(n.w.length:Int)∨(n.b.length:Int)≠n.no then (⟨0,0,0⟩,9) else ((slideE t n.nk n.ns n.np n.no).1,0)
theorem convShape_v (t:Shp) (n:Nod) (ok:t.Ok) (okn:n.Ok):VC L_ 113 ([shp t,nod n]) (.tup [shp (convE t n).1,i64 (convE t n).2]):=by
 have q2:=okn.no
 have oz0:=@slide_v (t) (n.nk) (n.ns) (n.np) (n.no) ok q2
 rcases bft ((slideE t n.nk n.ns n.np n.no).snd != 0) with hc0|hc0
 ·have gc0:¬(slideE t n.nk n.ns n.np n.no).snd=0:=bdt hc0
  exact (cR_ [r_,.r [] [cr oz0],r_,b_,r_] (AV.tup [AV.agg [i64 0,i64 0,i64 0],i64 (slideE t n.nk n.ns n.np n.no).snd]) Tryz.func113 (.d2 oz0 hc0)).to (by (simp only[convE];rw[i_ (by omega)]))
 ·have gc0:(slideE t n.nk n.ns n.np n.no).snd=0:=bdf hc0
  have oz2:=(show IntKind.i64.wrap (n.no*n.nk)=n.no*n.nk by with_reducible exact i6n _ (by have:=wts_bd (t:=t) (k:=n.nk) (s:=n.ns) (p:=n.np) (o:=n.no) (by omega);omega))
  have oz3:=(show IntKind.i64.wrap (n.no*n.nk*n.nk)=n.no*n.nk*n.nk by with_reducible exact i6n _ (by have:=wts_bd (t:=t) (k:=n.nk) (s:=n.ns) (p:=n.np) (o:=n.no) (by omega);omega))
  rcases bft (((K_ (row1 .i8) n.w).length:Int) != n.no*n.nk*n.nk*t.c || decide (((K_ (row1 .i8) n.w).length:Int)>16384) || ((K_ (row1 .i32) n.b).length:Int) != n.no) with hc1|hc1
  ·have gc1:(¬((K_ (row1 .i8) n.w).length:Int)=n.no*n.nk*n.nk*t.c∨((K_ (row1 .i8) n.w).length:Int)>16384)∨¬((K_ (row1 .i32) n.b).length:Int)=n.no:=gc0_ hc1
   have oz4:=(show IntKind.i64.wrap (n.no*n.nk*n.nk*t.c)=n.no*n.nk*n.nk*t.c by with_reducible exact i6n _ (by have:=wts_bd (t:=t) (k:=n.nk) (s:=n.ns) (p:=n.np) (o:=n.no) (by omega);omega))
   exact (cR_ [r_,.r [] [cr oz0],r_,d_,.r [] [.n (nO oz2),.n (nO oz3),.n (nO oz4),o_,o_,o_,o_,.sel 1,o_,o_,o_,o_,o_,o_,.sel 1],b_,r_] (AV.tup [AV.agg [i64 0,i64 0,i64 0],i64 9]) Tryz.func113 (.d6 oz0 hc0 oz2 oz3 oz4 hc1)).to (by (simp only[convE,T_] at *;rw[j_ (by omega),i_ (by omega)]))
  ·have gc1:(((K_ (row1 .i8) n.w).length:Int)=n.no*n.nk*n.nk*t.c∧¬((K_ (row1 .i8) n.w).length:Int)>16384)∧((K_ (row1 .i32) n.b).length:Int)=n.no:=gc0_ hc1
   exact (cR_ [r_,.r [] [cr oz0],r_,d_,.r [] [.n (nO oz2),.n (nO oz3),.n (n.no*n.nk*n.nk*t.c),o_,o_,o_,o_,.sel 1,o_,o_,o_,o_,o_,o_,.sel 1],d_,r_] (AV.tup [AV.agg [i64 (slideE t n.nk n.ns n.np n.no).fst.h,i64 (slideE t n.nk n.ns n.np n.no).fst.x,i64 (slideE t n.nk n.ns n.np n.no).fst.c],i64 0]) Tryz.func113 (.d6 oz0 hc0 oz2 oz3 (i6n (n.no*n.nk*n.nk*t.c) (by omega)) hc1)).to (by (simp only[convE,T_] at *;rw[j_ (by omega),j_ (by omega)]))
theorem gt_of {P:Int→Prop} {l:List Int} (h:∀ v∈l,P v) (h0:P 0) (i:Nat):P (l.getD i 0):=by
 rw[AN_]
 by_cases hi:i<l.length
 ·rw[S_ hi];exact h _ (List.getElem_mem hi)
 ·rw[BZ_ (by omega)];exact h0
theorem gt8 {l:List Int} (h:∀ v∈l,In8 v) (i:Nat) : -128≤l.getD i 0∧l.getD i 0≤127:=gt_of h ⟨by decide,by decide⟩ i
theorem gt32 {l:List Int} (h:∀ v∈l,In32 v) (i:Nat) : -2147483648≤l.getD i 0∧l.getD i 0≤2147483647:=gt_of h ⟨by decide,by decide⟩ i
theorem prod_bd {a b:Int} (h : -128≤a∧a≤127) (h' : -255≤b∧b≤255) : -32640≤a*b∧a*b≤32640:=by
 have h1:(a+128)*(255-b)≥0:=Int.mul_nonneg (by omega) (by omega)
 have h2:(128-a)*(255+b)≥0:=Int.mul_nonneg (by omega) (by omega)
 have h3:(a+128)*(255+b)≥0:=Int.mul_nonneg (by omega) (by omega)
 have h4:(128-a)*(255-b)≥0:=Int.mul_nonneg (by omega) (by omega)
 simp only[Int.add_mul,Int.sub_mul,Int.mul_add,Int.mul_sub] at h1 h2 h3 h4
 omega
structure Rng where
 lo:Int
 hi:Int
instance:Inhabited Rng:=⟨⟨0,0⟩⟩
abbrev rngC (r:Rng):List AV:=[i64 r.lo,i64 r.hi]
abbrev rng (r:Rng):AV:=.agg (rngC r)
def foldR (a:Int) (l:List Int):Nat→Rng
 | 0=>⟨a,a⟩
 | k+1=>⟨min (foldR a l k).lo (l.getD k 0),max (foldR a l k).hi (l.getD k 0)⟩
noncomputable def of_l_I (a:Int) (l:List Int) (k:Nat):VS:=stt 28 [(4,.ptr 4 0 0),(5,.ptr 5 0 0),(11,ints .i64 l),(12,i64 l.length),(13,i64 k)] [(4,.var [i64 0,i64 0]),(5,.var (rngC (foldR a l k)))]
noncomputable def of_l_Z (a:Int) (l:List Int):VS:=of_l_I a l (l.length)
theorem of_l_s (a:Int) (l:List Int) (hl:l.length≤1000) (k:Nat) (hk:k<l.length):VT L_ (fnC Tryz.f153 [1,1,0,1,0,0]) (of_l_I a l k) .normal (of_l_I a l (k+1)):=by
 exact tR_ [r_,b_,.r [] [.row [i64 (l.getD k 0)]],r_,.r [] [.n ((↑k:Int)+1)]] [.any (rg [(7,1),(14,13)]),.weak 13 (i64 (↑(k+1):Int)),.blk 5 (Blk.var [i64 (foldR a l (k+1)).lo,i64 (foldR a l (k+1)).hi]),.sort] (.d6 (decide_eq_true (p:=((↑k:Int)<(l.length:Int))) (by omega)) (s_ (0≤(↑k:Int))) (map_at (row1 .i64) (0) (l:=l) (i:=k) hk) (i6n ((↑k:Int)+1) (by omega)) (wS_ k) (show BlkW (Blk.var [i64 (if l.getD k 0<(foldR a l k).lo then l.getD k 0 else (foldR a l k).lo),i64 (if l.getD k 0>(foldR a l k).hi then l.getD k 0 else (foldR a l k).hi)]) (Blk.var [i64 (foldR a l (k+1)).lo,i64 (foldR a l (k+1)).hi]) from (BlkW.var (m:=[i64 (foldR a l (k+1)).lo,i64 (foldR a l (k+1)).hi]) (.cons (N_ (by (simp only[foldR];split<;>omega))) (.cons (N_ (by (simp only[foldR];split<;>omega))) .nil)))))
theorem of_l_e (a:Int) (l:List Int) (hl:l.length≤1000):VT L_ (fnC Tryz.f153 [1,1,0,1,0,0]) (of_l_I a l (l.length)) (.exit 0) (of_l_Z a l):=by
 exact tR_ [r_,d_] [.any [14],.sort] (.d (decide_eq_false (p:=((l.length:Int)<(l.length:Int))) (by omega)))
theorem of_l (a:Int) (l:List Int) (hl:l.length≤1000):VT L_ (fnC Tryz.f153 [1,1,0,1,0]) (of_l_I a l 0) (.exit 0) (of_l_Z a l) :=
 VT.loop (fun k=>of_l_I a l k) (l.length) (fun k hk=>of_l_s a l hl k hk) (of_l_e a l hl) (by intro h;cases h)
theorem of_v (a:Int) (l:List Int) (hl:l.length≤1000):VC L_ 153 ([i64 a,ints .i64 l]) (rng (foldR a l l.length)):=by
 have oz0:=(N_ (k:=.i64) (show ((((K_ (row1 .i64) l).length:Int)):Int)=((l.length:Int)) from (by (simp;done))))
 have oz3:=@of_l (a) (l) hl
 exact cR_ [r_,r_,r_,.code [.any [0,1,8,9,10],.weak 12 (wO oz0),.weak 13 (i64 (↑0:Int)),.blk 5 (Blk.var [i64 (foldR a l 0).lo,i64 (foldR a l 0).hi]),.sort] (BM_ 0) (zO oz3),r_] _ Tryz.func153 (.d4 oz0 w0_ (show BlkW (Blk.var [i64 a,i64 a]) (Blk.var [i64 (foldR a l 0).lo,i64 (foldR a l 0).hi]) from (BlkW.var (m:=[i64 (foldR a l 0).lo,i64 (foldR a l 0).hi]) (.cons (.refl _) (.cons (N_ (by rfl)) .nil)))) oz3)
theorem of1_v (a b:Int):VC L_ 153 [i64 a,.sl 1 [[i64 b]]] (rng ⟨min a b,max a b⟩):=of_v a [b] (by simp)
theorem of2_v (a b c:Int):VC L_ 153 [i64 a,.sl 1 [[i64 b],[i64 c]]] (rng ⟨min (min a b) c,max (max a b) c⟩):=of_v a [b,c] (by simp)
def spA (v lo hi z:Int) (g:Bool):Rng:=if g=true then ⟨min (min 0 (min (v*(lo-z)) (v*(hi-z)))) (max (v*(lo-z)) (v*(hi-z))),max (max 0 (min (v*(lo-z)) (v*(hi-z)))) (max (v*(lo-z)) (v*(hi-z)))⟩
 else ⟨min (v*(lo-z)) (v*(hi-z)),max (v*(lo-z)) (v*(hi-z))⟩
def rowR (w:List Int) (bias lo hi z:Int) (g:Bool):Nat→Rng
 | 0=>⟨bias,bias⟩
 | k+1=>⟨(rowR w bias lo hi z g k).lo+(spA (w.getD k 0) lo hi z g).lo,(rowR w bias lo hi z g k).hi+(spA (w.getD k 0) lo hi z g).hi⟩
theorem spA_bd {v lo hi z:Int} (g:Bool) (hv:In8 v) (h1:In8 lo) (h2:In8 hi) (h3:In8 z) : -32640≤(spA v lo hi z g).lo∧(spA v lo hi z g).lo≤32640 ∧ -32640≤(spA v lo hi z g).hi∧(spA v lo hi z g).hi≤32640:=by
 unfold In8 at *
 have a:=prod_bd (a:=v) (b:=lo-z) hv (by omega)
 have b:=prod_bd (a:=v) (b:=hi-z) hv (by omega)
 unfold spA;split<;>simp only<;>omega
theorem rowR_bd {w:List Int} {bias lo hi z:Int} (g:Bool) (hw:∀ v∈w,In8 v) (hb:In32 bias) (h1:In8 lo) (h2:In8 hi) (h3:In8 z):∀ k:Nat,-2147483648-32640*k≤(rowR w bias lo hi z g k).lo∧(rowR w bias lo hi z g k).lo≤2147483647+32640*k ∧ -2147483648-32640*k≤(rowR w bias lo hi z g k).hi∧(rowR w bias lo hi z g k).hi≤2147483647+32640*k
 | 0=>by unfold In32 at hb;simp only[rowR];omega
 | k+1=>by
  have:=rowR_bd g hw hb h1 h2 h3 k
  have:=spA_bd g (v:=w.getD k 0) (gt_of hw (by unfold In8;omega) k) h1 h2 h3
  simp only[rowR];omega
noncomputable def row_l_I (w:List Int) (bias lo hi z:Int) (g:Bool) (k:Nat):VS:=stt 66 [(2,i8 lo),(3,i8 hi),(4,i8 z),(5,bv g),(12,.ptr 12 0 0),(13,.ptr 13 0 0),(22,ints .i8 w),(23,i64 w.length),(24,i64 k)] [(12,.var [i64 0,i64 0]),(13,.var (rngC (rowR w bias lo hi z g k)))]
noncomputable def row_l_Z (w:List Int) (bias lo hi z:Int) (g:Bool):VS:=row_l_I w bias lo hi z g (w.length)
theorem row_l_s (w:List Int) (bias lo hi z:Int) (g:Bool) (hw:∀ v∈w,In8 v) (wl:w.length≤1000000) (hb:In32 bias) (h1:In8 lo) (h2:In8 hi) (h3:In8 z) (k:Nat) (hk:k<w.length):VT L_ (fnC Tryz.f144 [1,1,0,1,0,0]) (row_l_I w bias lo hi z g k) .normal (row_l_I w bias lo hi z g (k+1)):=by
 have q1:=gt8 hw k
 have q2:=rowR_bd g hw hb h1 h2 h3 k
 have q3:=spA_bd g (v:=w.getD k 0) (gt_of hw (by unfold In8;omega) k) h1 h2 h3
 unfold In8 at h1 h2 h3
 have q4:=prod_bd (a:=w.getD k 0) (b:=lo-z) q1 (by omega)
 have q5:=prod_bd (a:=w.getD k 0) (b:=hi-z) q1 (by omega)
 have oz0:=(decide_eq_true (p:=((↑k:Int)<(w.length:Int))) (by omega))
 have oz1:=(s_ (0≤(↑k:Int)))
 have oz2:=(map_at (row1 .i8) (0) (l:=w) (i:=k) hk)
 have oz3:=(i6n (w.getD k 0) (by omega))
 have oz4:=(i6n lo (by omega))
 have oz5:=(i6n z (by omega))
 have oz6:=(i6n (lo-z) (by omega))
 have oz7:=(i6n (w.getD k 0*(lo-z)) (by omega))
 have oz9:=(i6n hi (by omega))
 have oz11:=(i6n (hi-z) (by omega))
 have oz12:=(i6n (w.getD k 0*(hi-z)) (by omega))
 have oz13:=@of1_v (w.getD k 0*(lo-z)) (w.getD k 0*(hi-z))
 rcases bft (g) with hc0|hc0
 ·have gc0:g=true:=by first|exact hc0|exact of_decide_eq_true hc0|exact of_decide_eq_false hc0|simpa [eqNums] using hc0|(simp[eqNums] at hc0 ⊢;first|done|assumption|omega)
  have oz15:=@of2_v (0) (min (w.getD k 0*(lo-z)) (w.getD k 0*(hi-z))) (max (w.getD k 0*(lo-z)) (w.getD k 0*(hi-z)))
  have oz16:=(show IntKind.i64.wrap ((rowR w bias lo hi z g k).lo+(Rng.mk (min (min 0 (min (w.getD k 0*(lo-z)) (w.getD k 0*(hi-z)))) (max (w.getD k 0*(lo-z)) (w.getD k 0*(hi-z)))) (max (max 0 (min (w.getD k 0*(lo-z)) (w.getD k 0*(hi-z)))) (max (w.getD k 0*(lo-z)) (w.getD k 0*(hi-z))))).lo)=(rowR w bias lo hi z g k).lo+(Rng.mk (min (min 0 (min (w.getD k 0*(lo-z)) (w.getD k 0*(hi-z)))) (max (w.getD k 0*(lo-z)) (w.getD k 0*(hi-z)))) (max (max 0 (min (w.getD k 0*(lo-z)) (w.getD k 0*(hi-z)))) (max (w.getD k 0*(lo-z)) (w.getD k 0*(hi-z))))).lo by (refine i6n _ ?_;unfold spA at q3;split at q3<;>simp_all<;>omega))
  have oz17:=(show IntKind.i64.wrap ((rowR w bias lo hi z g k).hi+(Rng.mk (min (min 0 (min (w.getD k 0*(lo-z)) (w.getD k 0*(hi-z)))) (max (w.getD k 0*(lo-z)) (w.getD k 0*(hi-z)))) (max (max 0 (min (w.getD k 0*(lo-z)) (w.getD k 0*(hi-z)))) (max (w.getD k 0*(lo-z)) (w.getD k 0*(hi-z))))).hi)=(rowR w bias lo hi z g k).hi+(Rng.mk (min (min 0 (min (w.getD k 0*(lo-z)) (w.getD k 0*(hi-z)))) (max (w.getD k 0*(lo-z)) (w.getD k 0*(hi-z)))) (max (max 0 (min (w.getD k 0*(lo-z)) (w.getD k 0*(hi-z)))) (max (w.getD k 0*(lo-z)) (w.getD k 0*(hi-z))))).hi by (refine i6n _ ?_;unfold spA at q3;split at q3<;>simp_all<;>omega))
  exact tR_ [r_,b_,.r [] [.row (sO oz2)],.r [] [.n (nO oz3),.n (nO oz4),.n (nO oz5),.n (nO oz6),.n (nO oz7),.n (nO oz3),.n (nO oz9),.n (nO oz5),.n (nO oz11),.n (nO oz12),cr oz13],r_,b_,.r [] [cr oz15],.r [] [.n (nO oz16),.n (nO oz17)],.r [] [.n ((↑k:Int)+1)]] [.any (rg [(15,2),(25,40)]),.drop [44,16,51],.weak 24 (i64 (↑(k+1):Int)),.blk 13 (Blk.var [i64 (rowR w bias lo hi z g (k+1)).lo,i64 (rowR w bias lo hi z g (k+1)).hi]),.sort] (.c8 oz0 oz1 oz2 oz3 oz4 oz5 oz6 oz7<|.c8 oz3 oz9 oz5 oz11 oz12 oz13 hc0 oz15<|.d5 oz16 oz17 (i6n ((↑k:Int)+1) (by omega)) (wS_ k) (show BlkW (Blk.var [i64 ((rowR w bias lo hi z g k).lo+(Rng.mk (min (min 0 (min (w.getD k 0*(lo-z)) (w.getD k 0*(hi-z)))) (max (w.getD k 0*(lo-z)) (w.getD k 0*(hi-z)))) (max (max 0 (min (w.getD k 0*(lo-z)) (w.getD k 0*(hi-z)))) (max (w.getD k 0*(lo-z)) (w.getD k 0*(hi-z))))).lo),i64 ((rowR w bias lo hi z g k).hi+(Rng.mk (min (min 0 (min (w.getD k 0*(lo-z)) (w.getD k 0*(hi-z)))) (max (w.getD k 0*(lo-z)) (w.getD k 0*(hi-z)))) (max (max 0 (min (w.getD k 0*(lo-z)) (w.getD k 0*(hi-z)))) (max (w.getD k 0*(lo-z)) (w.getD k 0*(hi-z))))).hi)]) (Blk.var [i64 (rowR w bias lo hi z g (k+1)).lo,i64 (rowR w bias lo hi z g (k+1)).hi]) from (BlkW.var (m:=[i64 (rowR w bias lo hi z g (k+1)).lo,i64 (rowR w bias lo hi z g (k+1)).hi]) (.cons (N_ (by (simp_all[rowR,spA];done))) (.cons (N_ (by (simp_all[rowR,spA];done))) .nil)))))
 ·have gc0:g=false:=by first|exact hc0|exact of_decide_eq_true hc0|exact of_decide_eq_false hc0|simpa [eqNums] using hc0|(simp[eqNums] at hc0 ⊢;first|done|assumption|omega)
  have oz15:=(show IntKind.i64.wrap ((rowR w bias lo hi z g k).lo+(Rng.mk (min (w.getD k 0*(lo-z)) (w.getD k 0*(hi-z))) (max (w.getD k 0*(lo-z)) (w.getD k 0*(hi-z)))).lo)=(rowR w bias lo hi z g k).lo+(Rng.mk (min (w.getD k 0*(lo-z)) (w.getD k 0*(hi-z))) (max (w.getD k 0*(lo-z)) (w.getD k 0*(hi-z)))).lo by (refine i6n _ ?_;unfold spA at q3;split at q3<;>simp_all<;>omega))
  have oz16:=(show IntKind.i64.wrap ((rowR w bias lo hi z g k).hi+(Rng.mk (min (w.getD k 0*(lo-z)) (w.getD k 0*(hi-z))) (max (w.getD k 0*(lo-z)) (w.getD k 0*(hi-z)))).hi)=(rowR w bias lo hi z g k).hi+(Rng.mk (min (w.getD k 0*(lo-z)) (w.getD k 0*(hi-z))) (max (w.getD k 0*(lo-z)) (w.getD k 0*(hi-z)))).hi by (refine i6n _ ?_;unfold spA at q3;split at q3<;>simp_all<;>omega))
  exact tR_ [r_,b_,.r [] [.row (sO oz2)],.r [] [.n (nO oz3),.n (nO oz4),.n (nO oz5),.n (nO oz6),.n (nO oz7),.n (nO oz3),.n (nO oz9),.n (nO oz5),.n (nO oz11),.n (nO oz12),cr oz13],r_,d_,.r [] [.n (nO oz15),.n (nO oz16)],.r [] [.n ((↑k:Int)+1)]] [.any (rg [(15,2),(25,22),(53,12)]),.drop [44,16],.weak 24 (i64 (↑(k+1):Int)),.blk 13 (Blk.var [i64 (rowR w bias lo hi z g (k+1)).lo,i64 (rowR w bias lo hi z g (k+1)).hi]),.sort] (.c8 oz0 oz1 oz2 oz3 oz4 oz5 oz6 oz7<|.c8 oz3 oz9 oz5 oz11 oz12 oz13 hc0 oz15<|.d4 oz16 (i6n ((↑k:Int)+1) (by omega)) (wS_ k) (show BlkW (Blk.var [i64 ((rowR w bias lo hi z g k).lo+(Rng.mk (min (w.getD k 0*(lo-z)) (w.getD k 0*(hi-z))) (max (w.getD k 0*(lo-z)) (w.getD k 0*(hi-z)))).lo),i64 ((rowR w bias lo hi z g k).hi+(Rng.mk (min (w.getD k 0*(lo-z)) (w.getD k 0*(hi-z))) (max (w.getD k 0*(lo-z)) (w.getD k 0*(hi-z)))).hi)]) (Blk.var [i64 (rowR w bias lo hi z g (k+1)).lo,i64 (rowR w bias lo hi z g (k+1)).hi]) from (BlkW.var (m:=[i64 (rowR w bias lo hi z g (k+1)).lo,i64 (rowR w bias lo hi z g (k+1)).hi]) (.cons (N_ (by (simp_all[rowR,spA];done))) (.cons (N_ (by (simp_all[rowR,spA];done))) .nil)))))
theorem row_l_e (w:List Int) (bias lo hi z:Int) (g:Bool) (hw:∀ v∈w,In8 v) (wl:w.length≤1000000) (hb:In32 bias) (h1:In8 lo) (h2:In8 hi) (h3:In8 z):VT L_ (fnC Tryz.f144 [1,1,0,1,0,0]) (row_l_I w bias lo hi z g (w.length)) (.exit 0) (row_l_Z w bias lo hi z g):=by
 exact tR_ [r_,d_] [.any [25],.sort] (.d (decide_eq_false (p:=((w.length:Int)<(w.length:Int))) (by omega)))
theorem row_l (w:List Int) (bias lo hi z:Int) (g:Bool) (hw:∀ v∈w,In8 v) (wl:w.length≤1000000) (hb:In32 bias) (h1:In8 lo) (h2:In8 hi) (h3:In8 z):VT L_ (fnC Tryz.f144 [1,1,0,1,0]) (row_l_I w bias lo hi z g 0) (.exit 0) (row_l_Z w bias lo hi z g) :=
 VT.loop (fun k=>row_l_I w bias lo hi z g k) (w.length) (fun k hk=>row_l_s w bias lo hi z g hw wl hb h1 h2 h3 k hk) (row_l_e w bias lo hi z g hw wl hb h1 h2 h3) (by intro h;cases h)
theorem row_v (w:List Int) (bias lo hi z:Int) (g:Bool) (hw:∀ v∈w,In8 v) (wl:w.length≤1000000) (hb:In32 bias) (h1:In8 lo) (h2:In8 hi) (h3:In8 z):VC L_ 144 ([ints .i8 w,i32 bias,i8 lo,i8 hi,i8 z,bv g]) (rng (rowR w bias lo hi z g w.length)):=by
 obtain ⟨b1,b2⟩:=id hb
 have oz0:=(i6n bias (by omega))
 have oz2:=(N_ (k:=.i64) (show ((((K_ (row1 .i8) w).length:Int)):Int)=((w.length:Int)) from (by (simp;done))))
 have oz5:=@row_l (w) (bias) (lo) (hi) (z) (g) hw wl hb h1 h2 h3
 exact cR_ [r_,.r [] [.n (nO oz0),.n (nO oz0)],r_,.code [.any (rg [(0,2),(17,5)]),.weak 23 (wO oz2),.weak 24 (i64 (↑0:Int)),.blk 13 (Blk.var [i64 (rowR w bias lo hi z g 0).lo,i64 (rowR w bias lo hi z g 0).hi]),.sort] (BM_ 0) (zO oz5),r_] _ Tryz.func144 (.d6 oz0 oz0 oz2 w0_ (show BlkW (Blk.var [i64 bias,i64 bias]) (Blk.var [i64 (rowR w bias lo hi z g 0).lo,i64 (rowR w bias lo hi z g 0).hi]) from (BlkW.var (m:=[i64 (rowR w bias lo hi z g 0).lo,i64 (rowR w bias lo hi z g 0).hi]) (.cons (.refl _) (.cons (N_ (by rfl)) .nil)))) oz5)
def spRow (w:List Int) (b:List Int) (lo hi z:Int) (g:Bool) (o:Nat):Rng :=
 rowR (BJ_ ((((o:Int)+1)*((w.length:Int)/(b.length:Int))).toNat-((o:Int)*((w.length:Int)/(b.length:Int))).toNat) (CL_ ((o:Int)*((w.length:Int)/(b.length:Int))).toNat w)) (b.getD o 0) lo hi z g
  (BJ_ ((((o:Int)+1)*((w.length:Int)/(b.length:Int))).toNat-((o:Int)*((w.length:Int)/(b.length:Int))).toNat) (CL_ ((o:Int)*((w.length:Int)/(b.length:Int))).toNat w)).length
def allR (w:List Int) (b:List Int) (lo hi z:Int) (g:Bool) (k:Nat):List Rng:=(List.range k).map (spRow w b lo hi z g)
def sharedB (w b:List Int):Bool:=decide (0<b.length)&&decide ((w.length:Int) % (b.length:Int)=0)
theorem mem_td {α:Type} {l:List α} {a n:Nat} {v:α} (h:v∈BJ_ n (CL_ a l)):v∈l:=List.mem_of_mem_drop (List.mem_of_mem_take h)
theorem share_bd {m n k:Nat} (hk:k<n):0≤(k:Int)*((m:Int)/(n:Int))∧((k:Int)+1)*((m:Int)/(n:Int))≤m∧((k:Int)+1)*((m:Int)/(n:Int))=(k:Int)*((m:Int)/(n:Int))+(m:Int)/(n:Int)∧0≤(m:Int)/(n:Int)∧(m:Int)/(n:Int)≤m:=by
 have h0:0≤(m:Int)/(n:Int):=Int.ediv_nonneg (by omega) (by omega)
 refine ⟨Int.mul_nonneg (by omega) h0,?_,by rw[Int.add_mul,Int.one_mul],h0,Int.ediv_le_self _ (by omega)⟩
 have h1:((k:Int)+1)*((m:Int)/(n:Int))≤(n:Int)*((m:Int)/(n:Int)):=Int.mul_le_mul_of_nonneg_right (by omega) h0
 have h2:(n:Int)*((m:Int)/(n:Int))≤m:=Int.mul_ediv_self_le (by omega)
 omega
noncomputable def all_l_I (n:Nod) (lo hi:Int) (k:Nat):VS:=stt 64 [(1,i8 lo),(2,i8 hi),(3,.ptr 3 0 0),(7,i64 ((n.w.length:Int)/(n.b.length:Int))),(8,.own 900),(33,ints .i32 n.b),(34,i64 n.b.length),(35,i64 k)] [(3,.var (nodC n)),(900,.slc 221 2 ((allR n.w n.b lo hi n.za (decide (n.np>0)) k).map rngC))]
noncomputable def all_l_Z (n:Nod) (lo hi:Int):VS:=all_l_I n lo hi (n.b.length)
theorem all_l_s (n:Nod) (lo hi:Int) (ok:n.Ok) (h1:In8 lo) (h2:In8 hi) (wl:n.w.length≤100000) (bl:n.b.length≤100000) (b0:0<n.b.length) (k:Nat) (hk:k<n.b.length):VT L_ (fnC Tryz.f129 [1,1,1,1,0,1,0,0]) (all_l_I n lo hi k) .normal (all_l_I n lo hi (k+1)):=by
 have q1:=share_bd (m:=n.w.length) hk
 have q2:=gt32 ok.b k
 have q3:(allR n.w n.b lo hi n.za (decide (n.np>0)) k).length=k:=by simp[allR]
 have oz3:=(i6n ((↑k:Int)*((n.w.length:Int)/(n.b.length:Int))) (by omega))
 have oz4:=(i6n ((↑k:Int)+1) (by omega))
 have oz5:=(i6n (((↑k:Int)+1)*((n.w.length:Int)/(n.b.length:Int))) (by omega))
 have oz11:=@row_v (BJ_ ((((↑k:Int)+1)*((n.w.length:Int)/(n.b.length:Int))).toNat-((↑k:Int)*((n.w.length:Int)/(n.b.length:Int))).toNat) (CL_ ((↑k:Int)*((n.w.length:Int)/(n.b.length:Int))).toNat n.w)) (n.b.getD k 0) (lo) (hi) (n.za) (decide (n.np>0)) (by (exact fun v hv=>ok.w v (mem_td hv))) (by (rw[BF_,CO_];omega)) q2 h1 h2 (by (exact ok.za))
 exact tR_ [r_,b_,.r [] [.row [i32 (n.b.getD k 0)]],.r [] [.n (nO oz3),.n (nO oz4),.n (nO oz5),.nats ((↑k:Int)*((n.w.length:Int)/(n.b.length:Int))).toNat (((↑k:Int)+1)*((n.w.length:Int)/(n.b.length:Int))).toNat,ca oz11],.r [] [.n (nO oz4)]] [.any (rg [(9,2),(36,27)]),.drop [60],.ren 61 900,.weak 35 (i64 (↑(k+1):Int)),.blk 900 (Blk.slc 221 2 (K_ rngC (allR n.w n.b lo hi n.za (decide (n.np>0)) (k+1)))),.sort] (.c8 (decide_eq_true (p:=((↑k:Int)<(n.b.length:Int))) (by omega)) (s_ (0≤(↑k:Int))) (map_at (row1 .i32) (0) (l:=n.b) (i:=k) hk) oz3 oz4 oz5 (s_ ((↑k:Int)*((n.w.length:Int)/(n.b.length:Int))=(↑((↑k:Int)*((n.w.length:Int)/(n.b.length:Int))).toNat:Int))) (s_ (((↑k:Int)+1)*((n.w.length:Int)/(n.b.length:Int))=(↑(((↑k:Int)+1)*((n.w.length:Int)/(n.b.length:Int))).toNat:Int)))<|.c8 (s_ (((↑k:Int)*((n.w.length:Int)/(n.b.length:Int))).toNat≤(((↑k:Int)+1)*((n.w.length:Int)/(n.b.length:Int))).toNat)) (show (((↑k:Int)+1)*((n.w.length:Int)/(n.b.length:Int))).toNat≤(K_ (row1 .i8) n.w).length by (simp;omega)) (show WeakL [AV.sl 1 (BJ_ ((((↑k:Int)+1)*((n.w.length:Int)/(n.b.length:Int))).toNat-((↑k:Int)*((n.w.length:Int)/(n.b.length:Int))).toNat) (CL_ ((↑k:Int)*((n.w.length:Int)/(n.b.length:Int))).toNat (K_ (row1 .i8) n.w))),i32 (n.b.getD k 0),i8 lo,i8 hi,i8 n.za,bv (decide (n.np>0))] [AV.sl 1 (K_ (row1 .i8) (BJ_ ((((↑k:Int)+1)*((n.w.length:Int)/(n.b.length:Int))).toNat-((↑k:Int)*((n.w.length:Int)/(n.b.length:Int))).toNat) (CL_ ((↑k:Int)*((n.w.length:Int)/(n.b.length:Int))).toNat n.w))),i32 (n.b.getD k 0),i8 lo,i8 hi,i8 n.za,bv (decide (n.np>0))] from (.cons (Weak.rows (rows_to (row1 .i8) (r:=BJ_ ((((↑k:Int)+1)*((n.w.length:Int)/(n.b.length:Int))).toNat-((↑k:Int)*((n.w.length:Int)/(n.b.length:Int))).toNat) (CL_ ((↑k:Int)*((n.w.length:Int)/(n.b.length:Int))).toNat (K_ (row1 .i8) n.w))) (l:=BJ_ ((((↑k:Int)+1)*((n.w.length:Int)/(n.b.length:Int))).toNat-((↑k:Int)*((n.w.length:Int)/(n.b.length:Int))).toNat) (CL_ ((↑k:Int)*((n.w.length:Int)/(n.b.length:Int))).toNat n.w)) (m:=BJ_ ((((↑k:Int)+1)*((n.w.length:Int)/(n.b.length:Int))).toNat-((↑k:Int)*((n.w.length:Int)/(n.b.length:Int))).toNat) (CL_ ((↑k:Int)*((n.w.length:Int)/(n.b.length:Int))).toNat n.w)) (by first|(simp only[X_,Z_,AP_,AR_,U_,AK_,AL_];done)|rfl|(simp only[X_,Z_,AP_,AR_,U_,AK_,AL_];rfl)) rfl)) (.cons (.refl _) (.cons (.refl _) (.cons (.refl _) (.cons (.refl _) (.cons (.refl _) .nil))))))) oz11 (show ((K_ rngC (allR n.w n.b lo hi n.za (decide (n.np>0)) k)).length+1)*16≤140737488355328 by (simp only[T_] at *;omega)) (show (K_ rngC (allR n.w n.b lo hi n.za (decide (n.np>0)) k)).length+1≤9223372036854775807 by (simp only[T_] at *;omega)) oz4 (wS_ k)<|.d (show BlkW (Blk.slc 221 2 (K_ rngC (allR n.w n.b lo hi n.za (decide (n.np>0)) k)++[[i64 (rowR (BJ_ ((((↑k:Int)+1)*((n.w.length:Int)/(n.b.length:Int))).toNat-((↑k:Int)*((n.w.length:Int)/(n.b.length:Int))).toNat) (CL_ ((↑k:Int)*((n.w.length:Int)/(n.b.length:Int))).toNat n.w)) (n.b.getD k 0) lo hi n.za (decide (n.np>0)) (BJ_ ((((↑k:Int)+1)*((n.w.length:Int)/(n.b.length:Int))).toNat-((↑k:Int)*((n.w.length:Int)/(n.b.length:Int))).toNat) (CL_ ((↑k:Int)*((n.w.length:Int)/(n.b.length:Int))).toNat n.w)).length).lo,i64 (rowR (BJ_ ((((↑k:Int)+1)*((n.w.length:Int)/(n.b.length:Int))).toNat-((↑k:Int)*((n.w.length:Int)/(n.b.length:Int))).toNat) (CL_ ((↑k:Int)*((n.w.length:Int)/(n.b.length:Int))).toNat n.w)) (n.b.getD k 0) lo hi n.za (decide (n.np>0)) (BJ_ ((((↑k:Int)+1)*((n.w.length:Int)/(n.b.length:Int))).toNat-((↑k:Int)*((n.w.length:Int)/(n.b.length:Int))).toNat) (CL_ ((↑k:Int)*((n.w.length:Int)/(n.b.length:Int))).toNat n.w)).length).hi]])) (Blk.slc 221 2 (K_ rngC (allR n.w n.b lo hi n.za (decide (n.np>0)) (k+1)))) from (BB_ (e:=221) (z:=2) (rows_to (rngC) (r:=K_ rngC (allR n.w n.b lo hi n.za (decide (n.np>0)) k)++[[i64 (rowR (BJ_ ((((↑k:Int)+1)*((n.w.length:Int)/(n.b.length:Int))).toNat-((↑k:Int)*((n.w.length:Int)/(n.b.length:Int))).toNat) (CL_ ((↑k:Int)*((n.w.length:Int)/(n.b.length:Int))).toNat n.w)) (n.b.getD k 0) lo hi n.za (decide (n.np>0)) (BJ_ ((((↑k:Int)+1)*((n.w.length:Int)/(n.b.length:Int))).toNat-((↑k:Int)*((n.w.length:Int)/(n.b.length:Int))).toNat) (CL_ ((↑k:Int)*((n.w.length:Int)/(n.b.length:Int))).toNat n.w)).length).lo,i64 (rowR (BJ_ ((((↑k:Int)+1)*((n.w.length:Int)/(n.b.length:Int))).toNat-((↑k:Int)*((n.w.length:Int)/(n.b.length:Int))).toNat) (CL_ ((↑k:Int)*((n.w.length:Int)/(n.b.length:Int))).toNat n.w)) (n.b.getD k 0) lo hi n.za (decide (n.np>0)) (BJ_ ((((↑k:Int)+1)*((n.w.length:Int)/(n.b.length:Int))).toNat-((↑k:Int)*((n.w.length:Int)/(n.b.length:Int))).toNat) (CL_ ((↑k:Int)*((n.w.length:Int)/(n.b.length:Int))).toNat n.w)).length).hi]]) (l:=allR n.w n.b lo hi n.za (decide (n.np>0)) k++[Rng.mk (rowR (BJ_ ((((↑k:Int)+1)*((n.w.length:Int)/(n.b.length:Int))).toNat-((↑k:Int)*((n.w.length:Int)/(n.b.length:Int))).toNat) (CL_ ((↑k:Int)*((n.w.length:Int)/(n.b.length:Int))).toNat n.w)) (n.b.getD k 0) lo hi n.za (decide (n.np>0)) (BJ_ ((((↑k:Int)+1)*((n.w.length:Int)/(n.b.length:Int))).toNat-((↑k:Int)*((n.w.length:Int)/(n.b.length:Int))).toNat) (CL_ ((↑k:Int)*((n.w.length:Int)/(n.b.length:Int))).toNat n.w)).length).lo (rowR (BJ_ ((((↑k:Int)+1)*((n.w.length:Int)/(n.b.length:Int))).toNat-((↑k:Int)*((n.w.length:Int)/(n.b.length:Int))).toNat) (CL_ ((↑k:Int)*((n.w.length:Int)/(n.b.length:Int))).toNat n.w)) (n.b.getD k 0) lo hi n.za (decide (n.np>0)) (BJ_ ((((↑k:Int)+1)*((n.w.length:Int)/(n.b.length:Int))).toNat-((↑k:Int)*((n.w.length:Int)/(n.b.length:Int))).toNat) (CL_ ((↑k:Int)*((n.w.length:Int)/(n.b.length:Int))).toNat n.w)).length).hi]) (m:=allR n.w n.b lo hi n.za (decide (n.np>0)) (k+1)) (by first|(simp only[X_,Z_,AP_,AR_,U_,AK_,AL_];done)|rfl|(simp only[X_,Z_,AP_,AR_,U_,AK_,AL_];rfl)|(simp only[X_,Z_,AP_,AR_,U_,AK_,AL_,rngC,ints];done)) (show (allR n.w n.b lo hi n.za (decide (n.np>0)) k++[Rng.mk (rowR (BJ_ ((((↑k:Int)+1)*((n.w.length:Int)/(n.b.length:Int))).toNat-((↑k:Int)*((n.w.length:Int)/(n.b.length:Int))).toNat) (CL_ ((↑k:Int)*((n.w.length:Int)/(n.b.length:Int))).toNat n.w)) (n.b.getD k 0) lo hi n.za (decide (n.np>0)) (BJ_ ((((↑k:Int)+1)*((n.w.length:Int)/(n.b.length:Int))).toNat-((↑k:Int)*((n.w.length:Int)/(n.b.length:Int))).toNat) (CL_ ((↑k:Int)*((n.w.length:Int)/(n.b.length:Int))).toNat n.w)).length).lo (rowR (BJ_ ((((↑k:Int)+1)*((n.w.length:Int)/(n.b.length:Int))).toNat-((↑k:Int)*((n.w.length:Int)/(n.b.length:Int))).toNat) (CL_ ((↑k:Int)*((n.w.length:Int)/(n.b.length:Int))).toNat n.w)) (n.b.getD k 0) lo hi n.za (decide (n.np>0)) (BJ_ ((((↑k:Int)+1)*((n.w.length:Int)/(n.b.length:Int))).toNat-((↑k:Int)*((n.w.length:Int)/(n.b.length:Int))).toNat) (CL_ ((↑k:Int)*((n.w.length:Int)/(n.b.length:Int))).toNat n.w)).length).hi])=(allR n.w n.b lo hi n.za (decide (n.np>0)) (k+1)) from (by (rw[allR,allR,List.range_succ,X_];rfl)))))))
theorem all_l_e (n:Nod) (lo hi:Int) (ok:n.Ok) (h1:In8 lo) (h2:In8 hi) (wl:n.w.length≤100000) (bl:n.b.length≤100000) (b0:0<n.b.length):VT L_ (fnC Tryz.f129 [1,1,1,1,0,1,0,0]) (all_l_I n lo hi (n.b.length)) (.exit 0) (all_l_Z n lo hi):=by
 exact tR_ [r_,d_] [.any [36],.sort] (.d (decide_eq_false (p:=((n.b.length:Int)<(n.b.length:Int))) (by omega)))
theorem all_l (n:Nod) (lo hi:Int) (ok:n.Ok) (h1:In8 lo) (h2:In8 hi) (wl:n.w.length≤100000) (bl:n.b.length≤100000) (b0:0<n.b.length):VT L_ (fnC Tryz.f129 [1,1,1,1,0,1,0]) (all_l_I n lo hi 0) (.exit 0) (all_l_Z n lo hi) :=
 VT.loop (fun k=>all_l_I n lo hi k) (n.b.length) (fun k hk=>all_l_s n lo hi ok h1 h2 wl bl b0 k hk) (all_l_e n lo hi ok h1 h2 wl bl b0) (by intro h;cases h)
theorem all_v (n:Nod) (lo hi:Int) (ok:n.Ok) (h1:In8 lo) (h2:In8 hi) (wl:n.w.length≤100000) (bl:n.b.length≤100000):VC L_ 129 ([nod n,i8 lo,i8 hi]) (.sl 2 ((allR n.w n.b lo hi n.za (decide (n.np>0)) (if sharedB n.w n.b=true then n.b.length else 0)).map rngC)):=by
 have q1:(n.b.length:Int)≠0→(0≤(n.w.length:Int)/(n.b.length:Int)∧(n.w.length:Int)/(n.b.length:Int)≤n.w.length):=fun h=>⟨Int.ediv_nonneg (by omega) (by omega),Int.ediv_le_self _ (by omega)⟩
 have q4:(n.b.length:Int)≠0→0≤(n.w.length:Int) % (n.b.length:Int)∧(n.w.length:Int) % (n.b.length:Int)<(n.b.length:Int):=fun h=>⟨Int.emod_nonneg _ h,Int.emod_lt_of_pos _ (by omega)⟩
 have oz0:=(show (!((K_ (row1 .i32) n.b).length:Int)==0)=true→((K_ (row1 .i32) n.b).length:Int)≠0 from (fun hc0=>have gc0:¬((K_ (row1 .i32) n.b).length:Int)=0:=(by first|exact hc0|exact of_decide_eq_true hc0|exact of_decide_eq_false hc0|simpa [eqNums] using hc0|(simp[eqNums] at hc0 ⊢;first|done|assumption|omega));(by with_reducible assumption)))
 have oz1:=(show (!((K_ (row1 .i32) n.b).length:Int)==0)=true→((K_ (row1 .i8) n.w).length:Int).tmod ((K_ (row1 .i32) n.b).length:Int)=((K_ (row1 .i8) n.w).length:Int) % ((K_ (row1 .i32) n.b).length:Int) from (fun hc0=>have gc0:¬((K_ (row1 .i32) n.b).length:Int)=0:=(by first|exact hc0|exact of_decide_eq_true hc0|exact of_decide_eq_false hc0|simpa [eqNums] using hc0|(simp[eqNums] at hc0 ⊢;first|done|assumption|omega));(Int.tmod_eq_emod_of_nonneg (by omega))))
 rcases bft (((K_ (row1 .i32) n.b).length:Int)==0 || ((K_ (row1 .i8) n.w).length:Int) % ((K_ (row1 .i32) n.b).length:Int) != 0) with hc0|hc0
 ·have gc0:((K_ (row1 .i32) n.b).length:Int)=0∨¬((K_ (row1 .i8) n.w).length:Int) % ((K_ (row1 .i32) n.b).length:Int)=0:=gc0_ hc0
  exact (cR_ [r_,.r [] [o_,o_,o_,o_,o_,o_,p_,.n (((K_ (row1 .i8) n.w).length:Int) % ((K_ (row1 .i32) n.b).length:Int)),o_,.sel 1],b_,r_] (AV.lit (AC_ none 0 0)) Tryz.func129 (.d3 oz0 oz1 hc0)).weak (D_ _) (Weak.nilr (show []=(K_ rngC (allR n.w n.b lo hi n.za (decide (n.np>0)) (if sharedB n.w n.b=true then n.b.length else 0))) from (by (simp only[T_] at *;simp only[sharedB,M_,E_];rw[j_ (by omega)];rfl))))
 ·have gc0:¬((K_ (row1 .i32) n.b).length:Int)=0∧((K_ (row1 .i8) n.w).length:Int) % ((K_ (row1 .i32) n.b).length:Int)=0:=gc0_ hc0
  have oz4:=(show IntKind.i64.wrap (((K_ (row1 .i8) n.w).length:Int).tdiv ((K_ (row1 .i32) n.b).length:Int))=((K_ (row1 .i8) n.w).length:Int)/((K_ (row1 .i32) n.b).length:Int) from (Eq.trans (congrArg _ (Int.tdiv_eq_ediv_of_nonneg (by omega))) (by with_reducible exact i6n _ (by simp only[T_] at *;have:=q1 (by omega);omega))))
  have oz5:=(N_ (k:=.i64) (show ((((K_ (row1 .i8) n.w).length:Int)/((K_ (row1 .i32) n.b).length:Int)):Int)=((n.w.length:Int)/(n.b.length:Int)) from (by (simp;done))))
  have oz6:=(N_ (k:=.i64) (show ((((K_ (row1 .i32) n.b).length:Int)):Int)=((n.b.length:Int)) from (by (simp;done))))
  have oz8:=@all_l (n) (lo) (hi) ok h1 h2 wl bl (by (simp only[T_] at *;omega))
  exact (cR_ [r_,.r [] [o_,o_,o_,o_,o_,o_,p_,.n (((K_ (row1 .i8) n.w).length:Int) % ((K_ (row1 .i32) n.b).length:Int)),o_,.sel 1],d_,.r [] [.n (((K_ (row1 .i8) n.w).length:Int)/((K_ (row1 .i32) n.b).length:Int))],r_,r_,.code [.any (rg [(0,1),(6,1),(11,5),(24,9)]),.weak 7 (wO oz5),.weak 34 (wO oz6),.weak 35 (i64 (↑0:Int)),.nils 8 900 221 2,.sort] (BM_ 0) (zO oz8),r_] (AV.sl 2 (K_ rngC (allR n.w n.b lo hi n.za (decide (n.np>0)) n.b.length))) Tryz.func129 (.c8 oz0 oz1 hc0 (s_ (((K_ (row1 .i32) n.b).length:Int)≠0)) oz4 oz5 oz6 w0_<|.d oz8)).weak (D_ _) (Weak.rows (rows_to (rngC) (r:=K_ rngC (allR n.w n.b lo hi n.za (decide (n.np>0)) n.b.length)) (l:=allR n.w n.b lo hi n.za (decide (n.np>0)) n.b.length) (m:=allR n.w n.b lo hi n.za (decide (n.np>0)) (if sharedB n.w n.b=true then n.b.length else 0)) rfl (show (allR n.w n.b lo hi n.za (decide (n.np>0)) n.b.length)=(allR n.w n.b lo hi n.za (decide (n.np>0)) (if sharedB n.w n.b=true then n.b.length else 0)) from (by (simp only[T_] at *;simp only[sharedB,M_,E_];rw[i_ (by omega)])))))
def holdB (r:Rng):Bool:=decide (-2147483648≤r.lo)&&decide (r.hi≤2147483647)
theorem first_fail {p:Nat→Bool}:∀ n,(∃ k,k<n∧p k=false)→∃ m,m<n∧p m=false∧∀ k,k<m→p k=true
 | 0,⟨k,h,_⟩=>by omega
 | n+1,⟨k,h,hp⟩=>by
  by_cases hq:∃ k,k<n∧p k=false
  ·obtain ⟨m,h1,h2,h3⟩:=first_fail n hq;exact ⟨m,by omega,h2,h3⟩
  ·have hk:k=n:=by
    apply cbc;intro hne;exact hq ⟨k,by omega,hp⟩
   subst hk
   refine ⟨k,by omega,hp,fun j hj=>?_⟩
   cases hpj:p j with
   | true=>rfl
   | false=>exact absurd ⟨j,hj,hpj⟩ hq
theorem all_or (p:Nat→Bool) (n:Nat):(∀ k,k<n→p k=true)∨∃ m,m<n∧p m=false∧∀ k,k<m→p k=true:=by
 by_cases hq:∃ k,k<n∧p k=false
 ·exact .inr (first_fail n hq)
 ·refine .inl fun k hk=>?_
  cases hpk:p k with
  | true=>rfl
  | false=>exact absurd ⟨k,hk,hpk⟩ hq
theorem all_getD {α:Type} [Inhabited α] {l:List α} {p:α→Bool}:l.all p=true↔∀ k,k<l.length→p (l.getD k default)=true:=by
 rw[List.all_eq_true]
 constructor
 ·intro h k hk
  rw[AN_,S_ hk];exact h _ (List.getElem_mem hk)
 ·intro h x hx
  obtain ⟨i,hi,rfl⟩:=List.getElem_of_mem hx
  have:=h i hi
  rwa [AN_,S_ hi] at this
noncomputable def holds_ly_I (l:List Rng) (k:Nat):VS:=stt 20 [(5,.sl 2 (l.map rngC)),(6,i64 l.length),(7,i64 k)] []
noncomputable def holds_ly_Z (l:List Rng):VS:=holds_ly_I l (l.length)
theorem holds_ly_s (l:List Rng) (hl:l.length≤1000000) (h:∀ k,k<l.length→holdB (l.getD k default)=true) (k:Nat) (hk:k<l.length):VT L_ (fnC Tryz.f130 [1,0,1,0,0]) (holds_ly_I l k) .normal (holds_ly_I l (k+1)):=by
 have q:=h k hk
 simp only[holdB,M_,E_] at q
 have oz2:=(map_at (rngC) (default) (l:=l) (i:=k) hk)
 have oz3:=(decide_eq_false (p:=((l.getD k default).lo < -2147483648)) (by omega))
 exact tR_ [r_,b_,.r [] [.row (sO oz2)],.r [] [e_,e_,e_,f_],d_,.r [] [.n ((↑k:Int)+1)]] [.any (rg [(4,1),(8,12)]),.drop [4],.weak 7 (i64 (↑(k+1):Int)),.sort] (.c8 (decide_eq_true (p:=((↑k:Int)<(l.length:Int))) (by omega)) (s_ (0≤(↑k:Int))) oz2 oz3 oz3 oz3 oz3 (decide_eq_false (p:=((l.getD k default).hi>2147483647)) (by omega))<|.d2 (i6n ((↑k:Int)+1) (by omega)) (wS_ k))
theorem holds_ly_e (l:List Rng) (hl:l.length≤1000000) (h:∀ k,k<l.length→holdB (l.getD k default)=true):VT L_ (fnC Tryz.f130 [1,0,1,0,0]) (holds_ly_I l (l.length)) (.exit 0) (holds_ly_Z l):=by
 exact tR_ [r_,d_] [.any [8],.sort] (.d (decide_eq_false (p:=((l.length:Int)<(l.length:Int))) (by omega)))
theorem holds_ly (l:List Rng) (hl:l.length≤1000000) (h:∀ k,k<l.length→holdB (l.getD k default)=true):VT L_ (fnC Tryz.f130 [1,0,1,0]) (holds_ly_I l 0) (.exit 0) (holds_ly_Z l) :=
 VT.loop (fun k=>holds_ly_I l k) (l.length) (fun k hk=>holds_ly_s l hl h k hk) (holds_ly_e l hl h) (by intro h;cases h)
noncomputable def holds_ln_I (l:List Rng) (m:Nat) (k:Nat):VS:=stt 20 [(5,.sl 2 (l.map rngC)),(6,i64 l.length),(7,i64 k)] []
noncomputable def holds_ln_Z (l:List Rng) (m:Nat):VS:=stt 20 [(2,bv false)] []
theorem holds_ln_s (l:List Rng) (m:Nat) (hl:l.length≤1000000) (hm:m<l.length) (hf:holdB (l.getD m default)=false) (h:∀ k,k<m→holdB (l.getD k default)=true) (k:Nat) (hk:k<m):VT L_ (fnC Tryz.f130 [1,0,1,0,0]) (holds_ln_I l m k) .normal (holds_ln_I l m (k+1)):=by
 have q:=h k hk
 simp only[holdB,M_,E_] at q
 have oz2:=(map_at (rngC) (default) (l:=l) (i:=k) (by omega))
 have oz3:=(decide_eq_false (p:=((l.getD k default).lo < -2147483648)) (by omega))
 exact tR_ [r_,b_,.r [] [.row (sO oz2)],.r [] [e_,e_,e_,f_],d_,.r [] [.n ((↑k:Int)+1)]] [.any (rg [(4,1),(8,12)]),.drop [4],.weak 7 (i64 (↑(k+1):Int)),.sort] (.c8 (decide_eq_true (p:=((↑k:Int)<(l.length:Int))) (by omega)) (s_ (0≤(↑k:Int))) oz2 oz3 oz3 oz3 oz3 (decide_eq_false (p:=((l.getD k default).hi>2147483647)) (by omega))<|.d2 (i6n ((↑k:Int)+1) (by omega)) (wS_ k))
theorem holds_ln_e (l:List Rng) (m:Nat) (hl:l.length≤1000000) (hm:m<l.length) (hf:holdB (l.getD m default)=false) (h:∀ k,k<m→holdB (l.getD k default)=true):VT L_ (fnC Tryz.f130 [1,0,1,0,0]) (holds_ln_I l m (m)) (.ret) (holds_ln_Z l m):=by
 simp only[holdB,P_,F_] at hf
 have oz2:=(map_at (rngC) (default) (l:=l) (i:=m) hm)
 exact tR_ [r_,b_,.r [] [.row (sO oz2)],.r [] [o_,o_,o_,.sel 1],b_,r_] [.any (rg [(4,11),(18,1)]),.drop [4],.sort] (.d4 (decide_eq_true (p:=((↑m:Int)<(l.length:Int))) (by omega)) (s_ (0≤(↑m:Int))) oz2 (show (decide ((l.getD m default).lo < -2147483648) || decide ((l.getD m default).hi>2147483647))=true by (simp at *;omega)))
theorem holds_ln (l:List Rng) (m:Nat) (hl:l.length≤1000000) (hm:m<l.length) (hf:holdB (l.getD m default)=false) (h:∀ k,k<m→holdB (l.getD k default)=true):VT L_ (fnC Tryz.f130 [1,0,1,0]) (holds_ln_I l m 0) (.ret) (holds_ln_Z l m) :=
 VT.loop (fun k=>holds_ln_I l m k) (m) (fun k hk=>holds_ln_s l m hl hm hf h k hk) (holds_ln_e l m hl hm hf h) (by intro h;cases h)
theorem holds_y (l:List Rng) (hl:l.length≤1000000) (h:∀ k,k<l.length→holdB (l.getD k default)=true):VC L_ 130 ([.sl 2 (l.map rngC)]) (bv true):=by
 have oz2:=@holds_ly (l) hl h
 exact cR_ [r_,r_,.code [.any [0,2],.weak 6 (i64 (l.length:Int)),.weak 7 (i64 (↑0:Int)),.sort] (BM_ 0) (zO oz2),r_] _ Tryz.func130 (.d3 (N_ (k:=.i64) (show ((((K_ rngC l).length:Int)):Int)=((l.length:Int)) from (by (simp;done)))) w0_ oz2)
theorem holds_n (l:List Rng) (m:Nat) (hl:l.length≤1000000) (hm:m<l.length) (hf:holdB (l.getD m default)=false) (h:∀ k,k<m→holdB (l.getD k default)=true):VC L_ 130 ([.sl 2 (l.map rngC)]) (bv false):=by
 have oz2:=@holds_ln (l) (m) hl hm hf h
 exact cR_ [r_,r_,.code [.any [0,2],.weak 6 (i64 (l.length:Int)),.weak 7 (i64 (↑0:Int)),.sort] (Exit.ret) (zO oz2)] _ Tryz.func130 (.d3 (N_ (k:=.i64) (show ((((K_ rngC l).length:Int)):Int)=((l.length:Int)) from (by (simp;done)))) w0_ oz2)
theorem holds_v (l:List Rng) (hl:l.length≤1000000):VC L_ 130 [.sl 2 (l.map rngC)] (bv (l.all holdB)):=by
 rcases all_or (fun k=>holdB (l.getD k default)) l.length with h|⟨m,h1,h2,h3⟩
 ·rw[all_getD.2 h];exact holds_y l hl h
 ·have:l.all holdB=false:=by
   cases e:l.all holdB with
   | false=>rfl
   | true=>have:=all_getD.1 e m h1;exact absurd (this.symm.trans h2) (by simp)
  rw[this];exact holds_n l m hl h1 h2 h3
theorem z0_:true=true:=rfl
theorem clone32_a   : VC L_ 73 ([nilv]) (ints .i32 []):=by
 exact (cR_ [r_,r_,b_,r_] (AV.lit (AC_ none 0 0)) Tryz.func73 (.d z0_)).weak (D_ _) (Weak.nil _)
theorem z1_:false=false:=rfl
theorem z2_:(0:Nat)+(0:Nat)≤(9223372036854775807:Nat):=by omega
theorem clone32_b (a:Addr) (cap:Nat) (h:cap≤maxLen):VC L_ 73 ([.lit (.slice (some a) 0 cap)]) (ints .i32 []):=by
 exact cR_ [r_,r_,d_,.r [] [.code Exit.normal (VS.mk [AV.sl 1 []] [])]] _ Tryz.func73 (.d4 z1_ (show Weak (AV.lit (AC_ (some a) 0 cap)) (AV.sl 1 []) from (Weak.empty _ _ (by assumption))) (s_ (((0:Nat)+(0:Nat))*(4:Nat)≤(140737488355328:Nat))) z2_)
theorem clone32_c (l:List Int) (h:l≠[]) (hl:l.length≤1000000):VC L_ 73 ([ints .i32 l]) (ints .i32 l):=by
 exact (cR_ [r_,r_,d_,r_] (AV.sl 1 ([]++K_ (row1 .i32) l)) Tryz.func73 (.d4 (show K_ (row1 .i32) l≠[] by (simp;omega)) z1_ (show (0+(K_ (row1 .i32) l).length)*4≤140737488355328 by (simp;omega)) (show 0+(K_ (row1 .i32) l).length≤9223372036854775807 by (simp;omega)))).weak (D_ _) (Weak.rows (rows_to (row1 .i32) (r:=[]++K_ (row1 .i32) l) (l:=[]++l) (m:=l) (by first|(simp only[X_,Z_,AP_,AR_,U_,AK_,AL_];done)|rfl|(simp only[X_,Z_,AP_,AR_,U_,AK_,AL_];rfl)) (show ([]++l)=(l) from (by (simp;done)))))
theorem clone32_v (l:List Int) (hl:l.length≤1000000):VC L_ 73 [ints .i32 l] (ints .i32 l):=by
 cases l with
 | nil=>exact VC.empty1 clone32_a fun a cap h=>clone32_b a cap h
 | cons x l=>exact clone32_c _ (by simp) hl
theorem clone8_a   : VC L_ 72 ([nilv]) (ints .i8 []):=by
 exact (cR_ [r_,r_,b_,r_] (AV.lit (AC_ none 0 0)) Tryz.func72 (.d z0_)).weak (D_ _) (Weak.nil _)
theorem clone8_b (a:Addr) (cap:Nat) (h:cap≤maxLen):VC L_ 72 ([.lit (.slice (some a) 0 cap)]) (ints .i8 []):=by
 exact cR_ [r_,r_,d_,.r [] [.code Exit.normal (VS.mk [AV.sl 1 []] [])]] _ Tryz.func72 (.d4 z1_ (show Weak (AV.lit (AC_ (some a) 0 cap)) (AV.sl 1 []) from (Weak.empty _ _ (by assumption))) (s_ (((0:Nat)+(0:Nat))*(1:Nat)≤(140737488355328:Nat))) z2_)
theorem clone8_c (l:List Int) (h:l≠[]) (hl:l.length≤1000000):VC L_ 72 ([ints .i8 l]) (ints .i8 l):=by
 exact (cR_ [r_,r_,d_,r_] (AV.sl 1 ([]++K_ (row1 .i8) l)) Tryz.func72 (.d4 (show K_ (row1 .i8) l≠[] by (simp;omega)) z1_ (show (0+(K_ (row1 .i8) l).length)*1≤140737488355328 by (simp;omega)) (show 0+(K_ (row1 .i8) l).length≤9223372036854775807 by (simp;omega)))).weak (D_ _) (Weak.rows (rows_to (row1 .i8) (r:=[]++K_ (row1 .i8) l) (l:=[]++l) (m:=l) (by first|(simp only[X_,Z_,AP_,AR_,U_,AK_,AL_];done)|rfl|(simp only[X_,Z_,AP_,AR_,U_,AK_,AL_];rfl)) (show ([]++l)=(l) from (by (simp;done)))))
theorem clone8_v (l:List Int) (hl:l.length≤1000000):VC L_ 72 [ints .i8 l] (ints .i8 l):=by
 cases l with
 | nil=>exact VC.empty1 clone8_a fun a cap h=>clone8_b a cap h
 | cons x l=>exact clone8_c _ (by simp) hl
def kindNames:List ByteArray:=[⟨#[]⟩,⟨#[99,111,110,118]⟩,⟨#[100,101,112,116,104]⟩,⟨#[100,101,110,115,101]⟩,⟨#[109,97,120,112,111,111,108]⟩,⟨#[97,118,103,112,111,111,108]⟩,⟨#[106,111,105,110]⟩,⟨#[97,99,116]⟩,⟨#[112,97,100]⟩,⟨#[102,108,97,116]⟩]
def nameS (k:Int):ByteArray:=kindNames.getD k.toNat ⟨#[]⟩
abbrev strv (s:ByteArray):AV:=.lit (.string s)
theorem name_row {k:Int} (h1:k<10):([[strv ⟨#[]⟩],[strv ⟨#[99,111,110,118]⟩],[strv ⟨#[100,101,112,116,104]⟩],[strv ⟨#[100,101,110,115,101]⟩],[strv ⟨#[109,97,120,112,111,111,108]⟩],[strv ⟨#[97,118,103,112,111,111,108]⟩],[strv ⟨#[106,111,105,110]⟩],[strv ⟨#[97,99,116]⟩],[strv ⟨#[112,97,100]⟩],[strv ⟨#[102,108,97,116]⟩]]:List (List AV))[k.toNat]? = some [strv (nameS k)] :=
 map_at (fun s=>[strv s]) ⟨#[]⟩ (l:=kindNames) (i:=k.toNat) (by show k.toNat<10;omega)
theorem name_out {k:Int} (h:k<0∨10≤k):nameS k=⟨#[]⟩:=by
 unfold nameS
 rcases h with h|h
 ·rw[show k.toNat=0 by omega];rfl
 ·rw[AN_,BZ_ (by show 10≤k.toNat;omega)];rfl
theorem name_in {k:Int} (h0:1≤k) (h1:k≤9):nameS k≠⟨#[]⟩:=by
 have:k=1∨k=2∨k=3∨k=4∨k=5∨k=6∨k=7∨k=8∨k=9:=by omega
 rcases this with rfl|rfl|rfl|rfl|rfl|rfl|rfl|rfl|rfl<;>(intro h;exact absurd (congrArg (fun b:ByteArray=>b.size) h) (by decide))
theorem nameEq_in {k:Int} (h0:1≤k) (h1:k≤9):((nameS k).toList==(ByteArray.mk #[]).toList)=false:=by
 have:k=1∨k=2∨k=3∨k=4∨k=5∨k=6∨k=7∨k=8∨k=9:=by omega
 have e1:((nameS 1).toList==(ByteArray.mk #[]).toList)=false:=by kernel_rfl
 have e2:((nameS 2).toList==(ByteArray.mk #[]).toList)=false:=by kernel_rfl
 have e3:((nameS 3).toList==(ByteArray.mk #[]).toList)=false:=by kernel_rfl
 have e4:((nameS 4).toList==(ByteArray.mk #[]).toList)=false:=by kernel_rfl
 have e5:((nameS 5).toList==(ByteArray.mk #[]).toList)=false:=by kernel_rfl
 have e6:((nameS 6).toList==(ByteArray.mk #[]).toList)=false:=by kernel_rfl
 have e7:((nameS 7).toList==(ByteArray.mk #[]).toList)=false:=by kernel_rfl
 have e8:((nameS 8).toList==(ByteArray.mk #[]).toList)=false:=by kernel_rfl
 have e9:((nameS 9).toList==(ByteArray.mk #[]).toList)=false:=by kernel_rfl
 rcases this with rfl|rfl|rfl|rfl|rfl|rfl|rfl|rfl|rfl<;>assumption
theorem nameEq_out {k:Int} (h:k<1∨9<k):((nameS k).toList==(ByteArray.mk #[]).toList)=true:=by
 have:nameS k=⟨#[]⟩:=by
  by_cases h0:k=0
  ·subst h0;rfl
  ·exact name_out (by omega)
 rw[this];exact beq_self_eq_true _
theorem name_v (k:Int) (hk:In64 k):VC L_ 25 ([i64 k]) (strv (nameS k)):=by
 rcases bft (decide (k<0) || decide (k≥10)) with hc0|hc0
 ·have gc0:k<0∨k≥10:=gc0_ hc0
  exact (cR_ [r_,r_,.r [] [o_,o_,.sel 1],b_,r_] (AV.lit (Q_ (ByteArray.mk #[]))) Tryz.func25 (.d hc0)).weak (D_ _) (Weak.str (show ((ByteArray.mk #[]):ByteArray)=(nameS k) from (by (rw[name_out (by omega)]))))
 ·have gc0:¬k<0∧¬k≥10:=gc0_ hc0
  have oz3:=(show [[AV.lit (Q_ (ByteArray.mk #[]))],[AV.lit (Q_ (ByteArray.mk #[99,111,110,118]))],[AV.lit (Q_ (ByteArray.mk #[100,101,112,116,104]))],[AV.lit (Q_ (ByteArray.mk #[100,101,110,115,101]))],[AV.lit (Q_ (ByteArray.mk #[109,97,120,112,111,111,108]))],[AV.lit (Q_ (ByteArray.mk #[97,118,103,112,111,111,108]))],[AV.lit (Q_ (ByteArray.mk #[106,111,105,110]))],[AV.lit (Q_ (ByteArray.mk #[97,99,116]))],[AV.lit (Q_ (ByteArray.mk #[112,97,100]))],[AV.lit (Q_ (ByteArray.mk #[102,108,97,116]))]][k.toNat]? = some [strv (nameS k)] by (exact name_row (by omega)))
  exact cR_ [r_,r_,.r [] [o_,o_,.sel 1],d_,.r [] [.row (sO oz3)]] _ Tryz.func25 (.d4 hc0 (s_ (0≤k)) (s_ (k<(↑10:Int))) oz3)
theorem refName_v (k:Int) (hk:In64 k):VC L_ 27 ([i64 k]) (strv (nameS k)):=by
 rcases bft (decide (k<0) || decide (k>9)) with hc0|hc0
 ·have gc0:k<0∨k>9:=gc0_ hc0
  exact (cR_ [r_,r_,.r [] [o_,o_,.sel 1],b_,r_] (AV.lit (Q_ (ByteArray.mk #[]))) Tryz.func27 (.d hc0)).weak (D_ _) (Weak.str (show ((ByteArray.mk #[]):ByteArray)=(nameS k) from (by (rw[name_out (by omega)]))))
 ·have gc0:¬k<0∧¬k>9:=gc0_ hc0
  have oz3:=(show [[AV.lit (Q_ (ByteArray.mk #[]))],[AV.lit (Q_ (ByteArray.mk #[99,111,110,118]))],[AV.lit (Q_ (ByteArray.mk #[100,101,112,116,104]))],[AV.lit (Q_ (ByteArray.mk #[100,101,110,115,101]))],[AV.lit (Q_ (ByteArray.mk #[109,97,120,112,111,111,108]))],[AV.lit (Q_ (ByteArray.mk #[97,118,103,112,111,111,108]))],[AV.lit (Q_ (ByteArray.mk #[106,111,105,110]))],[AV.lit (Q_ (ByteArray.mk #[97,99,116]))],[AV.lit (Q_ (ByteArray.mk #[112,97,100]))],[AV.lit (Q_ (ByteArray.mk #[102,108,97,116]))]][k.toNat]? = some [strv (nameS k)] by (exact name_row (by omega)))
  exact cR_ [r_,r_,.r [] [o_,o_,.sel 1],d_,.r [] [.row (sO oz3)]] _ Tryz.func27 (.d4 hc0 (s_ (0≤k)) (s_ (k<(↑10:Int))) oz3)
theorem getD_ext {l m:List Int} (hl:l.length=m.length) (h:∀ k,k<l.length→(l.getD k 0==m.getD k 0)=true):l=m:=by
 apply List.ext_getElem hl
 intro i h1 h2
 have:=h i h1
 rw[I_,AN_,AN_,S_ h1,S_ h2] at this
 simpa using this
theorem list_cases (l m:List Int):l.length≠m.length∨l=m∨(l.length=m.length∧∃ k,k<l.length∧l.getD k 0≠m.getD k 0∧∀ j,j<k→l.getD j 0=m.getD j 0):=by
 by_cases hl:l.length=m.length
 ·rcases all_or (fun k=>l.getD k 0==m.getD k 0) l.length with h|⟨k,h1,h2,h3⟩
  ·exact .inr (.inl (getD_ext hl h))
  ·exact .inr (.inr ⟨hl,k,h1,by simpa using h2,fun j hj=>by simpa using h3 j hj⟩)
 ·exact .inl hl
theorem VC.alike {P:Program} {f:Nat} {k:IntKind} {l m:List Int} (h1:l.length≠m.length→VC P f [ints k l,ints k m] (bv false)) (h2:VC P f [ints k l,ints k l] (bv true)) (h3:∀ i,l.length=m.length→i<l.length→l.getD i 0≠m.getD i 0→(∀ j,j<i→l.getD j 0=m.getD j 0)→VC P f [ints k l,ints k m] (bv false)):VC P f [ints k l,ints k m] (bv (decide (l=m))):=by
 rcases list_cases l m with h|rfl|⟨h,i,a,b,c⟩
 ·rw[decide_eq_false (fun e=>h (by rw[e]))];exact h1 h
 ·rw[decide_eq_true rfl];exact h2
 ·rw[decide_eq_false (fun e=>b (by rw[e]))];exact h3 i h a b c
noncomputable def eq8_ly_I (l:List Int) (k:Nat):VS:=stt 26 [(0,ints .i8 l),(1,ints .i8 l),(12,i64 l.length),(13,i64 k)] []
noncomputable def eq8_ly_Z (l:List Int):VS:=eq8_ly_I l (l.length)
theorem eq8_ly_s (l:List Int) (hl:l.length≤1000000) (k:Nat) (hk:k<l.length):VT L_ (fnC Tryz.f131 [1,1,0,1,0,0]) (eq8_ly_I l k) .normal (eq8_ly_I l (k+1)):=by
 have oz1:=(s_ (0≤(↑k:Int)))
 have oz2:=(map_at (row1 .i8) (0) (l:=l) (i:=k) hk)
 exact tR_ [r_,b_,r_,.r [] [.row (sO oz2),.row (sO oz2)],d_,.r [] [.n ((↑k:Int)+1)]] [.any (rg [(5,1),(14,12)]),.weak 13 (i64 (↑(k+1):Int)),.sort] (.d8 (decide_eq_true (p:=((↑k:Int)<(l.length:Int))) (by omega)) oz1 oz2 oz1 oz2 (show (l.getD k 0 != l.getD k 0)=false by (simp;done)) (i6n ((↑k:Int)+1) (by omega)) (wS_ k))
theorem eq8_ly_e (l:List Int) (hl:l.length≤1000000):VT L_ (fnC Tryz.f131 [1,1,0,1,0,0]) (eq8_ly_I l (l.length)) (.exit 0) (eq8_ly_Z l):=by
 exact tR_ [r_,d_] [.any [14],.sort] (.d (decide_eq_false (p:=((l.length:Int)<(l.length:Int))) (by omega)))
theorem eq8_ly (l:List Int) (hl:l.length≤1000000):VT L_ (fnC Tryz.f131 [1,1,0,1,0]) (eq8_ly_I l 0) (.exit 0) (eq8_ly_Z l) :=
 VT.loop (fun k=>eq8_ly_I l k) (l.length) (fun k hk=>eq8_ly_s l hl k hk) (eq8_ly_e l hl) (by intro h;cases h)
noncomputable def eq8_ln_I (l m:List Int) (i:Nat) (k:Nat):VS:=stt 26 [(0,ints .i8 l),(1,ints .i8 m),(12,i64 l.length),(13,i64 k)] []
noncomputable def eq8_ln_Z (l m:List Int) (i:Nat):VS:=stt 26 [(4,bv false)] []
theorem eq8_ln_s (l m:List Int) (i:Nat) (hl:l.length≤1000000) (hm:l.length=m.length) (hi:i<l.length) (hne:l.getD i 0≠m.getD i 0) (h:∀ j,j<i→l.getD j 0=m.getD j 0) (k:Nat) (hk:k<i):VT L_ (fnC Tryz.f131 [1,1,0,1,0,0]) (eq8_ln_I l m i k) .normal (eq8_ln_I l m i (k+1)):=by
 have q:=h k hk
 have oz1:=(s_ (0≤(↑k:Int)))
 exact tR_ [r_,b_,r_,.r [] [.row [i8 (l.getD k 0)],.row [i8 (m.getD k 0)]],d_,.r [] [.n ((↑k:Int)+1)]] [.any (rg [(5,1),(14,12)]),.weak 13 (i64 (↑(k+1):Int)),.sort] (.d8 (decide_eq_true (p:=((↑k:Int)<(l.length:Int))) (by omega)) oz1 (map_at (row1 .i8) (0) (l:=l) (i:=k) (by omega)) oz1 (map_at (row1 .i8) (0) (l:=m) (i:=k) (by omega)) (show (l.getD k 0 != m.getD k 0)=false by (simp at *;omega)) (i6n ((↑k:Int)+1) (by omega)) (wS_ k))
theorem eq8_ln_e (l m:List Int) (i:Nat) (hl:l.length≤1000000) (hm:l.length=m.length) (hi:i<l.length) (hne:l.getD i 0≠m.getD i 0) (h:∀ j,j<i→l.getD j 0=m.getD j 0):VT L_ (fnC Tryz.f131 [1,1,0,1,0,0]) (eq8_ln_I l m i (i)) (.ret) (eq8_ln_Z l m i):=by
 have oz1:=(s_ (0≤(↑i:Int)))
 exact tR_ [r_,b_,r_,.r [] [.row [i8 (l.getD i 0)],.row [i8 (m.getD i 0)]],b_,r_] [.any (rg [(0,2),(5,1),(12,13)]),.sort] (.d6 (decide_eq_true (p:=((↑i:Int)<(l.length:Int))) (by omega)) oz1 (map_at (row1 .i8) (0) (l:=l) (i:=i) hi) oz1 (map_at (row1 .i8) (0) (l:=m) (i:=i) (by omega)) (show (l.getD i 0 != m.getD i 0)=true by (simp at *;omega)))
theorem eq8_ln (l m:List Int) (i:Nat) (hl:l.length≤1000000) (hm:l.length=m.length) (hi:i<l.length) (hne:l.getD i 0≠m.getD i 0) (h:∀ j,j<i→l.getD j 0=m.getD j 0):VT L_ (fnC Tryz.f131 [1,1,0,1,0]) (eq8_ln_I l m i 0) (.ret) (eq8_ln_Z l m i) :=
 VT.loop (fun k=>eq8_ln_I l m i k) (i) (fun k hk=>eq8_ln_s l m i hl hm hi hne h k hk) (eq8_ln_e l m i hl hm hi hne h) (by intro h;cases h)
theorem eq8_d (l m:List Int) (hl:l.length≤1000000) (hm:l.length≠m.length):VC L_ 131 ([ints .i8 l,ints .i8 m]) (bv false):=by
 exact cR_ [r_,r_,b_,r_] _ Tryz.func131 (.d (show (((K_ (row1 .i8) l).length:Int) != ((K_ (row1 .i8) m).length:Int))=true by (simp;omega)))
theorem eq8_y (l:List Int) (hl:l.length≤1000000):VC L_ 131 ([ints .i8 l,ints .i8 l]) (bv true):=by
 have oz1:=(N_ (k:=.i64) (show ((((K_ (row1 .i8) l).length:Int)):Int)=((l.length:Int)) from (by (simp;done))))
 have oz3:=@eq8_ly (l) hl
 exact cR_ [r_,r_,d_,r_,.code [.any (rg [(4,1),(6,6)]),.weak 12 (wO oz1),.weak 13 (i64 (↑0:Int)),.sort] (BM_ 0) (zO oz3),r_] _ Tryz.func131 (.d4 (show (((K_ (row1 .i8) l).length:Int) != ((K_ (row1 .i8) l).length:Int))=false by (simp;done)) oz1 w0_ oz3)
theorem eq8_n (l m:List Int) (i:Nat) (hl:l.length≤1000000) (hm:l.length=m.length) (hi:i<l.length) (hne:l.getD i 0≠m.getD i 0) (h:∀ j,j<i→l.getD j 0=m.getD j 0):VC L_ 131 ([ints .i8 l,ints .i8 m]) (bv false):=by
 have oz1:=(N_ (k:=.i64) (show ((((K_ (row1 .i8) l).length:Int)):Int)=((l.length:Int)) from (by (simp;done))))
 have oz3:=@eq8_ln (l) (m) (i) hl hm hi hne h
 exact cR_ [r_,r_,d_,r_,.code [.any (rg [(4,1),(6,6)]),.weak 12 (wO oz1),.weak 13 (i64 (↑0:Int)),.sort] (Exit.ret) (zO oz3)] _ Tryz.func131 (.d4 (show (((K_ (row1 .i8) l).length:Int) != ((K_ (row1 .i8) m).length:Int))=false by (simp;omega)) oz1 w0_ oz3)
theorem eq8_v (l m:List Int) (hl:l.length≤1000000):VC L_ 131 [ints .i8 l,ints .i8 m] (bv (decide (l=m))) :=
 VC.alike (eq8_d l m hl) (eq8_y l hl) fun i h a b c=>eq8_n l m i hl h a b c
noncomputable def eq32_ly_I (l:List Int) (k:Nat):VS:=stt 26 [(0,ints .i32 l),(1,ints .i32 l),(12,i64 l.length),(13,i64 k)] []
noncomputable def eq32_ly_Z (l:List Int):VS:=eq32_ly_I l (l.length)
theorem eq32_ly_s (l:List Int) (hl:l.length≤1000000) (k:Nat) (hk:k<l.length):VT L_ (fnC Tryz.f132 [1,1,0,1,0,0]) (eq32_ly_I l k) .normal (eq32_ly_I l (k+1)):=by
 have oz1:=(s_ (0≤(↑k:Int)))
 have oz2:=(map_at (row1 .i32) (0) (l:=l) (i:=k) hk)
 exact tR_ [r_,b_,r_,.r [] [.row (sO oz2),.row (sO oz2)],d_,.r [] [.n ((↑k:Int)+1)]] [.any (rg [(5,1),(14,12)]),.weak 13 (i64 (↑(k+1):Int)),.sort] (.d8 (decide_eq_true (p:=((↑k:Int)<(l.length:Int))) (by omega)) oz1 oz2 oz1 oz2 (show (l.getD k 0 != l.getD k 0)=false by (simp;done)) (i6n ((↑k:Int)+1) (by omega)) (wS_ k))
theorem eq32_ly_e (l:List Int) (hl:l.length≤1000000):VT L_ (fnC Tryz.f132 [1,1,0,1,0,0]) (eq32_ly_I l (l.length)) (.exit 0) (eq32_ly_Z l):=by
 exact tR_ [r_,d_] [.any [14],.sort] (.d (decide_eq_false (p:=((l.length:Int)<(l.length:Int))) (by omega)))
theorem eq32_ly (l:List Int) (hl:l.length≤1000000):VT L_ (fnC Tryz.f132 [1,1,0,1,0]) (eq32_ly_I l 0) (.exit 0) (eq32_ly_Z l) :=
 VT.loop (fun k=>eq32_ly_I l k) (l.length) (fun k hk=>eq32_ly_s l hl k hk) (eq32_ly_e l hl) (by intro h;cases h)
noncomputable def eq32_ln_I (l m:List Int) (i:Nat) (k:Nat):VS:=stt 26 [(0,ints .i32 l),(1,ints .i32 m),(12,i64 l.length),(13,i64 k)] []
noncomputable def eq32_ln_Z (l m:List Int) (i:Nat):VS:=stt 26 [(4,bv false)] []
theorem eq32_ln_s (l m:List Int) (i:Nat) (hl:l.length≤1000000) (hm:l.length=m.length) (hi:i<l.length) (hne:l.getD i 0≠m.getD i 0) (h:∀ j,j<i→l.getD j 0=m.getD j 0) (k:Nat) (hk:k<i):VT L_ (fnC Tryz.f132 [1,1,0,1,0,0]) (eq32_ln_I l m i k) .normal (eq32_ln_I l m i (k+1)):=by
 have q:=h k hk
 have oz1:=(s_ (0≤(↑k:Int)))
 exact tR_ [r_,b_,r_,.r [] [.row [i32 (l.getD k 0)],.row [i32 (m.getD k 0)]],d_,.r [] [.n ((↑k:Int)+1)]] [.any (rg [(5,1),(14,12)]),.weak 13 (i64 (↑(k+1):Int)),.sort] (.d8 (decide_eq_true (p:=((↑k:Int)<(l.length:Int))) (by omega)) oz1 (map_at (row1 .i32) (0) (l:=l) (i:=k) (by omega)) oz1 (map_at (row1 .i32) (0) (l:=m) (i:=k) (by omega)) (show (l.getD k 0 != m.getD k 0)=false by (simp at *;omega)) (i6n ((↑k:Int)+1) (by omega)) (wS_ k))
theorem eq32_ln_e (l m:List Int) (i:Nat) (hl:l.length≤1000000) (hm:l.length=m.length) (hi:i<l.length) (hne:l.getD i 0≠m.getD i 0) (h:∀ j,j<i→l.getD j 0=m.getD j 0):VT L_ (fnC Tryz.f132 [1,1,0,1,0,0]) (eq32_ln_I l m i (i)) (.ret) (eq32_ln_Z l m i):=by
 have oz1:=(s_ (0≤(↑i:Int)))
 exact tR_ [r_,b_,r_,.r [] [.row [i32 (l.getD i 0)],.row [i32 (m.getD i 0)]],b_,r_] [.any (rg [(0,2),(5,1),(12,13)]),.sort] (.d6 (decide_eq_true (p:=((↑i:Int)<(l.length:Int))) (by omega)) oz1 (map_at (row1 .i32) (0) (l:=l) (i:=i) hi) oz1 (map_at (row1 .i32) (0) (l:=m) (i:=i) (by omega)) (show (l.getD i 0 != m.getD i 0)=true by (simp at *;omega)))
theorem eq32_ln (l m:List Int) (i:Nat) (hl:l.length≤1000000) (hm:l.length=m.length) (hi:i<l.length) (hne:l.getD i 0≠m.getD i 0) (h:∀ j,j<i→l.getD j 0=m.getD j 0):VT L_ (fnC Tryz.f132 [1,1,0,1,0]) (eq32_ln_I l m i 0) (.ret) (eq32_ln_Z l m i) :=
 VT.loop (fun k=>eq32_ln_I l m i k) (i) (fun k hk=>eq32_ln_s l m i hl hm hi hne h k hk) (eq32_ln_e l m i hl hm hi hne h) (by intro h;cases h)
theorem eq32_d (l m:List Int) (hl:l.length≤1000000) (hm:l.length≠m.length):VC L_ 132 ([ints .i32 l,ints .i32 m]) (bv false):=by
 exact cR_ [r_,r_,b_,r_] _ Tryz.func132 (.d (show (((K_ (row1 .i32) l).length:Int) != ((K_ (row1 .i32) m).length:Int))=true by (simp;omega)))
theorem eq32_y (l:List Int) (hl:l.length≤1000000):VC L_ 132 ([ints .i32 l,ints .i32 l]) (bv true):=by
 have oz1:=(N_ (k:=.i64) (show ((((K_ (row1 .i32) l).length:Int)):Int)=((l.length:Int)) from (by (simp;done))))
 have oz3:=@eq32_ly (l) hl
 exact cR_ [r_,r_,d_,r_,.code [.any (rg [(4,1),(6,6)]),.weak 12 (wO oz1),.weak 13 (i64 (↑0:Int)),.sort] (BM_ 0) (zO oz3),r_] _ Tryz.func132 (.d4 (show (((K_ (row1 .i32) l).length:Int) != ((K_ (row1 .i32) l).length:Int))=false by (simp;done)) oz1 w0_ oz3)
theorem eq32_n (l m:List Int) (i:Nat) (hl:l.length≤1000000) (hm:l.length=m.length) (hi:i<l.length) (hne:l.getD i 0≠m.getD i 0) (h:∀ j,j<i→l.getD j 0=m.getD j 0):VC L_ 132 ([ints .i32 l,ints .i32 m]) (bv false):=by
 have oz1:=(N_ (k:=.i64) (show ((((K_ (row1 .i32) l).length:Int)):Int)=((l.length:Int)) from (by (simp;done))))
 have oz3:=@eq32_ln (l) (m) (i) hl hm hi hne h
 exact cR_ [r_,r_,d_,r_,.code [.any (rg [(4,1),(6,6)]),.weak 12 (wO oz1),.weak 13 (i64 (↑0:Int)),.sort] (Exit.ret) (zO oz3)] _ Tryz.func132 (.d4 (show (((K_ (row1 .i32) l).length:Int) != ((K_ (row1 .i32) m).length:Int))=false by (simp;omega)) oz1 w0_ oz3)
theorem eq32_v (l m:List Int) (hl:l.length≤1000000):VC L_ 132 [ints .i32 l,ints .i32 m] (bv (decide (l=m))) :=
 VC.alike (eq32_d l m hl) (eq32_y l hl) fun i h a b c=>eq32_n l m i hl h a b c
theorem sumsK_v (k:Int)  : VC L_ 133 ([i64 k]) (bv ((k==1 || k==2) || k==3)):=by
 exact cR_ [r_,.r [] [o_,o_,.sel 1,o_,o_,.sel 1]] _ Tryz.func133 (.n)
theorem scaledK_v (k:Int)  : VC L_ 110 ([i64 k]) (bv (((k==1 || k==2) || k==3) || k==6 || k==7)):=by
 have oz0:=@sumsK_v (k)
 exact cR_ [r_,.r [] [cr oz0,o_,o_,.sel 1,o_,o_,.sel 1]] _ Tryz.func110 (.d oz0)
def plainN (n:Nod):Nod:=if n.kd=1 then ⟨n.kd,n.na,0,n.nk,n.ns,n.np,n.no,n.za,0,n.w,n.b,n.qm,n.qs,n.qz,0,0,0,n.lo,n.hi⟩ else if n.kd=2 then ⟨n.kd,n.na,0,n.nk,n.ns,n.np,0,n.za,0,n.w,n.b,n.qm,n.qs,n.qz,0,0,0,n.lo,n.hi⟩ else if n.kd=3 then ⟨n.kd,n.na,0,0,0,0,n.no,n.za,0,n.w,n.b,n.qm,n.qs,n.qz,0,0,0,n.lo,n.hi⟩ else if n.kd=4 then ⟨n.kd,n.na,0,n.nk,n.ns,n.np,0,0,0,[],[],0,0,0,0,0,0,0,0⟩ else if n.kd=5 then ⟨n.kd,n.na,0,n.nk,n.ns,n.np,0,0,0,[],[],0,0,0,0,0,0,0,0⟩ else if n.kd=6 then ⟨n.kd,n.na,n.nb,0,0,0,0,n.za,n.zb,[],[],n.qm,n.qs,n.qz,n.rm,n.rs,0,n.lo,n.hi⟩ else if n.kd=7 then ⟨n.kd,n.na,0,0,0,0,0,n.za,0,[],[],n.qm,n.qs,n.qz,0,0,0,n.lo,n.hi⟩ else if n.kd=8 then ⟨n.kd,n.na,0,0,0,n.np,0,n.za,0,[],[],0,0,0,0,0,0,0,0⟩ else ⟨n.kd,n.na,0,0,0,0,0,0,0,[],[],0,0,0,0,0,0,0,0⟩
theorem plain1 (n:Nod) (hk:n.kd=1) (hw:n.w.length≤100000) (hb:n.b.length≤100000):VC L_ 109 ([nod n]) (nod ⟨n.kd,n.na,0,n.nk,n.ns,n.np,n.no,n.za,0,n.w,n.b,n.qm,n.qs,n.qz,0,0,0,n.lo,n.hi⟩):=by
 have hk1:In64 n.kd:=⟨by omega,by omega⟩
 have hs:=nameEq_in (k:=n.kd) (by omega) (by omega)
 have oz0:=@name_v (n.kd) hk1
 have oz3:=@clone8_v (n.w) (by omega)
 have oz4:=@clone32_v (n.b) (by omega)
 have oz5:=@scaledK_v (n.kd)
 exact cR_ [r_,.r [] [cr oz0],d_,r_,r_,r_,b_,r_,.r [] [cr oz3,cr oz4],r_,.r [] [cr oz5],b_,r_,r_] _ Tryz.func109 (.d7 oz0 hs (show (n.kd==1)=true by (refine decide_eq_true ?_;omega)) oz3 oz4 oz5 (show (n.kd==1 || n.kd==2 || n.kd==3 || n.kd==6 || n.kd==7)=true by (simp;omega)))
theorem plain2 (n:Nod) (hk:n.kd=2) (hw:n.w.length≤100000) (hb:n.b.length≤100000):VC L_ 109 ([nod n]) (nod ⟨n.kd,n.na,0,n.nk,n.ns,n.np,0,n.za,0,n.w,n.b,n.qm,n.qs,n.qz,0,0,0,n.lo,n.hi⟩):=by
 have hk1:In64 n.kd:=⟨by omega,by omega⟩
 have hs:=nameEq_in (k:=n.kd) (by omega) (by omega)
 have oz0:=@name_v (n.kd) hk1
 have oz4:=@clone8_v (n.w) (by omega)
 have oz5:=@clone32_v (n.b) (by omega)
 have oz6:=@scaledK_v (n.kd)
 exact cR_ [r_,.r [] [cr oz0],d_,r_,r_,r_,d_,r_,b_,.r [] [cr oz4,cr oz5],r_,.r [] [cr oz6],b_,r_,r_] _ Tryz.func109 (.d8 oz0 hs (show (n.kd==1)=false by (refine decide_eq_false ?_;omega)) (show (n.kd==2)=true by (refine decide_eq_true ?_;omega)) oz4 oz5 oz6 (show (n.kd==1 || n.kd==2 || n.kd==3 || n.kd==6 || n.kd==7)=true by (simp;omega)))
theorem plain3 (n:Nod) (hk:n.kd=3) (hw:n.w.length≤100000) (hb:n.b.length≤100000):VC L_ 109 ([nod n]) (nod ⟨n.kd,n.na,0,0,0,0,n.no,n.za,0,n.w,n.b,n.qm,n.qs,n.qz,0,0,0,n.lo,n.hi⟩):=by
 have hk1:In64 n.kd:=⟨by omega,by omega⟩
 have hs:=nameEq_in (k:=n.kd) (by omega) (by omega)
 have oz0:=@name_v (n.kd) hk1
 have oz7:=@clone8_v (n.w) (by omega)
 have oz8:=@clone32_v (n.b) (by omega)
 have oz9:=@scaledK_v (n.kd)
 exact cR_ [r_,.r [] [cr oz0],d_,r_,r_,r_,d_,r_,d_,r_,d_,r_,d_,r_,b_,.r [] [cr oz7,cr oz8],.r [] [cr oz9],b_,r_,r_] _ Tryz.func109 (.c8 oz0 hs (show (n.kd==1)=false by (refine decide_eq_false ?_;omega)) (show (n.kd==2)=false by (refine decide_eq_false ?_;omega)) (show (n.kd==4)=false by (refine decide_eq_false ?_;omega)) (show (n.kd==5)=false by (refine decide_eq_false ?_;omega)) (show (n.kd==3)=true by (refine decide_eq_true ?_;omega)) oz7<|.d3 oz8 oz9 (show (n.kd==1 || n.kd==2 || n.kd==3 || n.kd==6 || n.kd==7)=true by (simp;omega)))
theorem plain4 (n:Nod) (hk:n.kd=4) (hw:n.w.length≤100000) (hb:n.b.length≤100000):VC L_ 109 ([nod n]) (nod ⟨n.kd,n.na,0,n.nk,n.ns,n.np,0,0,0,[],[],0,0,0,0,0,0,0,0⟩):=by
 have hk1:In64 n.kd:=⟨by omega,by omega⟩
 have hs:=nameEq_in (k:=n.kd) (by omega) (by omega)
 have oz0:=@name_v (n.kd) hk1
 have oz4:=(show (n.kd==4)=true by (refine decide_eq_true ?_;omega))
 have oz6:=@scaledK_v (n.kd)
 exact (cR_ [r_,.r [] [cr oz0],d_,r_,r_,r_,d_,r_,d_,r_,b_,b_,r_,.r [] [cr oz6],d_,r_] (AV.agg [i64 n.kd,i64 n.na,i64 0,i64 n.nk,i64 n.ns,i64 n.np,i64 0,i8 0,i8 0,AV.lit (AC_ none 0 0),AV.lit (AC_ none 0 0),i32 0,i64 0,i8 0,i32 0,i64 0,i8 0,i8 0,i8 0]) Tryz.func109 (.d8 oz0 hs (show (n.kd==1)=false by (refine decide_eq_false ?_;omega)) (show (n.kd==2)=false by (refine decide_eq_false ?_;omega)) oz4 oz4 oz6 (show (n.kd==1 || n.kd==2 || n.kd==3 || n.kd==6 || n.kd==7)=false by (simp;omega)))).weak (D_ _) (BL_ (.cons (.refl _) (.cons (.refl _) (.cons (.refl _) (.cons (.refl _) (.cons (.refl _) (.cons (.refl _) (.cons (.refl _) (.cons (.refl _) (.cons (.refl _) (.cons (Weak.nil _) (.cons (Weak.nil _) (.cons (.refl _) (.cons (.refl _) (.cons (.refl _) (.cons (.refl _) (.cons (.refl _) (.cons (.refl _) (.cons (.refl _) (.cons (.refl _) .nil))))))))))))))))))))
theorem plain5 (n:Nod) (hk:n.kd=5) (hw:n.w.length≤100000) (hb:n.b.length≤100000):VC L_ 109 ([nod n]) (nod ⟨n.kd,n.na,0,n.nk,n.ns,n.np,0,0,0,[],[],0,0,0,0,0,0,0,0⟩):=by
 have hk1:In64 n.kd:=⟨by omega,by omega⟩
 have hs:=nameEq_in (k:=n.kd) (by omega) (by omega)
 have oz0:=@name_v (n.kd) hk1
 have oz6:=@scaledK_v (n.kd)
 exact (cR_ [r_,.r [] [cr oz0],d_,r_,r_,r_,d_,r_,d_,r_,d_,r_,b_,r_,.r [] [cr oz6],d_,r_] (AV.agg [i64 n.kd,i64 n.na,i64 0,i64 n.nk,i64 n.ns,i64 n.np,i64 0,i8 0,i8 0,AV.lit (AC_ none 0 0),AV.lit (AC_ none 0 0),i32 0,i64 0,i8 0,i32 0,i64 0,i8 0,i8 0,i8 0]) Tryz.func109 (.d8 oz0 hs (show (n.kd==1)=false by (refine decide_eq_false ?_;omega)) (show (n.kd==2)=false by (refine decide_eq_false ?_;omega)) (show (n.kd==4)=false by (refine decide_eq_false ?_;omega)) (show (n.kd==5)=true by (refine decide_eq_true ?_;omega)) oz6 (show (n.kd==1 || n.kd==2 || n.kd==3 || n.kd==6 || n.kd==7)=false by (simp;omega)))).weak (D_ _) (BL_ (.cons (.refl _) (.cons (.refl _) (.cons (.refl _) (.cons (.refl _) (.cons (.refl _) (.cons (.refl _) (.cons (.refl _) (.cons (.refl _) (.cons (.refl _) (.cons (Weak.nil _) (.cons (Weak.nil _) (.cons (.refl _) (.cons (.refl _) (.cons (.refl _) (.cons (.refl _) (.cons (.refl _) (.cons (.refl _) (.cons (.refl _) (.cons (.refl _) .nil))))))))))))))))))))
theorem plain6 (n:Nod) (hk:n.kd=6) (hw:n.w.length≤100000) (hb:n.b.length≤100000):VC L_ 109 ([nod n]) (nod ⟨n.kd,n.na,n.nb,0,0,0,0,n.za,n.zb,[],[],n.qm,n.qs,n.qz,n.rm,n.rs,0,n.lo,n.hi⟩):=by
 have hk1:In64 n.kd:=⟨by omega,by omega⟩
 have hs:=nameEq_in (k:=n.kd) (by omega) (by omega)
 have oz0:=@name_v (n.kd) hk1
 have oz8:=@scaledK_v (n.kd)
 exact (cR_ [r_,.r [] [cr oz0],d_,r_,r_,r_,d_,r_,d_,r_,d_,r_,d_,r_,d_,r_,b_,r_,.r [] [cr oz8],b_,r_,r_] (AV.agg [i64 n.kd,i64 n.na,i64 n.nb,i64 0,i64 0,i64 0,i64 0,i8 n.za,i8 n.zb,AV.lit (AC_ none 0 0),AV.lit (AC_ none 0 0),i32 n.qm,i64 n.qs,i8 n.qz,i32 n.rm,i64 n.rs,i8 0,i8 n.lo,i8 n.hi]) Tryz.func109 (.c8 oz0 hs (show (n.kd==1)=false by (refine decide_eq_false ?_;omega)) (show (n.kd==2)=false by (refine decide_eq_false ?_;omega)) (show (n.kd==4)=false by (refine decide_eq_false ?_;omega)) (show (n.kd==5)=false by (refine decide_eq_false ?_;omega)) (show (n.kd==3)=false by (refine decide_eq_false ?_;omega)) (show (n.kd==6)=true by (refine decide_eq_true ?_;omega))<|.d2 oz8 (show (n.kd==1 || n.kd==2 || n.kd==3 || n.kd==6 || n.kd==7)=true by (simp;omega)))).weak (D_ _) (BL_ (.cons (.refl _) (.cons (.refl _) (.cons (.refl _) (.cons (.refl _) (.cons (.refl _) (.cons (.refl _) (.cons (.refl _) (.cons (.refl _) (.cons (.refl _) (.cons (Weak.nil _) (.cons (Weak.nil _) (.cons (.refl _) (.cons (.refl _) (.cons (.refl _) (.cons (.refl _) (.cons (.refl _) (.cons (.refl _) (.cons (.refl _) (.cons (.refl _) .nil))))))))))))))))))))
theorem plain7 (n:Nod) (hk:n.kd=7) (hw:n.w.length≤100000) (hb:n.b.length≤100000):VC L_ 109 ([nod n]) (nod ⟨n.kd,n.na,0,0,0,0,0,n.za,0,[],[],n.qm,n.qs,n.qz,0,0,0,n.lo,n.hi⟩):=by
 have hk1:In64 n.kd:=⟨by omega,by omega⟩
 have hs:=nameEq_in (k:=n.kd) (by omega) (by omega)
 have oz0:=@name_v (n.kd) hk1
 have oz9:=@scaledK_v (n.kd)
 exact (cR_ [r_,.r [] [cr oz0],d_,r_,r_,r_,d_,r_,d_,r_,d_,r_,d_,r_,d_,r_,d_,r_,d_,.r [] [cr oz9],b_,r_,r_] (AV.agg [i64 n.kd,i64 n.na,i64 0,i64 0,i64 0,i64 0,i64 0,i8 n.za,i8 0,AV.lit (AC_ none 0 0),AV.lit (AC_ none 0 0),i32 n.qm,i64 n.qs,i8 n.qz,i32 0,i64 0,i8 0,i8 n.lo,i8 n.hi]) Tryz.func109 (.c8 oz0 hs (show (n.kd==1)=false by (refine decide_eq_false ?_;omega)) (show (n.kd==2)=false by (refine decide_eq_false ?_;omega)) (show (n.kd==4)=false by (refine decide_eq_false ?_;omega)) (show (n.kd==5)=false by (refine decide_eq_false ?_;omega)) (show (n.kd==3)=false by (refine decide_eq_false ?_;omega)) (show (n.kd==6)=false by (refine decide_eq_false ?_;omega))<|.d3 (show (n.kd==8)=false by (refine decide_eq_false ?_;omega)) oz9 (show (n.kd==1 || n.kd==2 || n.kd==3 || n.kd==6 || n.kd==7)=true by (simp;omega)))).weak (D_ _) (BL_ (.cons (.refl _) (.cons (.refl _) (.cons (.refl _) (.cons (.refl _) (.cons (.refl _) (.cons (.refl _) (.cons (.refl _) (.cons (.refl _) (.cons (.refl _) (.cons (Weak.nil _) (.cons (Weak.nil _) (.cons (.refl _) (.cons (.refl _) (.cons (.refl _) (.cons (.refl _) (.cons (.refl _) (.cons (.refl _) (.cons (.refl _) (.cons (.refl _) .nil))))))))))))))))))))
theorem plain8 (n:Nod) (hk:n.kd=8) (hw:n.w.length≤100000) (hb:n.b.length≤100000):VC L_ 109 ([nod n]) (nod ⟨n.kd,n.na,0,0,0,n.np,0,n.za,0,[],[],0,0,0,0,0,0,0,0⟩):=by
 have hk1:In64 n.kd:=⟨by omega,by omega⟩
 have hs:=nameEq_in (k:=n.kd) (by omega) (by omega)
 have oz0:=@name_v (n.kd) hk1
 have oz9:=@scaledK_v (n.kd)
 exact (cR_ [r_,.r [] [cr oz0],d_,r_,r_,r_,d_,r_,d_,r_,d_,r_,d_,r_,d_,r_,d_,r_,b_,r_,.r [] [cr oz9],d_,r_] (AV.agg [i64 n.kd,i64 n.na,i64 0,i64 0,i64 0,i64 n.np,i64 0,i8 n.za,i8 0,AV.lit (AC_ none 0 0),AV.lit (AC_ none 0 0),i32 0,i64 0,i8 0,i32 0,i64 0,i8 0,i8 0,i8 0]) Tryz.func109 (.c8 oz0 hs (show (n.kd==1)=false by (refine decide_eq_false ?_;omega)) (show (n.kd==2)=false by (refine decide_eq_false ?_;omega)) (show (n.kd==4)=false by (refine decide_eq_false ?_;omega)) (show (n.kd==5)=false by (refine decide_eq_false ?_;omega)) (show (n.kd==3)=false by (refine decide_eq_false ?_;omega)) (show (n.kd==6)=false by (refine decide_eq_false ?_;omega))<|.d3 (show (n.kd==8)=true by (refine decide_eq_true ?_;omega)) oz9 (show (n.kd==1 || n.kd==2 || n.kd==3 || n.kd==6 || n.kd==7)=false by (simp;omega)))).weak (D_ _) (BL_ (.cons (.refl _) (.cons (.refl _) (.cons (.refl _) (.cons (.refl _) (.cons (.refl _) (.cons (.refl _) (.cons (.refl _) (.cons (.refl _) (.cons (.refl _) (.cons (Weak.nil _) (.cons (Weak.nil _) (.cons (.refl _) (.cons (.refl _) (.cons (.refl _) (.cons (.refl _) (.cons (.refl _) (.cons (.refl _) (.cons (.refl _) (.cons (.refl _) .nil))))))))))))))))))))
theorem plain9 (n:Nod) (hk:n.kd=9) (hw:n.w.length≤100000) (hb:n.b.length≤100000):VC L_ 109 ([nod n]) (nod ⟨n.kd,n.na,0,0,0,0,0,0,0,[],[],0,0,0,0,0,0,0,0⟩):=by
 have hk1:In64 n.kd:=⟨by omega,by omega⟩
 have hs:=nameEq_in (k:=n.kd) (by omega) (by omega)
 have oz0:=@name_v (n.kd) hk1
 have oz9:=@scaledK_v (n.kd)
 exact (cR_ [r_,.r [] [cr oz0],d_,r_,r_,r_,d_,r_,d_,r_,d_,r_,d_,r_,d_,r_,d_,r_,d_,.r [] [cr oz9],d_,r_] (AV.agg [i64 n.kd,i64 n.na,i64 0,i64 0,i64 0,i64 0,i64 0,i8 0,i8 0,AV.lit (AC_ none 0 0),AV.lit (AC_ none 0 0),i32 0,i64 0,i8 0,i32 0,i64 0,i8 0,i8 0,i8 0]) Tryz.func109 (.c8 oz0 hs (show (n.kd==1)=false by (refine decide_eq_false ?_;omega)) (show (n.kd==2)=false by (refine decide_eq_false ?_;omega)) (show (n.kd==4)=false by (refine decide_eq_false ?_;omega)) (show (n.kd==5)=false by (refine decide_eq_false ?_;omega)) (show (n.kd==3)=false by (refine decide_eq_false ?_;omega)) (show (n.kd==6)=false by (refine decide_eq_false ?_;omega))<|.d3 (show (n.kd==8)=false by (refine decide_eq_false ?_;omega)) oz9 (show (n.kd==1 || n.kd==2 || n.kd==3 || n.kd==6 || n.kd==7)=false by (simp;omega)))).weak (D_ _) (BL_ (.cons (.refl _) (.cons (.refl _) (.cons (.refl _) (.cons (.refl _) (.cons (.refl _) (.cons (.refl _) (.cons (.refl _) (.cons (.refl _) (.cons (.refl _) (.cons (Weak.nil _) (.cons (Weak.nil _) (.cons (.refl _) (.cons (.refl _) (.cons (.refl _) (.cons (.refl _) (.cons (.refl _) (.cons (.refl _) (.cons (.refl _) (.cons (.refl _) .nil))))))))))))))))))))
def nodEq (a b:Nod):Bool:=decide (a.w=b.w)&&decide (a.b=b.b)&&eqNums [(O_,a.kd,b.kd),(O_,a.na,b.na),(O_,a.nb,b.nb),(O_,a.nk,b.nk),(O_,a.ns,b.ns),(O_,a.np,b.np),(O_,a.no,b.no),(O_,0,0)] &&
 eqNums [(Y_,a.za,b.za),(Y_,a.zb,b.zb),(Y_,a.lo,b.lo),(Y_,a.hi,b.hi)]&&eqNums [(AQ_,a.qm,b.qm),(O_,a.qs,b.qs),(Y_,a.qz,b.qz)]&&eqNums [(AQ_,a.rm,b.rm),(O_,a.rs,b.rs),(Y_,a.rz,b.rz)]
theorem same_v (a b:Nod) (hw:a.w.length≤100000) (hb:a.b.length≤100000):VC L_ 108 ([nod a,nod b]) (bv (nodEq a b)):=by
 have oz0:=@eq8_v (a.w) (b.w) (by omega)
 have oz1:=@eq32_v (a.b) (b.b) (by omega)
 exact (cR_ [r_,.r [] [cr oz0,o_,o_,o_,o_,o_,cr oz1,.sel 2],.r [] [.v (Value.bool (eqNums [(O_,a.kd,b.kd),(O_,a.na,b.na),(O_,a.nb,b.nb),(O_,a.nk,b.nk),(O_,a.ns,b.ns),(O_,a.np,b.np),(O_,a.no,b.no),(O_,0,0)]))],.r [] [.v (Value.bool (eqNums [(Y_,a.za,b.za),(Y_,a.zb,b.zb),(Y_,a.lo,b.lo),(Y_,a.hi,b.hi)]))],.r [] [o_,.sel 2,o_,.sel 2,o_,o_,o_,o_,o_,.v (Value.bool (eqNums [(AQ_,a.qm,b.qm),(O_,a.qs,b.qs),(Y_,a.qz,b.qz)])),.sel 2,o_,o_,o_,o_,o_,.v (Value.bool (eqNums [(AQ_,a.rm,b.rm),(O_,a.rs,b.rs),(Y_,a.rz,b.rz)])),.sel 2]] (bv (decide (a.w=b.w)&&decide (a.b=b.b)&&eqNums [(O_,a.kd,b.kd),(O_,a.na,b.na),(O_,a.nb,b.nb),(O_,a.nk,b.nk),(O_,a.ns,b.ns),(O_,a.np,b.np),(O_,a.no,b.no),(O_,0,0)]&&eqNums [(Y_,a.za,b.za),(Y_,a.zb,b.zb),(Y_,a.lo,b.lo),(Y_,a.hi,b.hi)]&&eqNums [(AQ_,a.qm,b.qm),(O_,a.qs,b.qs),(Y_,a.qz,b.qz)]&&eqNums [(AQ_,a.rm,b.rm),(O_,a.rs,b.rs),(Y_,a.rz,b.rz)])) Tryz.func108 (.d6 oz0 oz1 (show BinTo L_ BinOp.eql 210 (Operand.tmp 34) (Operand.tmp 49) (Value.agg #[AV_ O_ a.kd,AV_ O_ a.na,AV_ O_ a.nb,AV_ O_ a.nk,AV_ O_ a.ns,AV_ O_ a.np,AV_ O_ a.no,AV_ O_ 0]) (Value.agg #[AV_ O_ b.kd,AV_ O_ b.na,AV_ O_ b.nb,AV_ O_ b.nk,AV_ O_ b.ns,AV_ O_ b.np,AV_ O_ b.no,AV_ O_ 0]) (Value.bool (eqNums [(O_,a.kd,b.kd),(O_,a.na,b.na),(O_,a.nb,b.nb),(O_,a.nk,b.nk),(O_,a.ns,b.ns),(O_,a.np,b.np),(O_,a.no,b.no),(O_,0,0)])) from ((bin_arr (l:=[(O_,a.kd,b.kd),(O_,a.na,b.na),(O_,a.nb,b.nb),(O_,a.nk,b.nk),(O_,a.ns,b.ns),(O_,a.np,b.np),(O_,a.no,b.no),(O_,0,0)]) (by kernel_rfl) (by kernel_rfl) _ _).1)) (show BinTo L_ BinOp.eql 211 (Operand.tmp 59) (Operand.tmp 68) (Value.agg #[AV_ Y_ a.za,AV_ Y_ a.zb,AV_ Y_ a.lo,AV_ Y_ a.hi]) (Value.agg #[AV_ Y_ b.za,AV_ Y_ b.zb,AV_ Y_ b.lo,AV_ Y_ b.hi]) (Value.bool (eqNums [(Y_,a.za,b.za),(Y_,a.zb,b.zb),(Y_,a.lo,b.lo),(Y_,a.hi,b.hi)])) from ((bin_arr (l:=[(Y_,a.za,b.za),(Y_,a.zb,b.zb),(Y_,a.lo,b.lo),(Y_,a.hi,b.hi)]) (by kernel_rfl) (by kernel_rfl) _ _).1)) (show BinTo L_ BinOp.eql 41 (Operand.tmp 79) (Operand.tmp 81) (Value.agg #[AV_ AQ_ a.qm,AV_ O_ a.qs,AV_ Y_ a.qz]) (Value.agg #[AV_ AQ_ b.qm,AV_ O_ b.qs,AV_ Y_ b.qz]) (Value.bool (eqNums [(AQ_,a.qm,b.qm),(O_,a.qs,b.qs),(Y_,a.qz,b.qz)])) from ((bin_nums (l:=[(AQ_,a.qm,b.qm),(O_,a.qs,b.qs),(Y_,a.qz,b.qz)]) (by kernel_rfl) (by kernel_rfl) (by kernel_rfl) (by kernel_rfl) _ _).1)) (show BinTo L_ BinOp.eql 41 (Operand.tmp 86) (Operand.tmp 88) (Value.agg #[AV_ AQ_ a.rm,AV_ O_ a.rs,AV_ Y_ a.rz]) (Value.agg #[AV_ AQ_ b.rm,AV_ O_ b.rs,AV_ Y_ b.rz]) (Value.bool (eqNums [(AQ_,a.rm,b.rm),(O_,a.rs,b.rs),(Y_,a.rz,b.rz)])) from ((bin_nums (l:=[(AQ_,a.rm,b.rm),(O_,a.rs,b.rs),(Y_,a.rz,b.rz)]) (by kernel_rfl) (by kernel_rfl) (by kernel_rfl) (by kernel_rfl) _ _).1)))).weak (D_ _) (Weak.bool (by rfl))
theorem nodEq_iff (a b:Nod):nodEq a b=true↔a=b:=by
 obtain ⟨a1,a2,a3,a4,a5,a6,a7,a8,a9,a10,a11,a12,a13,a14,a15,a16,a17,a18,a19⟩:=a
 obtain ⟨b1,b2,b3,b4,b5,b6,b7,b8,b9,b10,b11,b12,b13,b14,b15,b16,b17,b18,b19⟩:=b
 simp only[nodEq,eqNums,M_,E_,I_,Nod.mk.injEq]
 constructor
 ·rintro ⟨⟨⟨⟨⟨h1,h2⟩,h3⟩,h4⟩,h5⟩,h6⟩
  exact ⟨h3.1,h3.2.1,h3.2.2.1,h3.2.2.2.1,h3.2.2.2.2.1,h3.2.2.2.2.2.1,h3.2.2.2.2.2.2.1,h4.1,h4.2.1,h1,h2,h5.1,h5.2.1,h5.2.2.1,h6.1,h6.2.1,h6.2.2.1,h4.2.2.1,h4.2.2.2.1⟩
 ·rintro ⟨h1,h2,h3,h4,h5,h6,h7,h8,h9,h10,h11,h12,h13,h14,h15,h16,h17,h18,h19⟩
  exact ⟨⟨⟨⟨⟨h10,h11⟩,h1,h2,h3,h4,h5,h6,h7,trivial,trivial⟩,h8,h9,h18,h19,trivial⟩,h12,h13,h14,trivial⟩,h15,h16,h17,trivial⟩
theorem refScaled_v (k:Int)  : VC L_ 62 ([i64 k]) (bv (((k==1 || k==2) || k==3) || k==6 || k==7)):=by
 exact cR_ [r_,.r [] [o_,o_,.sel 1,o_,o_,.sel 1,o_,o_,.sel 1,o_,o_,.sel 1]] _ Tryz.func62 (.n)
def scaledB (k:Int):Bool:=((k==1 || k==2) || k==3) || k==6 || k==7
def moreE (n:Nod):Bool :=
 (!(n.kd==1 || n.kd==2 || n.kd==3)&&(decide ((n.w.length:Int)>0) || decide ((n.b.length:Int)>0)) || n.kd != 1&&n.kd != 3&&n.no != 0) ||
 (!(n.kd==1 || n.kd==2 || n.kd==4 || n.kd==5)&&(n.nk != 0 || n.ns != 0) || !(n.kd==1 || n.kd==2 || n.kd==4 || n.kd==5)&&n.kd != 8&&n.np != 0) ||
 (n.kd != 6&&(n.nb != 0 || n.zb != 0 || n.rm != 0 || n.rs != 0) || n.rz != 0) ||
 (!scaledB n.kd&&(n.qm != 0 || n.qs != 0 || n.qz != 0 || n.lo != 0 || n.hi != 0)) || (!scaledB n.kd&&n.kd != 8&&n.za != 0)
theorem moreE_last {n:Nod} (h0:(!(n.kd==1 || n.kd==2 || n.kd==3)&&(decide (((K_ (row1 .i8) n.w).length:Int)>0) || decide (((K_ (row1 .i32) n.b).length:Int)>0)) || n.kd != 1&&n.kd != 3&&n.no != 0)=false) (h1:(!(n.kd==1 || n.kd==2 || n.kd==4 || n.kd==5)&&(n.nk != 0 || n.ns != 0) || !(n.kd==1 || n.kd==2 || n.kd==4 || n.kd==5)&&n.kd != 8&&n.np != 0)=false) (h2:(n.kd != 6&&(n.nb != 0 || n.zb != 0 || n.rm != 0 || n.rs != 0) || n.rz != 0)=false) (h3:(!(n.kd==1 || n.kd==2 || n.kd==3 || n.kd==6 || n.kd==7)&&(n.qm != 0 || n.qs != 0 || n.qz != 0 || n.lo != 0 || n.hi != 0))=false):(!(n.kd==1 || n.kd==2 || n.kd==3 || n.kd==6 || n.kd==7)&&n.kd != 8&&n.za != 0)=moreE n:=by
 rw[T_,T_] at h0
 unfold moreE scaledB
 rw[h0,h1,h2,h3];rfl
theorem moreE_0 {n:Nod} (h0:(!(n.kd==1 || n.kd==2 || n.kd==3)&&(decide (((K_ (row1 .i8) n.w).length:Int)>0) || decide (((K_ (row1 .i32) n.b).length:Int)>0)) || n.kd != 1&&n.kd != 3&&n.no != 0)=true):true=moreE n:=by
 rw[T_,T_] at h0
 unfold moreE
 rw[h0];rfl
theorem moreE_1 {n:Nod} (h1:(!(n.kd==1 || n.kd==2 || n.kd==4 || n.kd==5)&&(n.nk != 0 || n.ns != 0) || !(n.kd==1 || n.kd==2 || n.kd==4 || n.kd==5)&&n.kd != 8&&n.np != 0)=true):true=moreE n:=by
 unfold moreE
 rw[h1,CX_];rfl
theorem moreE_2 {n:Nod} (h1:(n.kd != 6&&(n.nb != 0 || n.zb != 0 || n.rm != 0 || n.rs != 0) || n.rz != 0)=true):true=moreE n:=by
 unfold moreE
 rw[h1,CX_];rfl
theorem moreE_3 {n:Nod} (h1:(!(n.kd==1 || n.kd==2 || n.kd==3 || n.kd==6 || n.kd==7)&&(n.qm != 0 || n.qs != 0 || n.qz != 0 || n.lo != 0 || n.hi != 0))=true):true=moreE n:=by
 unfold moreE scaledB
 rw[h1,CX_];rfl
theorem refMore_v (n:Nod) (hw:n.w.length≤100000) (hb:n.b.length≤100000):VC L_ 61 ([nod n]) (bv (moreE n)):=by
 rcases bft (!(n.kd==1 || n.kd==2 || n.kd==3)&&(decide (((K_ (row1 .i8) n.w).length:Int)>0) || decide (((K_ (row1 .i32) n.b).length:Int)>0)) || n.kd != 1&&n.kd != 3&&n.no != 0) with hc0|hc0
 ·have gc0:((¬n.kd=1∧¬n.kd=2)∧¬n.kd=3)∧(((K_ (row1 .i8) n.w).length:Int)>0∨((K_ (row1 .i32) n.b).length:Int)>0)∨(¬n.kd=1∧¬n.kd=3)∧¬n.no=0:=gc0_ hc0
  exact (cR_ [r_,r_,.r [] [o_,o_,.sel 1,o_,o_,.sel 1,o_,o_,.sel 1],.r [] [o_,o_,.sel 1,o_,o_,.sel 1],.r [] [o_,o_,o_,o_,o_,o_,o_,o_,o_,o_,.sel 1,.sel 2,o_,o_,o_,o_,o_,o_,.sel 2,o_,o_,o_,o_,o_,.sel 2,.sel 1],b_,r_] (bv true) Tryz.func61 (.d hc0)).weak (D_ _) (Weak.bool (by (exact moreE_0 (by assumption))))
 ·have gc0:(((n.kd=1∨n.kd=2)∨n.kd=3)∨¬((K_ (row1 .i8) n.w).length:Int)>0∧¬((K_ (row1 .i32) n.b).length:Int)>0)∧((n.kd=1∨n.kd=3)∨n.no=0):=gc0_ hc0
  rcases bft (!(n.kd==1 || n.kd==2 || n.kd==4 || n.kd==5)&&(n.nk != 0 || n.ns != 0) || !(n.kd==1 || n.kd==2 || n.kd==4 || n.kd==5)&&n.kd != 8&&n.np != 0) with hc1|hc1
  ·have gc1:(((¬n.kd=1∧¬n.kd=2)∧¬n.kd=4)∧¬n.kd=5)∧(¬n.nk=0∨¬n.ns=0)∨((((¬n.kd=1∧¬n.kd=2)∧¬n.kd=4)∧¬n.kd=5)∧¬n.kd=8)∧¬n.np=0:=gc0_ hc1
   exact (cR_ [r_,r_,.r [] [o_,o_,.sel 1,o_,o_,.sel 1,o_,o_,.sel 1],.r [] [o_,o_,.sel 1,o_,o_,.sel 1],.r [] [o_,o_,o_,o_,o_,o_,o_,o_,o_,o_,.sel 1,.sel 2,o_,o_,o_,o_,o_,o_,.sel 2,o_,o_,o_,o_,o_,.sel 2,.sel 1],d_,.r [] [o_,o_,o_,o_,o_,o_,o_,o_,.sel 1,.sel 2,o_,o_,o_,o_,o_,o_,.sel 2,o_,o_,o_,o_,o_,.sel 2,.sel 1],b_,r_] (bv true) Tryz.func61 (.d2 hc0 hc1)).weak (D_ _) (Weak.bool (by (exact moreE_1 (by assumption))))
  ·have gc1:((((n.kd=1∨n.kd=2)∨n.kd=4)∨n.kd=5)∨n.nk=0∧n.ns=0)∧(((((n.kd=1∨n.kd=2)∨n.kd=4)∨n.kd=5)∨n.kd=8)∨n.np=0):=gc0_ hc1
   rcases bft (n.kd != 6&&(n.nb != 0 || n.zb != 0 || n.rm != 0 || n.rs != 0) || n.rz != 0) with hc2|hc2
   ·have gc2:¬n.kd=6∧(((¬n.nb=0∨¬n.zb=0)∨¬n.rm=0)∨¬n.rs=0)∨¬n.rz=0:=gc0_ hc2
    exact (cR_ [r_,r_,.r [] [o_,o_,.sel 1,o_,o_,.sel 1,o_,o_,.sel 1],.r [] [o_,o_,.sel 1,o_,o_,.sel 1],.r [] [o_,o_,o_,o_,o_,o_,o_,o_,o_,o_,.sel 1,.sel 2,o_,o_,o_,o_,o_,o_,.sel 2,o_,o_,o_,o_,o_,.sel 2,.sel 1],d_,.r [] [o_,o_,o_,o_,o_,o_,o_,o_,.sel 1,.sel 2,o_,o_,o_,o_,o_,o_,.sel 2,o_,o_,o_,o_,o_,.sel 2,.sel 1],d_,.r [] [o_,o_,o_,o_,o_,o_,o_,o_,.sel 1,o_,o_,o_,o_,o_,o_,.sel 1,o_,o_,o_,o_,o_,o_,.sel 1,.sel 2,o_,o_,o_,o_,.sel 1],b_,r_] (bv true) Tryz.func61 (.d3 hc0 hc1 hc2)).weak (D_ _) (Weak.bool (by (exact moreE_2 (by assumption))))
   ·have gc2:(n.kd=6∨((n.nb=0∧n.zb=0)∧n.rm=0)∧n.rs=0)∧n.rz=0:=gc0_ hc2
    have oz3:=@refScaled_v (n.kd)
    rcases bft (!(n.kd==1 || n.kd==2 || n.kd==3 || n.kd==6 || n.kd==7)&&(n.qm != 0 || n.qs != 0 || n.qz != 0 || n.lo != 0 || n.hi != 0)) with hc3|hc3
    ·have gc3:((((¬n.kd=1∧¬n.kd=2)∧¬n.kd=3)∧¬n.kd=6)∧¬n.kd=7)∧((((¬n.qm=0∨¬n.qs=0)∨¬n.qz=0)∨¬n.lo=0)∨¬n.hi=0):=gc0_ hc3
     exact (cR_ [r_,r_,.r [] [o_,o_,.sel 1,o_,o_,.sel 1,o_,o_,.sel 1],.r [] [o_,o_,.sel 1,o_,o_,.sel 1],.r [] [o_,o_,o_,o_,o_,o_,o_,o_,o_,o_,.sel 1,.sel 2,o_,o_,o_,o_,o_,o_,.sel 2,o_,o_,o_,o_,o_,.sel 2,.sel 1],d_,.r [] [o_,o_,o_,o_,o_,o_,o_,o_,.sel 1,.sel 2,o_,o_,o_,o_,o_,o_,.sel 2,o_,o_,o_,o_,o_,.sel 2,.sel 1],d_,.r [] [o_,o_,o_,o_,o_,o_,o_,o_,.sel 1,o_,o_,o_,o_,o_,o_,.sel 1,o_,o_,o_,o_,o_,o_,.sel 1,.sel 2,o_,o_,o_,o_,.sel 1],d_,.r [] [cr oz3,o_,o_,o_,o_,o_,o_,o_,o_,o_,o_,.sel 1,o_,o_,o_,o_,o_,o_,.sel 1,o_,o_,o_,o_,o_,.sel 1,o_,o_,o_,o_,o_,.sel 1,.sel 2],b_,r_] (bv true) Tryz.func61 (.d5 hc0 hc1 hc2 oz3 hc3)).weak (D_ _) (Weak.bool (by (exact moreE_3 (by assumption))))
    ·have gc3:((((n.kd=1∨n.kd=2)∨n.kd=3)∨n.kd=6)∨n.kd=7)∨(((n.qm=0∧n.qs=0)∧n.qz=0)∧n.lo=0)∧n.hi=0:=gc0_ hc3
     exact (cR_ [r_,r_,.r [] [o_,o_,.sel 1,o_,o_,.sel 1,o_,o_,.sel 1],.r [] [o_,o_,.sel 1,o_,o_,.sel 1],.r [] [o_,o_,o_,o_,o_,o_,o_,o_,o_,o_,.sel 1,.sel 2,o_,o_,o_,o_,o_,o_,.sel 2,o_,o_,o_,o_,o_,.sel 2,.sel 1],d_,.r [] [o_,o_,o_,o_,o_,o_,o_,o_,.sel 1,.sel 2,o_,o_,o_,o_,o_,o_,.sel 2,o_,o_,o_,o_,o_,.sel 2,.sel 1],d_,.r [] [o_,o_,o_,o_,o_,o_,o_,o_,.sel 1,o_,o_,o_,o_,o_,o_,.sel 1,o_,o_,o_,o_,o_,o_,.sel 1,.sel 2,o_,o_,o_,o_,.sel 1],d_,.r [] [cr oz3,o_,o_,o_,o_,o_,o_,o_,o_,o_,o_,.sel 1,o_,o_,o_,o_,o_,o_,.sel 1,o_,o_,o_,o_,o_,.sel 1,o_,o_,o_,o_,o_,.sel 1,.sel 2],d_,.r [] [cr oz3,o_,o_,.sel 2,o_,o_,o_,.sel 2]] (bv (!(n.kd==1 || n.kd==2 || n.kd==3 || n.kd==6 || n.kd==7)&&n.kd != 8&&n.za != 0)) Tryz.func61 (.d6 hc0 hc1 hc2 oz3 hc3 oz3)).weak (D_ _) (Weak.bool (by (exact moreE_last (by assumption) (by assumption) (by assumption) (by assumption))))
def checkE (n:Nod):Int:=if n.kd<1∨9<n.kd then 6 else if moreE n=true then 2 else if (scaledB n.kd && !rightQ n.qm n.qs || n.kd==6 && !rightQ n.rm n.rs)=true then 7 else if (scaledB n.kd&&decide (n.lo>n.hi))=true then 2 else 0
theorem more1 (n:Nod) (h:n.kd=1):n=(⟨n.kd,n.na,0,n.nk,n.ns,n.np,n.no,n.za,0,n.w,n.b,n.qm,n.qs,n.qz,0,0,0,n.lo,n.hi⟩:Nod)↔moreE n=false:=by
 unfold moreE scaledB
 cases n
 simp only at h
 subst h
 simp only[Nod.mk.injEq,true_and,and_true,R_,P_,G_,beq_self_eq_true,Bool.true_or,CX_,BN_,AI_,BA_,BR_,true_or,or_true,and_self,Bool.or_self,BO_,V_,F_,Int.reduceBEq,Int.reduceBNe,AH_,BQ_,BV_,AM_,false_or,or_false,CW_,gt_iff_lt,AB_,CM_,BC_,BY_]
 first|done|(constructor<;>intro h<;>simp_all)|omega
theorem more2 (n:Nod) (h:n.kd=2):n=(⟨n.kd,n.na,0,n.nk,n.ns,n.np,0,n.za,0,n.w,n.b,n.qm,n.qs,n.qz,0,0,0,n.lo,n.hi⟩:Nod)↔moreE n=false:=by
 unfold moreE scaledB
 cases n
 simp only at h
 subst h
 simp only[Nod.mk.injEq,true_and,and_true,R_,P_,G_,beq_self_eq_true,Bool.true_or,CX_,BN_,AI_,BA_,BR_,true_or,or_true,and_self,Bool.or_self,BO_,V_,F_,Int.reduceBEq,Int.reduceBNe,AH_,BQ_,BV_,AM_,false_or,or_false,CW_,gt_iff_lt,AB_,CM_,BC_,BY_]
 first|done|(constructor<;>intro h<;>simp_all)|omega
theorem more3 (n:Nod) (h:n.kd=3):n=(⟨n.kd,n.na,0,0,0,0,n.no,n.za,0,n.w,n.b,n.qm,n.qs,n.qz,0,0,0,n.lo,n.hi⟩:Nod)↔moreE n=false:=by
 unfold moreE scaledB
 cases n
 simp only at h
 subst h
 simp only[Nod.mk.injEq,true_and,and_true,R_,P_,G_,beq_self_eq_true,Bool.true_or,CX_,BN_,AI_,BA_,BR_,true_or,or_true,and_self,Bool.or_self,BO_,V_,F_,Int.reduceBEq,Int.reduceBNe,AH_,BQ_,BV_,AM_,false_or,or_false,CW_,gt_iff_lt,AB_,CM_,BC_,BY_]
 first|done|(constructor<;>intro h<;>simp_all)|omega
theorem more4 (n:Nod) (h:n.kd=4):n=(⟨n.kd,n.na,0,n.nk,n.ns,n.np,0,0,0,[],[],0,0,0,0,0,0,0,0⟩:Nod)↔moreE n=false:=by
 unfold moreE scaledB
 cases n
 simp only at h
 subst h
 simp only[Nod.mk.injEq,true_and,and_true,R_,P_,G_,beq_self_eq_true,Bool.true_or,CX_,BN_,AI_,BA_,BR_,true_or,or_true,and_self,Bool.or_self,BO_,V_,F_,Int.reduceBEq,Int.reduceBNe,AH_,BQ_,BV_,AM_,false_or,or_false,CW_,gt_iff_lt,AB_,CM_,BC_,BY_]
 first|done|(constructor<;>intro h<;>simp_all)|omega
theorem more5 (n:Nod) (h:n.kd=5):n=(⟨n.kd,n.na,0,n.nk,n.ns,n.np,0,0,0,[],[],0,0,0,0,0,0,0,0⟩:Nod)↔moreE n=false:=by
 unfold moreE scaledB
 cases n
 simp only at h
 subst h
 simp only[Nod.mk.injEq,true_and,and_true,R_,P_,G_,beq_self_eq_true,Bool.true_or,CX_,BN_,AI_,BA_,BR_,true_or,or_true,and_self,Bool.or_self,BO_,V_,F_,Int.reduceBEq,Int.reduceBNe,AH_,BQ_,BV_,AM_,false_or,or_false,CW_,gt_iff_lt,AB_,CM_,BC_,BY_]
 first|done|(constructor<;>intro h<;>simp_all)|omega
theorem more6 (n:Nod) (h:n.kd=6):n=(⟨n.kd,n.na,n.nb,0,0,0,0,n.za,n.zb,[],[],n.qm,n.qs,n.qz,n.rm,n.rs,0,n.lo,n.hi⟩:Nod)↔moreE n=false:=by
 unfold moreE scaledB
 cases n
 simp only at h
 subst h
 simp only[Nod.mk.injEq,true_and,and_true,R_,P_,G_,beq_self_eq_true,Bool.true_or,CX_,BN_,AI_,BA_,BR_,true_or,or_true,and_self,Bool.or_self,BO_,V_,F_,Int.reduceBEq,Int.reduceBNe,AH_,BQ_,BV_,AM_,false_or,or_false,CW_,gt_iff_lt,AB_,CM_,BC_,BY_]
 first|done|(constructor<;>intro h<;>simp_all)|omega
theorem more7 (n:Nod) (h:n.kd=7):n=(⟨n.kd,n.na,0,0,0,0,0,n.za,0,[],[],n.qm,n.qs,n.qz,0,0,0,n.lo,n.hi⟩:Nod)↔moreE n=false:=by
 unfold moreE scaledB
 cases n
 simp only at h
 subst h
 simp only[Nod.mk.injEq,true_and,and_true,R_,P_,G_,beq_self_eq_true,Bool.true_or,CX_,BN_,AI_,BA_,BR_,true_or,or_true,and_self,Bool.or_self,BO_,V_,F_,Int.reduceBEq,Int.reduceBNe,AH_,BQ_,BV_,AM_,false_or,or_false,CW_,gt_iff_lt,AB_,CM_,BC_,BY_]
 first|done|(constructor<;>intro h<;>simp_all)|omega
theorem more8 (n:Nod) (h:n.kd=8):n=(⟨n.kd,n.na,0,0,0,n.np,0,n.za,0,[],[],0,0,0,0,0,0,0,0⟩:Nod)↔moreE n=false:=by
 unfold moreE scaledB
 cases n
 simp only at h
 subst h
 simp only[Nod.mk.injEq,true_and,and_true,R_,P_,G_,beq_self_eq_true,Bool.true_or,CX_,BN_,AI_,BA_,BR_,true_or,or_true,and_self,Bool.or_self,BO_,V_,F_,Int.reduceBEq,Int.reduceBNe,AH_,BQ_,BV_,AM_,false_or,or_false,CW_,gt_iff_lt,AB_,CM_,BC_,BY_]
 first|done|(constructor<;>intro h<;>simp_all)|omega
theorem more9 (n:Nod) (h:n.kd=9):n=(⟨n.kd,n.na,0,0,0,0,0,0,0,[],[],0,0,0,0,0,0,0,0⟩:Nod)↔moreE n=false:=by
 unfold moreE scaledB
 cases n
 simp only at h
 subst h
 simp only[Nod.mk.injEq,true_and,and_true,R_,P_,G_,beq_self_eq_true,Bool.true_or,CX_,BN_,AI_,BA_,BR_,true_or,or_true,and_self,Bool.or_self,BO_,V_,F_,Int.reduceBEq,Int.reduceBNe,AH_,BQ_,BV_,AM_,false_or,or_false,CW_,gt_iff_lt,AB_,CM_,BC_,BY_]
 first|done|(constructor<;>intro h<;>simp_all)|omega
theorem more_iff (n:Nod) (h0:1≤n.kd) (h9:n.kd≤9):nodEq n (plainN n) = !moreE n:=by
 have:n.kd=1∨n.kd=2∨n.kd=3∨n.kd=4∨n.kd=5∨n.kd=6∨n.kd=7∨n.kd=8∨n.kd=9:=by omega
 have key:n=plainN n↔moreE n=false:=by
  unfold plainN
  rcases this with h|h|h|h|h|h|h|h|h
  ·have e:=more1 n h;simp only[h,AH_,if_true,if_false] at e ⊢;exact e
  ·have e:=more2 n h;simp only[h,AH_,if_true,if_false] at e ⊢;exact e
  ·have e:=more3 n h;simp only[h,AH_,if_true,if_false] at e ⊢;exact e
  ·have e:=more4 n h;simp only[h,AH_,if_true,if_false] at e ⊢;exact e
  ·have e:=more5 n h;simp only[h,AH_,if_true,if_false] at e ⊢;exact e
  ·have e:=more6 n h;simp only[h,AH_,if_true,if_false] at e ⊢;exact e
  ·have e:=more7 n h;simp only[h,AH_,if_true,if_false] at e ⊢;exact e
  ·have e:=more8 n h;simp only[h,AH_,if_true,if_false] at e ⊢;exact e
  ·have e:=more9 n h;simp only[h,AH_,if_true,if_false] at e ⊢;exact e
 rw[Bool.eq_iff_iff,nodEq_iff,key,W_]
theorem ck_eq {n:Nod} (h0:1≤n.kd) (h9:n.kd≤9):checkE n=if moreE n=true then 2 else if (((n.kd==1 || n.kd==2 || n.kd==3 || n.kd==6 || n.kd==7) && !rightQ n.qm n.qs) || (n.kd==6 && !rightQ n.rm n.rs))=true then 7 else if ((n.kd==1 || n.kd==2 || n.kd==3 || n.kd==6 || n.kd==7)&&decide (n.lo>n.hi))=true then 2 else 0:=by
 unfold checkE;rw[j_ (by omega)];rfl
theorem ck2 {n:Nod} (h0:1≤n.kd) (h9:n.kd≤9) (h:moreE n=true):2=checkE n:=by rw[ck_eq h0 h9,i_ h]
theorem ck7 {n:Nod} (h0:1≤n.kd) (h9:n.kd≤9) (h:moreE n=false) (q:(((n.kd==1 || n.kd==2 || n.kd==3 || n.kd==6 || n.kd==7) && !rightQ n.qm n.qs) || (n.kd==6 && !rightQ n.rm n.rs))=true):7=checkE n:=by rw[ck_eq h0 h9,j_ (by simp[h]),i_ q]
theorem ck2b {n:Nod} (h0:1≤n.kd) (h9:n.kd≤9) (h:moreE n=false) (q:(((n.kd==1 || n.kd==2 || n.kd==3 || n.kd==6 || n.kd==7) && !rightQ n.qm n.qs) || (n.kd==6 && !rightQ n.rm n.rs))=false) (l:((n.kd==1 || n.kd==2 || n.kd==3 || n.kd==6 || n.kd==7)&&decide (n.lo>n.hi))=true):2=checkE n:=by rw[ck_eq h0 h9,j_ (by simp[h]),j_ (by rw[q];simp),i_ l]
theorem ck0 {n:Nod} (h0:1≤n.kd) (h9:n.kd≤9) (h:moreE n=false) (q:(((n.kd==1 || n.kd==2 || n.kd==3 || n.kd==6 || n.kd==7) && !rightQ n.qm n.qs) || (n.kd==6 && !rightQ n.rm n.rs))=false) (l:((n.kd==1 || n.kd==2 || n.kd==3 || n.kd==6 || n.kd==7)&&decide (n.lo>n.hi))=false):0=checkE n:=by rw[ck_eq h0 h9,j_ (by simp[h]),j_ (by rw[q];simp),j_ (by rw[l];simp)]
theorem nq {n:Nod} {b:Bool} (h2:nodEq n (plainN n) = !moreE n) (h:(!nodEq n (plainN n))=b):moreE n=b:=by rw[←h,h2,Bool.not_not]
theorem orf {a b:Bool} (h:a=false) (h':b=false):(a || b)=false:=by rw[h,h'];rfl
theorem orl {a b:Bool} (h:a=true):(a || b)=true:=by rw[h];rfl
theorem orr {a b:Bool} (h:b=true):(a || b)=true:=by rw[h,CX_]
theorem refCheck_n (n:Nod) (hk:In64 n.kd) (hn:n.kd<1∨9<n.kd):VC L_ 42 ([nod n]) (i64 (checkE n)):=by
 have h2:=nameEq_out hn
 have oz0:=@refName_v (n.kd) hk
 exact (cR_ [r_,.r [] [cr oz0],b_,r_] (i64 6) Tryz.func42 (.d2 oz0 h2)).to (by (simp only[checkE];rw[i_ hn]))
theorem refCheck_y (n:Nod) (hw:n.w.length≤100000) (hb:n.b.length≤100000) (hk:1≤n.kd) (hk9:n.kd≤9):VC L_ 42 ([nod n]) (i64 (checkE n)):=by
 have h1:=nameEq_in hk hk9
 have oz0:=@refName_v (n.kd) (by omega)
 have oz2:=@refMore_v (n) hw hb
 rcases bft (moreE n) with hc0|hc0
 ·have gc0:moreE n=true:=by first|exact hc0|exact of_decide_eq_true hc0|exact of_decide_eq_false hc0|simpa [eqNums] using hc0|(simp[eqNums] at hc0 ⊢;first|done|assumption|omega)
  exact (cR_ [r_,.r [] [cr oz0],d_,.r [] [cr oz2],b_,r_] (i64 2) Tryz.func42 (.d4 oz0 h1 oz2 hc0)).weak (D_ _) (N_ (by (exact ck2 hk hk9 (by assumption))))
 ·have gc0:moreE n=false:=by first|exact hc0|exact of_decide_eq_true hc0|exact of_decide_eq_false hc0|simpa [eqNums] using hc0|(simp[eqNums] at hc0 ⊢;first|done|assumption|omega)
  have oz4:=@refScaled_v (n.kd)
  have oz5:=@refRight_v (n.qm) (n.qs) (n.qz)
  have oz6:=@refRight_v (n.rm) (n.rs) (n.rz)
  rcases bft ((n.kd==1 || n.kd==2 || n.kd==3 || n.kd==6 || n.kd==7) && !rightQ n.qm n.qs || n.kd==6 && !rightQ n.rm n.rs) with hc1|hc1
  ·have gc1:((((n.kd=1∨n.kd=2)∨n.kd=3)∨n.kd=6)∨n.kd=7)∧rightQ n.qm n.qs=false∨n.kd=6∧rightQ n.rm n.rs=false:=gc0_ hc1
   exact (cR_ [r_,.r [] [cr oz0],d_,.r [] [cr oz2],d_,.r [] [cr oz4,o_,o_,o_,cr oz5,o_,.sel 2,o_,o_,o_,o_,o_,o_,o_,cr oz6,o_,o_,.sel 2,.sel 1],b_,r_] (i64 7) Tryz.func42 (.d8 oz0 h1 oz2 hc0 oz4 oz5 oz6 hc1)).weak (D_ _) (N_ (by (exact ck7 hk hk9 (by assumption) (by assumption))))
  ·have gc1:((((¬n.kd=1∧¬n.kd=2)∧¬n.kd=3)∧¬n.kd=6)∧¬n.kd=7∨rightQ n.qm n.qs=true)∧(¬n.kd=6∨rightQ n.rm n.rs=true):=gc0_ hc1
   rcases bft ((n.kd==1 || n.kd==2 || n.kd==3 || n.kd==6 || n.kd==7)&&decide (n.lo>n.hi)) with hc2|hc2
   ·have gc2:((((n.kd=1∨n.kd=2)∨n.kd=3)∨n.kd=6)∨n.kd=7)∧n.lo>n.hi:=gc0_ hc2
    exact (cR_ [r_,.r [] [cr oz0],d_,.r [] [cr oz2],d_,.r [] [cr oz4,o_,o_,o_,cr oz5,o_,.sel 2,o_,o_,o_,o_,o_,o_,o_,cr oz6,o_,o_,.sel 2,.sel 1],d_,.r [] [cr oz4,o_,o_,o_,o_,o_,.sel 2],b_,r_] (i64 2) Tryz.func42 (.c8 oz0 h1 oz2 hc0 oz4 oz5 oz6 hc1<|.d2 oz4 hc2)).weak (D_ _) (N_ (by (exact ck2b hk hk9 (by assumption) (by assumption) (by assumption))))
   ·have gc2:(((¬n.kd=1∧¬n.kd=2)∧¬n.kd=3)∧¬n.kd=6)∧¬n.kd=7∨¬n.lo>n.hi:=gc0_ hc2
    exact (cR_ [r_,.r [] [cr oz0],d_,.r [] [cr oz2],d_,.r [] [cr oz4,o_,o_,o_,cr oz5,o_,.sel 2,o_,o_,o_,o_,o_,o_,o_,cr oz6,o_,o_,.sel 2,.sel 1],d_,.r [] [cr oz4,o_,o_,o_,o_,o_,.sel 2],d_,r_] (i64 0) Tryz.func42 (.c8 oz0 h1 oz2 hc0 oz4 oz5 oz6 hc1<|.d2 oz4 hc2)).weak (D_ _) (N_ (by (exact ck0 hk hk9 (by assumption) (by assumption) (by assumption))))
theorem refCheck_v (n:Nod) (hw:n.w.length≤100000) (hb:n.b.length≤100000) (hk:In64 n.kd):VC L_ 42 [nod n] (i64 (checkE n)):=by
 by_cases h:n.kd<1∨9<n.kd
 ·exact refCheck_n n hk h
 ·exact refCheck_y n hw hb (by omega) (by omega)
theorem plain_v (n:Nod) (hw:n.w.length≤100000) (hb:n.b.length≤100000) (h0:1≤n.kd) (h9:n.kd≤9):VC L_ 109 [nod n] (nod (plainN n)):=by
 have:n.kd=1∨n.kd=2∨n.kd=3∨n.kd=4∨n.kd=5∨n.kd=6∨n.kd=7∨n.kd=8∨n.kd=9:=by omega
 unfold plainN
 rcases this with h|h|h|h|h|h|h|h|h
 ·have e:=plain1 n h hw hb;simp only[h,AH_,if_true,if_false] at e ⊢;exact e
 ·have e:=plain2 n h hw hb;simp only[h,AH_,if_true,if_false] at e ⊢;exact e
 ·have e:=plain3 n h hw hb;simp only[h,AH_,if_true,if_false] at e ⊢;exact e
 ·have e:=plain4 n h hw hb;simp only[h,AH_,if_true,if_false] at e ⊢;exact e
 ·have e:=plain5 n h hw hb;simp only[h,AH_,if_true,if_false] at e ⊢;exact e
 ·have e:=plain6 n h hw hb;simp only[h,AH_,if_true,if_false] at e ⊢;exact e
 ·have e:=plain7 n h hw hb;simp only[h,AH_,if_true,if_false] at e ⊢;exact e
 ·have e:=plain8 n h hw hb;simp only[h,AH_,if_true,if_false] at e ⊢;exact e
 ·have e:=plain9 n h hw hb;simp only[h,AH_,if_true,if_false] at e ⊢;exact e
theorem check_n (n:Nod) (hk:In64 n.kd) (hn:n.kd<1∨9<n.kd):VC L_ 89 ([nod n]) (i64 (checkE n)):=by
 have h2:=nameEq_out hn
 have oz0:=@name_v (n.kd) hk
 exact (cR_ [r_,.r [] [cr oz0],b_,r_] (i64 6) Tryz.func89 (.d2 oz0 h2)).to (by (simp only[checkE];rw[i_ hn]))
theorem check_y (n:Nod) (hw:n.w.length≤100000) (hb:n.b.length≤100000) (hk:1≤n.kd) (hk9:n.kd≤9):VC L_ 89 ([nod n]) (i64 (checkE n)):=by
 have h1:=nameEq_in hk hk9
 have h2:=more_iff n hk hk9
 have oz0:=@name_v (n.kd) (by omega)
 have oz2:=@plain_v (n) hw hb hk hk9
 have oz3:=@same_v (n) (plainN n) hw hb
 rcases bft (!nodEq n (plainN n)) with hc0|hc0
 ·have gc0:nodEq n (plainN n)=false:=by first|exact hc0|exact of_decide_eq_true hc0|exact of_decide_eq_false hc0|simpa [eqNums] using hc0|(simp[eqNums] at hc0 ⊢;first|done|assumption|omega)
  exact (cR_ [r_,.r [] [cr oz0],d_,.r [] [cr oz2,cr oz3],b_,r_] (i64 2) Tryz.func89 (.d5 oz0 h1 oz2 oz3 hc0)).weak (D_ _) (N_ (by (exact ck2 hk hk9 (nq h2 (by assumption)))))
 ·have gc0:nodEq n (plainN n)=true:=by first|exact hc0|exact of_decide_eq_true hc0|exact of_decide_eq_false hc0|simpa [eqNums] using hc0|(simp[eqNums] at hc0 ⊢;first|done|assumption|omega)
  have oz5:=@scaledK_v (n.kd)
  have oz6:=@right_v (n.qm) (n.qs) (n.qz)
  rcases bft ((n.kd==1 || n.kd==2 || n.kd==3 || n.kd==6 || n.kd==7) && !rightQ n.qm n.qs) with hc1|hc1
  ·have gc1:((((n.kd=1∨n.kd=2)∨n.kd=3)∨n.kd=6)∨n.kd=7)∧rightQ n.qm n.qs=false:=gc0_ hc1
   exact (cR_ [r_,.r [] [cr oz0],d_,.r [] [cr oz2,cr oz3],d_,.r [] [cr oz5,o_,o_,o_,cr oz6,o_,.sel 2],b_,b_,r_] (i64 7) Tryz.func89 (.c8 oz0 h1 oz2 oz3 hc0 oz5 oz6 hc1<|.d hc1)).weak (D_ _) (N_ (by (exact ck7 hk hk9 (nq h2 (by assumption)) (orl (by assumption)))))
  ·have gc1:(((¬n.kd=1∧¬n.kd=2)∧¬n.kd=3)∧¬n.kd=6)∧¬n.kd=7∨rightQ n.qm n.qs=true:=gc0_ hc1
   have oz8:=@right_v (n.rm) (n.rs) (n.rz)
   rcases bft (n.kd==6 && !rightQ n.rm n.rs) with hc2|hc2
   ·have gc2:n.kd=6∧rightQ n.rm n.rs=false:=gc0_ hc2
    exact (cR_ [r_,.r [] [cr oz0],d_,.r [] [cr oz2,cr oz3],d_,.r [] [cr oz5,o_,o_,o_,cr oz6,o_,.sel 2],d_,.r [] [o_,o_,o_,cr oz8,o_,.sel 2],b_,r_] (i64 7) Tryz.func89 (.c8 oz0 h1 oz2 oz3 hc0 oz5 oz6 hc1<|.d2 oz8 hc2)).weak (D_ _) (N_ (by (exact ck7 hk hk9 (nq h2 (by assumption)) (orr (by assumption)))))
   ·have gc2:¬n.kd=6∨rightQ n.rm n.rs=true:=gc0_ hc2
    rcases bft ((n.kd==1 || n.kd==2 || n.kd==3 || n.kd==6 || n.kd==7)&&decide (n.lo>n.hi)) with hc3|hc3
    ·have gc3:((((n.kd=1∨n.kd=2)∨n.kd=3)∨n.kd=6)∨n.kd=7)∧n.lo>n.hi:=gc0_ hc3
     exact (cR_ [r_,.r [] [cr oz0],d_,.r [] [cr oz2,cr oz3],d_,.r [] [cr oz5,o_,o_,o_,cr oz6,o_,.sel 2],d_,.r [] [o_,o_,o_,cr oz8,o_,.sel 2],d_,.r [] [cr oz5,o_,o_,o_,o_,o_,.sel 2],b_,r_] (i64 2) Tryz.func89 (.c8 oz0 h1 oz2 oz3 hc0 oz5 oz6 hc1<|.d4 oz8 hc2 oz5 hc3)).weak (D_ _) (N_ (by (exact ck2b hk hk9 (nq h2 (by assumption)) (orf (by assumption) (by assumption)) (by assumption))))
    ·have gc3:(((¬n.kd=1∧¬n.kd=2)∧¬n.kd=3)∧¬n.kd=6)∧¬n.kd=7∨¬n.lo>n.hi:=gc0_ hc3
     exact (cR_ [r_,.r [] [cr oz0],d_,.r [] [cr oz2,cr oz3],d_,.r [] [cr oz5,o_,o_,o_,cr oz6,o_,.sel 2],d_,.r [] [o_,o_,o_,cr oz8,o_,.sel 2],d_,.r [] [cr oz5,o_,o_,o_,o_,o_,.sel 2],d_,r_] (i64 0) Tryz.func89 (.c8 oz0 h1 oz2 oz3 hc0 oz5 oz6 hc1<|.d4 oz8 hc2 oz5 hc3)).weak (D_ _) (N_ (by (exact ck0 hk hk9 (nq h2 (by assumption)) (orf (by assumption) (by assumption)) (by assumption))))
theorem check_v (n:Nod) (hw:n.w.length≤100000) (hb:n.b.length≤100000) (hk:In64 n.kd):VC L_ 89 [nod n] (i64 (checkE n)):=by
 by_cases h:n.kd<1∨9<n.kd
 ·exact check_n n hk h
 ·exact check_y n hw hb (by omega) (by omega)
end Go.Proofs.YtdmkhinckljddaaGreatDoor
