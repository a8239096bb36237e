/- A part of this claim. No condition. -/
import Derived.Deep.LoopGhost
import Derived.Test.YtgimdjfbnbkpgaaGreatProg
import Derived.WalkKit
import Derived.Below
import Derived.LoopTactic
import Derived.RegionTactic
import Derived.ChangeAlike
import Derived.BigRegion
import Derived.Deep.QuietTactic
import Derived.BigQuiet
import Derived.Lib.Hide
import Derived.WalkSpells
import Derived.WalkLawsBesides
import Derived.WalkSmall
import Derived.Laws.BytesString
import Derived.Laws.IdiomStrings
import Derived.Laws.BitsAllLaws
import Derived.Laws.AppendOwnNone
import Derived.PlainAid
import Derived.Laws.Tables
import Derived.Laws.CopyOwn
import Derived.Deep.WholeRow
import Derived.Laws.ResultCell
import Derived.Shelf.Bits.Mul64
import Derived.Handy
import Derived.ScopeJumps
import Derived.OwnWalk
import Derived.Deep.Slices
import Derived.ProofKit
import Derived.OpenShut
import Derived.ShutString
import Derived.ChangeOld
import Derived.Outline
import Derived.Test.YtgimdjfbnbkpgaaGreatBundleEncodesG2
set_option maxRecDepth 100000
set_option maxHeartbeats 2000000
set_option linter.unusedVariables false
set_option linter.unusedSimpArgs false
set_option linter.unnecessarySimpa false
namespace Go.Proofs.YtgimdjfbnbkpgaaGreat
open Go.RowKit
open BlkW renaming rows→AG_
open Bool renaming and_eq_true→P_
open Int renaming toNat_natCast→AJ_,tdiv_eq_ediv_of_nonneg→BF_,tmod_eq_emod_of_nonneg→CX_,mul_nonneg→CC_
open IntKind renaming u8→M_,wrap_u64→DO_
open IntWalk renaming i32_in→CR_
open List renaming map→K_,length_map→N_,length_append→O_,map_replicate→X_,map_append→A_,map_cons→D_,getElem?_eq_getElem→AL_,map_take→AM_,map_drop→AN_,map_nil→AO_,map_set→AP_,getD_eq_getElem?_getD→AU_,getElem?_map→AV_,length_cons→AC_,length_replicate→AH_,eq_nil_of_length_eq_zero→AI_,length_take→BL_,length_drop→BX_,length_nil→BB_,length_set→BD_,getElem?_take→BE_,getElem?_set→BG_,getElem?_drop→CU_,getElem_mem→CY_,replicate→CI_,getElem?_append→DL_
open Nat renaming le_trans→AK_,le_refl→AX_,zero_add→BU_,zero_le→CG_
open Option renaming map_eq_some_iff→AT_,getD_some→BJ_
open Result renaming andThen_ok→AS_
open Sem renaming run_bind→AW_,run_pure→BZ_
open Tryz renaming prog→L_,ntmps203→DN_
open Value renaming int→AQ_
open Weak renaming bool→AZ_,agg→AD_,rows→CP_
open WeakL renaming refl→B_
abbrev o_:PI:=.op false
abbrev p_:PI:=.op true
abbrev e_:PI:=.br true
abbrev f_:PI:=.br false
abbrev b_:WI:=.br true
abbrev d_:WI:=.br false
abbrev r_:WI:=.r [] []
theorem wS_ (k:Nat):Weak (.lit (.int .i64 ((k:Int)+1))) (.lit (.int .i64 ((k+1:Nat):Int))):=Weak.int (by omega)
theorem w0_:Weak (.lit (.int .i64 0)) (.lit (.int .i64 ((0:Nat):Int))):=Weak.int (by omega)
theorem cbc {p:Prop} (h:¬p→False):p:=Classical.byContradiction h
theorem i6n (n:Int) (h:-9223372036854775808≤n∧n≤9223372036854775807):IntKind.i64.wrap n=n:=IntWalk.i64_in n h
theorem bft (b:Bool):b=true∨b=false:=Bool.eq_false_or_eq_true b
theorem ret_int {k:IntKind} {a b:Int} (h:a=b):Ending.returned (.int k a)=.returned (.int k b):=by rw[h]
def Rd (w:World) (v:Value) (xs:List Value):Prop :=
 ∃ ao cap,v=.slice ao xs.length cap∧(xs.length≤cap∧cap≤maxLen∧(ao=none→cap=0))∧(xs≠[]→∃ b off,ao=some ⟨b,off,none⟩∧∀ j (h:j<xs.length),w.cell? ⟨b,off+j,none⟩=some xs[j])
theorem Rd.nil (w:World):Rd w (.slice none 0 0) []:=⟨none,0,rfl,⟨AX_ _,CG_ _,fun _=>rfl⟩,fun h=>absurd rfl h⟩
theorem lt_of_cell {w:World} {a:Addr} {v:Value} (h:w.cell? a=some v):a.block<w.heap.size:=World.block_lt_of_cell? w a h
def Own (B:Nat) (w:World) (e:TypeId) (v:Value) (xs:List Value):Prop:=w.ownsRow B e 1 v xs.length xs
theorem Own.nil (B:Nat) (w:World) (e:TypeId):Own B w e (.slice none 0 0) []:=World.ownsRow_nil _ _ _ _
theorem Own.rd {B:Nat} {w:World} {e:TypeId} {v:Value} {xs:List Value} (h:Own B w e v xs):Rd w v xs:=by
 have h0:=h
 obtain ⟨_,hcase⟩:=h
 rcases hcase with ⟨rfl,hn⟩|⟨g,cap,cur,rfl,hg,hh,hn,hcap,hsz,htake⟩
 ·have:xs=[]:=AI_ hn
  subst this
  exact Rd.nil w
 ·refine ⟨_,_,rfl,⟨hn,hcap,by simp⟩,fun _=>⟨g,0,rfl,fun j hj=>?_⟩⟩
  rw[BU_,World.ownsRow.cellAt h0 j (by omega),AL_ hj]
theorem Own.below {B C:Nat} {w w':World} {e:TypeId} {v:Value} {xs:List Value} (h:Own B w e v xs) (hb:Below C w w') (hC:w.heap.size≤C):Own B w' e v xs:=by
 refine ⟨h.1,?_⟩
 rcases h.2 with h2|⟨g,cap,cur,hv,hg,hh,r⟩
 ·exact .inl h2
 ·refine .inr ⟨g,cap,cur,hv,hg,?_,r⟩
  rw[hb.block g (Nat.lt_of_lt_of_le (Array.getElem?_eq_some_iff.1 hh).1 hC)]
  exact hh
theorem bl_step {w w1 w2:World} (h:Below w.heap.size w w1) (k:Below w1.heap.size w1 w2):Below w.heap.size w w2 :=
 h.trans (k.mono h.size)
theorem bl_get {w w':World} (hb:Below w.heap.size w w') {b o:Nat} {v:Value} (h:w.cell? ⟨b,o,none⟩=some v):w'.cell? ⟨b,o,none⟩=some v :=
 (hb.cell (p:=⟨b,o,none⟩) (lt_of_cell h)).trans h
theorem one_new (w:World) (x:Value) (t:TypeId):∀ j u,[x][j]? = some u→(w.alloc (.cells #[x] t)).cell? ((⟨w.heap.size,0,none⟩:Addr).add j)=some u:=by
 intro j u hj
 match j,hj with
 | 0,hj =>
  simp at hj;subst hj
  rw[show (⟨w.heap.size,0,none⟩:Addr).add 0=⟨w.heap.size,0,none⟩ from by simp[Addr.add],World.cell?_alloc_at _ _ _ _ rfl];rfl
theorem one_cell (x:Value) (h:x.oneCell'=true):∀ u∈[x],u.oneCell'=true:=by intro u hu;simp at hu;subst hu;exact h
def Held (p:Prop):Prop:=p
theorem hold {p:Prop} (h:Held p):p:=h
theorem unheld {p:Prop} (h:p):Held p:=h
theorem wpList_app1 {P:Program} {ops:Array Oper} {rest:List Oper} {o:Oper} {a:Act} {Q:Exit→Act→World→Prop} (hgd:o.guard=none) (s x:Operand) (t:TypeId)
  (ho:o.op=.call { callee:=.builtin .append,args := #[s,x],argTypes := #[t,t] })
  (B:Nat) (e:TypeId) (i:TypeInfo) (z:Value) (bytes:Nat) (ht:P.underlying t=some (.slice e)) (hi:P.info? e=some i) (hz:i.zero=some z)
  (hsize:i.size=1) (hby:i.bytes=bytes) (hbs:bytes≤64) (hzs:z.cells.size=1)
  (v:Value) (xs:List Value) (w0:World) (u:Value) (te:TypeId)
  (hown:Own B w0 e v xs) (hs:a.eval s=v) (hx:a.eval x=.slice (some ⟨w0.heap.size,0,none⟩) 1 1) (hu:u.oneCell'=true) (hlen:xs.length+1≤1099511627776) (hB:B≤w0.heap.size)
  (h:∀ v' w',Own B w' e v' (xs++[u])→Below B w0 w'→wpList P ops Q rest (a.put o.dst v') w') :
  wpList P ops Q (o::rest) a (w0.alloc (.cells #[u] te)):=by
 have h63:xs.length+1≤maxLen:=by unfold maxLen;omega
 have hbytes:(xs.length+1)*bytes≤140737488355328:=AK_ (Nat.mul_le_mul hlen hbs) (by decide)
 refine wpList_append_own _ hgd s x t ho B e i z 1 bytes ht hi hz hsize hby hzs (by decide) v xs.length xs hs (World.ownsRow.alloc hown _) ⟨w0.heap.size,0,none⟩ 1 1 [u] hx rfl (one_new w0 u te) (one_cell u hu) h63 hbytes (by simp;omega) ?_
 intro v' w' hown' hgrow _
 refine h v' w' ?_ ?_
 ·unfold Own;rw[O_];exact hown'
 ·exact ((Below.refl B w0).alloc hB _).grown hgrow (by simp;omega) (fun k hk=>(hown.lt k hk).1)
theorem add_off (b off j:Nat):(⟨b,off,none⟩:Addr).add j=⟨b,off+j,none⟩:=by unfold Addr.add;split<;>simp_all
theorem wf_i64 {n:Int} (h:(Lit.int .i64 n).wf=true) : -9223372036854775808≤n∧n≤9223372036854775807:=by
 simp only[Lit.wf,IntKind.min,IntKind.max,IntKind.signed,IntKind.bits,P_,E_] at h;simp at h;omega
theorem wf_i32 {n:Int} (h:(Lit.int .i32 n).wf=true) : -2147483648≤n∧n≤2147483647:=by
 simp only[Lit.wf,IntKind.min,IntKind.max,IntKind.signed,IntKind.bits,P_] at h;simp at h;omega
theorem wf_u8 {n:Int} (h:(Lit.int .u8 n).wf=true):0≤n∧n≤255:=by
 simp only[Lit.wf,IntKind.min,IntKind.max,IntKind.signed,IntKind.bits,P_] at h;simp at h;omega
theorem wf_i8 {n:Int} (h:(Lit.int .i8 n).wf=true) : -128≤n∧n≤127:=by
 simp only[Lit.wf,IntKind.min,IntKind.max,IntKind.signed,IntKind.bits,P_] at h;simp at h;omega
theorem ints_one (k:IntKind) (zs:List Int):∀ u∈zs.map (AQ_ k),u.oneCell'=true:=ints_oneCell k zs
theorem wpList_appS {P:Program} {ops:Array Oper} {rest:List Oper} {o:Oper} {a:Act} {w:World} {Q:Exit→Act→World→Prop} (hgd:o.guard=none) (s x:Operand) (t:TypeId)
  (ho:o.op=.call { callee:=.builtin .append,args := #[s,x],argTypes := #[t,t] })
  (B:Nat) (e:TypeId) (i:TypeInfo) (z:Value) (bytes:Nat) (ht:P.underlying t=some (.slice e)) (hi:P.info? e=some i) (hz:i.zero=some z)
  (hsize:i.size=1) (hby:i.bytes=bytes) (hbs:bytes≤64) (hzs:z.cells.size=1)
  (v sv:Value) (xs news:List Value) (hown:Own B w e v xs) (hsrc:Rd w sv news) (hs:a.eval s=v) (hx:a.eval x=sv)
  (hu:∀ u∈news,u.oneCell'=true) (hlen:xs.length+news.length≤1099511627776) (hB:B≤w.heap.size)
  (h:∀ v' w',Own B w' e v' (xs++news)→Below B w w'→wpList P ops Q rest (a.put o.dst v') w') :
  wpList P ops Q (o::rest) a w:=by
 have h63:xs.length+news.length≤maxLen:=by unfold maxLen;omega
 have hbytes:(xs.length+news.length)*bytes≤140737488355328:=AK_ (Nat.mul_le_mul hlen hbs) (by decide)
 obtain ⟨ao,cap,rfl,hcap,hc⟩:=hsrc
 have fin:∀ (ad:Addr),ao=some ad→(∀ j u,news[j]? = some u→w.cell? (ad.add j)=some u)→wpList P ops Q (o::rest) a w:=by
  rintro ad rfl hcells
  refine wpList_append_own _ hgd s x t ho B e i z 1 bytes ht hi hz hsize hby hzs (by decide) v xs.length xs hs hown ad news.length cap news hx (by simp) hcells hu h63 hbytes hB ?_
  intro v' w' hown' hgrow _
  refine h v' w' ?_ ?_
  ·unfold Own;rw[O_];exact hown'
  ·exact (Below.refl B w).grown hgrow hB (fun k hk=>(hown.lt k hk).1)
 by_cases hne:news=[]
 ·subst hne
  cases ao with
  | none =>
   obtain rfl:cap=0:=hcap.2.2 rfl
   refine wpList_append_own_none hgd s x t ho B e i 1 ht hi v xs.length xs hs hown hx ?_
   refine h v w (by rw[List.append_nil];exact hown) (Below.refl B w)
  | some ad=>exact fin ad rfl (by intro j u hj;simp at hj)
 ·obtain ⟨b,off,rfl,hk⟩:=hc hne
  refine fin _ rfl (fun j u hj=>?_)
  obtain ⟨hj',rfl⟩:=List.getElem?_eq_some_iff.1 hj
  rw[add_off];exact hk j hj'
def At (w:World) (g:Nat) (t:TypeId) (cs:Array Value):Prop:=w.heap[g]? = some (.cells cs t (0,0))
theorem At.cell {w:World} {g:Nat} {t:TypeId} {cs:Array Value} (h:At w g t cs) (i:Nat):w.cell? ⟨g,i,none⟩=cs[i]?:=by
 unfold At at h;simp[World.cell?,h]
theorem At.free {w:World} {g:Nat} {t:TypeId} {cs:Array Value} (h:At w g t cs) (i:Nat):w.frozen? ⟨g,i,none⟩=false:=by
 unfold At at h;simp[World.frozen?,h]
theorem At.lt {w:World} {g:Nat} {t:TypeId} {cs:Array Value} (h:At w g t cs):g<w.heap.size:=(Array.getElem?_eq_some_iff.1 h).1
theorem At.new (w:World) (t:TypeId) (cs:Array Value):At (w.alloc (.cells cs t)) w.heap.size t cs:=by
 show (w.heap.push _)[w.heap.size]? = _
 simp
theorem At.alloc {w:World} {g:Nat} {t:TypeId} {cs:Array Value} (h:At w g t cs) (o:Obj):At (w.alloc o) g t cs:=(Below.heap_alloc w o g h.lt).trans h
theorem At.set {w:World} {g:Nat} {t:TypeId} {cs:Array Value} (h:At w g t cs) (i:Nat) (u:Value):At (w.setCell ⟨g,i,none⟩ u) g t (cs.setIfInBounds i u):=by
 unfold At at h ⊢
 simp[World.setCell,Array.getElem?_modify,h]
theorem At.other {w:World} {g:Nat} {t:TypeId} {cs:Array Value} (h:At w g t cs) {p:Addr} (hp:g≠p.block) (u:Value):At (w.setCell p u) g t cs:=(Below.heap_setCell w p u g hp).trans h
theorem At.row {w:World} {g:Nat} {t:TypeId} {cs:Array Value} (h:At w g t cs) (cs':Array Value):At (w.setRow g cs') g t cs':=setRow_heap w g cs cs' t (0,0) h
theorem bl_row {B g:Nat} {w0 w:World} (hb:Below B w0 w) (hBg:B≤g) (cs:Array Value):Below B w0 (w.setRow g cs):=below_setRow hb hBg cs
theorem wpList_storeNew {P:Program} {ops:Array Oper} {rest:List Oper} {op:Oper} {a:Act} {w0:World} {Q:Exit→Act→World→Prop} (c c':Array Value) (t:TypeId) (hgd:op.guard=none) (x y:Operand) (ho:op.op=.store t x y)
  (hx:a.eval x=.pointer (some ⟨w0.heap.size,0,none⟩)) (hy:a.eval y=.agg c') (hi:(P.info? t).map (·.size)=some c'.size) (hc:c.size=c'.size) (h1:c'.all (·.oneCell')=true)
  (h:wpList P ops Q rest (a.put op.dst undef) (w0.alloc (.cells c' t))):wpList P ops Q (op::rest) a (w0.alloc (.cells c t)) :=
 wpList_plain hgd fun K hK=>by
  unfold Oper.wp execOp
  simp only[ho,hx,hy,Instr.storeAt,Instr.sureAddr,AW_,BZ_,AS_,run_storeVar_new w0 t c c' hi hc h1]
  exact hK _ _ h
theorem mul64_any (x y:Nat) (hx:x<18446744073709551616) (hy:y<18446744073709551616) (w:World) :
  Calls L_ 221 #[.int .u64 x,.int .u64 y] w fun e w'=>e=.returned (.tuple #[.int .u64 ((x*y/18446744073709551616:Nat):Int),.int .u64 ((x*y % 18446744073709551616:Nat):Int)])∧w'=w:=by
 obtain ⟨bd,bt,bw,hhi⟩:=Lib.mul64_hi x y hx hy
 have ba:=Lib.half_mul_le (a:=x/4294967296) (b:=y/4294967296) (by omega) (by omega)
 have bb:=Lib.half_mul_le (a:=x/4294967296) (b:=y % 4294967296) (by omega) (by omega)
 have bc:=Lib.half_mul_le (a:=x % 4294967296) (b:=y/4294967296) (by omega) (by omega)
 have ba':x/4294967296*(y/4294967296)<18446744073709551616:=by omega
 have bb':x/4294967296*(y % 4294967296)<18446744073709551616:=by omega
 have bc':x % 4294967296*(y/4294967296)<18446744073709551616:=by omega
 have bh1:x/4294967296*(y/4294967296)+(x/4294967296*(y % 4294967296)+x % 4294967296*(y % 4294967296)/4294967296)/4294967296<18446744073709551616:=by omega
 have bh:x/4294967296*(y/4294967296)+(x/4294967296*(y % 4294967296)+x % 4294967296*(y % 4294967296)/4294967296)/4294967296+((x/4294967296*(y % 4294967296)+x % 4294967296*(y % 4294967296)/4294967296) % 4294967296+x % 4294967296*(y/4294967296))/4294967296<18446744073709551616:=by omega
 go_enter Tryz.func221,Tryz.ntmps221
 go_wp2
 simp only[Mul64.maskN x hx,Mul64.maskN y hy,Mul64.divN,Mul64.mulN,Mul64.addN,Mul64.wrapN _ bd,Mul64.wrapN _ bb',Mul64.wrapN _ bt,Mul64.maskN _ bt,Mul64.wrapN _ bc',Mul64.wrapN _ bw,Mul64.wrapN _ ba',Mul64.wrapN _ bh1,Mul64.wrapN _ bh,Mul64.wrapM (x*y)]
 rw[hhi]
 go_ret2
 exact ⟨rfl,rfl⟩
theorem satSize_any (a:Int) (w:World) (a0 : -9223372036854775808≤a) (a1:a≤9223372036854775807) :
  Calls L_ 222 #[.int .i64 a] w fun e w'=>e=.returned (.int .u64 ((a.natAbs:Nat):Int))∧w=w':=by
 by_cases h:a<0
 ·go_enter Tryz.func222,Tryz.ntmps222
  go_wp2
  go_ret
  refine ⟨ret_int ?_,rfl⟩
  rw[DO_,DO_];omega
 ·have h':0≤a:=by omega
  go_enter Tryz.func222,Tryz.ntmps222
  go_wp2
  go_ret
  refine ⟨ret_int ?_,rfl⟩
  omega
theorem abs_sign (a b:Int):(((a<0)=(b<0))→a*b=((a.natAbs*b.natAbs:Nat):Int))∧((¬ (a<0)=(b<0))→a*b = -((a.natAbs*b.natAbs:Nat):Int)):=by
 rw[Int.natCast_mul]
 rcases Int.lt_or_le a 0 with ha|ha<;>rcases Int.lt_or_le b 0 with hb|hb
 ·rw[show ((a.natAbs:Nat):Int) = -a by omega,show ((b.natAbs:Nat):Int) = -b by omega,Int.neg_mul_neg]
  exact ⟨fun _=>rfl,fun h=>absurd (by simp[ha,hb]) h⟩
 ·rw[show ((a.natAbs:Nat):Int) = -a by omega,show ((b.natAbs:Nat):Int)=b by omega,Int.neg_mul,Int.neg_neg]
  exact ⟨fun h=>by simp[ha] at h;omega,fun _=>rfl⟩
 ·rw[show ((a.natAbs:Nat):Int)=a by omega,show ((b.natAbs:Nat):Int) = -b by omega,Int.mul_neg,Int.neg_neg]
  exact ⟨fun h=>by simp[hb] at h;omega,fun _=>rfl⟩
 ·rw[show ((a.natAbs:Nat):Int)=a by omega,show ((b.natAbs:Nat):Int)=b by omega]
  exact ⟨fun _=>rfl,fun h=>absurd (by simp[show ¬ a<0 by omega,show ¬ b<0 by omega]) h⟩
theorem times_any (a b:Int) (w:World) (a0 : -9223372036854775808≤a) (a1:a≤9223372036854775807) (b0 : -9223372036854775808≤b) (b1:b≤9223372036854775807) :
  Calls L_ 203 #[.int .i64 a,.int .i64 b] w fun e w'=>∃ q r,e=.returned (.tuple #[.int .i64 q,.bool r])∧((r=true∧q=a*b ∧ -9223372036854775808≤a*b∧a*b≤9223372036854775807)∨(r=false∧(a*b < -9223372036854775808∨9223372036854775807<a*b)))∧w=w':=by
 obtain ⟨hs1,hs2⟩:=abs_sign a b
 obtain ⟨x,hx⟩:∃ x,x=a.natAbs:=⟨_,rfl⟩
 obtain ⟨y,hy⟩:∃ y,y=b.natAbs:=⟨_,rfl⟩
 have hxb:x<18446744073709551616:=by omega
 have hyb:y<18446744073709551616:=by omega
 rw[←hx,←hy] at hs1 hs2
 obtain ⟨m,hm⟩:∃ m,m=a*b:=⟨_,rfl⟩
 rw[←hm] at hs1 hs2 ⊢
 obtain ⟨H,hH⟩:∃ H,H=x*y/18446744073709551616:=⟨_,rfl⟩
 obtain ⟨L,hL⟩:∃ L,L=x*y % 18446744073709551616:=⟨_,rfl⟩
 have hp:x*y=18446744073709551616*H+L:=by rw[hH,hL];exact (Nat.div_add_mod _ _).symm
 have hLb:L<18446744073709551616:=by rw[hL];exact Nat.mod_lt _ (by decide)
 have hM:=Lib.hid (mul64_any x y hxb hyb w)
 rw[←hH,←hL] at hM
 have hS1:=Lib.hid (satSize_any a w a0 a1)
 have hS2:=Lib.hid (satSize_any b w b0 b1)
 rw[←hx] at hS1
 rw[←hy] at hS2
 rw[hp] at hs1 hs2
 have K1:=Lib.hid hs1;have K2:=Lib.hid hs2
 clear hs1 hs2 hp hH hL hm hx hy
 by_cases h1:H=0
 ·subst h1
  have e1:(((0:Nat):Int) != 0)=false:=rfl
  have e1':(((0:Nat):Int)==0)=true:=rfl
  rcases Int.lt_or_le a 0 with ha|ha<;>rcases Int.lt_or_le b 0 with hb|hb
  ·skip
   have da:decide (a<0)=true:=by rw[E_];omega
   have db:decide (b<0)=true:=by rw[E_];omega
   have hm:=K1.out (by simp only[eq_iff_iff];omega)
   by_cases hL:L≤9223372036854775807
   ·have d1:decide ((9223372036854775808:Int)<(L:Int))=false:=by rw[F_];omega
    have d2:((L:Int)==9223372036854775808)=false:=by rw[H_];omega
    go_enter Tryz.func203,DN_
    go_wp2_with fail
    refine hS1.out.mono ?_
    rintro e w' ⟨rfl,rfl⟩
    go_wp2_with fail
    refine hS2.out.mono ?_
    rintro e w' ⟨rfl,rfl⟩
    go_wp2_with fail
    refine hM.out.mono ?_
    rintro e w' ⟨rfl,rfl⟩
    go_wp2_with fail
    go_ret2
    refine ⟨_,true,rfl,.inl ⟨rfl,?_,?_,?_⟩,rfl⟩<;>first|omega|(simp[wrap64];omega)
   ·by_cases hL2:L=9223372036854775808
    ·subst hL2
     have d1:decide ((9223372036854775808:Int)<((9223372036854775808:Nat):Int))=false:=by decide
     have d2:(((9223372036854775808:Nat):Int)==9223372036854775808)=true:=by decide
     go_enter Tryz.func203,DN_
     go_wp2_with fail
     refine hS1.out.mono ?_
     rintro e w' ⟨rfl,rfl⟩
     go_wp2_with fail
     refine hS2.out.mono ?_
     rintro e w' ⟨rfl,rfl⟩
     go_wp2_with fail
     refine hM.out.mono ?_
     rintro e w' ⟨rfl,rfl⟩
     go_wp2_with fail
     go_ret2
     exact ⟨_,_,rfl,.inr ⟨rfl,by omega⟩,rfl⟩
    ·have d1:decide ((9223372036854775808:Int)<(L:Int))=true:=by rw[E_];omega
     go_enter Tryz.func203,DN_
     go_wp2_with fail
     refine hS1.out.mono ?_
     rintro e w' ⟨rfl,rfl⟩
     go_wp2_with fail
     refine hS2.out.mono ?_
     rintro e w' ⟨rfl,rfl⟩
     go_wp2_with fail
     refine hM.out.mono ?_
     rintro e w' ⟨rfl,rfl⟩
     go_wp2_with fail
     go_ret2
     exact ⟨_,_,rfl,.inr ⟨rfl,by omega⟩,rfl⟩
  ·skip
   have da:decide (a<0)=true:=by rw[E_];omega
   have db:decide (b<0)=false:=by rw[F_];omega
   have hm:=K2.out (by simp only[eq_iff_iff];omega)
   by_cases hL:L≤9223372036854775807
   ·have d1:decide ((9223372036854775808:Int)<(L:Int))=false:=by rw[F_];omega
    have d2:((L:Int)==9223372036854775808)=false:=by rw[H_];omega
    go_enter Tryz.func203,DN_
    go_wp2_with fail
    refine hS1.out.mono ?_
    rintro e w' ⟨rfl,rfl⟩
    go_wp2_with fail
    refine hS2.out.mono ?_
    rintro e w' ⟨rfl,rfl⟩
    go_wp2_with fail
    refine hM.out.mono ?_
    rintro e w' ⟨rfl,rfl⟩
    go_wp2_with fail
    go_ret2
    refine ⟨_,true,rfl,.inl ⟨rfl,?_,?_,?_⟩,rfl⟩<;>first|omega|(simp only[DO_];unfold wrap64;omega)
   ·by_cases hL2:L=9223372036854775808
    ·subst hL2
     have d1:decide ((9223372036854775808:Int)<((9223372036854775808:Nat):Int))=false:=by decide
     have d2:(((9223372036854775808:Nat):Int)==9223372036854775808)=true:=by decide
     go_enter Tryz.func203,DN_
     go_wp2_with fail
     refine hS1.out.mono ?_
     rintro e w' ⟨rfl,rfl⟩
     go_wp2_with fail
     refine hS2.out.mono ?_
     rintro e w' ⟨rfl,rfl⟩
     go_wp2_with fail
     refine hM.out.mono ?_
     rintro e w' ⟨rfl,rfl⟩
     go_wp2_with fail
     go_ret2
     refine ⟨_,true,rfl,.inl ⟨rfl,?_,?_,?_⟩,rfl⟩<;>first|omega|(rw[DO_];unfold wrap64;omega)
    ·have d1:decide ((9223372036854775808:Int)<(L:Int))=true:=by rw[E_];omega
     go_enter Tryz.func203,DN_
     go_wp2_with fail
     refine hS1.out.mono ?_
     rintro e w' ⟨rfl,rfl⟩
     go_wp2_with fail
     refine hS2.out.mono ?_
     rintro e w' ⟨rfl,rfl⟩
     go_wp2_with fail
     refine hM.out.mono ?_
     rintro e w' ⟨rfl,rfl⟩
     go_wp2_with fail
     go_ret2
     exact ⟨_,_,rfl,.inr ⟨rfl,by omega⟩,rfl⟩
  ·skip
   have da:decide (a<0)=false:=by rw[F_];omega
   have db:decide (b<0)=true:=by rw[E_];omega
   have hm:=K2.out (by simp only[eq_iff_iff];omega)
   by_cases hL:L≤9223372036854775807
   ·have d1:decide ((9223372036854775808:Int)<(L:Int))=false:=by rw[F_];omega
    have d2:((L:Int)==9223372036854775808)=false:=by rw[H_];omega
    go_enter Tryz.func203,DN_
    go_wp2_with fail
    refine hS1.out.mono ?_
    rintro e w' ⟨rfl,rfl⟩
    go_wp2_with fail
    refine hS2.out.mono ?_
    rintro e w' ⟨rfl,rfl⟩
    go_wp2_with fail
    refine hM.out.mono ?_
    rintro e w' ⟨rfl,rfl⟩
    go_wp2_with fail
    go_ret2
    refine ⟨_,true,rfl,.inl ⟨rfl,?_,?_,?_⟩,rfl⟩<;>first|omega|(simp only[DO_];unfold wrap64;omega)
   ·by_cases hL2:L=9223372036854775808
    ·subst hL2
     have d1:decide ((9223372036854775808:Int)<((9223372036854775808:Nat):Int))=false:=by decide
     have d2:(((9223372036854775808:Nat):Int)==9223372036854775808)=true:=by decide
     go_enter Tryz.func203,DN_
     go_wp2_with fail
     refine hS1.out.mono ?_
     rintro e w' ⟨rfl,rfl⟩
     go_wp2_with fail
     refine hS2.out.mono ?_
     rintro e w' ⟨rfl,rfl⟩
     go_wp2_with fail
     refine hM.out.mono ?_
     rintro e w' ⟨rfl,rfl⟩
     go_wp2_with fail
     go_ret2
     refine ⟨_,true,rfl,.inl ⟨rfl,?_,?_,?_⟩,rfl⟩<;>first|omega|(rw[DO_];unfold wrap64;omega)
    ·have d1:decide ((9223372036854775808:Int)<(L:Int))=true:=by rw[E_];omega
     go_enter Tryz.func203,DN_
     go_wp2_with fail
     refine hS1.out.mono ?_
     rintro e w' ⟨rfl,rfl⟩
     go_wp2_with fail
     refine hS2.out.mono ?_
     rintro e w' ⟨rfl,rfl⟩
     go_wp2_with fail
     refine hM.out.mono ?_
     rintro e w' ⟨rfl,rfl⟩
     go_wp2_with fail
     go_ret2
     exact ⟨_,_,rfl,.inr ⟨rfl,by omega⟩,rfl⟩
  ·skip
   have da:decide (a<0)=false:=by rw[F_];omega
   have db:decide (b<0)=false:=by rw[F_];omega
   have hm:=K1.out (by simp only[eq_iff_iff];omega)
   by_cases hL:L≤9223372036854775807
   ·have d1:decide ((9223372036854775808:Int)<(L:Int))=false:=by rw[F_];omega
    have d2:((L:Int)==9223372036854775808)=false:=by rw[H_];omega
    go_enter Tryz.func203,DN_
    go_wp2_with fail
    refine hS1.out.mono ?_
    rintro e w' ⟨rfl,rfl⟩
    go_wp2_with fail
    refine hS2.out.mono ?_
    rintro e w' ⟨rfl,rfl⟩
    go_wp2_with fail
    refine hM.out.mono ?_
    rintro e w' ⟨rfl,rfl⟩
    go_wp2_with fail
    go_ret2
    refine ⟨_,true,rfl,.inl ⟨rfl,?_,?_,?_⟩,rfl⟩<;>first|omega|(simp[wrap64];omega)
   ·by_cases hL2:L=9223372036854775808
    ·subst hL2
     have d1:decide ((9223372036854775808:Int)<((9223372036854775808:Nat):Int))=false:=by decide
     have d2:(((9223372036854775808:Nat):Int)==9223372036854775808)=true:=by decide
     go_enter Tryz.func203,DN_
     go_wp2_with fail
     refine hS1.out.mono ?_
     rintro e w' ⟨rfl,rfl⟩
     go_wp2_with fail
     refine hS2.out.mono ?_
     rintro e w' ⟨rfl,rfl⟩
     go_wp2_with fail
     refine hM.out.mono ?_
     rintro e w' ⟨rfl,rfl⟩
     go_wp2_with fail
     go_ret2
     exact ⟨_,_,rfl,.inr ⟨rfl,by omega⟩,rfl⟩
    ·have d1:decide ((9223372036854775808:Int)<(L:Int))=true:=by rw[E_];omega
     go_enter Tryz.func203,DN_
     go_wp2_with fail
     refine hS1.out.mono ?_
     rintro e w' ⟨rfl,rfl⟩
     go_wp2_with fail
     refine hS2.out.mono ?_
     rintro e w' ⟨rfl,rfl⟩
     go_wp2_with fail
     refine hM.out.mono ?_
     rintro e w' ⟨rfl,rfl⟩
     go_wp2_with fail
     go_ret2
     exact ⟨_,_,rfl,.inr ⟨rfl,by omega⟩,rfl⟩
 ·have e1:((H:Int) != 0)=true:=by rw[J_];omega
  have e1':((H:Int)==0)=false:=by rw[H_];omega
  have hbig:m < -9223372036854775808∨9223372036854775807<m:=by
   by_cases h:(a<0)=(b<0)
   ·have:=K1.out h;omega
   ·have:=K2.out h;omega
  clear h1
  go_enter Tryz.func203,DN_
  go_wp2_with fail
  refine hS1.out.mono ?_
  rintro e w' ⟨rfl,rfl⟩
  go_wp2_with fail
  refine hS2.out.mono ?_
  rintro e w' ⟨rfl,rfl⟩
  go_wp2_with fail
  refine hM.out.mono ?_
  rintro e w' ⟨rfl,rfl⟩
  go_wp2_with fail
  go_ret2
  exact ⟨_,_,rfl,.inr ⟨rfl,hbig⟩,rfl⟩
def elems (h w c:Int):Int:=if 1≤h∧h≤16∧1≤w∧w≤16∧1≤c∧c≤1024∧h*w*c≤1024 then h*w*c else 0
theorem elems_bd (h w c:Int):0≤elems h w c∧elems h w c≤1024:=by
 unfold elems
 split
 ·rename_i hh
  obtain ⟨h1,h2,w1,w2,c1,c2,hp⟩:=hh
  exact ⟨CC_ (CC_ (by omega) (by omega)) (by omega),hp⟩
 ·omega
def prodTo:List Int→Int→Option Int
 | [],n=>some n
 | x::l,n=>if 1≤x∧n*x≤1024 then prodTo l (n*x) else none
theorem prodTo_elems (h w c:Int) (h16:h≤16) (w16:w≤16):(prodTo [h,w,c] 1).getD 0=elems h w c:=by
 unfold elems
 simp only[prodTo,Int.one_mul]
 by_cases h1:1≤h
 ·by_cases w1:1≤w
  ·by_cases c1:1≤c
   ·have p1:1≤h*w:=by have:=Int.mul_le_mul h1 w1 (by omega) (by omega);simpa using this
    have p2:c≤h*w*c:=by have:=Int.mul_le_mul_of_nonneg_right p1 (show 0≤c by omega);simpa using this
    have p3:h*w≤h*w*c:=by have:=Int.mul_le_mul_of_nonneg_left c1 (show 0≤h*w by omega);simpa using this
    by_cases hp:h*w*c≤1024
    ·rw[i_ ⟨h1,by omega⟩,i_ ⟨w1,by omega⟩,i_ ⟨c1,hp⟩,i_ ⟨h1,h16,w1,w16,c1,by omega,hp⟩];rfl
    ·rw[j_ (c:=1≤h∧h≤16∧_) (fun x=>hp x.2.2.2.2.2.2)]
     split
     ·split
      ·rw[j_ (fun x=>hp x.2)];rfl
      ·rfl
     ·rfl
   ·rw[j_ (c:=1≤h∧h≤16∧_) (fun x=>c1 x.2.2.2.2.1)]
    split
    ·split
     ·rw[j_ (fun x=>c1 x.1)];rfl
     ·rfl
    ·rfl
  ·rw[j_ (c:=1≤h∧h≤16∧_) (fun x=>w1 x.2.2.1)]
   split
   ·rw[j_ (fun x=>w1 x.1)];rfl
   ·rfl
 ·rw[j_ (c:=1≤h∧h≤16∧_) (fun x=>h1 x.1),j_ (fun x=>h1 x.1)];rfl
theorem product_any (x y z:Int) (w:World) (x0 : -9223372036854775808≤x) (x1:x≤9223372036854775807) (y0 : -9223372036854775808≤y) (y1:y≤9223372036854775807) (z0 : -9223372036854775808≤z) (z1:z≤9223372036854775807) :
  Calls L_ 172 #[.agg #[.int .i64 x,.int .i64 y,.int .i64 z]] w fun e w'=>e=.returned (.int .i64 ((prodTo [x,y,z] 1).getD 0))∧Below w.heap.size w w':=by
 go_enter Tryz.func172,Tryz.ntmps172
 go_wp2_with fail
 obtain ⟨w1,hw1⟩:∃ w1,w1=w.alloc (.cells #[.int .i64 x,.int .i64 y,.int .i64 z] 272):=⟨_,rfl⟩
 have ha:=At.new w 272 #[.int .i64 x,.int .i64 y,.int .i64 z]
 have hb1:Below w.heap.size w w1:=by rw[hw1];exact (Below.refl _ _).alloc (AX_ _) _
 rw[←hw1] at ha ⊢
 clear hw1
 go_loop [2,3,4,5,6,7] (fun r n _ _ _ i=>∃ (k:Nat) (N:Int),r=.int .i64 0∧i=.int .i64 k∧k≤3∧n=.int .i64 N∧1≤N∧N≤1024∧prodTo ([x,y,z].drop k) N=prodTo [x,y,z] 1) (fun _ _ _ _ _ i=>3-(intOf i).toNat)
 case atStart=>exact ⟨0,1,rfl,rfl,by omega,rfl,by omega,by omega,rfl⟩
 case round =>
  obtain ⟨k,N,rfl,rfl,hk,rfl,N0,N1,hp⟩:=hrel
  by_cases hlt:k<3
  ·obtain ⟨v,hv,v0,v1,hd⟩:∃ v,w1.cell? ⟨w.heap.size,k,none⟩=some (.int .i64 v) ∧ -9223372036854775808≤v∧v≤9223372036854775807∧[x,y,z].drop k=v::[x,y,z].drop (k+1):=by
    match k,hlt with
    | 0,_=>exact ⟨x,ha.cell 0,x0,x1,rfl⟩
    | 1,_=>exact ⟨y,ha.cell 1,y0,y1,rfl⟩
    | 2,_=>exact ⟨z,ha.cell 2,z0,z1,rfl⟩
   rw[hd] at hp
   have HP:=Lib.hid hp
   have kk0:(0:Int)≤(k:Int):=by omega
   have kk1:(k:Int)<3:=by omega
   clear hp hd
   go_wp2_with fail
   refine (times_any N v _ (by omega) (by omega) v0 v1).mono ?_
   rintro e w' ⟨q,r,rfl,hqr,rfl⟩
   rcases hqr with ⟨rfl,rfl,q0,q1⟩|⟨rfl,hq⟩
   ·by_cases hv1:v<1
    ·have HN:Hid ((prodTo [x,y,z] 1).getD 0=0):=by
      refine Lib.hid ?_
      rw[←HP.out];simp only[prodTo];rw[j_ (by omega)];rfl
     go_wp2_with fail
     go_ret
     exact ⟨by rw[HN.out];rfl,hb1⟩
    ·by_cases hb:1024<N*v
     ·have HN:Hid ((prodTo [x,y,z] 1).getD 0=0):=by
       refine Lib.hid ?_
       rw[←HP.out];simp only[prodTo];rw[j_ (by omega)];rfl
      go_wp2_with fail
      go_ret
      exact ⟨by rw[HN.out];rfl,hb1⟩
     ·have hpos:1≤N*v:=by have:=Int.mul_le_mul N0 (show 1≤v by omega) (by omega) (by omega);simpa using this
      go_wp2_with fail
      go_round
      case rel=>exact ⟨k+1,N*v,rfl,by go_num,by omega,rfl,hpos,by omega,by rw[←HP.out];simp only[prodTo];rw[i_ (by omega)]⟩
      case measure=>simp[intOf];omega
   ·have HN:Hid ((prodTo [x,y,z] 1).getD 0=0):=by
     refine Lib.hid ?_
     rw[←HP.out];simp only[prodTo];rw[j_ ?_];rfl
     intro hh
     have:0≤N*v:=CC_ (by omega) (by omega)
     omega
    go_wp2_with fail
    go_ret
    exact ⟨by rw[HN.out];rfl,hb1⟩
  ·obtain rfl:k=3:=by omega
   have hp':some N=prodTo [x,y,z] 1:=hp
   have HN:Hid ((prodTo [x,y,z] 1).getD 0=N):=by refine Lib.hid ?_;rw[←hp'];rfl
   clear hp hp'
   go_wp2_with fail
   go_ret
   exact ⟨by rw[HN.out];rfl,hb1⟩
theorem elems_any (h x c:Int) (w:World) (h0 : -9223372036854775808≤h) (h1:h≤9223372036854775807) (x0 : -9223372036854775808≤x) (x1:x≤9223372036854775807) (c0 : -9223372036854775808≤c) (c1:c≤9223372036854775807) :
  Calls L_ 144 #[.agg #[.int .i64 h,.int .i64 x,.int .i64 c]] w fun e w'=>e=.returned (.int .i64 (elems h x c))∧Below w.heap.size w w':=by
 by_cases hh:16<h
 ·have HE:Hid (elems h x c=0):=by refine Lib.hid ?_;unfold elems;rw[j_ (by omega)]
  go_enter Tryz.func144,Tryz.ntmps144
  go_wp2
  go_ret
  exact ⟨by rw[HE.out];rfl,(Below.refl _ _).alloc (AX_ _) _⟩
 ·by_cases hx:16<x
  ·have HE:Hid (elems h x c=0):=by refine Lib.hid ?_;unfold elems;rw[j_ (by omega)]
   go_enter Tryz.func144,Tryz.ntmps144
   go_wp2
   go_ret
   exact ⟨by rw[HE.out];rfl,(Below.refl _ _).alloc (AX_ _) _⟩
  ·have HE:=Lib.hid (prodTo_elems h x c (by omega) (by omega))
   go_enter Tryz.func144,Tryz.ntmps144
   go_wp2_with fail
   refine (product_any h x c _ h0 h1 x0 x1 c0 c1).mono ?_
   rintro e w' ⟨rfl,hb⟩
   rw[HE.out]
   go_wp2
   go_ret
   exact ⟨rfl,((Below.refl _ _).alloc (AX_ _) _).trans (hb.mono (by simp))⟩
theorem refElems_any (h x c:Int) (w:World) (h0 : -9223372036854775808≤h) (h1:h≤9223372036854775807) (x0 : -9223372036854775808≤x) (x1:x≤9223372036854775807) (c0 : -9223372036854775808≤c) (c1:c≤9223372036854775807) :
  Calls L_ 33 #[.agg #[.int .i64 h,.int .i64 x,.int .i64 c]] w fun e w'=>e=.returned (.int .i64 (elems h x c))∧Below w.heap.size w w':=by
 by_cases hr:1≤h∧h≤16∧1≤x∧x≤16∧1≤c∧c≤1024
 ·obtain ⟨a1,a2,a3,a4,a5,a6⟩:=hr
  have p1:h*x≤256:=by have:=Int.mul_le_mul a2 a4 (by omega) (by omega);simpa using this
  have p0:1≤h*x:=by have:=Int.mul_le_mul a1 a3 (by omega) (by omega);simpa using this
  have q1:h*x*c≤262144:=by have:=Int.mul_le_mul p1 a6 (by omega) (by omega);simpa using this
  have q0:0≤h*x*c:=CC_ (by omega) (by omega)
  by_cases hp:1024<h*x*c
  ·have HE:Hid (elems h x c=0):=by refine Lib.hid ?_;unfold elems;rw[j_ (fun y=>by have:=y.2.2.2.2.2.2;omega)]
   go_enter Tryz.func33,Tryz.ntmps33
   go_wp2
   go_ret
   exact ⟨by rw[HE.out];rfl,(Below.refl _ _).alloc (AX_ _) _⟩
  ·have HE:Hid (elems h x c=h*x*c):=by refine Lib.hid ?_;unfold elems;rw[i_ ⟨a1,a2,a3,a4,a5,a6,by omega⟩]
   go_enter Tryz.func33,Tryz.ntmps33
   go_wp2
   go_ret
   exact ⟨by rw[HE.out];rfl,(Below.refl _ _).alloc (AX_ _) _⟩
 ·have HE:Hid (elems h x c=0):=by refine Lib.hid ?_;unfold elems;rw[j_ (fun y=>hr ⟨y.1,y.2.1,y.2.2.1,y.2.2.2.1,y.2.2.2.2.1,y.2.2.2.2.2.1⟩)]
  have hor:h<1∨(1≤h∧16<h)∨(1≤h∧h≤16∧x<1)∨(1≤h∧h≤16∧1≤x∧16<x)∨(1≤h∧h≤16∧1≤x∧x≤16∧c<1)∨(1≤h∧h≤16∧1≤x∧x≤16∧1≤c∧1024<c):=by omega
  clear hr
  rcases hor with g|⟨g1,g⟩|⟨g1,g2,g⟩|⟨g1,g2,g3,g⟩|⟨g1,g2,g3,g4,g⟩|⟨g1,g2,g3,g4,g5,g⟩
  all_goals
   go_enter Tryz.func33,Tryz.ntmps33
   go_wp2
   go_ret
   exact ⟨by rw[HE.out];rfl,(Below.refl _ _).alloc (AX_ _) _⟩
end Go.Proofs.YtgimdjfbnbkpgaaGreat
namespace Go.Proofs.YtgimdjfbnbkpgaaGreat
open BlkW renaming rows→AG_
open Bool renaming and_eq_true→P_
open Int renaming toNat_natCast→AJ_,tdiv_eq_ediv_of_nonneg→BF_,tmod_eq_emod_of_nonneg→CX_,mul_nonneg→CC_
open IntKind renaming u8→M_,wrap_u64→DO_
open IntWalk renaming i32_in→CR_
open List renaming map→K_,length_map→N_,length_append→O_,map_replicate→X_,map_append→A_,map_cons→D_,getElem?_eq_getElem→AL_,map_take→AM_,map_drop→AN_,map_nil→AO_,map_set→AP_,getD_eq_getElem?_getD→AU_,getElem?_map→AV_,length_cons→AC_,length_replicate→AH_,eq_nil_of_length_eq_zero→AI_,length_take→BL_,length_drop→BX_,length_nil→BB_,length_set→BD_,getElem?_take→BE_,getElem?_set→BG_,getElem?_drop→CU_,getElem_mem→CY_,replicate→CI_,getElem?_append→DL_
open Nat renaming le_trans→AK_,le_refl→AX_,zero_add→BU_,zero_le→CG_
open Option renaming map_eq_some_iff→AT_,getD_some→BJ_
open Result renaming andThen_ok→AS_
open Sem renaming run_bind→AW_,run_pure→BZ_
open Tryz renaming prog→L_,ntmps203→DN_
open Value renaming int→AQ_
open Weak renaming bool→AZ_,agg→AD_,rows→CP_
open WeakL renaming refl→B_
def rn (m s:Nat):Nat:=if s=0 then m else m/2 ^ s+m/2 ^ (s-1) % 2
def rnd (v s:Int):Int:=if s<0∨62<s then 0 else if 0≤v then (rn v.toNat s.toNat:Int) else -(rn (-v).toNat s.toNat:Int)
theorem rn_succ (m s:Nat):rn m (s+1)=(m/2 ^ s+1)/2:=by
 unfold rn
 rw[j_ (by omega),Nat.add_sub_cancel,Nat.pow_succ,←Nat.div_div_eq_div_mul]
 omega
theorem rn_le (m s:Nat):rn m s≤m:=by
 by_cases hs:s=0
 ·subst hs;simp[rn]
 ·obtain ⟨t,rfl⟩:∃ t,s=t+1:=⟨s-1,by omega⟩
  rw[rn_succ]
  have:=Nat.div_le_self m (2 ^ t)
  omega
theorem rnd_abs (v s:Int) : -(v.natAbs:Int)≤rnd v s∧rnd v s≤v.natAbs:=by
 unfold rnd
 split
 ·omega
 ·split
  ·have:=rn_le v.toNat s.toNat;omega
  ·have:=rn_le (-v).toNat s.toNat;omega
theorem rnd_bd (v s:Int) (B:Int) (h1 : -B≤v) (h2:v≤B) : -B≤rnd v s∧rnd v s≤B:=by
 have:=rnd_abs v s;omega
theorem ref_round (v:Int) (s:Nat) :
  (if 0≤v.tmod (2 ^ s)∧(2:Int) ^ s-v.tmod (2 ^ s)≤v.tmod (2 ^ s)∧(1:Int)<2 ^ s then v.tdiv (2 ^ s)+1
   else if v.tmod (2 ^ s)<0∧(2:Int) ^ s+v.tmod (2 ^ s) ≤ -v.tmod (2 ^ s) then v.tdiv (2 ^ s)-1 else v.tdiv (2 ^ s)) =
  if 0≤v then (rn v.toNat s:Int) else -(rn (-v).toNat s:Int):=by
 have hp:(0:Int)<2 ^ s:=Int.pow_pos (by decide)
 have key:∀ m:Nat,(rn m s:Int)=if (2:Int) ^ s-(m:Int) % 2 ^ s≤(m:Int) % 2 ^ s∧(1:Int)<2 ^ s then (m:Int)/2 ^ s+1 else (m:Int)/2 ^ s:=by
  intro m
  have e:((2:Int) ^ s)=((2 ^ s:Nat):Int):=by simp
  rw[e]
  by_cases hs:s=0
  ·subst hs;simp[rn]
  ·obtain ⟨t,rfl⟩:∃ t,s=t+1:=⟨s-1,by omega⟩
   have e2:2 ^ (t+1)=2*2 ^ t:=by rw[Nat.pow_succ];omega
   have hz:=Nat.two_pow_pos t
   unfold rn
   rw[j_ (by omega),Nat.add_sub_cancel]
   have h1:=Nat.div_add_mod m (2 ^ (t+1))
   have h2:=Nat.mod_lt m (Nat.two_pow_pos (t+1))
   have hb:m/2 ^ t % 2=if 2 ^ t≤m % 2 ^ (t+1) then 1 else 0:=by
    rw[e2] at h1 h2 ⊢
    have h3:m/2 ^ t=2*(m/(2*2 ^ t))+(m % (2*2 ^ t))/2 ^ t:=by
     conv=>lhs;rw[←h1]
     rw[Nat.mul_assoc,Nat.mul_comm (2 ^ t) (m/(2*2 ^ t)),←Nat.mul_assoc,Nat.add_comm,Nat.add_mul_div_right _ _ hz,Nat.add_comm]
    rw[h3]
    split
    ·rename_i h
     have:m % (2*2 ^ t)/2 ^ t=1:=Nat.div_eq_of_lt_le (by omega) (by omega)
     omega
    ·rename_i h
     have:m % (2*2 ^ t)/2 ^ t=0:=Nat.div_eq_of_lt (by omega)
     omega
   rw[hb]
   have c1:((m:Int) % ((2 ^ (t+1):Nat):Int))=((m % 2 ^ (t+1):Nat):Int):=by simp
   have c2:((m:Int)/((2 ^ (t+1):Nat):Int))=((m/2 ^ (t+1):Nat):Int):=by simp
   rw[c1,c2]
   generalize m % 2 ^ (t+1)=R at *
   generalize m/2 ^ (t+1)=D at *
   rw[e2] at *
   generalize 2 ^ t=Z at *
   split<;>split<;>omega
 by_cases hv:0≤v
 ·rw[i_ hv,CX_ hv,BF_ hv,key v.toNat,Int.toNat_of_nonneg hv]
  have h1:=Int.emod_nonneg v (show (2:Int) ^ s≠0 by omega)
  generalize v % 2 ^ s=R at *
  generalize (2:Int) ^ s=Z at *
  by_cases hc:Z-R≤R∧1<Z
  ·rw[i_ ⟨h1,hc⟩,i_ hc]
  ·rw[j_ (fun h=>hc h.2),j_ (by omega),j_ hc]
 ·rw[j_ hv]
  obtain ⟨u,rfl⟩:∃ u,v = -u:=⟨-v,by omega⟩
  have hu:0≤u:=by omega
  rw[Int.neg_neg,Int.neg_tmod,Int.neg_tdiv,CX_ hu,BF_ hu,key u.toNat,Int.toNat_of_nonneg hu]
  have h1:=Int.emod_nonneg u (show (2:Int) ^ s≠0 by omega)
  have h3:(2:Int) ^ s=1→u % 2 ^ s=0:=fun h=>by rw[h];omega
  generalize u % 2 ^ s=R at *
  generalize u/2 ^ s=D at *
  generalize (2:Int) ^ s=Z at *
  split<;>split<;>(try split)<;>omega
def clampI (v lo hi:Int):Int:=if v<lo then lo else if hi<v then hi else v
def rightQ (mult shift:Int):Bool:=decide (0<mult)&&decide (0≤shift)&&decide (shift≤62)
def heldQ (acc mult shift zero lo hi:Int):Int:=if rightQ mult shift=true then clampI (rnd (acc*mult) shift+zero) lo hi else 0
end Go.Proofs.YtgimdjfbnbkpgaaGreat
namespace Go.Proofs.YtgimdjfbnbkpgaaGreat
open Go.RowKit
open BlkW renaming rows→AG_
open Bool renaming and_eq_true→P_
open Int renaming toNat_natCast→AJ_,tdiv_eq_ediv_of_nonneg→BF_,tmod_eq_emod_of_nonneg→CX_,mul_nonneg→CC_
open IntKind renaming u8→M_,wrap_u64→DO_
open IntWalk renaming i32_in→CR_
open List renaming map→K_,length_map→N_,length_append→O_,map_replicate→X_,map_append→A_,map_cons→D_,getElem?_eq_getElem→AL_,map_take→AM_,map_drop→AN_,map_nil→AO_,map_set→AP_,getD_eq_getElem?_getD→AU_,getElem?_map→AV_,length_cons→AC_,length_replicate→AH_,eq_nil_of_length_eq_zero→AI_,length_take→BL_,length_drop→BX_,length_nil→BB_,length_set→BD_,getElem?_take→BE_,getElem?_set→BG_,getElem?_drop→CU_,getElem_mem→CY_,replicate→CI_,getElem?_append→DL_
open Nat renaming le_trans→AK_,le_refl→AX_,zero_add→BU_,zero_le→CG_
open Option renaming map_eq_some_iff→AT_,getD_some→BJ_
open Result renaming andThen_ok→AS_
open Sem renaming run_bind→AW_,run_pure→BZ_
open Tryz renaming prog→L_,ntmps203→DN_
open Value renaming int→AQ_
open Weak renaming bool→AZ_,agg→AD_,rows→CP_
open WeakL renaming refl→B_
theorem and_bit (x k:Nat):(x &&& 2 ^ k)/2 ^ k=x/2 ^ k % 2:=by
 rw[Nat.and_div_two_pow,Nat.div_self (Nat.two_pow_pos k),Nat.and_one_is_mod]
theorem satHeld_any (v lo hi:Int) (w:World):Calls L_ 239 #[.int .i64 v,.int .i64 lo,.int .i64 hi] w fun e w'=>e=.returned (.int .i64 (clampI v lo hi))∧w=w':=by
 by_cases h1:v<lo
 ·have e:clampI v lo hi=lo:=by unfold clampI;rw[i_ h1]
  rw[e];clear e
  go_enter Tryz.func239,Tryz.ntmps239
  go_wp2
  go_ret
  exact ⟨rfl,rfl⟩
 ·by_cases h2:hi<v
  ·have e:clampI v lo hi=hi:=by unfold clampI;rw[j_ h1,i_ h2]
   rw[e];clear e
   go_enter Tryz.func239,Tryz.ntmps239
   go_wp2
   go_ret
   exact ⟨rfl,rfl⟩
  ·have e:clampI v lo hi=v:=by unfold clampI;rw[j_ h1,j_ h2]
   rw[e];clear e
   go_enter Tryz.func239,Tryz.ntmps239
   go_wp2
   go_ret
   exact ⟨rfl,rfl⟩
theorem refHeld01_any (v lo hi:Int) (w:World):Calls L_ 183 #[.int .i64 v,.int .i64 lo,.int .i64 hi] w fun e w'=>e=.returned (.int .i64 (clampI v lo hi))∧w=w':=by
 by_cases h1:v<lo
 ·have e:clampI v lo hi=lo:=by unfold clampI;rw[i_ h1]
  rw[e];clear e
  go_enter Tryz.func183,Tryz.ntmps183
  go_wp2
  go_ret
  exact ⟨rfl,rfl⟩
 ·by_cases h2:hi<v
  ·have e:clampI v lo hi=hi:=by unfold clampI;rw[j_ h1,i_ h2]
   rw[e];clear e
   go_enter Tryz.func183,Tryz.ntmps183
   go_wp2
   go_ret
   exact ⟨rfl,rfl⟩
  ·have e:clampI v lo hi=v:=by unfold clampI;rw[j_ h1,j_ h2]
   rw[e];clear e
   go_enter Tryz.func183,Tryz.ntmps183
   go_wp2
   go_ret
   exact ⟨rfl,rfl⟩
theorem wp_scope_fwd {P:Program} {a:Act} {w:World} {Q:Exit→Act→World→Prop} {c rest:Code} (l:Nat) (hf:findLabel c l=some rest)
  (h:c.wp P (Exit.jump l (fun a w=>rest.wp P (Exit.noGoto Q) a w) Q) a w):(Code.scope c).wp P Q a w :=
 wp_scope_jumps l (fun a w=>rest.wp P (Exit.noGoto Q) a w) (fun _ _=>0) hf h fun a w hJ=>wp_mono hJ fun e a w hq=>by
  cases e<;>first|exact hq|exact hq.elim
theorem jump_ret {l:Nat} {J:Act→World→Prop} {Q:Exit→Act→World→Prop}:Exit.jump l J Q .ret=Q .ret:=rfl
theorem rnd_pos (v s:Int) (hv:0≤v) (h0:0≤s) (h1:s≤62):rnd v s=(rn v.toNat s.toNat:Int):=by unfold rnd;rw[j_ (by omega),i_ hv]
theorem rnd_below (v s:Int) (hv:v<0) (h0:0≤s) (h1:s≤62):rnd v s = -(rn (-v).toNat s.toNat:Int):=by unfold rnd;rw[j_ (by omega),j_ (by omega)]
theorem rn_bits (m t:Nat) (hm:m≤9223372036854775808) (h1:1≤t) (h2:t≤62) :
  (m:Int)/2 ^ t+bits BinOp.and IntKind.u64 (m:Int) (IntKind.u64.wrap (2 ^ (t-1)))/2 ^ (t-1)=(rn m t:Int):=by
 have hp:2 ^ (t-1)≤2 ^ 62:=Nat.pow_le_pow_right (by decide) (by omega)
 generalize hH:2 ^ (t-1)=H at hp
 have e1:IntKind.u64.wrap (2 ^ (t-1))=((2 ^ (t-1):Nat):Int):=by
  rw[show ((2:Int) ^ (t-1))=((2 ^ (t-1):Nat):Int) from by simp,hH]
  exact IntWalk.u64_in _ (by omega)
 rw[e1,hH,u64_and_nat _ _ (by omega) (by omega),←hH]
 unfold rn
 rw[j_ (by omega),←and_bit]
 simp
theorem u64_neg_eq (v:Int) (h0 : -9223372036854775808≤v) (h1:v<0):IntKind.u64.wrap (-IntKind.u64.wrap v)=(((-v).toNat:Nat):Int):=by
 simp only[DO_];omega
theorem back_neg (r:Nat) (h:r≤9223372036854775808):wrap64 (IntKind.u64.wrap (-(r:Int))) = -(r:Int):=by
 simp only[DO_,wrap64];omega
theorem round_any (v s:Int) (w:World) (h0 : -9223372036854775808≤v) (h1:v≤9223372036854775807) :
  Calls L_ 241 #[.int .i64 v,.int .i64 s] w fun e w'=>e=.returned (.int .i64 (rnd v s))∧∃ n,w'=w.drewN n:=by
 by_cases hs:s<0
 ·have e:rnd v s=0:=by unfold rnd;rw[i_ (.inl hs)]
  rw[e];clear e
  go_enter Tryz.func241,Tryz.ntmps241
  go_wp2
  refine wp_scope_fwd 0 rfl ?_
  go_wp2
  (try rw[jump_ret])
  go_ret
  exact ⟨rfl,0,rfl⟩
 ·by_cases hs2:62<s
  ·have e:rnd v s=0:=by unfold rnd;rw[i_ (.inr hs2)]
   rw[e];clear e
   go_enter Tryz.func241,Tryz.ntmps241
   go_wp2
   refine wp_scope_fwd 0 rfl ?_
   go_wp2
   (try rw[jump_ret])
   go_ret
   exact ⟨rfl,0,rfl⟩
  ·by_cases hv:0≤v
   ·by_cases hs0:s=0
    ·subst hs0
     go_enter Tryz.func241,Tryz.ntmps241
     go_wp2
     refine wp_scope_fwd 0 rfl ?_
     go_wp2
     go_step3
     refine ⟨rfl,?_⟩
     go_wp2
     (try rw[Exit.noGoto_ret])
     go_ret
     refine ⟨ret_int ?_,0,rfl⟩
     rw[rnd_pos v 0 hv (by omega) (by omega)];simp[rn];omega
    ·have hs1:1≤s:=by omega
     go_enter Tryz.func241,Tryz.ntmps241
     go_wp2
     refine wp_scope_fwd 0 rfl ?_
     go_wp2
     go_step3
     refine ⟨rfl,?_⟩
     go_wp2
     go_quiet (fail)
     go_wp2
     (try rw[Exit.noGoto_ret])
     go_ret
     refine ⟨?_,nq,rfl⟩
     rw[rnd_pos v s hv (by omega) (by omega)]
     obtain ⟨m,rfl⟩:=Int.eq_ofNat_of_zero_le hv
     have e:=rn_bits m s.toNat (by omega) (by omega) (by omega)
     have hle:=rn_le m s.toNat
     exact ret_int (by rw[e,AJ_,IntWalk.u64_in ((rn m s.toNat:Nat):Int) ⟨by omega,by omega⟩,IntWalk.wrap64_in _ ⟨by omega,by omega⟩])
   ·by_cases hs0:s=0
    ·subst hs0
     go_enter Tryz.func241,Tryz.ntmps241
     go_wp2
     refine wp_scope_fwd 0 rfl ?_
     go_wp2
     go_step3
     go_wp2
     (try rw[jump_ret])
     go_ret
     refine ⟨?_,0,rfl⟩
     rw[rnd_below v 0 (by omega) (by omega) (by omega)]
     exact ret_int (by rw[u64_neg_eq v h0 (by omega),back_neg _ (by omega)];simp[rn])
    ·have hs1:1≤s:=by omega
     go_enter Tryz.func241,Tryz.ntmps241
     go_wp2
     refine wp_scope_fwd 0 rfl ?_
     go_wp2
     go_step3
     go_wp2
     go_quiet (fail)
     go_wp2
     (try rw[jump_ret])
     go_ret
     refine ⟨?_,nq,rfl⟩
     rw[rnd_below v s (by omega) (by omega) (by omega)]
     have e:=rn_bits (-v).toNat s.toNat (by omega) (by omega) (by omega)
     have hle:=rn_le (-v).toNat s.toNat
     exact ret_int (by rw[u64_neg_eq v h0 (by omega),e,IntWalk.u64_in ((rn (-v).toNat s.toNat:Nat):Int) ⟨by omega,by omega⟩,back_neg _ (by omega)])
theorem neg_facts (v P:Int) (hv:v<0) (hP:1≤P):v≤v.tdiv P∧v.tdiv P≤0 ∧ -P<v.tmod P∧v.tmod P≤0∧(1<P→v≤2*v.tdiv P):=by
 obtain ⟨u,rfl⟩:∃ u,v = -u:=⟨-v,by omega⟩
 have hu:0≤u:=by omega
 rw[Int.neg_tmod,Int.neg_tdiv,CX_ hu,BF_ hu]
 have h1:=Int.emod_nonneg u (show P≠0 by omega)
 have h2:=Int.emod_lt_of_pos u (show 0<P by omega)
 have h3:=Int.ediv_nonneg hu (show 0≤P by omega)
 have h4:=Int.ediv_le_self P hu
 refine ⟨by omega,by omega,by omega,by omega,fun h=>?_⟩
 have h5:=Int.mul_ediv_self_le (x:=u) (k:=P) (by omega)
 have h6:2*(u/P)≤P*(u/P):=Int.mul_le_mul_of_nonneg_right (by omega) h3
 omega
theorem pos_facts (v P:Int) (hv:0≤v) (hP:1≤P):0≤v/P∧v/P≤v∧0≤v % P∧v % P<P∧(1<P→2*(v/P)≤v):=by
 have h1:=Int.emod_nonneg v (show P≠0 by omega)
 have h2:=Int.emod_lt_of_pos v (show 0<P by omega)
 have h3:=Int.ediv_nonneg hv (show 0≤P by omega)
 have h4:=Int.ediv_le_self P hv
 refine ⟨by omega,by omega,by omega,by omega,fun h=>?_⟩
 have h5:=Int.mul_ediv_self_le (x:=v) (k:=P) (by omega)
 have h6:2*(v/P)≤P*(v/P):=Int.mul_le_mul_of_nonneg_right (by omega) h3
 omega
theorem refRound_any (v s:Int) (w:World) (h0 : -9223372036854775808≤v) (h1:v≤9223372036854775807) :
  Calls L_ 182 #[.int .i64 v,.int .i64 s] w fun e w'=>e=.returned (.int .i64 (rnd v s))∧∃ n,w'=w.drewN n:=by
 by_cases hs:s<0
 ·have e:rnd v s=0:=by unfold rnd;rw[i_ (.inl hs)]
  rw[e];clear e
  go_enter Tryz.func182,Tryz.ntmps182
  go_wp2
  go_ret
  exact ⟨rfl,0,rfl⟩
 ·by_cases hs2:62<s
  ·have e:rnd v s=0:=by unfold rnd;rw[i_ (.inr hs2)]
   rw[e];clear e
   go_enter Tryz.func182,Tryz.ntmps182
   go_wp2
   go_ret
   exact ⟨rfl,0,rfl⟩
  ·obtain ⟨t,rfl⟩:=Int.eq_ofNat_of_zero_le (show 0≤s by omega)
   have ht:t≤62:=by omega
   have hr:=Lib.hid (ref_round v t)
   have hrd:=Lib.hid (show rnd v (t:Int)=if 0≤v then (rn v.toNat t:Int) else -(rn (-v).toNat t:Int) by unfold rnd;rw[j_ (by omega),AJ_])
   clear hs hs2
   go_enter Tryz.func182,Tryz.ntmps182
   go_wp2
   go_loop [5,6] (fun p i=>∃ k:Nat,i=.int .i64 k∧k≤t∧p=.int .i64 (2 ^ k)) (fun _ i=>t-(intOf i).toNat)
   case atStart=>exact ⟨0,rfl,by omega,rfl⟩
   case round =>
    obtain ⟨k,rfl,hk,rfl⟩:=hrel
    have hp1:(1:Int)≤2 ^ k:=Int.add_one_le_iff.2 (Int.pow_pos (by decide))
    have hp2:(2:Int) ^ k≤4611686018427387904:=by
     have:2 ^ k≤2 ^ 62:=Nat.pow_le_pow_right (by decide) (by omega)
     have e:((2:Int) ^ k)=((2 ^ k:Nat):Int):=by simp
     rw[e];omega
    by_cases hlt:k<t
    ·obtain ⟨P,hP⟩:∃ P:Int,P=2 ^ k:=⟨_,rfl⟩
     have hp3:(2:Int) ^ k≤2305843009213693952:=by
      have:2 ^ k≤2 ^ 61:=Nat.pow_le_pow_right (by decide) (by omega)
      have e:((2:Int) ^ k)=((2 ^ k:Nat):Int):=by simp
      rw[e];omega
     rw[←hP] at hp1 hp2 hp3 ⊢
     have HP:=Lib.hid hP;clear hP
     go_wp2
     go_round
     case rel=>exact ⟨k+1,by go_num,by omega,by rw[HP.out,Int.pow_succ]⟩
     case measure=>simp[intOf];omega
    ·obtain rfl:k=t:=by omega
     obtain ⟨P,hP⟩:∃ P:Int,P=2 ^ k:=⟨_,rfl⟩
     have hr':=hr.out
     rw[←hP] at hp1 hp2 hr' ⊢
     have HR:Hid (rnd v (k:Int)=_):=Lib.hid (hrd.out.trans hr'.symm)
     have HP:=Lib.hid hP;clear hP hr' hr hrd
     by_cases hv:0≤v
     ·obtain ⟨f1,f2,f3,f4,f5⟩:=pos_facts v P hv hp1
      by_cases hc:P-v % P≤v % P
      ·have f6:1<P:=by omega
       have f7:=f5 f6
       clear f5
       go_wp2
       go_quiet (fail)
       go_wp2
       go_ret
       refine ⟨ret_int ?_,nq,rfl⟩
       rw[HR.out,CX_ hv,BF_ hv,i_ ⟨f3,hc,f6⟩]
      ·clear f5
       go_wp2
       go_quiet (fail)
       go_wp2
       go_ret
       refine ⟨ret_int ?_,nq,rfl⟩
       rw[HR.out,CX_ hv,BF_ hv,j_ (by omega),j_ (by omega)]
     ·obtain ⟨f1,f2,f3,f4,f5⟩:=neg_facts v P (by omega) hp1
      have e1:wrap64 (v.tdiv P)=v.tdiv P:=IntWalk.wrap64_in _ ⟨by omega,by omega⟩
      by_cases hc:P+v.tmod P ≤ -v.tmod P
      ·have f6:1<P:=by omega
       have f7:=f5 f6
       have f8:v.tmod P<0:=by omega
       clear f5
       go_wp2
       go_quiet (fail)
       go_wp2
       go_ret
       refine ⟨ret_int ?_,nq,rfl⟩
       rw[HR.out,j_ (by omega),i_ ⟨f8,hc⟩]
      ·clear f5
       by_cases f8:v.tmod P<0
       ·go_wp2
        go_quiet (fail)
        go_wp2
        go_ret
        refine ⟨ret_int ?_,nq,rfl⟩
        rw[HR.out,j_ (by omega),j_ (by omega)]
       ·go_wp2
        go_quiet (fail)
        go_wp2
        go_ret
        refine ⟨ret_int ?_,nq,rfl⟩
        rw[HR.out,j_ (by omega),j_ (by omega)]
theorem scale_any (a m s:Int) (w:World) (a0 : -2147483648≤a) (a1:a≤2147483647) (m0 : -2147483648≤m) (m1:m≤2147483647) :
  Calls L_ 240 #[.int .i32 a,.int .i32 m,.int .i64 s] w fun e w'=>e=.returned (.int .i64 (rnd (a*m) s))∧∃ n,w'=w.drewN n:=by
 have hb : -4611686018427387904≤a*m∧a*m≤4611686018427387904:=by
  constructor
  ·have h1:(a.natAbs*m.natAbs:Nat)≤2147483648*2147483648:=Nat.mul_le_mul (by omega) (by omega)
   have:=Int.natAbs_mul a m
   omega
  ·have h1:(a.natAbs*m.natAbs:Nat)≤2147483648*2147483648:=Nat.mul_le_mul (by omega) (by omega)
   have:=Int.natAbs_mul a m
   omega
 obtain ⟨b0,b1⟩:=hb
 go_enter Tryz.func240,Tryz.ntmps240
 go_wp2_with fail
 refine (round_any _ _ _ (by omega) (by omega)).mono ?_
 rintro e w1 ⟨rfl,n,rfl⟩
 go_wp2
 go_ret
 exact ⟨rfl,n,rfl⟩
theorem clamp_any (v lo hi:Int) (w:World) (l0 : -128≤lo) (l1:lo≤127) (k0 : -128≤hi) (k1:hi≤127) :
  Calls L_ 233 #[.int .i64 v,.int .i8 lo,.int .i8 hi] w fun e w'=>e=.returned (.int .i8 (clampI v lo hi))∧w=w':=by
 have hb : -128≤clampI v lo hi∧clampI v lo hi≤127:=by unfold clampI;split<;>(try split)<;>omega
 obtain ⟨b0,b1⟩:=hb
 go_enter Tryz.func233,Tryz.ntmps233
 go_wp2_with fail
 refine (satHeld_any _ _ _ _).mono ?_
 rintro e w1 ⟨rfl,rfl⟩
 go_wp2
 go_ret
 exact ⟨rfl,rfl⟩
theorem right_any (m s z:Int) (w:World):Calls L_ 197 #[.agg #[.int .i32 m,.int .i64 s,.int .i8 z]] w fun e w'=>e=.returned (.bool (rightQ m s))∧Below w.heap.size w w':=by
 by_cases h1:0<m
 ·by_cases h2:0≤s
  ·by_cases h3:s≤62
   ·have e:rightQ m s=true:=by unfold rightQ;simp[h1,h2,h3]
    rw[e];clear e
    go_enter Tryz.func197,Tryz.ntmps197
    go_wp2
    go_ret
    exact ⟨rfl,(Below.refl _ _).alloc (AX_ _) _⟩
   ·have e:rightQ m s=false:=by unfold rightQ;simp[h3]
    rw[e];clear e
    go_enter Tryz.func197,Tryz.ntmps197
    go_wp2
    go_ret
    exact ⟨rfl,(Below.refl _ _).alloc (AX_ _) _⟩
  ·have e:rightQ m s=false:=by unfold rightQ;simp[h2]
   rw[e];clear e
   go_enter Tryz.func197,Tryz.ntmps197
   go_wp2
   go_ret
   exact ⟨rfl,(Below.refl _ _).alloc (AX_ _) _⟩
 ·have e:rightQ m s=false:=by unfold rightQ;simp[h1]
  rw[e];clear e
  go_enter Tryz.func197,Tryz.ntmps197
  go_wp2
  go_ret
  exact ⟨rfl,(Below.refl _ _).alloc (AX_ _) _⟩
theorem refRight_any (m s z:Int) (w:World):Calls L_ 108 #[.agg #[.int .i32 m,.int .i64 s,.int .i8 z]] w fun e w'=>e=.returned (.bool (rightQ m s))∧Below w.heap.size w w':=by
 by_cases h1:0<m
 ·by_cases h2:0≤s
  ·by_cases h3:s≤62
   ·have e:rightQ m s=true:=by unfold rightQ;simp[h1,h2,h3]
    rw[e];clear e
    go_enter Tryz.func108,Tryz.ntmps108
    go_wp2
    go_ret
    exact ⟨rfl,(Below.refl _ _).alloc (AX_ _) _⟩
   ·have e:rightQ m s=false:=by unfold rightQ;simp[h3]
    rw[e];clear e
    go_enter Tryz.func108,Tryz.ntmps108
    go_wp2
    go_ret
    exact ⟨rfl,(Below.refl _ _).alloc (AX_ _) _⟩
  ·have e:rightQ m s=false:=by unfold rightQ;simp[h2]
   rw[e];clear e
   go_enter Tryz.func108,Tryz.ntmps108
   go_wp2
   go_ret
   exact ⟨rfl,(Below.refl _ _).alloc (AX_ _) _⟩
 ·have e:rightQ m s=false:=by unfold rightQ;simp[h1]
  rw[e];clear e
  go_enter Tryz.func108,Tryz.ntmps108
  go_wp2
  go_ret
  exact ⟨rfl,(Below.refl _ _).alloc (AX_ _) _⟩
theorem mul_bd32 (a m:Int) (a0 : -2147483648≤a) (a1:a≤2147483647) (m0 : -2147483648≤m) (m1:m≤2147483647) : -4611686018427387904≤a*m∧a*m≤4611686018427387904:=by
 have h1:(a.natAbs*m.natAbs:Nat)≤2147483648*2147483648:=Nat.mul_le_mul (by omega) (by omega)
 have:=Int.natAbs_mul a m
 omega
theorem held_any (a m s z lo hi:Int) (w:World) (a0 : -2147483648≤a) (a1:a≤2147483647) (m0 : -2147483648≤m) (m1:m≤2147483647) (z0 : -128≤z) (z1:z≤127) (l0 : -128≤lo) (l1:lo≤127) (k0 : -128≤hi) (k1:hi≤127) :
  Calls L_ 235 #[.int .i32 a,.agg #[.int .i32 m,.int .i64 s,.int .i8 z],.int .i8 lo,.int .i8 hi] w fun e w'=>e=.returned (.int .i8 (heldQ a m s z lo hi))∧Below w.heap.size w w':=by
 have hb:=mul_bd32 a m a0 a1 m0 m1
 have hr:=rnd_bd (a*m) s 4611686018427387904 hb.1 hb.2
 obtain ⟨r0,r1⟩:=hr
 cases hq:rightQ m s with
 | false =>
  have e:heldQ a m s z lo hi=0:=by unfold heldQ;rw[hq];simp
  rw[e];clear e
  have HQ:=Lib.hid hq;clear hq
  go_enter Tryz.func235,Tryz.ntmps235
  go_wp2_with fail
  refine (right_any _ _ _ _).mono ?_
  rintro e w1 ⟨rfl,hb1⟩
  rw[HQ.out]
  go_wp2
  go_ret
  exact ⟨rfl,((Below.refl _ _).alloc (AX_ _) _).trans (hb1.mono (by simp))⟩
 | true =>
  have e:heldQ a m s z lo hi=clampI (rnd (a*m) s+z) lo hi:=by unfold heldQ;rw[hq];simp
  rw[e];clear e
  have HQ:=Lib.hid hq;clear hq
  go_enter Tryz.func235,Tryz.ntmps235
  go_wp2_with fail
  refine (right_any _ _ _ _).mono ?_
  rintro e w1 ⟨rfl,hb1⟩
  rw[HQ.out]
  have c0:=bl_get hb1 (b:=w.heap.size) (o:=0) (v:=.int .i32 m) (by rw[World.cell?_alloc_at _ _ _ _ rfl];rfl)
  have c1:=bl_get hb1 (b:=w.heap.size) (o:=1) (v:=.int .i64 s) (by rw[World.cell?_alloc_at _ _ _ _ rfl];rfl)
  have c2:=bl_get hb1 (b:=w.heap.size) (o:=2) (v:=.int .i8 z) (by rw[World.cell?_alloc_at _ _ _ _ rfl];rfl)
  go_wp2_with fail
  go_quiet (first|(go_at_call 240;refine Calls.quiet_of (scale_any _ _ _ _ a0 a1 m0 m1))|(go_at_call 233;refine Calls.quiet_of_same ((clamp_any _ _ _ _ l0 l1 k0 k1).mono fun _ _ h=>⟨h.1,h.2.symm⟩)))
  go_wp2
  go_ret
  refine ⟨rfl,below_drewN (((Below.refl _ _).alloc (AX_ _) _).trans (hb1.mono (by simp))) _⟩
structure Ten where
 h:Int
 x:Int
 c:Int
 d:List Int
abbrev In64 (n:Int):Prop := -9223372036854775808≤n∧n≤9223372036854775807
abbrev In32 (n:Int):Prop := -2147483648≤n∧n≤2147483647
abbrev In8 (n:Int):Prop := -128≤n∧n≤127
abbrev ten (k:IntKind) (T:Ten):AV:=.agg [i64 T.h,i64 T.x,i64 T.c,ints k T.d]
structure Nod where
 kd:Int
 na:Int
 nb:Int
 nk:Int
 ns:Int
 np:Int
 no:Int
 za:Int
 zb:Int
 w:List Int
 b:List Int
 qm:Int
 qs:Int
 qz:Int
 rm:Int
 rs:Int
 rz:Int
 lo:Int
 hi:Int
abbrev nodC (n:Nod):List AV:=[i64 n.kd,i64 n.na,i64 n.nb,i64 n.nk,i64 n.ns,i64 n.np,i64 n.no,i8 n.za,i8 n.zb,ints .i8 n.w,ints .i32 n.b,i32 n.qm,i64 n.qs,i8 n.qz,i32 n.rm,i64 n.rs,i8 n.rz,i8 n.lo,i8 n.hi]
abbrev nod (n:Nod):AV:=.agg (nodC n)
structure Nod.Ok (n:Nod):Prop where
 kd:In64 n.kd
 na:In64 n.na
 nb:In64 n.nb
 nk:In64 n.nk
 ns:In64 n.ns
 np:In64 n.np
 no:In64 n.no
 za:In8 n.za
 zb:In8 n.zb
 w:∀ v∈n.w,In8 v
 b:∀ v∈n.b,In32 v
 qm:In32 n.qm
 qs:In64 n.qs
 qz:In8 n.qz
 rm:In32 n.rm
 rs:In64 n.rs
 rz:In8 n.rz
 lo:In8 n.lo
 hi:In8 n.hi
theorem elems_v (h x c:Int) (hh:In64 h) (hx:In64 x) (hc:In64 c):VC L_ 144 [.agg [i64 h,i64 x,i64 c]] (i64 (elems h x c)) :=
 VC.ofCalls (x:=.int .i64 (elems h x c)) rfl rfl fun w=>elems_any h x c w hh.1 hh.2 hx.1 hx.2 hc.1 hc.2
theorem refElems_v (h x c:Int) (hh:In64 h) (hx:In64 x) (hc:In64 c):VC L_ 33 [.agg [i64 h,i64 x,i64 c]] (i64 (elems h x c)) :=
 VC.ofCalls (x:=.int .i64 (elems h x c)) rfl rfl fun w=>refElems_any h x c w hh.1 hh.2 hx.1 hx.2 hc.1 hc.2
theorem right_v (m s z:Int):VC L_ 197 [.agg [i32 m,i64 s,i8 z]] (bv (rightQ m s)) :=
 VC.ofCalls (x:=.bool (rightQ m s)) rfl rfl fun w=>right_any m s z w
theorem refRight_v (m s z:Int):VC L_ 108 [.agg [i32 m,i64 s,i8 z]] (bv (rightQ m s)) :=
 VC.ofCalls (x:=.bool (rightQ m s)) rfl rfl fun w=>refRight_any m s z w
theorem held_v (a m s z lo hi:Int) (ha:In32 a) (hm:In32 m) (hz:In8 z) (hl:In8 lo) (hh:In8 hi):VC L_ 235 [i32 a,.agg [i32 m,i64 s,i8 z],i8 lo,i8 hi] (i8 (heldQ a m s z lo hi)) :=
 VC.ofCalls (x:=.int .i8 (heldQ a m s z lo hi)) rfl rfl fun w=>held_any a m s z lo hi w ha.1 ha.2 hm.1 hm.2 hz.1 hz.2 hl.1 hl.2 hh.1 hh.2
theorem refRound_v (v s:Int) (h:In64 v):VC L_ 182 [i64 v,i64 s] (i64 (rnd v s)) :=
 VC.ofCalls (x:=.int .i64 (rnd v s)) rfl rfl fun w=>(refRound_any v s w h.1 h.2).mono fun _ _ ⟨he,n,hn⟩=>⟨he,hn▸below_drewN (Below.refl _ _) n⟩
theorem refSatHeld_v (v lo hi:Int):VC L_ 183 [i64 v,i64 lo,i64 hi] (i64 (clampI v lo hi)) :=
 VC.ofSame (x:=.int .i64 (clampI v lo hi)) rfl rfl fun w=>refHeld01_any v lo hi w
theorem clamp_v (v lo hi:Int) (hl:In8 lo) (hh:In8 hi):VC L_ 233 [i64 v,i8 lo,i8 hi] (i8 (clampI v lo hi)) :=
 VC.ofSame (x:=.int .i8 (clampI v lo hi)) rfl rfl fun w=>clamp_any v lo hi w hl.1 hl.2 hh.1 hh.2
theorem scale_v (a m s:Int) (ha:In32 a) (hm:In32 m):VC L_ 240 [i32 a,i32 m,i64 s] (i64 (rnd (a*m) s)) :=
 VC.ofCalls (x:=.int .i64 (rnd (a*m) s)) rfl rfl fun w=>(scale_any a m s w ha.1 ha.2 hm.1 hm.2).mono fun _ _ ⟨he,n,hn⟩=>⟨he,hn▸below_drewN (Below.refl _ _) n⟩
theorem Own.form {B:Nat} {w:World} {e:TypeId} {v:Value} {xs:List Value} (h:Own B w e v xs) (hne:xs≠[]) :
  ∃ g cap,v=.slice (some ⟨g,0,none⟩) xs.length cap∧xs.length≤cap∧cap≤maxLen∧B≤g∧g<w.heap.size∧(∀ j (hj:j<xs.length),w.cell? ⟨g,j,none⟩=some xs[j])∧(∀ j,w.frozen? ⟨g,j,none⟩=false) ∧
   ∀ i (u:Value),i<xs.length→Own B (w.setCell ⟨g,i,none⟩ u) e v (xs.set i u):=by
 have h0:=h
 obtain ⟨hl,hcase⟩:=h
 rcases hcase with ⟨rfl,hn⟩|⟨g,cap,cur,rfl,hg,hh,hn,hcap,hsz,htake⟩
 ·exact absurd (AI_ hn) hne
 ·rw[Nat.mul_one] at hsz htake
  refine ⟨g,cap,rfl,hn,hcap,hg,(Array.getElem?_eq_some_iff.1 hh).1,fun j hj=>?_,fun j=>by simp[World.frozen?,hh],fun i u hi=>?_⟩
  ·rw[World.ownsRow.cellAt h0 j (by omega),AL_ hj]
  ·refine ⟨by simp,.inr ⟨g,cap,cur.setIfInBounds i u,by simp,hg,?_,by simpa using hn,hcap,by simpa using hsz,?_⟩⟩
   ·simp[World.setCell,Array.getElem?_modify,hh]
   ·rw[Nat.mul_one,Array.toList_setIfInBounds,BD_]
    rw[←htake]
    simp only[BL_,Array.length_toList]
    rw[show min xs.length cur.size=xs.length from by omega]
    rw[List.take_set]
theorem Own.at {B:Nat} {w:World} {e:TypeId} {g n cap:Nat} {xs:List Value} (h:Own B w e (.slice (some ⟨g,0,none⟩) n cap) xs) (hne:xs≠[]) :
  n=xs.length∧xs.length≤cap∧B≤g∧g<w.heap.size∧(∀ j (hj:j<xs.length),w.cell? ⟨g,j,none⟩=some xs[j])∧(∀ j,w.frozen? ⟨g,j,none⟩=false) ∧
   ∀ i (u:Value),i<xs.length→Own B (w.setCell ⟨g,i,none⟩ u) e (.slice (some ⟨g,0,none⟩) n cap) (xs.set i u):=by
 obtain ⟨g',cap',hv,h1,h2,h3,h4,h5,h6,h7⟩:=h.form hne
 injection hv with e1 e2 e3
 injection e1 with e1
 injection e1 with e1 _ _
 subst e1 e2 e3
 exact ⟨rfl,h1,h3,h4,h5,h6,h7⟩
theorem Rd.ints {w:World} {v:Value} {k:IntKind} {l:List Int} (h:Rd w v (l.map (AQ_ k))) :
  ∃ ao cap,v=.slice ao l.length cap∧l.length≤cap∧cap≤9223372036854775807∧(l≠[]→∃ b off,ao=some ⟨b,off,none⟩∧∀ j (hj:j<l.length),w.cell? ⟨b,off+j,none⟩=some (.int k l[j])):=by
 obtain ⟨ao,cap,rfl,⟨h1,h2,_⟩,hc⟩:=h
 rw[N_] at h1
 refine ⟨ao,cap,by rw[N_],h1,by unfold maxLen at h2;exact h2,fun hne=>?_⟩
 obtain ⟨b,off,rfl,hk⟩:=hc (by simpa using hne)
 exact ⟨b,off,rfl,fun j hj=>by rw[hk j (by simpa using hj),List.getElem_map]⟩
theorem madeCells_one (z:Value) (n:Nat):(madeCells #[z] (n*1)).toList=CI_ n z:=by
 apply List.ext_getElem?
 intro i
 rw[Nat.mul_one]
 unfold madeCells
 by_cases h:i<n
 ·simp[h,Nat.mod_one]
 ·simp[h]
theorem wpList_makeO {P:Program} (w:World) {ops:Array Oper} {rest:List Oper} {o:Oper} {a:Act} {Q:Exit→Act→World→Prop} (hg:o.guard=none) (l c:Operand) (t:TypeId) (hop:o.op=Op.makeSlice t l c)
  (e:TypeId) (i:TypeInfo) (z:Value) (bytes:Nat) (ht:P.underlying t=some (.slice e)) (hi:P.info? e=some i) (hz:i.zero=some z) (hsize:i.size=1) (hby:i.bytes=bytes) (hbs:bytes≤64) (hzc:z.cells = #[z])
  (kl kc:IntKind) (n:Nat) (hl:a.eval l=.int kl (n:Int)) (hc:a.eval c=.int kc (n:Int)) (hn:n≤1099511627776)
  (hK:∀ w',Own w.heap.size w' e (.slice (some ⟨w.heap.size,0,none⟩) n n) (CI_ n z)→Below w.heap.size w w'→wpList P ops Q rest (a.put o.dst (.slice (some ⟨w.heap.size,0,none⟩) n n)) w') :
  wpList P ops Q (o::rest) a w:=by
 refine wpList_make_full w hg l c t hop w.heap.size e i z 1 ht hi hz hsize kl kc _ _ n hl hc rfl rfl (by rw[hby];exact AK_ (Nat.mul_le_mul hbs hn) (by decide)) (by unfold maxLen;omega) (AX_ _) ?_
 intro w' hown hgrow
 rw[hzc,madeCells_one] at hown
 refine hK w' ?_ ((Below.refl _ _).grown hgrow (AX_ _) (by simp))
 unfold Own;rw[AH_];exact hown
def fill (A Z:List Value) (k:Nat):List Value:=A.take k++Z.drop k
theorem fill_zero (A Z:List Value):fill A Z 0=Z:=by simp[fill]
theorem fill_all (A Z:List Value) (h:A.length=Z.length):fill A Z A.length=A:=by unfold fill;rw[List.take_length,h,List.drop_length,List.append_nil]
theorem fill_len (A Z:List Value) (h:A.length=Z.length) (k:Nat):(fill A Z k).length=A.length:=by simp[fill];omega
theorem fill_set (A Z:List Value) (h:A.length=Z.length) (k:Nat) (hk:k<A.length) (u:Value) (hu:A[k]? = some u):(fill A Z k).set k u=fill A Z (k+1):=by
 apply List.ext_getElem?
 intro i
 unfold fill
 rw[BG_]
 simp only[DL_,BL_,O_,BX_,BE_,CU_]
 by_cases hik:k=i
 ·subst hik
  simp[hu,show min (k+1) A.length=k+1 by omega,show min k A.length=k by omega]
  omega
 ·simp only[hik,if_false]
  by_cases h1:i<k
  ·simp[h1,show i<k+1 by omega,show min (k+1) A.length=k+1 by omega,show min k A.length=k by omega]
  ·have h2:¬ i<k+1:=by omega
   simp[h1,h2,show min (k+1) A.length=k+1 by omega,show min k A.length=k by omega]
   congr 1;omega
def RelL (w:World) (l:List AV) (vs:List Value):Prop:=vs.length=l.length∧∀ (i:Nat) (c:AV) (v:Value),l[i]? = some c→vs[i]? = some v→Rel (fun _=>none) (fun _=>False) w c v
theorem RelL.nil (w:World):RelL w [] []:=⟨rfl,fun i c v h=>by simp at h⟩
theorem RelL.cons {w:World} {c:AV} {v:Value} {l:List AV} {vs:List Value} (h:Rel (fun _=>none) (fun _=>False) w c v) (hl:RelL w l vs):RelL w (c::l) (v::vs):=⟨by simp[hl.1],fun i a b ha hb=>by
 cases i with
 | zero=>simp at ha hb;subst ha hb;exact h
 | succ i=>exact hl.2 i a b (by simpa using ha) (by simpa using hb)⟩
theorem RelL.agg {w:World} {l:List AV} {vs:List Value} (h:RelL w l vs):Rel (fun _=>none) (fun _=>False) w (.agg l) (.agg vs.toArray):=.agg h.1 h.2
theorem law_of {P:Program} {f:Nat} {args:List AV} {xs:List Value} {w:World} (h:VC P f args (bv true)) (hr:RelL w args xs):Calls P f xs.toArray w fun e w'=>e=.returned (.bool true)∧Below w.heap.size w w' :=
 (h (fun _=>False) w xs (fun _ h=>h.elim) hr.1 hr.2).mono fun e w' ⟨x,he,hx,hb⟩=>⟨by rw[he,rel_lit hx],hb⟩
def RdN (c:Nat) (w:World) (v:Value) (rs:List (List Value)):Prop :=
 (∀ r∈rs,r.length=c)∧∃ ao cap,v=.slice ao rs.length cap∧(rs.length≤cap∧cap≤maxLen∧(ao=none→cap=0)) ∧
  (rs≠[]→∃ b off,ao=some ⟨b,off,none⟩∧∀ j r i u,rs[j]? = some r→r[i]? = some u→w.cell? ⟨b,off+j*c+i,none⟩=some u)
theorem RdN.nil (c:Nat) (w:World):RdN c w (.slice none 0 0) []:=⟨by simp,none,0,rfl,⟨AX_ _,CG_ _,fun _=>rfl⟩,fun h=>absurd rfl h⟩
end Go.Proofs.YtgimdjfbnbkpgaaGreat
namespace Go.Proofs.YtgimdjfbnbkpgaaGreat
open Go.RowKit Go.ChangeShapes Go.WideShapes
open BlkW renaming rows→AG_
open Bool renaming and_eq_true→P_
open Int renaming toNat_natCast→AJ_,tdiv_eq_ediv_of_nonneg→BF_,tmod_eq_emod_of_nonneg→CX_,mul_nonneg→CC_
open IntKind renaming u8→M_,wrap_u64→DO_
open IntWalk renaming i32_in→CR_
open List renaming map→K_,length_map→N_,length_append→O_,map_replicate→X_,map_append→A_,map_cons→D_,getElem?_eq_getElem→AL_,map_take→AM_,map_drop→AN_,map_nil→AO_,map_set→AP_,getD_eq_getElem?_getD→AU_,getElem?_map→AV_,length_cons→AC_,length_replicate→AH_,eq_nil_of_length_eq_zero→AI_,length_take→BL_,length_drop→BX_,length_nil→BB_,length_set→BD_,getElem?_take→BE_,getElem?_set→BG_,getElem?_drop→CU_,getElem_mem→CY_,replicate→CI_,getElem?_append→DL_
open Nat renaming le_trans→AK_,le_refl→AX_,zero_add→BU_,zero_le→CG_
open Option renaming map_eq_some_iff→AT_,getD_some→BJ_
open Result renaming andThen_ok→AS_
open Sem renaming run_bind→AW_,run_pure→BZ_
open Tryz renaming prog→L_,ntmps203→DN_
open Value renaming int→AQ_
open Weak renaming bool→AZ_,agg→AD_,rows→CP_
open WeakL renaming refl→B_
section
variable {H:Type} {enc:TypeId×Value→H} {P:Program} {w:World} {sp:Nat→Bool} {held:Bool}
def Can {H:Type} (enc:TypeId×Value→H) (P:Program) (w:World) (sp:Nat→Bool) (held:Bool) (t:TypeId) (cs:List Value):Prop:=∃ m x,DataW.trod enc P w 0 sp held m t cs=some x
theorem Can.of {t:TypeId} {v:Value} {d:DataW H} {p:List MemPlace} (h:DataW.Trod enc P w 0 sp held t v d p):Can enc P w sp held t v.cells.toList:=by
 obtain ⟨m,h⟩:=h;exact ⟨m,_,h⟩
theorem Can.int {t:TypeId} {k:IntKind} {c:Value} (ht:P.underlying t=some (.int k)) (h:Can enc P w sp held t [c]):∃ n,c=.int k n∧(Lit.int k n).wf=true:=by
 obtain ⟨m,x,h⟩:=h
 obtain ⟨n,hc,_,hw⟩:=DataW.trod_int ht h
 exact ⟨n,by simpa using hc,hw⟩
theorem Can.bool {t:TypeId} {c:Value} (ht:P.underlying t=some .bool) (h:Can enc P w sp held t [c]):∃ b,c=.bool b:=by
 obtain ⟨m,x,h⟩:=h
 obtain ⟨n,hc,_⟩:=DataW.trod_bool ht h
 exact ⟨n,by simpa using hc⟩
theorem Can.fields {t:TypeId} {fs:Array Field} {cs:List Value} (ht:P.underlying t=some (.struct fs)) (h:Can enc P w sp held t cs) :
  ∀ (i:Nat) (f:Field),fs[i]? = some f→Can enc P w sp held f.type ((cs.drop f.offset).take (P.cellsOf f.type)):=by
 obtain ⟨m,x,h⟩:=h
 obtain ⟨xs,n,_,_,_,hl,hf⟩:=DataW.trod_struct ht h
 intro i f hi
 have hlt:i<xs.length:=by rw[hl];exact (Array.getElem?_eq_some_iff.1 hi).1
 exact ⟨n,xs[i],by rw[hf i f hi,AL_ hlt]⟩
theorem Can.slice {t e:TypeId} {v:Value} {c:Nat} (ht:P.underlying t=some (.slice e)) (hc:P.cellsOf e=c) (hc0:0<c) (h:Can enc P w sp held t [v]) :
  ∃ rs:List (List Value),RdN c w v rs∧∀ r∈rs,Can enc P w sp held e r:=by
 obtain ⟨m0,x,h⟩:=h
 rcases Go.Deep.open_slice ht h with ⟨hcs,_⟩|⟨a,len,cap,m,n,D,Pl,hcs,_,hl,hm,hmm,_,hel⟩
 ·simp only[List.cons.injEq,and_true] at hcs
  rw[hcs];exact ⟨[],RdN.nil _ _,by simp⟩
 ·simp only[List.cons.injEq,and_true] at hcs
  subst hcs
  have hlm:len≤m:=by rw[hmm];split<;>omega
  have hel':∀ i:Nat,∃ r:List Value,i<len→w.cells? 0 (a.add (i*c)) c=some r∧Can enc P w sp held e r:=by
   intro i
   by_cases hi:i<len
   ·obtain ⟨cs',h1,h2⟩:=hel i (by omega)
    rw[hc] at h1
    exact ⟨cs',fun _=>⟨h1,n,_,h2⟩⟩
   ·exact ⟨[],fun h=>absurd h hi⟩
  obtain ⟨R,hR⟩:∃ R:Nat→List Value,∀ i,i<len→w.cells? 0 (a.add (i*c)) c=some (R i)∧Can enc P w sp held e (R i):=⟨fun i=>Classical.choose (hel' i),fun i=>Classical.choose_spec (hel' i)⟩
  have key:∀ i,i<len→(R i).length=c∧∀ k,k<c→w.cell? ((a.add (i*c)).add k)=(R i)[k]?:=by
   intro i hi
   have:=World.cells?_some (hR i hi).1
   exact ⟨this.2.1,this.2.2⟩
  refine ⟨(List.range len).map R,⟨?_,some a,cap,by simp,⟨by simpa using hl,hm,by simp⟩,fun hne=>?_⟩,?_⟩
  ·intro r hr
   obtain ⟨i,hi,rfl⟩:=List.mem_map.1 hr
   exact (key i (List.mem_range.1 hi)).1
  ·have h0:0<len:=by
    rcases Nat.eq_zero_or_pos len with h0|h0
    ·subst h0;simp at hne
    ·exact h0
   obtain ⟨b,off,spot⟩:=a
   have g0:=(key 0 h0).2 0 hc0
   have hlt:0<(R 0).length:=by rw[(key 0 h0).1];exact hc0
   rw[AL_ hlt] at g0
   have hs:spot=none:=by simpa [Addr.add] using World.cell?_spot g0
   subst hs
   refine ⟨b,off,rfl,fun j r i u hj hi=>?_⟩
   rw[AV_] at hj
   obtain ⟨j',hj',rfl⟩:=Option.map_eq_some_iff.1 hj
   obtain ⟨hjl,rfl⟩:j<len∧j'=j:=by
    have:=List.getElem?_eq_some_iff.1 hj'
    obtain ⟨h1,h2⟩:=this
    simp at h1 h2;exact ⟨h1,h2.symm⟩
   have hic:i<c:=by have:=(List.getElem?_eq_some_iff.1 hi).1;rw[(key j' hjl).1] at this;exact this
   have:=(key j' hjl).2 i hic
   rw[hi,add_off,add_off] at this
   rw[←this]
  ·intro r hr
   obtain ⟨i,hi,rfl⟩:=List.mem_map.1 hr
   exact (hR i (List.mem_range.1 hi)).2
end
end Go.Proofs.YtgimdjfbnbkpgaaGreat
namespace Go.Proofs.YtgimdjfbnbkpgaaGreat
open Go.RowKit Go.ChangeShapes Go.WideShapes
open BlkW renaming rows→AG_
open Bool renaming and_eq_true→P_
open Int renaming toNat_natCast→AJ_,tdiv_eq_ediv_of_nonneg→BF_,tmod_eq_emod_of_nonneg→CX_,mul_nonneg→CC_
open IntKind renaming u8→M_,wrap_u64→DO_
open IntWalk renaming i32_in→CR_
open List renaming map→K_,length_map→N_,length_append→O_,map_replicate→X_,map_append→A_,map_cons→D_,getElem?_eq_getElem→AL_,map_take→AM_,map_drop→AN_,map_nil→AO_,map_set→AP_,getD_eq_getElem?_getD→AU_,getElem?_map→AV_,length_cons→AC_,length_replicate→AH_,eq_nil_of_length_eq_zero→AI_,length_take→BL_,length_drop→BX_,length_nil→BB_,length_set→BD_,getElem?_take→BE_,getElem?_set→BG_,getElem?_drop→CU_,getElem_mem→CY_,replicate→CI_,getElem?_append→DL_
open Nat renaming le_trans→AK_,le_refl→AX_,zero_add→BU_,zero_le→CG_
open Option renaming map_eq_some_iff→AT_,getD_some→BJ_
open Result renaming andThen_ok→AS_
open Sem renaming run_bind→AW_,run_pure→BZ_
open Tryz renaming prog→L_,ntmps203→DN_
open Value renaming int→AQ_
open Weak renaming bool→AZ_,agg→AD_,rows→CP_
open WeakL renaming refl→B_
def CellsAre (w:World) (l:List AV) (cs:List Value):Prop:=cs.length=l.length∧∀ (i:Nat) (a:AV) (v:Value),l[i]? = some a→cs[i]? = some v→PRel (fun _=>False) w a v∧v.oneCell'=true
theorem CellsAre.one {w:World} {a:AV} {v:Value} (h:PRel (fun _=>False) w a v) (h1:v.oneCell'=true):CellsAre w [a] [v]:=⟨rfl,fun i x y hx hy=>by
 cases i with
 | zero=>simp at hx hy;subst hx hy;exact ⟨h,h1⟩
 | succ i=>simp at hx⟩
theorem CellsAre.app {w:World} {l m:List AV} {cs ds:List Value} (h:CellsAre w l cs) (g:CellsAre w m ds):CellsAre w (l++m) (cs++ds):=⟨by simp[h.1,g.1],fun i a v ha hv=>by
 rw[DL_] at ha hv
 rw[h.1] at hv
 split at ha
 ·rw[i_ ‹_›] at hv;exact h.2 i a v ha hv
 ·rw[j_ ‹_›] at hv;exact g.2 _ a v ha hv⟩
theorem CellsAre.rel {w:World} {l:List AV} {cs:List Value} (h:CellsAre w l cs):RelL w l cs:=⟨h.1,fun i a v ha hv=>.pure (h.2 i a v ha hv).1⟩
theorem CellsAre.agg {w:World} {l:List AV} {cs:List Value} (h:CellsAre w l cs):Rel (fun _=>none) (fun _=>False) w (.agg l) (.agg cs.toArray):=RelL.agg h.rel
theorem CellsAre.val {w:World} {a:AV} {v:Value} (h:CellsAre w [a] [v]):Rel (fun _=>none) (fun _=>False) w a v:=h.rel.2 0 a v rfl rfl
section
variable {H:Type} (enc:TypeId×Value→H) (P:Program) (w:World)
def Rdr (t:TypeId) (D:Type) (av:D→List AV) (ok:D→Prop):Prop:=∀ cs,Can enc P w (fun _=>true) true t cs→cs.length=P.cellsOf t→∃ d,ok d∧CellsAre w (av d) cs
variable {enc P w}
theorem Rdr.map {t:TypeId} {D E:Type} {av:D→List AV} {ok:D→Prop} {av':E→List AV} {ok':E→Prop} (h:Rdr enc P w t D av ok) (g:D→E) (ha:∀ d,av' (g d)=av d) (hk:∀ d,ok d→ok' (g d)):Rdr enc P w t E av' ok':=fun cs hc hl=>by
 obtain ⟨d,h1,h2⟩:=h cs hc hl
 exact ⟨g d,hk d h1,by rw[ha];exact h2⟩
theorem one_of_len {cs:List Value} (h:cs.length=1):∃ c,cs=[c]:=by
 match cs,h with
 | [c],_=>exact ⟨c,rfl⟩
theorem Rdr.int {t:TypeId} {k:IntKind} {ok:Int→Prop} (ht:P.underlying t=some (.int k)) (hc:P.cellsOf t=1) (hk:∀ n,(Lit.int k n).wf=true→ok n):Rdr enc P w t Int (fun n=>[.lit (.int k n)]) ok:=fun cs h hl=>by
 obtain ⟨c,rfl⟩:=one_of_len (hl.trans hc)
 obtain ⟨n,rfl,hw⟩:=Can.int ht h
 exact ⟨n,hk n hw,.one (.lit _) rfl⟩
theorem Rdr.bool {t:TypeId} (ht:P.underlying t=some .bool) (hc:P.cellsOf t=1):Rdr enc P w t Bool (fun b=>[.lit (.bool b)]) (fun _=>True):=fun cs h hl=>by
 obtain ⟨c,rfl⟩:=one_of_len (hl.trans hc)
 obtain ⟨b,rfl⟩:=Can.bool ht h
 exact ⟨b,trivial,.one (.lit _) rfl⟩
theorem Rdr.slice {t e:TypeId} {c:Nat} {D:Type} {av:D→List AV} {ok:D→Prop} (ht:P.underlying t=some (.slice e)) (hct:P.cellsOf t=1) (hc:P.cellsOf e=c) (hc0:0<c) (h:Rdr enc P w e D av ok) :
  Rdr enc P w t (List D) (fun l=>[.sl c (l.map av)]) (fun l=>∀ d∈l,ok d):=fun cs hcan hl=>by
 obtain ⟨v,rfl⟩:=one_of_len (hl.trans hct)
 obtain ⟨rs,⟨hlen,ao,cap,rfl,⟨h1,h2,h3⟩,hcell⟩,hr⟩:=Can.slice ht hc hc0 hcan
 have hds:∀ (rs:List (List Value)),(∀ r∈rs,r.length=c)→(∀ r∈rs,Can enc P w (fun _=>true) true e r)→∃ l:List D,l.length=rs.length∧(∀ d∈l,ok d)∧∀ (i:Nat) (d:D) (r:List Value),l[i]? = some d→rs[i]? = some r→CellsAre w (av d) r:=by
  intro rs
  induction rs with
  | nil=>intro _ _;exact ⟨[],rfl,by simp,by simp⟩
  | cons r rs ih =>
   intro hl hr
   obtain ⟨d,g1,g2⟩:=h r (hr r (by simp)) ((hl r (by simp)).trans hc.symm)
   obtain ⟨l,g3,g4,g5⟩:=ih (fun q hq=>hl q (by simp[hq])) (fun q hq=>hr q (by simp[hq]))
   refine ⟨d::l,by simp[g3],fun x hx=>?_,fun i x q hx hq=>?_⟩
   ·rcases List.mem_cons.1 hx with rfl|hx
    ·exact g1
    ·exact g4 x hx
   ·cases i with
    | zero=>simp at hx hq;subst hx hq;exact g2
    | succ i=>exact g5 i x q (by simpa using hx) (by simpa using hq)
 obtain ⟨l,g1,g2,g3⟩:=hds rs hlen hr
 refine ⟨l,g2,.one ?_ rfl⟩
 by_cases hne:rs=[]
 ·subst hne
  have:l=[]:=AI_ g1
  subst this
  exact .nil c h2 h3
 ·obtain ⟨b,off,rfl,hcv⟩:=hcell hne
  have hlm:rs.length=(l.map av).length:=by rw[N_,g1]
  rw[hlm]
  have get:∀ (i:Nat) (q:List AV),(l.map av)[i]? = some q→∃ (r:List Value),rs[i]? = some r∧CellsAre w q r∧r.length=c:=by
   intro i q hq
   rw[AV_,AT_] at hq
   obtain ⟨d,hd,rfl⟩:=hq
   have hi:i<rs.length:=by rw[←g1];exact (List.getElem?_eq_some_iff.1 hd).1
   exact ⟨rs[i],AL_ hi,g3 i d _ hd (AL_ hi),hlen _ (CY_ hi)⟩
  have cell:∀ (i:Nat) (q:List AV) (j:Nat) (a:AV),(l.map av)[i]? = some q→q[j]? = some a→w.cell? ⟨b,off+i*c+j,none⟩=some (((rs[i]?).getD [])[j]?.getD undef)∧PRel (fun _=>False) w a (((rs[i]?).getD [])[j]?.getD undef)∧(((rs[i]?).getD [])[j]?.getD undef).oneCell'=true:=by
   intro i q j a hq ha
   obtain ⟨r,hr,hca,_⟩:=get i q hq
   have hj:j<r.length:=by rw[hca.1];exact (List.getElem?_eq_some_iff.1 ha).1
   rw[hr,BJ_,AL_ hj,BJ_]
   have:=hca.2 j a _ ha (AL_ hj)
   exact ⟨hcv i r j _ hr (AL_ hj),this.1,this.2⟩
  refine .sl (fun i j=>((rs[i]?).getD [])[j]?.getD undef) (fun _ h=>h) (fun hn=>?_) (by rw[←hlm];exact h1) h2 (fun i q hq=>?_) (fun i q j a hq ha=>(cell i q j a hq ha).1) (fun i q j a hq ha=>(cell i q j a hq ha).2.1) (fun i q j a hq ha=>(cell i q j a hq ha).2.2)
  ·have h0:0<rs.length:=List.length_pos_iff.2 hne
   have hl0:0<(rs[0]).length:=by rw[hlen _ (CY_ h0)];exact hc0
   exact World.block_lt_of_cell? w _ (hcv 0 rs[0] 0 _ (AL_ h0) (AL_ hl0))
  ·obtain ⟨r,_,hca,hrl⟩:=get i q hq
   rw[←hca.1,hrl]
def RdrF (enc:TypeId×Value→H) (P:Program) (w:World) (fs:List Field) (off n:Nat) (D:Type) (av:D→List AV) (ok:D→Prop):Prop :=
 ∀ cs:List Value,cs.length=n→(∀ f∈fs,Can enc P w (fun _=>true) true f.type ((cs.drop f.offset).take (P.cellsOf f.type)))→∃ d,ok d∧CellsAre w (av d) (cs.drop off)
theorem RdrF.nil {n off:Nat} (h:n≤off):RdrF enc P w [] off n Unit (fun _=>[]) (fun _=>True):=fun cs hl _=>⟨(),trivial,by
 rw[List.drop_eq_nil_of_le (by omega)];exact ⟨rfl,by simp⟩⟩
theorem RdrF.cons {f:Field} {fs:List Field} {off n c:Nat} {D E:Type} {av:D→List AV} {ok:D→Prop} {av':E→List AV} {ok':E→Prop} (ho:f.offset=off) (hc:P.cellsOf f.type=c) (hn:off+c≤n) (h:Rdr enc P w f.type D av ok) (g:RdrF enc P w fs (off+c) n E av' ok') :
  RdrF enc P w (f::fs) off n (D×E) (fun d=>av d.1++av' d.2) (fun d=>ok d.1∧ok' d.2):=fun cs hl hf=>by
 obtain ⟨d,h1,h2⟩:=h _ (hf f (by simp)) (by simp;omega)
 obtain ⟨e,h3,h4⟩:=g cs hl (fun x hx=>hf x (by simp[hx]))
 refine ⟨(d,e),⟨h1,h3⟩,?_⟩
 have:cs.drop off=(cs.drop f.offset).take (P.cellsOf f.type)++cs.drop (off+c):=by
  rw[ho,hc,←List.drop_drop,List.take_append_drop]
 rw[this];exact h2.app h4
theorem Rdr.struct {t:TypeId} {fs:List Field} {n:Nat} {D:Type} {av:D→List AV} {ok:D→Prop} (ht:P.underlying t=some (.struct fs.toArray)) (hn:P.cellsOf t=n) (h:RdrF enc P w fs 0 n D av ok):Rdr enc P w t D av ok:=fun cs hc hl=>by
 obtain ⟨d,h1,h2⟩:=h cs (hl.trans hn) (fun f hf=>by
  obtain ⟨i,hi⟩:=List.mem_iff_getElem?.1 hf
  exact Can.fields ht hc i f (by simpa using hi))
 exact ⟨d,h1,by simpa using h2⟩
theorem Rdr.aggV {t:TypeId} {fs:Array Field} {D:Type} {av:D→List AV} {ok:D→Prop} {v:Value} {d:DataW H} {p:List MemPlace} {r:Reach} {base:Nat} (h:Rdr enc P w t D av ok) (ht:P.underlying t=some (.struct fs)) (hv:Value.okWide P w r base t v) (hd:DataW.Trod enc P w 0 (fun _=>true) true t v d p) :
  ∃ x,ok x∧Rel (fun _=>none) (fun _=>False) w (.agg (av x)) v:=by
 obtain ⟨cs,rfl,hs⟩:=okWide_struct ht hv
 obtain ⟨x,h1,h2⟩:=h _ (Can.of hd) (by simpa [Value.cells] using hs)
 refine ⟨x,h1,?_⟩
 have:=h2.agg
 simpa [Value.cells] using this
theorem Rdr.oneV {t:TypeId} {D:Type} {a:D→AV} {ok:D→Prop} {v:Value} {d:DataW H} {p:List MemPlace} (h:Rdr enc P w t D (fun x=>[a x]) ok) (hv:v.cells = #[v]) (hc:P.cellsOf t=1) (hd:DataW.Trod enc P w 0 (fun _=>true) true t v d p):∃ x,ok x∧Rel (fun _=>none) (fun _=>False) w (a x) v:=by
 obtain ⟨x,h1,h2⟩:=h _ (Can.of hd) (by rw[hv,hc];rfl)
 rw[hv] at h2
 exact ⟨x,h1,CellsAre.val h2⟩
end
end Go.Proofs.YtgimdjfbnbkpgaaGreat
namespace Go.Proofs.YtgimdjfbnbkpgaaGreat
open Go.RowKit
open BlkW renaming rows→AG_
open Bool renaming and_eq_true→P_
open Int renaming toNat_natCast→AJ_,tdiv_eq_ediv_of_nonneg→BF_,tmod_eq_emod_of_nonneg→CX_,mul_nonneg→CC_
open IntKind renaming u8→M_,wrap_u64→DO_
open IntWalk renaming i32_in→CR_
open List renaming map→K_,length_map→N_,length_append→O_,map_replicate→X_,map_append→A_,map_cons→D_,getElem?_eq_getElem→AL_,map_take→AM_,map_drop→AN_,map_nil→AO_,map_set→AP_,getD_eq_getElem?_getD→AU_,getElem?_map→AV_,length_cons→AC_,length_replicate→AH_,eq_nil_of_length_eq_zero→AI_,length_take→BL_,length_drop→BX_,length_nil→BB_,length_set→BD_,getElem?_take→BE_,getElem?_set→BG_,getElem?_drop→CU_,getElem_mem→CY_,replicate→CI_,getElem?_append→DL_
open Nat renaming le_trans→AK_,le_refl→AX_,zero_add→BU_,zero_le→CG_
open Option renaming map_eq_some_iff→AT_,getD_some→BJ_
open Result renaming andThen_ok→AS_
open Sem renaming run_bind→AW_,run_pure→BZ_
open Tryz renaming prog→L_,ntmps203→DN_
open Value renaming int→AQ_
open Weak renaming bool→AZ_,agg→AD_,rows→CP_
open WeakL renaming refl→B_
def smallL (l:List Int):List Int:=l.map fun v=>v % 256
theorem u8conv (n:Int):IntKind.u8.wrap n=n % 256:=IntKind.wrap_u8' n
theorem small_any (v:Value) (xs:List Int) (w:World) (hv:Rd w v (xs.map (AQ_ .i8))) (hl:xs.length≤1000000) :
  Calls L_ 260 #[v] w fun e w'=>∃ r,e=.returned r∧Own w.heap.size w' 5 r ((smallL xs).map (AQ_ .u8))∧Below w.heap.size w w':=by
 obtain ⟨a,c,rfl,hle,hm,ha⟩:=hv.ints
 obtain ⟨i0,hi,hz0,hz1,hz2⟩:=info_parts (show (Tryz.prog.info? 5).map (fun i=>(i.zero,i.size,i.bytes))=some (some (.int .u8 0),1,1) from by kernel_rfl)
 have hsl:((smallL xs).map (AQ_ .u8)).length=xs.length:=by simp[smallL]
 have HSL:=Lib.hid hsl;clear hsl
 go_enter Tryz.func260,Tryz.ntmps260
 go_wp2_with (at_make;refine wpList_makeO w rfl _ _ 52 rfl 5 i0 (.int .u8 0) 1 Tryz.underlying52 hi hz0 hz1 hz2 (by decide) rfl _ _ xs.length rfl rfl (by omega) ?_)
 intro w1 hown hb1
 obtain ⟨g,hg⟩:∃ g,g=w.heap.size:=⟨_,rfl⟩
 rw[←hg] at hown ⊢
 have HG:=Lib.hid hg;clear hg
 go_wp2_with fail
 go_loopw [4,5,11] (fun _ _ i wr=>∃ (k:Nat),i=.int .i64 k∧k≤xs.length∧Own g wr 5 (.slice (some ⟨g,0,none⟩) xs.length xs.length) (fill ((smallL xs).map (AQ_ .u8)) (CI_ xs.length (.int .u8 0)) k)∧Below w.heap.size w wr) (fun _ _ i _=>xs.length-(intOf i).toNat)
 case atStart=>exact ⟨0,rfl,by omega,by rw[fill_zero];exact hown,hb1⟩
 case round =>
  obtain ⟨k,rfl,hk,hown,hb⟩:=hrel
  by_cases hlt:k<xs.length
  ·obtain ⟨b,o,rfl,hc⟩:=ha (by intro h;subst h;simp at hlt)
   have hcell:=bl_get hb (hc k hlt)
   obtain ⟨x1,x2,x3,x4,h5,h6,h7⟩:=hown.at (by intro h;have:=congrArg List.length h;rw[fill_len _ _ (by rw[HSL.out];simp),HSL.out,BB_] at this;omega)
   have hl:=fill_len ((smallL xs).map (AQ_ .u8)) (CI_ xs.length (.int .u8 0)) (by rw[HSL.out];simp) k
   rw[HSL.out] at hl
   obtain ⟨y,c9⟩:∃ y,wr.cell? ⟨g,k,none⟩=some y:=⟨_,h5 k (by omega)⟩
   have f9:=h6 k
   have H7:=Lib.hid (h7 k (.int .u8 (xs[k] % 256)) (by omega))
   have hget:((smallL xs).map (AQ_ .u8))[k]? = some (.int .u8 (xs[k] % 256)):=by simp[smallL,hlt]
   have HGT:=Lib.hid hget
   obtain ⟨x,hx⟩:∃ x,x=xs[k]:=⟨_,rfl⟩
   rw[←hx] at hcell H7 HGT
   have hu8:IntKind.u8.wrap x=x % 256:=u8conv x
   have hgl:w.heap.size≤g:=by rw[HG.out];exact AX_ _
   have kk0:(0:Int)≤(k:Int):=by omega
   have kk1:(k:Int)<(xs.length:Int):=by omega
   clear h5 h6 h7 hl hown x1 x2 x3 x4 hget hx hc ha
   go_wp2_with fail
   go_roundw
   case rel =>
    refine ⟨k+1,by go_num,by omega,?_,hb.setCell hgl _⟩
    have:=H7.out
    rwa [fill_set _ _ (by rw[HSL.out];simp) k (by rw[HSL.out];exact hlt) _ HGT.out] at this
   case measure=>simp[intOf];omega
  ·obtain rfl:k=xs.length:=by omega
   have e:=fill_all ((smallL xs).map (AQ_ .u8)) (CI_ xs.length (.int .u8 0)) (by rw[HSL.out];simp)
   rw[HSL.out] at e
   rw[e] at hown
   clear e
   go_wp2
   go_ret
   exact ⟨_,rfl,by rw[←HG.out];exact hown,hb⟩
theorem refSmall_any (v:Value) (xs:List Int) (w:World) (hv:Rd w v (xs.map (AQ_ .i8))) (hl:xs.length≤1000000) :
  Calls L_ 170 #[v] w fun e w'=>∃ r,e=.returned r∧Own w.heap.size w' 5 r ((smallL xs).map (AQ_ .u8))∧Below w.heap.size w w':=by
 obtain ⟨a,c,rfl,hle,hm,ha⟩:=hv.ints
 obtain ⟨i0,hi,hz0,hz1,hz2⟩:=info_parts (show (Tryz.prog.info? 5).map (fun i=>(i.zero,i.size,i.bytes))=some (some (.int .u8 0),1,1) from by kernel_rfl)
 go_enter Tryz.func170,Tryz.ntmps170
 go_wp2_with fail
 go_loopw [3,4] (fun r i wr=>∃ (k:Nat),i=.int .i64 k∧k≤xs.length∧Own w.heap.size wr 5 r ((smallL (xs.take k)).map (AQ_ .u8))∧Below w.heap.size w wr) (fun _ i _=>xs.length-(intOf i).toNat)
 case atStart=>exact ⟨0,rfl,by omega,Own.nil _ _ _,Below.refl _ _⟩
 case round =>
  obtain ⟨k,rfl,hk,hown,hb⟩:=hrel
  by_cases hlt:k<xs.length
  ·obtain ⟨b,o,rfl,hc⟩:=ha (by intro h;subst h;simp at hlt)
   have hcell:=bl_get hb (hc k hlt)
   have hst:(smallL (xs.take (k+1))).map (AQ_ .u8)=(smallL (xs.take k)).map (AQ_ .u8)++[.int .u8 (xs[k] % 256)]:=by
    unfold smallL;rw[List.take_succ_eq_append_getElem hlt,A_,A_];rfl
   have hlk:((smallL (xs.take k)).map (AQ_ .u8)).length≤1000000:=by simp[smallL];omega
   obtain ⟨x,hx⟩:∃ x,x=xs[k]:=⟨_,rfl⟩
   rw[←hx] at hcell hst
   have hu8:IntKind.u8.wrap x=x % 256:=u8conv x
   have HST:=Lib.hid hst;have HO:=Lib.hid hown;have HLK:=Lib.hid hlk
   have kk0:(0:Int)≤(k:Int):=by omega
   have kk1:(k:Int)<(xs.length:Int):=by omega
   clear hst hx hc ha hown hlk
   go_wp2_with (at_builtin;refine hold ?_)
   refine unheld ?_
   refine wpList_app1 rfl _ _ 52 rfl w.heap.size 5 i0 (.int .u8 0) 1 Tryz.underlying52 hi hz0 hz1 hz2 (by decide) rfl _ _ wr (.int .u8 (x % 256)) _ HO.out rfl rfl rfl (by have:=HLK.out;omega) hb.size ?_
   intro v' w' hown' hb'
   have HO2:=Lib.hid hown';clear hown'
   go_wp2_with fail
   go_roundw
   case rel=>exact ⟨k+1,by go_num,by omega,by rw[HST.out];exact HO2.out,hb.trans hb'⟩
   case measure=>simp[intOf];omega
  ·have hkk:xs.take k=xs:=List.take_of_length_le (by omega)
   rw[hkk] at hown
   go_wp2
   go_ret
   exact ⟨_,rfl,hown,hb⟩
def putL (n:Nat):List Int:=if n<128 then [(n:Int)] else ((n % 128+128:Nat):Int)::putL (n/128)
termination_by n
decreasing_by omega
theorem putL_len (k:Nat):∀ n,n<128 ^ (k+1)→(putL n).length≤k+1:=by
 induction k with
 | zero=>intro n h;rw[putL,i_ (by omega)];simp
 | succ k ih =>
  intro n h
  rw[putL]
  by_cases hn:n<128
  ·rw[i_ hn];simp
  ·rw[j_ hn]
   have:=ih (n/128) (by rw[Nat.pow_succ] at h;omega)
   simp only[AC_];omega
theorem putL_len10 (n:Nat) (h:n<18446744073709551616):(putL n).length≤10:=putL_len 9 n (by omega)
theorem Tryz_info5:(Tryz.prog.info? 5).map (fun i=>(i.zero,i.size,i.bytes))=some (some (.int .u8 0),1,1):=by kernel_rfl
theorem or128 (n:Nat):bits BinOp.or M_ ((n:Int) % 256) 128=((n % 128+128:Nat):Int):=by
 have h:∀ x:Fin 256,bits BinOp.or M_ ((x.val:Nat):Int) 128=((x.val % 128+128:Nat):Int):=by decide +kernel
 have h':=h ⟨n % 256,by omega⟩
 have e1:((n:Int) % 256)=((n % 256:Nat):Int):=by omega
 have e2:n % 256 % 128=n % 128:=by omega
 rw[e1,h']
 show ((n % 256 % 128+128:Nat):Int)=_
 rw[e2]
theorem put_any (n:Int) (w:World) (h0:0≤n) (h1:n≤18446744073709551615) :
  Calls L_ 53 #[.int .u64 n] w fun e w'=>∃ v,e=.returned v∧Own w.heap.size w' 5 v ((putL n.toNat).map (AQ_ .u8))∧Below w.heap.size w w':=by
 obtain ⟨i0,hi,hz0,hz1,hz2⟩:=info_parts Tryz_info5
 obtain ⟨m0,rfl⟩:=Int.eq_ofNat_of_zero_le h0
 have hl:=putL_len10 m0 (by omega)
 go_enter Tryz.func53,Tryz.ntmps53
 go_wp2
 go_loopw [0,3] (fun n v wr=>∃ (m:Nat) (acc:List Int),n=.int .u64 m∧m≤18446744073709551615∧Own w.heap.size wr 5 v (acc.map (AQ_ .u8))∧Below w.heap.size w wr∧acc++putL m=putL m0)
  (fun n _ _=>(intOf n).toNat)
 case atStart=>exact ⟨m0,[],rfl,by omega,Own.nil _ _ _,Below.refl _ _,rfl⟩
 case round =>
  obtain ⟨m,acc,rfl,hm,hown,hb,hacc⟩:=hrel
  have hal:acc.length≤10:=by have:=congrArg List.length hacc;simp at this;omega
  have HA:=Lib.hid hacc;clear hacc
  have HM:=Lib.hid hm;clear hm;have H1:=Lib.hid h1;clear h1
  by_cases hlt:m<128
  ·go_wp2_with (at_builtin;go_must (refine wpList_app1 rfl _ _ 52 rfl w.heap.size 5 i0 (.int .u8 0) 1 Tryz.underlying52 hi hz0 hz1 hz2 (by decide) rfl _ _ _ _ _ hown rfl rfl rfl (by simp;omega) hb.size ?_))
   intro v' w1 hown1 hb1
   go_wp2
   go_ret
   refine ⟨v',rfl,?_,hb.trans hb1⟩
   rw[AJ_,←HA.out,putL,i_ hlt,A_];exact hown1
  ·go_wp2_with (at_builtin;go_must (refine wpList_app1 rfl _ _ 52 rfl w.heap.size 5 i0 (.int .u8 0) 1 Tryz.underlying52 hi hz0 hz1 hz2 (by decide) rfl _ _ _ _ _ hown rfl rfl rfl (by simp;omega) hb.size ?_))
   intro v' w1 hown1 hb1
   go_wp2
   go_roundw
   case rel =>
    refine ⟨m/128,acc++[((m % 128+128:Nat):Int)],by go_num,by have:=HM.out;omega,?_,hb.trans hb1,?_⟩
    ·rw[A_];rw[or128] at hown1;exact hown1
    ·rw[←HA.out,List.append_assoc];conv=>rhs;rw[putL,j_ hlt]
     rfl
   case measure=>simp[intOf];omega
theorem refPut_any (n:Int) (w:World) (h0:0≤n) (h1:n≤18446744073709551615) :
  Calls L_ 55 #[.int .u64 n] w fun e w'=>∃ v,e=.returned v∧Own w.heap.size w' 5 v ((putL n.toNat).map (AQ_ .u8))∧Below w.heap.size w w':=by
 obtain ⟨i0,hi,hz0,hz1,hz2⟩:=info_parts Tryz_info5
 obtain ⟨m0,rfl⟩:=Int.eq_ofNat_of_zero_le h0
 have hl:=putL_len10 m0 (by omega)
 have H1:=Lib.hid h1;clear h1
 go_enter Tryz.func55,Tryz.ntmps55
 go_wp2
 go_loopw [0,3] (fun n v wr=>∃ (m:Nat) (acc:List Int),n=.int .u64 m∧m≤18446744073709551615∧Own w.heap.size wr 5 v (acc.map (AQ_ .u8))∧Below w.heap.size w wr∧acc++putL m=putL m0)
  (fun n _ _=>(intOf n).toNat)
 case atStart=>exact ⟨m0,[],rfl,by have:=H1.out;omega,Own.nil _ _ _,Below.refl _ _,rfl⟩
 case round =>
  obtain ⟨m,acc,rfl,hm,hown,hb,hacc⟩:=hrel
  have hal:acc.length≤10:=by have:=congrArg List.length hacc;simp at this;omega
  have HA:=Lib.hid hacc;clear hacc
  have hmi:(m:Int)≤18446744073709551615:=by omega
  have HM:=Lib.hid hm;clear hm
  by_cases hlt:m<128
  ·go_wp2_with (at_builtin;go_must (refine wpList_app1 rfl _ _ 52 rfl w.heap.size 5 i0 (.int .u8 0) 1 Tryz.underlying52 hi hz0 hz1 hz2 (by decide) rfl _ _ _ _ _ hown rfl rfl rfl (by simp;omega) hb.size ?_))
   intro v' w1 hown1 hb1
   go_wp2
   go_ret
   refine ⟨v',rfl,?_,hb.trans hb1⟩
   rw[AJ_,←HA.out,putL,i_ hlt,A_];exact hown1
  ·have ew:IntKind.u8.wrap ((m:Int) % 128+128)=((m % 128+128:Nat):Int):=by rw[IntWalk.u8_in _ (by omega)];omega
   go_wp2_with (at_builtin;go_must (refine wpList_app1 rfl _ _ 52 rfl w.heap.size 5 i0 (.int .u8 0) 1 Tryz.underlying52 hi hz0 hz1 hz2 (by decide) rfl _ _ _ _ _ hown rfl rfl rfl (by simp;omega) hb.size ?_))
   intro v' w1 hown1 hb1
   go_wp2
   go_roundw
   case rel =>
    refine ⟨m/128,acc++[((m % 128+128:Nat):Int)],by go_num,by have:=HM.out;omega,?_,hb.trans hb1,?_⟩
    ·rw[A_];exact hown1
    ·rw[←HA.out,List.append_assoc];conv=>rhs;rw[putL,j_ hlt]
     rfl
   case measure=>simp[intOf];omega
def foldN (v:Int):Int:=if 0≤v then 2*v else 2*(-(v+1))+1
theorem fold_any (v:Int) (w:World) (h0 : -9223372036854775808≤v) (h1:v≤9223372036854775807) :
  Calls L_ 202 #[.int .i64 v] w fun e w'=>e=.returned (.int .u64 (foldN v))∧w=w':=by
 by_cases hv:0≤v
 ·go_enter Tryz.func202,Tryz.ntmps202
  go_wp2
  go_ret
  exact ⟨ret_int (by unfold foldN;rw[i_ hv]),rfl⟩
 ·go_enter Tryz.func202,Tryz.ntmps202
  go_wp2
  go_ret
  exact ⟨ret_int (by unfold foldN;rw[j_ (by omega)]),rfl⟩
theorem xor_ones (a:Nat) (h:a<18446744073709551616):a ^^^ 18446744073709551615=18446744073709551615-a:=by
 have h1:=congrArg BitVec.toNat (BitVec.xor_allOnes (x:=BitVec.ofNat 64 a))
 rw[BitVec.toNat_xor,BitVec.toNat_not,BitVec.toNat_allOnes,BitVec.toNat_ofNat,Nat.mod_eq_of_lt (by omega)] at h1
 simpa using h1
theorem fold_xor_pos (v:Int) (h0:0≤v) (h1:v≤9223372036854775807):bits BinOp.xor IntKind.u64 (v*2) (v/9223372036854775808)=foldN v:=by
 rw[PlainAid.shr63_nonneg h0 h1,u64_xor _ _ (by omega) (by omega) (by omega) (by omega)]
 unfold foldN;rw[i_ h0]
 simp;omega
theorem fold_xor_neg (v:Int) (h0:v<0) (h1 : -9223372036854775808≤v) :
  bits BinOp.xor IntKind.u64 (IntKind.u64.wrap (IntKind.u64.wrap v*2)) (IntKind.u64.wrap (v/9223372036854775808))=foldN v:=by
 rw[PlainAid.shr63_neg h0 h1]
 have e1:IntKind.u64.wrap (-1)=18446744073709551615:=by decide
 have e2:IntKind.u64.wrap (IntKind.u64.wrap v*2)=2*v+18446744073709551616:=by
  simp only[DO_];omega
 rw[e1,e2,u64_xor _ _ (by omega) (by omega) (by omega) (by omega)]
 have e3:(18446744073709551615:Int).toNat=18446744073709551615:=by decide
 rw[e3,xor_ones _ (by omega)]
 unfold foldN;rw[j_ (by omega)]
 omega
theorem foldN_bd (v:Int) (h0 : -9223372036854775808≤v) (h1:v≤9223372036854775807):0≤foldN v∧foldN v≤18446744073709551615:=by
 unfold foldN;split<;>omega
theorem putInt_any (v:Int) (w:World) (h0 : -9223372036854775808≤v) (h1:v≤9223372036854775807) :
  Calls L_ 262 #[.int .i64 v] w fun e w'=>∃ r,e=.returned r∧Own w.heap.size w' 5 r ((putL (foldN v).toNat).map (AQ_ .u8))∧Below w.heap.size w w':=by
 have hf:=foldN_bd v h0 h1
 by_cases hv:0≤v
 ·have he:=Lib.hid (fold_xor_pos v hv h1)
  go_enter Tryz.func262,Tryz.ntmps262
  go_wp2_with fail
  rw[he.out]
  refine (put_any _ _ hf.1 hf.2).mono ?_
  rintro e w1 ⟨r,rfl,hown,hb⟩
  go_wp2
  go_ret
  exact ⟨r,rfl,hown,hb⟩
 ·have he:=Lib.hid (fold_xor_neg v (by omega) h0)
  go_enter Tryz.func262,Tryz.ntmps262
  go_wp2_with fail
  rw[he.out]
  refine (put_any _ _ hf.1 hf.2).mono ?_
  rintro e w1 ⟨r,rfl,hown,hb⟩
  go_wp2
  go_ret
  exact ⟨r,rfl,hown,hb⟩
end Go.Proofs.YtgimdjfbnbkpgaaGreat
namespace Go.Proofs.YtgimdjfbnbkpgaaGreat
open BlkW renaming rows→AG_
open Bool renaming and_eq_true→P_
open Int renaming toNat_natCast→AJ_,tdiv_eq_ediv_of_nonneg→BF_,tmod_eq_emod_of_nonneg→CX_,mul_nonneg→CC_
open IntKind renaming u8→M_,wrap_u64→DO_
open IntWalk renaming i32_in→CR_
open List renaming map→K_,length_map→N_,length_append→O_,map_replicate→X_,map_append→A_,map_cons→D_,getElem?_eq_getElem→AL_,map_take→AM_,map_drop→AN_,map_nil→AO_,map_set→AP_,getD_eq_getElem?_getD→AU_,getElem?_map→AV_,length_cons→AC_,length_replicate→AH_,eq_nil_of_length_eq_zero→AI_,length_take→BL_,length_drop→BX_,length_nil→BB_,length_set→BD_,getElem?_take→BE_,getElem?_set→BG_,getElem?_drop→CU_,getElem_mem→CY_,replicate→CI_,getElem?_append→DL_
open Nat renaming le_trans→AK_,le_refl→AX_,zero_add→BU_,zero_le→CG_
open Option renaming map_eq_some_iff→AT_,getD_some→BJ_
open Result renaming andThen_ok→AS_
open Sem renaming run_bind→AW_,run_pure→BZ_
open Tryz renaming prog→L_,ntmps203→DN_
open Value renaming int→AQ_
open Weak renaming bool→AZ_,agg→AD_,rows→CP_
open WeakL renaming refl→B_
def val:List Int→Int
 | []=>0
 | c::r=>c % 128+128*val r
def fin:List Int→Nat→Option Nat
 | [],_=>none
 | c::r,k=>if 10≤k then none else if c<128 then some 0 else (fin r (k+1)).map (· + 1)
def getAt:List Int→Nat→Int→Int×Int×Int
 | [],_,_=>(0,0,20)
 | c::r,k,n =>
  if k=9∧1<c then (0,0,21) else if c=0∧0<k then (0,0,21) else
  if c<128 then (n+c % 128*128 ^ k,(k:Int)+1,0) else getAt r (k+1) (n+c % 128*128 ^ k)
theorem get_put (b:List Int):∀ (n k:Nat) (acc:Int),k≤9→n<128 ^ (9-k)*2→(k=0∨0<n) →
  getAt (putL n++b) k acc=(acc+128 ^ k*n,(k:Int)+(putL n).length,0):=by
 intro n
 induction n using Nat.strongRecOn with
 | _ n ih =>
  intro k acc hk hn hz
  by_cases h:n<128
  ·have e:putL n=[(n:Int)]:=by rw[putL,i_ h]
   rw[e,List.singleton_append,getAt,j_ (by rintro ⟨rfl,h1⟩;simp at hn;omega),j_ (by omega),i_ (by omega)]
   have:(n:Int) % 128=n:=by omega
   simp[this,Int.mul_comm]
  ·have e:putL n=((n % 128+128:Nat):Int)::putL (n/128):=by rw[putL,j_ h]
   have h9:k≠9:=by rintro rfl;simp at hn;omega
   have hd:n/128<128 ^ (9-(k+1))*2:=by
    have e2:9-k=(9-(k+1))+1:=by omega
    rw[e2,Nat.pow_succ] at hn
    rw[Nat.div_lt_iff_lt_mul (by decide)]
    rw[Nat.mul_right_comm] at hn;exact hn
   rw[e,List.cons_append,getAt,j_ (by omega),j_ (by omega),j_ (by omega),ih (n/128) (by omega) (k+1) _ (by omega) hd (.inr (by omega))]
   have e3:((n % 128+128:Nat):Int) % 128=((n % 128:Nat):Int):=by omega
   rw[e3]
   simp only[Prod.mk.injEq,AC_]
   refine ⟨?_,by omega,trivial⟩
   have e4:(n:Int)=((n % 128:Nat):Int)+128*((n/128:Nat):Int):=by omega
   conv=>rhs;rw[e4]
   rw[Int.mul_add,Int.pow_succ,←Int.mul_assoc,Int.mul_comm (((n % 128:Nat):Int))]
   omega
def unfoldN (n:Int):Int:=if n % 2=0 then n/2 else -(n/2)-1
end Go.Proofs.YtgimdjfbnbkpgaaGreat
namespace Go.Proofs.YtgimdjfbnbkpgaaGreat
open Go.RowKit
open BlkW renaming rows→AG_
open Bool renaming and_eq_true→P_
open Int renaming toNat_natCast→AJ_,tdiv_eq_ediv_of_nonneg→BF_,tmod_eq_emod_of_nonneg→CX_,mul_nonneg→CC_
open IntKind renaming u8→M_,wrap_u64→DO_
open IntWalk renaming i32_in→CR_
open List renaming map→K_,length_map→N_,length_append→O_,map_replicate→X_,map_append→A_,map_cons→D_,getElem?_eq_getElem→AL_,map_take→AM_,map_drop→AN_,map_nil→AO_,map_set→AP_,getD_eq_getElem?_getD→AU_,getElem?_map→AV_,length_cons→AC_,length_replicate→AH_,eq_nil_of_length_eq_zero→AI_,length_take→BL_,length_drop→BX_,length_nil→BB_,length_set→BD_,getElem?_take→BE_,getElem?_set→BG_,getElem?_drop→CU_,getElem_mem→CY_,replicate→CI_,getElem?_append→DL_
open Nat renaming le_trans→AK_,le_refl→AX_,zero_add→BU_,zero_le→CG_
open Option renaming map_eq_some_iff→AT_,getD_some→BJ_
open Result renaming andThen_ok→AS_
open Sem renaming run_bind→AW_,run_pure→BZ_
open Tryz renaming prog→L_,ntmps203→DN_
open Value renaming int→AQ_
open Weak renaming bool→AZ_,agg→AD_,rows→CP_
open WeakL renaming refl→B_
theorem putL_rng:∀ (n:Nat),∀ x∈putL n,0≤x∧x≤255:=by
 intro n
 induction n using Nat.strongRecOn with
 | _ n ih =>
  intro x hx
  rw[putL] at hx
  split at hx
  ·simp at hx;omega
  ·simp at hx
   rcases hx with rfl|hx
   ·omega
   ·exact ih (n/128) (by omega) x hx
theorem got (n:Nat) (b:List Int) (hn:n<18446744073709551616):getAt (putL n++b) 0 0=((n:Int),((putL n).length:Int),0):=by
 rw[get_put b n 0 0 (by omega) (by omega) (.inl rfl)];simp
def wideL (xs:List Int):List Int:=(xs.map fun v=>putL (foldN v).toNat).flatten
theorem wideL_cons (x:Int) (xs:List Int):wideL (x::xs)=putL (foldN x).toNat++wideL xs:=rfl
theorem wideL_snoc (xs:List Int) (x:Int):wideL (xs++[x])=wideL xs++putL (foldN x).toNat:=by simp[wideL]
theorem wideL_len:∀ (xs:List Int),(∀ x∈xs,-2147483648≤x∧x≤2147483647)→(wideL xs).length≤10*xs.length
 | [],_=>by simp[wideL]
 | x::xs,h=>by
  have h1:=h x (by simp)
  have h2:=wideL_len xs (fun y hy=>h y (by simp[hy]))
  have hf:=foldN_bd x (by omega) (by omega)
  have h3:=putL_len10 (foldN x).toNat (by omega)
  rw[wideL_cons,O_,AC_];omega
theorem wideL_rng:∀ (xs:List Int),∀ y∈wideL xs,0≤y∧y≤255
 | [],y,h=>by simp[wideL] at h
 | x::xs,y,h=>by
  rw[wideL_cons,List.mem_append] at h
  rcases h with h|h
  ·exact putL_rng _ y h
  ·exact wideL_rng xs y h
theorem refWide_any (v:Value) (xs:List Int) (w:World) (hv:Rd w v (xs.map (AQ_ .i32))) (hx:∀ x∈xs,-2147483648≤x∧x≤2147483647) (hl:xs.length≤1000000) :
  Calls L_ 171 #[v] w fun e w'=>∃ r,e=.returned r∧Own w.heap.size w' 5 r ((wideL xs).map (AQ_ .u8))∧Below w.heap.size w w':=by
 obtain ⟨a,c,rfl,hle,hm,ha⟩:=hv.ints
 obtain ⟨i0,hi,hz0,hz1,hz2⟩:=info_parts (show (Tryz.prog.info? 5).map (fun i=>(i.zero,i.size,i.bytes))=some (some (.int .u8 0),1,1) from by kernel_rfl)
 have HX:=Lib.hid hx;clear hx
 go_enter Tryz.func171,Tryz.ntmps171
 go_wp2_with fail
 go_loopw [3,4] (fun r i wr=>∃ (k:Nat),i=.int .i64 k∧k≤xs.length∧Own w.heap.size wr 5 r ((wideL (xs.take k)).map (AQ_ .u8))∧Below w.heap.size w wr) (fun _ i _=>xs.length-(intOf i).toNat)
 case atStart=>exact ⟨0,rfl,by omega,Own.nil _ _ _,Below.refl _ _⟩
 case round =>
  obtain ⟨k,rfl,hk,hown,hb⟩:=hrel
  by_cases hlt:k<xs.length
  ·obtain ⟨b,o,rfl,hc⟩:=ha (by intro h;subst h;simp at hlt)
   have hcell:=bl_get hb (hc k hlt)
   obtain ⟨x0,x1⟩:=HX.out xs[k] (CY_ hlt)
   have hst:(wideL (xs.take (k+1))).map (AQ_ .u8)=(wideL (xs.take k)).map (AQ_ .u8)++(putL (foldN xs[k]).toNat).map (AQ_ .u8):=by
    rw[List.take_succ_eq_append_getElem hlt,wideL_snoc,A_]
   have hlk:((wideL (xs.take k)).map (AQ_ .u8)).length≤10000000:=by
    have:=wideL_len (xs.take k) (fun y hy=>HX.out y (List.mem_of_mem_take hy))
    rw[BL_] at this;rw[N_];omega
   obtain ⟨x,hx⟩:∃ x,x=xs[k]:=⟨_,rfl⟩
   rw[←hx] at hcell hst x0 x1
   obtain ⟨f0,f1⟩:=foldN_bd x (by omega) (by omega)
   have hpl:=putL_len10 (foldN x).toNat (by omega)
   have HST:=Lib.hid hst;have HO:=Lib.hid hown;have HLK:=Lib.hid hlk;have HPL:=Lib.hid hpl
   have kk0:(0:Int)≤(k:Int):=by omega
   have kk1:(k:Int)<(xs.length:Int):=by omega
   clear hst hx hc ha hown hlk hpl
   go_wp2_with fail
   refine (fold_any x _ (by omega) (by omega)).mono ?_
   rintro e w1 ⟨rfl,rfl⟩
   go_wp2_with fail
   refine (refPut_any (foldN x) _ f0 f1).mono ?_
   rintro e w2 ⟨r,rfl,hr,hb2⟩
   have HR:=Lib.hid hr.rd
   have HO2:=Lib.hid (HO.out.below hb2 (AX_ _))
   clear hr
   have hbw:Below w.heap.size w w2:=bl_step hb hb2
   go_wp2_with (at_builtin;refine hold ?_)
   refine unheld ?_
   refine wpList_appS rfl _ _ 52 rfl w.heap.size 5 i0 (.int .u8 0) 1 Tryz.underlying52 hi hz0 hz1 hz2 (by decide) rfl _ _ _ _ HO2.out HR.out rfl rfl (ints_one _ _) (by have:=HLK.out;have:=HPL.out;simp only[N_] at *;omega) hbw.size ?_
   intro v' w' hown' hb'
   have HO3:=Lib.hid hown';clear hown'
   go_wp2_with fail
   go_roundw
   case rel=>exact ⟨k+1,by go_num,by omega,by rw[HST.out];exact HO3.out,hbw.trans hb'⟩
   case measure=>simp[intOf];omega
  ·have hkk:xs.take k=xs:=List.take_of_length_le (by omega)
   rw[hkk] at hown
   go_wp2
   go_ret
   exact ⟨_,rfl,hown,hb⟩
theorem wide_any (v:Value) (xs:List Int) (w:World) (hv:Rd w v (xs.map (AQ_ .i32))) (hx:∀ x∈xs,-2147483648≤x∧x≤2147483647) (hl:xs.length≤1000000) :
  Calls L_ 261 #[v] w fun e w'=>∃ r,e=.returned r∧Own w.heap.size w' 5 r ((wideL xs).map (AQ_ .u8))∧Below w.heap.size w w':=by
 obtain ⟨a,c,rfl,hle,hm,ha⟩:=hv.ints
 obtain ⟨i0,hi,hz0,hz1,hz2⟩:=info_parts (show (Tryz.prog.info? 5).map (fun i=>(i.zero,i.size,i.bytes))=some (some (.int .u8 0),1,1) from by kernel_rfl)
 have HX:=Lib.hid hx;clear hx
 go_enter Tryz.func261,Tryz.ntmps261
 go_wp2_with fail
 go_loopw [3,8] (fun r i wr=>∃ (k:Nat),i=.int .i64 k∧k≤xs.length∧Own w.heap.size wr 5 r ((wideL (xs.take k)).map (AQ_ .u8))∧Below w.heap.size w wr) (fun _ i _=>xs.length-(intOf i).toNat)
 case atStart=>exact ⟨0,rfl,by omega,Own.nil _ _ _,Below.refl _ _⟩
 case round =>
  obtain ⟨k,rfl,hk,hown,hb⟩:=hrel
  by_cases hlt:k<xs.length
  ·obtain ⟨b,o,rfl,hc⟩:=ha (by intro h;subst h;simp at hlt)
   have hcell:=bl_get hb (hc k hlt)
   obtain ⟨x0,x1⟩:=HX.out xs[k] (CY_ hlt)
   have hst:(wideL (xs.take (k+1))).map (AQ_ .u8)=(wideL (xs.take k)).map (AQ_ .u8)++(putL (foldN xs[k]).toNat).map (AQ_ .u8):=by
    rw[List.take_succ_eq_append_getElem hlt,wideL_snoc,A_]
   have hlk:((wideL (xs.take k)).map (AQ_ .u8)).length≤10000000:=by
    have:=wideL_len (xs.take k) (fun y hy=>HX.out y (List.mem_of_mem_take hy))
    rw[BL_] at this;rw[N_];omega
   obtain ⟨x,hx⟩:∃ x,x=xs[k]:=⟨_,rfl⟩
   rw[←hx] at hcell hst x0 x1
   obtain ⟨f0,f1⟩:=foldN_bd x (by omega) (by omega)
   have hpl:=putL_len10 (foldN x).toNat (by omega)
   have HST:=Lib.hid hst;have HO:=Lib.hid hown;have HLK:=Lib.hid hlk;have HPL:=Lib.hid hpl
   have kk0:(0:Int)≤(k:Int):=by omega
   have kk1:(k:Int)<(xs.length:Int):=by omega
   clear hst hx hc ha hown hlk hpl
   go_wp2_with fail
   refine (putInt_any x _ (by omega) (by omega)).mono ?_
   rintro e w2 ⟨r,rfl,hr,hb2⟩
   have HR:=Lib.hid hr.rd
   have HO2:=Lib.hid (HO.out.below hb2 (AX_ _))
   clear hr
   have hbw:Below w.heap.size w w2:=bl_step hb hb2
   go_wp2_with (at_builtin;refine hold ?_)
   refine unheld ?_
   refine wpList_appS rfl _ _ 52 rfl w.heap.size 5 i0 (.int .u8 0) 1 Tryz.underlying52 hi hz0 hz1 hz2 (by decide) rfl _ _ _ _ HO2.out HR.out rfl rfl (ints_one _ _) (by have:=HLK.out;have:=HPL.out;simp only[N_] at *;omega) hbw.size ?_
   intro v' w' hown' hb'
   have HO3:=Lib.hid hown';clear hown'
   go_wp2_with fail
   go_roundw
   case rel=>exact ⟨k+1,by go_num,by omega,by rw[HST.out];exact HO3.out,hbw.trans hb'⟩
   case measure=>simp[intOf];omega
  ·have hkk:xs.take k=xs:=List.take_of_length_le (by omega)
   rw[hkk] at hown
   go_wp2
   go_ret
   exact ⟨_,rfl,hown,hb⟩
theorem ownR_sl {S:Nat→Prop} {w:World} {B:Nat} {t:TypeId} {k:IntKind} {L:List Int} {v:Value} (hS:∀ b,S b→b<B) (h:Own B w t v (L.map (AQ_ k))):Rel (fun _=>none) S w (.sl 1 (L.map (row1 k))) v:=by
 by_cases hne:L=[]
 ·subst hne
  obtain ⟨ao,cap,rfl,⟨_,hm,h0⟩,_⟩:=h.rd
  exact .pure (.nil 1 hm h0)
 ·obtain ⟨g,cap,rfl,hc,hm,hB,hg,hcell,_,_⟩:=h.form (by simpa using hne)
  rw[N_] at hc
  rw[N_,show L.length=(L.map (row1 k)).length from by rw[N_]]
  refine .pure (.sl (fun i _=>.int k (L.getD i 0)) (fun _ hs=>absurd (hS _ hs) (by omega)) (fun _=>hg) (by rw[N_];exact hc) hm (fun i r hr=>?_) (fun i r j c hr hc=>?_) (fun i r j c hr hc=>?_) (fun i r j c hr hc=>by simp[Value.oneCell']))
  ·rw[AV_] at hr
   cases q:L[i]? with
   | none=>rw[q] at hr;cases hr
   | some x=>rw[q] at hr;injection hr with hr;subst hr;rfl
  ·rw[AV_] at hr
   cases q:L[i]? with
   | none=>rw[q] at hr;cases hr
   | some x =>
    rw[q] at hr;injection hr with hr;subst hr
    obtain ⟨hi,e⟩:=List.getElem?_eq_some_iff.1 q
    cases j with
    | zero =>
     have:=hcell i (by rw[N_];exact hi)
     rw[show 0+i*1+0=i from by omega,this,List.getElem_map,AU_,q,e];rfl
    | succ j=>simp at hc
  ·rw[AV_] at hr
   cases q:L[i]? with
   | none=>rw[q] at hr;cases hr
   | some x =>
    rw[q] at hr;injection hr with hr;subst hr
    cases j with
    | zero=>simp at hc;subst hc;rw[AU_,q];exact .lit _
    | succ j=>simp at hc
theorem sl_rd {μ:Nat→Option OI} {S:Nat→Prop} {w:World} {k:IntKind} {L:List Int} {v:Value} (h:Rel μ S w (.sl 1 (L.map (row1 k))) v):Rd w v (L.map (AQ_ k)):=by
 cases h with
 | pure h =>
  generalize hr:L.map (row1 k)=rows at h
  cases h with
  | nil _ hm h0 =>
   have:L=[]:=by simpa using hr
   subst this
   exact ⟨_,_,rfl,⟨CG_ _,hm,h0⟩,fun h=>absurd rfl h⟩
  | @sl _ _ b off cap cv hX hb hc hm hz h1 h2 h3 =>
   subst hr
   rw[N_] at hc ⊢
   refine ⟨some ⟨b,off,none⟩,cap,by rw[N_],⟨by rw[N_];exact hc,hm,by simp⟩,fun hne=>⟨b,off,rfl,fun j hj=>?_⟩⟩
   rw[N_] at hj
   have e:(L.map (row1 k))[j]? = some (row1 k L[j]):=by rw[AV_,AL_ hj];rfl
   have a1:=h1 j _ 0 (.lit (.int k L[j])) e rfl
   have a2:=h2 j _ 0 (.lit (.int k L[j])) e rfl
   rw[show off+j=off+j*1+0 from by omega,a1]
   generalize cv j 0=u at a2
   cases a2
   rw[List.getElem_map]
theorem put_v (n:Int) (h0:0≤n) (h1:n≤18446744073709551615):VC L_ 53 [.lit (.int .u64 n)] (.sl 1 ((putL n.toNat).map (row1 .u8))):=by
 intro S w xs hS hl hxs
 have:=valAll_eq (us:=[.int .u64 n]) hl hxs rfl
 subst this
 exact (put_any n w h0 h1).mono fun e w' ⟨v,he,ho,hb⟩=>⟨v,he,ownR_sl hS ho,hb⟩
theorem refPut_v (n:Int) (h0:0≤n) (h1:n≤18446744073709551615):VC L_ 55 [.lit (.int .u64 n)] (.sl 1 ((putL n.toNat).map (row1 .u8))):=by
 intro S w xs hS hl hxs
 have:=valAll_eq (us:=[.int .u64 n]) hl hxs rfl
 subst this
 exact (refPut_any n w h0 h1).mono fun e w' ⟨v,he,ho,hb⟩=>⟨v,he,ownR_sl hS ho,hb⟩
theorem one_arg {μ:Nat→Option OI} {X:Nat→Prop} {w:World} {c:AV} {xs:List Value} (hl:xs.length=[c].length) (h:∀ (i:Nat) (c':AV) (v:Value),[c][i]? = some c'→xs[i]? = some v→Rel μ X w c' v):∃ v,xs=[v]∧Rel μ X w c v:=by
 match xs,hl with
 | [v],_=>exact ⟨v,rfl,h 0 c v rfl rfl⟩
theorem small_v (l:List Int) (hl:l.length≤1000000):VC L_ 260 [.sl 1 (l.map (row1 .i8))] (.sl 1 ((smallL l).map (row1 .u8))):=by
 intro S w xs hS hn hxs
 obtain ⟨v,rfl,hv⟩:=one_arg hn hxs
 exact (small_any v l w (sl_rd hv) hl).mono fun e w' ⟨v,he,ho,hb⟩=>⟨v,he,ownR_sl hS ho,hb⟩
theorem refSmall_v (l:List Int) (hl:l.length≤1000000):VC L_ 170 [.sl 1 (l.map (row1 .i8))] (.sl 1 ((smallL l).map (row1 .u8))):=by
 intro S w xs hS hn hxs
 obtain ⟨v,rfl,hv⟩:=one_arg hn hxs
 exact (refSmall_any v l w (sl_rd hv) hl).mono fun e w' ⟨v,he,ho,hb⟩=>⟨v,he,ownR_sl hS ho,hb⟩
theorem wide_v (l:List Int) (hx:∀ x∈l,-2147483648≤x∧x≤2147483647) (hl:l.length≤1000000):VC L_ 261 [.sl 1 (l.map (row1 .i32))] (.sl 1 ((wideL l).map (row1 .u8))):=by
 intro S w xs hS hn hxs
 obtain ⟨v,rfl,hv⟩:=one_arg hn hxs
 exact (wide_any v l w (sl_rd hv) hx hl).mono fun e w' ⟨v,he,ho,hb⟩=>⟨v,he,ownR_sl hS ho,hb⟩
theorem refWide_v (l:List Int) (hx:∀ x∈l,-2147483648≤x∧x≤2147483647) (hl:l.length≤1000000):VC L_ 171 [.sl 1 (l.map (row1 .i32))] (.sl 1 ((wideL l).map (row1 .u8))):=by
 intro S w xs hS hn hxs
 obtain ⟨v,rfl,hv⟩:=one_arg hn hxs
 exact (refWide_any v l w (sl_rd hv) hx hl).mono fun e w' ⟨v,he,ho,hb⟩=>⟨v,he,ownR_sl hS ho,hb⟩
def getV (l:List Int):Int:=(getAt l 0 0).1
def getN (l:List Int):Int:=(getAt l 0 0).2.1
def getE (l:List Int):Int:=(getAt l 0 0).2.2
abbrev Rst:=List Int×Int
def cntS (s:Rst) (most:Int):Rst :=
 if s.2≠0 then s else if getE s.1≠0 then ([],getE s.1) else if max most 0<getV s.1 then ([],3) else (s.1.drop (getN s.1).toNat,0)
def cntV (s:Rst) (most:Int):Int :=
 if s.2≠0 then 0 else if getE s.1≠0 then 0 else if max most 0<getV s.1 then 0 else getV s.1
def intS (s:Rst) (lo hi:Int):Rst :=
 if s.2≠0 then s else if getE s.1≠0 then ([],getE s.1) else if unfoldN (getV s.1)<lo∨hi<unfoldN (getV s.1) then ([],3) else (s.1.drop (getN s.1).toNat,0)
def intV (s:Rst) (lo hi:Int):Int :=
 if s.2≠0 then 0 else if getE s.1≠0 then 0 else if unfoldN (getV s.1)<lo∨hi<unfoldN (getV s.1) then 0 else unfoldN (getV s.1)
def dpW (l:List Int):Nat→List Int
 | 0=>l
 | k+1=>(dpW l k).drop 1
def tkW (l:List Int):Nat→List Int
 | 0=>[]
 | k+1=>tkW l k++[IntKind.i8.wrap ((dpW l k).getD 0 default)]
def itS (s:Rst):Nat→Rst
 | 0=>s
 | k+1=>intS (itS s k) (-2147483648) 2147483647
def itV (s:Rst):Nat→List Int
 | 0=>[]
 | k+1=>itV s k++[intV (itS s k) (-2147483648) 2147483647]
def smlS (s:Rst) (n:Int):Rst :=
 if s.2≠0 then s else if n<1 then s else if (s.1.length:Int)<n then ([],20) else (dpW s.1 n.toNat,0)
def smlV (s:Rst) (n:Int):List Int :=
 if s.2≠0 then [] else if n<1 then [] else if (s.1.length:Int)<n then [] else tkW s.1 n.toNat
def widS (s:Rst) (n:Int):Rst :=
 if s.2≠0 then s else if n<1 then s else if (s.1.length:Int)<n then ([],20) else itS s n.toNat
def widV (s:Rst) (n:Int):List Int :=
 if s.2≠0 then [] else if n<1 then [] else if (s.1.length:Int)<n then [] else if (itS s n.toNat).2≠0 then [] else itV s n.toNat
def putN (x:Int):List Int:=putL (IntKind.u64.wrap x).toNat
theorem wrap_rng (x:Int):0≤IntKind.u64.wrap x∧IntKind.u64.wrap x≤18446744073709551615:=by
 rw[DO_];omega
theorem putN_len (x:Int):(putN x).length≤10:=by
 have:=wrap_rng x
 exact putL_len10 _ (by omega)
def PutsV (L:Int→List Int):Prop:=∀ x:Int,VC L_ 53 [.lit (.int .u64 (IntKind.u64.wrap x))] (.sl 1 ((L x).map (row1 .u8)))
structure Puts (L:Int→List Int):Prop where
 v:PutsV L
 l:∀ x,(L x).length≤10
def RPutsV (L:Int→List Int):Prop:=∀ x:Int,VC L_ 55 [.lit (.int .u64 (IntKind.u64.wrap x))] (.sl 1 ((L x).map (row1 .u8)))
structure RPuts (L:Int→List Int):Prop where
 v:RPutsV L
 l:∀ x,(L x).length≤10
theorem puts_v (L:Int→List Int) (hL:Puts L) (x:Int):VC L_ 53 [.lit (.int .u64 (IntKind.u64.wrap x))] (.sl 1 ((L x).map (row1 .u8))):=hL.v x
theorem rputs_v (L:Int→List Int) (hL:RPuts L) (x:Int):VC L_ 55 [.lit (.int .u64 (IntKind.u64.wrap x))] (.sl 1 ((L x).map (row1 .u8))):=hL.v x
theorem puts:Puts putN:=⟨fun x=>put_v _ (wrap_rng x).1 (wrap_rng x).2,putN_len⟩
theorem rputs:RPuts putN:=⟨fun x=>refPut_v _ (wrap_rng x).1 (wrap_rng x).2,putN_len⟩
theorem lnum_1 (B:List Int) (L:Int→List Int) (x most:Int) (hB:B.length≤1000000) (hL:Puts L):VM L_ 92 ([.ptr 100000 0 0,.ptr 100001 0 0,i64 most]) ([(950,.slc 5 1 (B.map (row1 .u8))),(100000,.var [.own 950]),(100001,.var [i64 x])]) (.tup []) ([(951,.slc 5 1 ((B++L x).map (row1 .u8))),(100000,.var [.own 951]),(100001,.var [i64 x])]):=by
 have q:=hL.l x
 have oz0:=@puts_v (L) hL (x)
 exact VM.run (fn:=Tryz.f92) (W:=[.r [] [.w,.callr (rO oz0)]]) (G:=[.ren 16 951,.blk 951 (Blk.slc 5 1 (K_ (row1 .u8) (B++L x))),.sort]) Tryz.func92 (by kernel_rfl) (.c oz0<|.c (show ((K_ (row1 .u8) B).length+(K_ (row1 .u8) (L x)).length)*1≤140737488355328 by (simp only[N_];omega))<|.c (show (K_ (row1 .u8) B).length+(K_ (row1 .u8) (L x)).length≤9223372036854775807 by (simp only[N_];omega))<|.c (show BlkW (Blk.slc 5 1 (K_ (row1 .u8) B++K_ (row1 .u8) (L x))) (Blk.slc 5 1 (K_ (row1 .u8) (B++L x))) from (AG_ (e:=5) (z:=1) (rows_to (row1 .u8) (r:=K_ (row1 .u8) B++K_ (row1 .u8) (L x)) (l:=B++L x) (m:=B++L x) (by first|(simp only[A_,D_,AO_,AP_,X_,AM_,AN_];done)|rfl|(simp only[A_,D_,AO_,AP_,X_,AM_,AN_];rfl)) rfl)))<|.n)
theorem lnum_na (B:List Int) (L:Int→List Int) (n:Nod) (most:Int) (hB:B.length≤1000000) (hL:Puts L):VM L_ 92 ([.ptr 100000 0 0,.ptr 100001 0 1,i64 most]) ([(950,.slc 5 1 (B.map (row1 .u8))),(100000,.var [.own 950]),(100001,.var (nodC n))]) (.tup []) ([(951,.slc 5 1 ((B++L n.na).map (row1 .u8))),(100000,.var [.own 951]),(100001,.var (nodC n))]):=by
 have q:=hL.l n.na
 have oz0:=@puts_v (L) hL (n.na)
 exact VM.run (fn:=Tryz.f92) (W:=[.r [] [.w,.callr (rO oz0)]]) (G:=[.ren 16 951,.blk 951 (Blk.slc 5 1 (K_ (row1 .u8) (B++L n.na))),.sort]) Tryz.func92 (by kernel_rfl) (.c oz0<|.c (show ((K_ (row1 .u8) B).length+(K_ (row1 .u8) (L n.na)).length)*1≤140737488355328 by (simp only[N_];omega))<|.c (show (K_ (row1 .u8) B).length+(K_ (row1 .u8) (L n.na)).length≤9223372036854775807 by (simp only[N_];omega))<|.c (show BlkW (Blk.slc 5 1 (K_ (row1 .u8) B++K_ (row1 .u8) (L n.na))) (Blk.slc 5 1 (K_ (row1 .u8) (B++L n.na))) from (AG_ (e:=5) (z:=1) (rows_to (row1 .u8) (r:=K_ (row1 .u8) B++K_ (row1 .u8) (L n.na)) (l:=B++L n.na) (m:=B++L n.na) (by first|(simp only[A_,D_,AO_,AP_,X_,AM_,AN_];done)|rfl|(simp only[A_,D_,AO_,AP_,X_,AM_,AN_];rfl)) rfl)))<|.n)
theorem lnum_nb (B:List Int) (L:Int→List Int) (n:Nod) (most:Int) (hB:B.length≤1000000) (hL:Puts L):VM L_ 92 ([.ptr 100000 0 0,.ptr 100001 0 2,i64 most]) ([(950,.slc 5 1 (B.map (row1 .u8))),(100000,.var [.own 950]),(100001,.var (nodC n))]) (.tup []) ([(951,.slc 5 1 ((B++L n.nb).map (row1 .u8))),(100000,.var [.own 951]),(100001,.var (nodC n))]):=by
 have q:=hL.l n.nb
 have oz0:=@puts_v (L) hL (n.nb)
 exact VM.run (fn:=Tryz.f92) (W:=[.r [] [.w,.callr (rO oz0)]]) (G:=[.ren 16 951,.blk 951 (Blk.slc 5 1 (K_ (row1 .u8) (B++L n.nb))),.sort]) Tryz.func92 (by kernel_rfl) (.c oz0<|.c (show ((K_ (row1 .u8) B).length+(K_ (row1 .u8) (L n.nb)).length)*1≤140737488355328 by (simp only[N_];omega))<|.c (show (K_ (row1 .u8) B).length+(K_ (row1 .u8) (L n.nb)).length≤9223372036854775807 by (simp only[N_];omega))<|.c (show BlkW (Blk.slc 5 1 (K_ (row1 .u8) B++K_ (row1 .u8) (L n.nb))) (Blk.slc 5 1 (K_ (row1 .u8) (B++L n.nb))) from (AG_ (e:=5) (z:=1) (rows_to (row1 .u8) (r:=K_ (row1 .u8) B++K_ (row1 .u8) (L n.nb)) (l:=B++L n.nb) (m:=B++L n.nb) (by first|(simp only[A_,D_,AO_,AP_,X_,AM_,AN_];done)|rfl|(simp only[A_,D_,AO_,AP_,X_,AM_,AN_];rfl)) rfl)))<|.n)
theorem lnum_nk (B:List Int) (L:Int→List Int) (n:Nod) (most:Int) (hB:B.length≤1000000) (hL:Puts L):VM L_ 92 ([.ptr 100000 0 0,.ptr 100001 0 3,i64 most]) ([(950,.slc 5 1 (B.map (row1 .u8))),(100000,.var [.own 950]),(100001,.var (nodC n))]) (.tup []) ([(951,.slc 5 1 ((B++L n.nk).map (row1 .u8))),(100000,.var [.own 951]),(100001,.var (nodC n))]):=by
 have q:=hL.l n.nk
 have oz0:=@puts_v (L) hL (n.nk)
 exact VM.run (fn:=Tryz.f92) (W:=[.r [] [.w,.callr (rO oz0)]]) (G:=[.ren 16 951,.blk 951 (Blk.slc 5 1 (K_ (row1 .u8) (B++L n.nk))),.sort]) Tryz.func92 (by kernel_rfl) (.c oz0<|.c (show ((K_ (row1 .u8) B).length+(K_ (row1 .u8) (L n.nk)).length)*1≤140737488355328 by (simp only[N_];omega))<|.c (show (K_ (row1 .u8) B).length+(K_ (row1 .u8) (L n.nk)).length≤9223372036854775807 by (simp only[N_];omega))<|.c (show BlkW (Blk.slc 5 1 (K_ (row1 .u8) B++K_ (row1 .u8) (L n.nk))) (Blk.slc 5 1 (K_ (row1 .u8) (B++L n.nk))) from (AG_ (e:=5) (z:=1) (rows_to (row1 .u8) (r:=K_ (row1 .u8) B++K_ (row1 .u8) (L n.nk)) (l:=B++L n.nk) (m:=B++L n.nk) (by first|(simp only[A_,D_,AO_,AP_,X_,AM_,AN_];done)|rfl|(simp only[A_,D_,AO_,AP_,X_,AM_,AN_];rfl)) rfl)))<|.n)
theorem lnum_ns (B:List Int) (L:Int→List Int) (n:Nod) (most:Int) (hB:B.length≤1000000) (hL:Puts L):VM L_ 92 ([.ptr 100000 0 0,.ptr 100001 0 4,i64 most]) ([(950,.slc 5 1 (B.map (row1 .u8))),(100000,.var [.own 950]),(100001,.var (nodC n))]) (.tup []) ([(951,.slc 5 1 ((B++L n.ns).map (row1 .u8))),(100000,.var [.own 951]),(100001,.var (nodC n))]):=by
 have q:=hL.l n.ns
 have oz0:=@puts_v (L) hL (n.ns)
 exact VM.run (fn:=Tryz.f92) (W:=[.r [] [.w,.callr (rO oz0)]]) (G:=[.ren 16 951,.blk 951 (Blk.slc 5 1 (K_ (row1 .u8) (B++L n.ns))),.sort]) Tryz.func92 (by kernel_rfl) (.c oz0<|.c (show ((K_ (row1 .u8) B).length+(K_ (row1 .u8) (L n.ns)).length)*1≤140737488355328 by (simp only[N_];omega))<|.c (show (K_ (row1 .u8) B).length+(K_ (row1 .u8) (L n.ns)).length≤9223372036854775807 by (simp only[N_];omega))<|.c (show BlkW (Blk.slc 5 1 (K_ (row1 .u8) B++K_ (row1 .u8) (L n.ns))) (Blk.slc 5 1 (K_ (row1 .u8) (B++L n.ns))) from (AG_ (e:=5) (z:=1) (rows_to (row1 .u8) (r:=K_ (row1 .u8) B++K_ (row1 .u8) (L n.ns)) (l:=B++L n.ns) (m:=B++L n.ns) (by first|(simp only[A_,D_,AO_,AP_,X_,AM_,AN_];done)|rfl|(simp only[A_,D_,AO_,AP_,X_,AM_,AN_];rfl)) rfl)))<|.n)
theorem lnum_np (B:List Int) (L:Int→List Int) (n:Nod) (most:Int) (hB:B.length≤1000000) (hL:Puts L):VM L_ 92 ([.ptr 100000 0 0,.ptr 100001 0 5,i64 most]) ([(950,.slc 5 1 (B.map (row1 .u8))),(100000,.var [.own 950]),(100001,.var (nodC n))]) (.tup []) ([(951,.slc 5 1 ((B++L n.np).map (row1 .u8))),(100000,.var [.own 951]),(100001,.var (nodC n))]):=by
 have q:=hL.l n.np
 have oz0:=@puts_v (L) hL (n.np)
 exact VM.run (fn:=Tryz.f92) (W:=[.r [] [.w,.callr (rO oz0)]]) (G:=[.ren 16 951,.blk 951 (Blk.slc 5 1 (K_ (row1 .u8) (B++L n.np))),.sort]) Tryz.func92 (by kernel_rfl) (.c oz0<|.c (show ((K_ (row1 .u8) B).length+(K_ (row1 .u8) (L n.np)).length)*1≤140737488355328 by (simp only[N_];omega))<|.c (show (K_ (row1 .u8) B).length+(K_ (row1 .u8) (L n.np)).length≤9223372036854775807 by (simp only[N_];omega))<|.c (show BlkW (Blk.slc 5 1 (K_ (row1 .u8) B++K_ (row1 .u8) (L n.np))) (Blk.slc 5 1 (K_ (row1 .u8) (B++L n.np))) from (AG_ (e:=5) (z:=1) (rows_to (row1 .u8) (r:=K_ (row1 .u8) B++K_ (row1 .u8) (L n.np)) (l:=B++L n.np) (m:=B++L n.np) (by first|(simp only[A_,D_,AO_,AP_,X_,AM_,AN_];done)|rfl|(simp only[A_,D_,AO_,AP_,X_,AM_,AN_];rfl)) rfl)))<|.n)
theorem lnum_no (B:List Int) (L:Int→List Int) (n:Nod) (most:Int) (hB:B.length≤1000000) (hL:Puts L):VM L_ 92 ([.ptr 100000 0 0,.ptr 100001 0 6,i64 most]) ([(950,.slc 5 1 (B.map (row1 .u8))),(100000,.var [.own 950]),(100001,.var (nodC n))]) (.tup []) ([(951,.slc 5 1 ((B++L n.no).map (row1 .u8))),(100000,.var [.own 951]),(100001,.var (nodC n))]):=by
 have q:=hL.l n.no
 have oz0:=@puts_v (L) hL (n.no)
 exact VM.run (fn:=Tryz.f92) (W:=[.r [] [.w,.callr (rO oz0)]]) (G:=[.ren 16 951,.blk 951 (Blk.slc 5 1 (K_ (row1 .u8) (B++L n.no))),.sort]) Tryz.func92 (by kernel_rfl) (.c oz0<|.c (show ((K_ (row1 .u8) B).length+(K_ (row1 .u8) (L n.no)).length)*1≤140737488355328 by (simp only[N_];omega))<|.c (show (K_ (row1 .u8) B).length+(K_ (row1 .u8) (L n.no)).length≤9223372036854775807 by (simp only[N_];omega))<|.c (show BlkW (Blk.slc 5 1 (K_ (row1 .u8) B++K_ (row1 .u8) (L n.no))) (Blk.slc 5 1 (K_ (row1 .u8) (B++L n.no))) from (AG_ (e:=5) (z:=1) (rows_to (row1 .u8) (r:=K_ (row1 .u8) B++K_ (row1 .u8) (L n.no)) (l:=B++L n.no) (m:=B++L n.no) (by first|(simp only[A_,D_,AO_,AP_,X_,AM_,AN_];done)|rfl|(simp only[A_,D_,AO_,AP_,X_,AM_,AN_];rfl)) rfl)))<|.n)
theorem lnum_qs (B:List Int) (L:Int→List Int) (n:Nod) (most:Int) (hB:B.length≤1000000) (hL:Puts L):VM L_ 92 ([.ptr 100000 0 0,.ptr 100001 0 12,i64 most]) ([(950,.slc 5 1 (B.map (row1 .u8))),(100000,.var [.own 950]),(100001,.var (nodC n))]) (.tup []) ([(951,.slc 5 1 ((B++L n.qs).map (row1 .u8))),(100000,.var [.own 951]),(100001,.var (nodC n))]):=by
 have q:=hL.l n.qs
 have oz0:=@puts_v (L) hL (n.qs)
 exact VM.run (fn:=Tryz.f92) (W:=[.r [] [.w,.callr (rO oz0)]]) (G:=[.ren 16 951,.blk 951 (Blk.slc 5 1 (K_ (row1 .u8) (B++L n.qs))),.sort]) Tryz.func92 (by kernel_rfl) (.c oz0<|.c (show ((K_ (row1 .u8) B).length+(K_ (row1 .u8) (L n.qs)).length)*1≤140737488355328 by (simp only[N_];omega))<|.c (show (K_ (row1 .u8) B).length+(K_ (row1 .u8) (L n.qs)).length≤9223372036854775807 by (simp only[N_];omega))<|.c (show BlkW (Blk.slc 5 1 (K_ (row1 .u8) B++K_ (row1 .u8) (L n.qs))) (Blk.slc 5 1 (K_ (row1 .u8) (B++L n.qs))) from (AG_ (e:=5) (z:=1) (rows_to (row1 .u8) (r:=K_ (row1 .u8) B++K_ (row1 .u8) (L n.qs)) (l:=B++L n.qs) (m:=B++L n.qs) (by first|(simp only[A_,D_,AO_,AP_,X_,AM_,AN_];done)|rfl|(simp only[A_,D_,AO_,AP_,X_,AM_,AN_];rfl)) rfl)))<|.n)
theorem lnum_rs (B:List Int) (L:Int→List Int) (n:Nod) (most:Int) (hB:B.length≤1000000) (hL:Puts L):VM L_ 92 ([.ptr 100000 0 0,.ptr 100001 0 15,i64 most]) ([(950,.slc 5 1 (B.map (row1 .u8))),(100000,.var [.own 950]),(100001,.var (nodC n))]) (.tup []) ([(951,.slc 5 1 ((B++L n.rs).map (row1 .u8))),(100000,.var [.own 951]),(100001,.var (nodC n))]):=by
 have q:=hL.l n.rs
 have oz0:=@puts_v (L) hL (n.rs)
 exact VM.run (fn:=Tryz.f92) (W:=[.r [] [.w,.callr (rO oz0)]]) (G:=[.ren 16 951,.blk 951 (Blk.slc 5 1 (K_ (row1 .u8) (B++L n.rs))),.sort]) Tryz.func92 (by kernel_rfl) (.c oz0<|.c (show ((K_ (row1 .u8) B).length+(K_ (row1 .u8) (L n.rs)).length)*1≤140737488355328 by (simp only[N_];omega))<|.c (show (K_ (row1 .u8) B).length+(K_ (row1 .u8) (L n.rs)).length≤9223372036854775807 by (simp only[N_];omega))<|.c (show BlkW (Blk.slc 5 1 (K_ (row1 .u8) B++K_ (row1 .u8) (L n.rs))) (Blk.slc 5 1 (K_ (row1 .u8) (B++L n.rs))) from (AG_ (e:=5) (z:=1) (rows_to (row1 .u8) (r:=K_ (row1 .u8) B++K_ (row1 .u8) (L n.rs)) (l:=B++L n.rs) (m:=B++L n.rs) (by first|(simp only[A_,D_,AO_,AP_,X_,AM_,AN_];done)|rfl|(simp only[A_,D_,AO_,AP_,X_,AM_,AN_];rfl)) rfl)))<|.n)
theorem lnum_kd0 (L:Int→List Int) (n:Nod) (most:Int) (hL:Puts L):VM L_ 92 ([.ptr 100000 0 0,.ptr 100001 0 0,i64 most]) ([(100000,.var [.lit (.slice none 0 0)]),(100001,.var (nodC n))]) (.tup []) ([(951,.slc 5 1 ((L n.kd).map (row1 .u8))),(100000,.var [.own 951]),(100001,.var (nodC n))]):=by
 have q:=hL.l n.kd
 have oz0:=@puts_v (L) hL (n.kd)
 exact VM.run (fn:=Tryz.f92) (W:=[.r [] [.w,.callr (rO oz0)]]) (G:=[.ren 16 951,.sort]) Tryz.func92 (by kernel_rfl) (.c oz0<|.c (show (K_ (row1 .u8) (L n.kd)).length*1≤140737488355328 by (simp only[N_];omega))<|.c (show (K_ (row1 .u8) (L n.kd)).length≤9223372036854775807 by (simp only[N_];omega))<|.n)
theorem lsml_w (B:List Int) (n:Nod) (m:Int) (hB:B.length≤1000000) (hw:n.w.length≤100000):VM L_ 258 ([.ptr 100000 0 0,.ptr 100001 0 9,i64 m]) ([(950,.slc 5 1 (B.map (row1 .u8))),(100000,.var [.own 950]),(100001,.var (nodC n))]) (.tup []) ([(951,.slc 5 1 ((B++smallL n.w).map (row1 .u8))),(100000,.var [.own 951]),(100001,.var (nodC n))]):=by
 have q:(smallL n.w).length=n.w.length:=N_ _
 have oz0:=@small_v (n.w) (by omega)
 exact VM.run (fn:=Tryz.f258) (W:=[.r [] [.callr (rO oz0)]]) (G:=[.ren 15 951,.blk 951 (Blk.slc 5 1 (K_ (row1 .u8) (B++smallL n.w))),.sort]) Tryz.func258 (by kernel_rfl) (.c oz0<|.c (show ((K_ (row1 .u8) B).length+(K_ (row1 .u8) (smallL n.w)).length)*1≤140737488355328 by (simp only[N_];omega))<|.c (show (K_ (row1 .u8) B).length+(K_ (row1 .u8) (smallL n.w)).length≤9223372036854775807 by (simp only[N_];omega))<|.c (show BlkW (Blk.slc 5 1 (K_ (row1 .u8) B++K_ (row1 .u8) (smallL n.w))) (Blk.slc 5 1 (K_ (row1 .u8) (B++smallL n.w))) from (AG_ (e:=5) (z:=1) (rows_to (row1 .u8) (r:=K_ (row1 .u8) B++K_ (row1 .u8) (smallL n.w)) (l:=B++smallL n.w) (m:=B++smallL n.w) (by first|(simp only[A_,D_,AO_,AP_,X_,AM_,AN_];done)|rfl|(simp only[A_,D_,AO_,AP_,X_,AM_,AN_];rfl)) rfl)))<|.n)
theorem lwid_b (B:List Int) (n:Nod) (m:Int) (hB:B.length≤1000000) (hw:n.b.length≤100000) (hb:∀ x∈n.b,-2147483648≤x∧x≤2147483647):VM L_ 259 ([.ptr 100000 0 0,.ptr 100001 0 10,i64 m]) ([(950,.slc 5 1 (B.map (row1 .u8))),(100000,.var [.own 950]),(100001,.var (nodC n))]) (.tup []) ([(951,.slc 5 1 ((B++wideL n.b).map (row1 .u8))),(100000,.var [.own 951]),(100001,.var (nodC n))]):=by
 have q:=wideL_len n.b hb
 have oz0:=@wide_v (n.b) hb (by omega)
 exact VM.run (fn:=Tryz.f259) (W:=[.r [] [.callr (rO oz0)]]) (G:=[.ren 15 951,.blk 951 (Blk.slc 5 1 (K_ (row1 .u8) (B++wideL n.b))),.sort]) Tryz.func259 (by kernel_rfl) (.c oz0<|.c (show ((K_ (row1 .u8) B).length+(K_ (row1 .u8) (wideL n.b)).length)*1≤140737488355328 by (simp only[N_];omega))<|.c (show (K_ (row1 .u8) B).length+(K_ (row1 .u8) (wideL n.b)).length≤9223372036854775807 by (simp only[N_];omega))<|.c (show BlkW (Blk.slc 5 1 (K_ (row1 .u8) B++K_ (row1 .u8) (wideL n.b))) (Blk.slc 5 1 (K_ (row1 .u8) (B++wideL n.b))) from (AG_ (e:=5) (z:=1) (rows_to (row1 .u8) (r:=K_ (row1 .u8) B++K_ (row1 .u8) (wideL n.b)) (l:=B++wideL n.b) (m:=B++wideL n.b) (by first|(simp only[A_,D_,AO_,AP_,X_,AM_,AN_];done)|rfl|(simp only[A_,D_,AO_,AP_,X_,AM_,AN_];rfl)) rfl)))<|.n)
def oneV (s:Rst):Int:=(smlV s 1).getD 0 0
theorem of_1 (k:Int) (h:k=1):VC L_ 198 ([i64 k]) (.agg [bv false,bv true,bv true,bv true,bv true,bv true]):=by
 have oz0:=(show (k==1) = !false by (refine decide_eq_true ?_;omega))
 have oz2:=(show (k==1)=true by (refine decide_eq_true ?_;omega))
 have oz3:=(show true = !false by (simp;done))
 have oz5:=(show true=true by with_reducible rfl)
 exact (VC.run (fn:=Tryz.f198) (W:=[r_,.r [] [f_,f_,e_,f_,f_,e_],.r [] [f_,f_,e_,f_,f_,e_,f_,f_,e_],.r [] [f_,f_,e_,f_,f_,e_],.r [] [f_,f_,e_,f_,f_,e_]]) (r:=AV.agg [bv (k==6),bv true,bv true,bv true,bv true,bv true]) Tryz.func198 (by kernel_rfl) (.c oz0<|.c oz0<|.c oz2<|.c oz3<|.c oz3<|.c oz5<|.c oz0<|.c oz0<|.c oz2<|.c oz3<|.c oz3<|.c oz5<|.c oz3<|.c oz3<|.c oz5<|.c oz3<|.c oz3<|.c oz5<|.c oz3<|.c oz3<|.c oz5<|.c oz0<|.c oz0<|.c oz2<|.c oz3<|.c oz3<|.c oz5<|.n)).weak (B_ _) (AD_ (.cons (AZ_ (by (refine decide_eq_false ?_;omega))) (.cons (.refl _) (.cons (.refl _) (.cons (.refl _) (.cons (.refl _) (.cons (.refl _) .nil)))))))
theorem of_2 (k:Int) (h:k=2):VC L_ 198 ([i64 k]) (.agg [bv false,bv true,bv false,bv true,bv true,bv true]):=by
 have oz0:=(show (k==1)=false by (refine decide_eq_false ?_;omega))
 have oz3:=(show (k==2) = !false by (refine decide_eq_true ?_;omega))
 have oz5:=(show (k==2)=true by (refine decide_eq_true ?_;omega))
 have oz12:=(show true = !false by (simp;done))
 have oz14:=(show true=true by with_reducible rfl)
 exact (VC.run (fn:=Tryz.f198) (W:=[r_,.r [] [e_,e_,f_,f_,f_,e_],.r [] [e_,e_,f_,f_,f_,e_,f_,f_,e_],.r [] [f_,f_,e_,f_,f_,e_],.r [] [e_,e_,f_,f_,f_,e_]]) (r:=AV.agg [bv (k==6),bv true,bv (k==3),bv true,bv true,bv true]) Tryz.func198 (by kernel_rfl) (.c oz0<|.c oz0<|.c oz0<|.c oz3<|.c oz3<|.c oz5<|.c oz0<|.c oz0<|.c oz0<|.c oz3<|.c oz3<|.c oz5<|.c oz12<|.c oz12<|.c oz14<|.c oz12<|.c oz12<|.c oz14<|.c oz12<|.c oz12<|.c oz14<|.c oz0<|.c oz0<|.c oz0<|.c oz12<|.c oz12<|.c oz14<|.n)).weak (B_ _) (AD_ (.cons (AZ_ (by (refine decide_eq_false ?_;omega))) (.cons (.refl _) (.cons (AZ_ (by (refine decide_eq_false ?_;omega))) (.cons (.refl _) (.cons (.refl _) (.cons (.refl _) .nil)))))))
theorem of_3 (k:Int) (h:k=3):VC L_ 198 ([i64 k]) (.agg [bv false,bv false,bv true,bv true,bv true,bv true]):=by
 have oz0:=(show (k==1)=false by (refine decide_eq_false ?_;omega))
 have oz3:=(show (k==2)=false by (refine decide_eq_false ?_;omega))
 have oz12:=(show (k==4)=false by (refine decide_eq_false ?_;omega))
 have oz15:=(show (k==3) = !false by (refine decide_eq_true ?_;omega))
 have oz18:=(show true = !false by (simp;done))
 have oz20:=(show true=true by with_reducible rfl)
 exact (VC.run (fn:=Tryz.f198) (W:=[r_,.r [] [e_,e_,f_,e_,e_,f_],.r [] [e_,e_,f_,e_,e_,f_,e_,e_,f_],.r [] [f_,f_,e_,f_,f_,e_],.r [] [e_,e_,f_,f_,f_,e_]]) (r:=AV.agg [bv (k==6),bv (k==5),bv (k==3),bv true,bv (k==3),bv true]) Tryz.func198 (by kernel_rfl) (.c oz0<|.c oz0<|.c oz0<|.c oz3<|.c oz3<|.c oz3<|.c oz0<|.c oz0<|.c oz0<|.c oz3<|.c oz3<|.c oz3<|.c oz12<|.c oz12<|.c oz12<|.c oz15<|.c oz15<|.c (show (k==3)=true by (refine decide_eq_true ?_;omega))<|.c oz18<|.c oz18<|.c oz20<|.c oz0<|.c oz0<|.c oz0<|.c oz18<|.c oz18<|.c oz20<|.n)).weak (B_ _) (AD_ (.cons (AZ_ (by (refine decide_eq_false ?_;omega))) (.cons (AZ_ (by (refine decide_eq_false ?_;omega))) (.cons (AZ_ (by (refine decide_eq_true ?_;omega))) (.cons (.refl _) (.cons (AZ_ (by (refine decide_eq_true ?_;omega))) (.cons (.refl _) .nil)))))))
theorem of_4 (k:Int) (h:k=4∨k=5):VC L_ 198 ([i64 k]) (.agg [bv false,bv true,bv false,bv false,bv false,bv false]):=by
 have oz0:=(show (k==1)=false by (refine decide_eq_false ?_;omega))
 have oz3:=(show (k==2)=false by (refine decide_eq_false ?_;omega))
 have oz12:=(show (k==3)=false by (refine decide_eq_false ?_;omega))
 have oz15:=(show (k==6)=false by (refine decide_eq_false ?_;omega))
 have oz21:=(show (k==7)=false by (refine decide_eq_false ?_;omega))
 exact (VC.run (fn:=Tryz.f198) (W:=[r_,.r [] [e_,e_,f_,e_,e_,f_],.r [] [e_,e_,f_,e_,e_,f_,o_,o_,.sel 1],.r [] [e_,e_,f_,e_,e_,f_],.r [] [e_,e_,f_,e_,e_,f_]]) (r:=AV.agg [bv (k==6),bv (k==4 || k==5),bv (k==3),bv (k==8),bv (k==3),bv (k==7)]) Tryz.func198 (by kernel_rfl) (.c oz0<|.c oz0<|.c oz0<|.c oz3<|.c oz3<|.c oz3<|.c oz0<|.c oz0<|.c oz0<|.c oz3<|.c oz3<|.c oz3<|.c oz12<|.c oz12<|.c oz12<|.c oz15<|.c oz15<|.c oz15<|.c oz0<|.c oz0<|.c oz0<|.c oz21<|.c oz21<|.c oz21<|.n)).weak (B_ _) (AD_ (.cons (AZ_ (by (refine decide_eq_false ?_;omega))) (.cons (AZ_ (by (simp;omega))) (.cons (AZ_ (by (refine decide_eq_false ?_;omega))) (.cons (AZ_ (by (refine decide_eq_false ?_;omega))) (.cons (AZ_ (by (refine decide_eq_false ?_;omega))) (.cons (AZ_ (by (refine decide_eq_false ?_;omega))) .nil)))))))
theorem of_6 (k:Int) (h:k=6):VC L_ 198 ([i64 k]) (.agg [bv true,bv false,bv false,bv true,bv false,bv true]):=by
 have oz0:=(show (k==1)=false by (refine decide_eq_false ?_;omega))
 have oz3:=(show (k==2)=false by (refine decide_eq_false ?_;omega))
 have oz12:=(show (k==4)=false by (refine decide_eq_false ?_;omega))
 have oz15:=(show (k==3)=false by (refine decide_eq_false ?_;omega))
 have oz18:=(show (k==6) = !false by (refine decide_eq_true ?_;omega))
 have oz24:=(show true = !false by (simp;done))
 exact (VC.run (fn:=Tryz.f198) (W:=[r_,.r [] [e_,e_,f_,e_,e_,f_],.r [] [e_,e_,f_,e_,e_,f_,e_,e_,f_],.r [] [e_,e_,f_,f_,f_,e_],.r [] [e_,e_,f_,f_,f_,e_]]) (r:=AV.agg [bv (k==6),bv (k==5),bv (k==3),bv true,bv (k==3),bv true]) Tryz.func198 (by kernel_rfl) (.c oz0<|.c oz0<|.c oz0<|.c oz3<|.c oz3<|.c oz3<|.c oz0<|.c oz0<|.c oz0<|.c oz3<|.c oz3<|.c oz3<|.c oz12<|.c oz12<|.c oz12<|.c oz15<|.c oz15<|.c oz15<|.c oz18<|.c oz18<|.c (show (k==6)=true by (refine decide_eq_true ?_;omega))<|.c oz0<|.c oz0<|.c oz0<|.c oz24<|.c oz24<|.c (show true=true by with_reducible rfl)<|.n)).weak (B_ _) (AD_ (.cons (AZ_ (by (refine decide_eq_true ?_;omega))) (.cons (AZ_ (by (refine decide_eq_false ?_;omega))) (.cons (AZ_ (by (refine decide_eq_false ?_;omega))) (.cons (.refl _) (.cons (AZ_ (by (refine decide_eq_false ?_;omega))) (.cons (.refl _) .nil)))))))
theorem of_7 (k:Int) (h:k=7):VC L_ 198 ([i64 k]) (.agg [bv false,bv false,bv false,bv true,bv false,bv true]):=by
 have oz0:=(show (k==1)=false by (refine decide_eq_false ?_;omega))
 have oz3:=(show (k==2)=false by (refine decide_eq_false ?_;omega))
 have oz12:=(show (k==4)=false by (refine decide_eq_false ?_;omega))
 have oz15:=(show (k==3)=false by (refine decide_eq_false ?_;omega))
 have oz18:=(show (k==6)=false by (refine decide_eq_false ?_;omega))
 have oz24:=(show (k==7) = !false by (refine decide_eq_true ?_;omega))
 exact (VC.run (fn:=Tryz.f198) (W:=[r_,.r [] [e_,e_,f_,e_,e_,f_],.r [] [e_,e_,f_,e_,e_,f_,e_,e_,f_],.r [] [e_,e_,f_,e_,e_,f_],.r [] [e_,e_,f_,f_,f_,e_]]) (r:=AV.agg [bv (k==6),bv (k==5),bv (k==3),bv true,bv (k==3),bv (k==7)]) Tryz.func198 (by kernel_rfl) (.c oz0<|.c oz0<|.c oz0<|.c oz3<|.c oz3<|.c oz3<|.c oz0<|.c oz0<|.c oz0<|.c oz3<|.c oz3<|.c oz3<|.c oz12<|.c oz12<|.c oz12<|.c oz15<|.c oz15<|.c oz15<|.c oz18<|.c oz18<|.c oz18<|.c oz0<|.c oz0<|.c oz0<|.c oz24<|.c oz24<|.c (show (k==7)=true by (refine decide_eq_true ?_;omega))<|.n)).weak (B_ _) (AD_ (.cons (AZ_ (by (refine decide_eq_false ?_;omega))) (.cons (AZ_ (by (refine decide_eq_false ?_;omega))) (.cons (AZ_ (by (refine decide_eq_false ?_;omega))) (.cons (.refl _) (.cons (AZ_ (by (refine decide_eq_false ?_;omega))) (.cons (AZ_ (by (refine decide_eq_true ?_;omega))) .nil)))))))
theorem of_8 (k:Int) (h:k=8):VC L_ 198 ([i64 k]) (.agg [bv false,bv false,bv false,bv true,bv false,bv false]):=by
 have oz0:=(show (k==1)=false by (refine decide_eq_false ?_;omega))
 have oz3:=(show (k==2)=false by (refine decide_eq_false ?_;omega))
 have oz12:=(show (k==4)=false by (refine decide_eq_false ?_;omega))
 have oz15:=(show (k==3)=false by (refine decide_eq_false ?_;omega))
 have oz18:=(show (k==6)=false by (refine decide_eq_false ?_;omega))
 have oz24:=(show (k==7)=false by (refine decide_eq_false ?_;omega))
 exact (VC.run (fn:=Tryz.f198) (W:=[r_,.r [] [e_,e_,f_,e_,e_,f_],.r [] [e_,e_,f_,e_,e_,f_,e_,e_,f_],.r [] [e_,e_,f_,e_,e_,f_],.r [] [e_,e_,f_,e_,e_,f_]]) (r:=AV.agg [bv (k==6),bv (k==5),bv (k==3),bv (k==8),bv (k==3),bv (k==7)]) Tryz.func198 (by kernel_rfl) (.c oz0<|.c oz0<|.c oz0<|.c oz3<|.c oz3<|.c oz3<|.c oz0<|.c oz0<|.c oz0<|.c oz3<|.c oz3<|.c oz3<|.c oz12<|.c oz12<|.c oz12<|.c oz15<|.c oz15<|.c oz15<|.c oz18<|.c oz18<|.c oz18<|.c oz0<|.c oz0<|.c oz0<|.c oz24<|.c oz24<|.c oz24<|.n)).weak (B_ _) (AD_ (.cons (AZ_ (by (refine decide_eq_false ?_;omega))) (.cons (AZ_ (by (refine decide_eq_false ?_;omega))) (.cons (AZ_ (by (refine decide_eq_false ?_;omega))) (.cons (AZ_ (by (refine decide_eq_true ?_;omega))) (.cons (AZ_ (by (refine decide_eq_false ?_;omega))) (.cons (AZ_ (by (refine decide_eq_false ?_;omega))) .nil)))))))
theorem of_9 (k:Int) (h:k<1∨8<k):VC L_ 198 ([i64 k]) (.agg [bv false,bv false,bv false,bv false,bv false,bv false]):=by
 have oz0:=(show (k==1)=false by (refine decide_eq_false ?_;omega))
 have oz3:=(show (k==2)=false by (refine decide_eq_false ?_;omega))
 have oz12:=(show (k==4)=false by (refine decide_eq_false ?_;omega))
 have oz15:=(show (k==3)=false by (refine decide_eq_false ?_;omega))
 have oz18:=(show (k==6)=false by (refine decide_eq_false ?_;omega))
 have oz24:=(show (k==7)=false by (refine decide_eq_false ?_;omega))
 exact (VC.run (fn:=Tryz.f198) (W:=[r_,.r [] [e_,e_,f_,e_,e_,f_],.r [] [e_,e_,f_,e_,e_,f_,e_,e_,f_],.r [] [e_,e_,f_,e_,e_,f_],.r [] [e_,e_,f_,e_,e_,f_]]) (r:=AV.agg [bv (k==6),bv (k==5),bv (k==3),bv (k==8),bv (k==3),bv (k==7)]) Tryz.func198 (by kernel_rfl) (.c oz0<|.c oz0<|.c oz0<|.c oz3<|.c oz3<|.c oz3<|.c oz0<|.c oz0<|.c oz0<|.c oz3<|.c oz3<|.c oz3<|.c oz12<|.c oz12<|.c oz12<|.c oz15<|.c oz15<|.c oz15<|.c oz18<|.c oz18<|.c oz18<|.c oz0<|.c oz0<|.c oz0<|.c oz24<|.c oz24<|.c oz24<|.n)).weak (B_ _) (AD_ (.cons (AZ_ (by (refine decide_eq_false ?_;omega))) (.cons (AZ_ (by (refine decide_eq_false ?_;omega))) (.cons (AZ_ (by (refine decide_eq_false ?_;omega))) (.cons (AZ_ (by (refine decide_eq_false ?_;omega))) (.cons (AZ_ (by (refine decide_eq_false ?_;omega))) (.cons (AZ_ (by (refine decide_eq_false ?_;omega))) .nil)))))))
theorem lside_nb (B:List Int) (L:Int→List Int) (n:Nod) (hB:B.length≤1000000) (hL:Puts L):VM L_ 220 ([bv true,.ptr 100001 0 2,.ptr 100002 0 0]) ([(950,.slc 5 1 (B.map (row1 .u8))),(100000,.var [.own 950]),(100001,.var (nodC n)),(100002,.var [.ifc 169 (.ptr 100000 0 0)])]) (.tup []) ([(951,.slc 5 1 ((B++L n.nb).map (row1 .u8))),(100000,.var [.own 951]),(100001,.var (nodC n)),(100002,.var [.ifc 169 (.ptr 100000 0 0)])]):=by
 have oz1:=@lnum_nb (B) (L) (n) (1024) hB hL
 exact VM.run (fn:=Tryz.f220) (W:=[r_,b_,.r [] [.callm [(950,950),(100000,100000),(100001,100001)] [(951,20000)] (rM oz1) (oM oz1)]]) (G:=[.ren 20000 951,.sort]) Tryz.func220 (by kernel_rfl) (.c (show true=true by with_reducible rfl)<|.c oz1<|.c (show MethodIs L_ (169:Nat) "stepwell/pack.number" (methF L_ (169:Nat) "stepwell/pack.number") from (methodIs (by kernel_rfl)))<|.n)
theorem lside_nk (B:List Int) (L:Int→List Int) (n:Nod) (hB:B.length≤1000000) (hL:Puts L):VM L_ 220 ([bv true,.ptr 100001 0 3,.ptr 100002 0 0]) ([(950,.slc 5 1 (B.map (row1 .u8))),(100000,.var [.own 950]),(100001,.var (nodC n)),(100002,.var [.ifc 169 (.ptr 100000 0 0)])]) (.tup []) ([(951,.slc 5 1 ((B++L n.nk).map (row1 .u8))),(100000,.var [.own 951]),(100001,.var (nodC n)),(100002,.var [.ifc 169 (.ptr 100000 0 0)])]):=by
 have oz1:=@lnum_nk (B) (L) (n) (1024) hB hL
 exact VM.run (fn:=Tryz.f220) (W:=[r_,b_,.r [] [.callm [(950,950),(100000,100000),(100001,100001)] [(951,20000)] (rM oz1) (oM oz1)]]) (G:=[.ren 20000 951,.sort]) Tryz.func220 (by kernel_rfl) (.c (show true=true by with_reducible rfl)<|.c oz1<|.c (show MethodIs L_ (169:Nat) "stepwell/pack.number" (methF L_ (169:Nat) "stepwell/pack.number") from (methodIs (by kernel_rfl)))<|.n)
theorem lside_ns (B:List Int) (L:Int→List Int) (n:Nod) (hB:B.length≤1000000) (hL:Puts L):VM L_ 220 ([bv true,.ptr 100001 0 4,.ptr 100002 0 0]) ([(950,.slc 5 1 (B.map (row1 .u8))),(100000,.var [.own 950]),(100001,.var (nodC n)),(100002,.var [.ifc 169 (.ptr 100000 0 0)])]) (.tup []) ([(951,.slc 5 1 ((B++L n.ns).map (row1 .u8))),(100000,.var [.own 951]),(100001,.var (nodC n)),(100002,.var [.ifc 169 (.ptr 100000 0 0)])]):=by
 have oz1:=@lnum_ns (B) (L) (n) (1024) hB hL
 exact VM.run (fn:=Tryz.f220) (W:=[r_,b_,.r [] [.callm [(950,950),(100000,100000),(100001,100001)] [(951,20000)] (rM oz1) (oM oz1)]]) (G:=[.ren 20000 951,.sort]) Tryz.func220 (by kernel_rfl) (.c (show true=true by with_reducible rfl)<|.c oz1<|.c (show MethodIs L_ (169:Nat) "stepwell/pack.number" (methF L_ (169:Nat) "stepwell/pack.number") from (methodIs (by kernel_rfl)))<|.n)
theorem lside_np (B:List Int) (L:Int→List Int) (n:Nod) (hB:B.length≤1000000) (hL:Puts L):VM L_ 220 ([bv true,.ptr 100001 0 5,.ptr 100002 0 0]) ([(950,.slc 5 1 (B.map (row1 .u8))),(100000,.var [.own 950]),(100001,.var (nodC n)),(100002,.var [.ifc 169 (.ptr 100000 0 0)])]) (.tup []) ([(951,.slc 5 1 ((B++L n.np).map (row1 .u8))),(100000,.var [.own 951]),(100001,.var (nodC n)),(100002,.var [.ifc 169 (.ptr 100000 0 0)])]):=by
 have oz1:=@lnum_np (B) (L) (n) (1024) hB hL
 exact VM.run (fn:=Tryz.f220) (W:=[r_,b_,.r [] [.callm [(950,950),(100000,100000),(100001,100001)] [(951,20000)] (rM oz1) (oM oz1)]]) (G:=[.ren 20000 951,.sort]) Tryz.func220 (by kernel_rfl) (.c (show true=true by with_reducible rfl)<|.c oz1<|.c (show MethodIs L_ (169:Nat) "stepwell/pack.number" (methF L_ (169:Nat) "stepwell/pack.number") from (methodIs (by kernel_rfl)))<|.n)
theorem lside_no (B:List Int) (L:Int→List Int) (n:Nod) (hB:B.length≤1000000) (hL:Puts L):VM L_ 220 ([bv true,.ptr 100001 0 6,.ptr 100002 0 0]) ([(950,.slc 5 1 (B.map (row1 .u8))),(100000,.var [.own 950]),(100001,.var (nodC n)),(100002,.var [.ifc 169 (.ptr 100000 0 0)])]) (.tup []) ([(951,.slc 5 1 ((B++L n.no).map (row1 .u8))),(100000,.var [.own 951]),(100001,.var (nodC n)),(100002,.var [.ifc 169 (.ptr 100000 0 0)])]):=by
 have oz1:=@lnum_no (B) (L) (n) (1024) hB hL
 exact VM.run (fn:=Tryz.f220) (W:=[r_,b_,.r [] [.callm [(950,950),(100000,100000),(100001,100001)] [(951,20000)] (rM oz1) (oM oz1)]]) (G:=[.ren 20000 951,.sort]) Tryz.func220 (by kernel_rfl) (.c (show true=true by with_reducible rfl)<|.c oz1<|.c (show MethodIs L_ (169:Nat) "stepwell/pack.number" (methF L_ (169:Nat) "stepwell/pack.number") from (methodIs (by kernel_rfl)))<|.n)
theorem side_n   : VM L_ 220 ([bv false,.any,.any]) ([]) (.tup []) ([]):=by
 exact VM.run (fn:=Tryz.f220) (W:=[r_,d_]) (G:=[.sort]) Tryz.func220 (by kernel_rfl) (.c (show false=false by with_reducible rfl)<|.n)
theorem small1 (x:Int):smallL [x]=[IntKind.u8.wrap x]:=by simp[smallL,IntKind.wrap_u8']
theorem lsml_1 (B:List Int) (x m:Int) (hB:B.length≤1000000):VM L_ 258 ([.ptr 100000 0 0,.ptr 100001 0 0,i64 m]) ([(950,.slc 5 1 (B.map (row1 .u8))),(951,.slc 67 1 ([x].map (row1 .i8))),(100000,.var [.own 950]),(100001,.var [.own 951])]) (.tup []) ([(951,.slc 5 1 ((B++[IntKind.u8.wrap x]).map (row1 .u8))),(100000,.var [.own 951]),(100001,.var [.sl 1 ([x].map (row1 .i8))])]):=by
 have e1:=small1 x
 have oz1:=@small_v ([x]) (by (simp;done))
 exact VM.run (fn:=Tryz.f258) (W:=[.r [.frz 951] [.call (aO oz1) (rO oz1)]]) (G:=[.ren 15 951,.blk 951 (Blk.slc 5 1 (K_ (row1 .u8) (B++[IntKind.u8.wrap x]))),.sort]) Tryz.func258 (by kernel_rfl) (.c (show WeakL [AV.sl 1 [[i8 x]]] [AV.sl 1 [[i8 x]]] from (.cons (CP_ (rows_to (row1 .i8) (r:=[[i8 x]]) (l:=[x]) (m:=[x]) (by first|(simp only[A_,D_,AO_,AP_,X_,AM_,AN_];done)|rfl|(simp only[A_,D_,AO_,AP_,X_,AM_,AN_];rfl)) rfl)) .nil))<|.c oz1<|.c (show ((K_ (row1 .u8) B).length+1)*1≤140737488355328 by (simp only[N_];omega))<|.c (show (K_ (row1 .u8) B).length+1≤9223372036854775807 by (simp only[N_];omega))<|.c (show BlkW (Blk.slc 5 1 (K_ (row1 .u8) B++[[u8 (x % 256)]])) (Blk.slc 5 1 (K_ (row1 .u8) (B++[IntKind.u8.wrap x]))) from (AG_ (e:=5) (z:=1) (rows_to (row1 .u8) (r:=K_ (row1 .u8) B++[[u8 (x % 256)]]) (l:=B++[x % 256]) (m:=B++[IntKind.u8.wrap x]) (by first|(simp only[A_,D_,AO_,AP_,X_,AM_,AN_];done)|rfl|(simp only[A_,D_,AO_,AP_,X_,AM_,AN_];rfl)) (show (B++[x % 256])=(B++[IntKind.u8.wrap x]) from (by (simp[IntKind.wrap_u8'];done))))))<|.n)
theorem lone_za (B:List Int) (n:Nod) (hB:B.length≤1000000):VM L_ 200 ([.ifc 169 (.ptr 100000 0 0),.ptr 100001 0 7]) ([(950,.slc 5 1 (B.map (row1 .u8))),(100000,.var [.own 950]),(100001,.var (nodC n))]) (.tup []) ([(951,.slc 5 1 ((B++[IntKind.u8.wrap n.za]).map (row1 .u8))),(100000,.var [.own 951]),(100001,.var (nodC n))]):=by
 have oz0:=@lsml_1 (B) (n.za) (1) hB
 exact VM.run (fn:=Tryz.f200) (W:=[r_,.r [] [.callm [(950,950),(8,951),(100000,100000),(4,100001)] [(951,20000)] (rM oz0) (oM oz0)],r_,b_,.r [] [.row [i8 n.za]]]) (G:=[.drop [4],.ren 20000 951,.sort]) Tryz.func200 (by kernel_rfl) (.c oz0<|.c (show MethodIs L_ (169:Nat) "stepwell/pack.small" (methF L_ (169:Nat) "stepwell/pack.small") from (methodIs (by kernel_rfl)))<|.c (show ((↑1:Int)==1)=true by (refine decide_eq_true ?_;omega))<|.c (show (0:Int)≤(0:Int) by omega)<|.c (show [[i8 n.za]][Int.toNat 0]? = some [i8 n.za] from rfl)<|.n)
theorem lone_zb (B:List Int) (n:Nod) (hB:B.length≤1000000):VM L_ 200 ([.ifc 169 (.ptr 100000 0 0),.ptr 100001 0 8]) ([(950,.slc 5 1 (B.map (row1 .u8))),(100000,.var [.own 950]),(100001,.var (nodC n))]) (.tup []) ([(951,.slc 5 1 ((B++[IntKind.u8.wrap n.zb]).map (row1 .u8))),(100000,.var [.own 951]),(100001,.var (nodC n))]):=by
 have oz0:=@lsml_1 (B) (n.zb) (1) hB
 exact VM.run (fn:=Tryz.f200) (W:=[r_,.r [] [.callm [(950,950),(8,951),(100000,100000),(4,100001)] [(951,20000)] (rM oz0) (oM oz0)],r_,b_,.r [] [.row [i8 n.zb]]]) (G:=[.drop [4],.ren 20000 951,.sort]) Tryz.func200 (by kernel_rfl) (.c oz0<|.c (show MethodIs L_ (169:Nat) "stepwell/pack.small" (methF L_ (169:Nat) "stepwell/pack.small") from (methodIs (by kernel_rfl)))<|.c (show ((↑1:Int)==1)=true by (refine decide_eq_true ?_;omega))<|.c (show (0:Int)≤(0:Int) by omega)<|.c (show [[i8 n.zb]][Int.toNat 0]? = some [i8 n.zb] from rfl)<|.n)
theorem lone_qz (B:List Int) (n:Nod) (hB:B.length≤1000000):VM L_ 200 ([.ifc 169 (.ptr 100000 0 0),.ptr 100001 0 13]) ([(950,.slc 5 1 (B.map (row1 .u8))),(100000,.var [.own 950]),(100001,.var (nodC n))]) (.tup []) ([(951,.slc 5 1 ((B++[IntKind.u8.wrap n.qz]).map (row1 .u8))),(100000,.var [.own 951]),(100001,.var (nodC n))]):=by
 have oz0:=@lsml_1 (B) (n.qz) (1) hB
 exact VM.run (fn:=Tryz.f200) (W:=[r_,.r [] [.callm [(950,950),(8,951),(100000,100000),(4,100001)] [(951,20000)] (rM oz0) (oM oz0)],r_,b_,.r [] [.row [i8 n.qz]]]) (G:=[.drop [4],.ren 20000 951,.sort]) Tryz.func200 (by kernel_rfl) (.c oz0<|.c (show MethodIs L_ (169:Nat) "stepwell/pack.small" (methF L_ (169:Nat) "stepwell/pack.small") from (methodIs (by kernel_rfl)))<|.c (show ((↑1:Int)==1)=true by (refine decide_eq_true ?_;omega))<|.c (show (0:Int)≤(0:Int) by omega)<|.c (show [[i8 n.qz]][Int.toNat 0]? = some [i8 n.qz] from rfl)<|.n)
theorem lone_lo (B:List Int) (n:Nod) (hB:B.length≤1000000):VM L_ 200 ([.ifc 169 (.ptr 100000 0 0),.ptr 100001 0 17]) ([(950,.slc 5 1 (B.map (row1 .u8))),(100000,.var [.own 950]),(100001,.var (nodC n))]) (.tup []) ([(951,.slc 5 1 ((B++[IntKind.u8.wrap n.lo]).map (row1 .u8))),(100000,.var [.own 951]),(100001,.var (nodC n))]):=by
 have oz0:=@lsml_1 (B) (n.lo) (1) hB
 exact VM.run (fn:=Tryz.f200) (W:=[r_,.r [] [.callm [(950,950),(8,951),(100000,100000),(4,100001)] [(951,20000)] (rM oz0) (oM oz0)],r_,b_,.r [] [.row [i8 n.lo]]]) (G:=[.drop [4],.ren 20000 951,.sort]) Tryz.func200 (by kernel_rfl) (.c oz0<|.c (show MethodIs L_ (169:Nat) "stepwell/pack.small" (methF L_ (169:Nat) "stepwell/pack.small") from (methodIs (by kernel_rfl)))<|.c (show ((↑1:Int)==1)=true by (refine decide_eq_true ?_;omega))<|.c (show (0:Int)≤(0:Int) by omega)<|.c (show [[i8 n.lo]][Int.toNat 0]? = some [i8 n.lo] from rfl)<|.n)
theorem lone_hi (B:List Int) (n:Nod) (hB:B.length≤1000000):VM L_ 200 ([.ifc 169 (.ptr 100000 0 0),.ptr 100001 0 18]) ([(950,.slc 5 1 (B.map (row1 .u8))),(100000,.var [.own 950]),(100001,.var (nodC n))]) (.tup []) ([(951,.slc 5 1 ((B++[IntKind.u8.wrap n.hi]).map (row1 .u8))),(100000,.var [.own 951]),(100001,.var (nodC n))]):=by
 have oz0:=@lsml_1 (B) (n.hi) (1) hB
 exact VM.run (fn:=Tryz.f200) (W:=[r_,.r [] [.callm [(950,950),(8,951),(100000,100000),(4,100001)] [(951,20000)] (rM oz0) (oM oz0)],r_,b_,.r [] [.row [i8 n.hi]]]) (G:=[.drop [4],.ren 20000 951,.sort]) Tryz.func200 (by kernel_rfl) (.c oz0<|.c (show MethodIs L_ (169:Nat) "stepwell/pack.small" (methF L_ (169:Nat) "stepwell/pack.small") from (methodIs (by kernel_rfl)))<|.c (show ((↑1:Int)==1)=true by (refine decide_eq_true ?_;omega))<|.c (show (0:Int)≤(0:Int) by omega)<|.c (show [[i8 n.hi]][Int.toNat 0]? = some [i8 n.hi] from rfl)<|.n)
theorem lscale_q (B:List Int) (L:Int→List Int) (n:Nod) (hB:B.length≤900000) (hL:Puts L) (hq:In32 n.qm):VM L_ 201 ([.ifc 169 (.ptr 100000 0 0),.ptr 100001 0 11]) ([(950,.slc 5 1 (B.map (row1 .u8))),(100000,.var [.own 950]),(100001,.var (nodC n))]) (.tup []) ([(951,.slc 5 1 ((B++L n.qm++L n.qs).map (row1 .u8))),(100000,.var [.own 951]),(100001,.var (nodC n))]):=by
 have q1:=hL.l n.qm
 have q2:(B++L n.qm).length=B.length+(L n.qm).length:=O_
 have oz1:=@lnum_1 (B) (L) (n.qm) (2147483647) (by omega) hL
 have oz2:=(show MethodIs L_ (169:Nat) "stepwell/pack.number" (methF L_ (169:Nat) "stepwell/pack.number") from (methodIs (by kernel_rfl)))
 have oz5:=@lnum_qs (B++L n.qm) (L) (n) (62) (by omega) hL
 exact VM.run (fn:=Tryz.f201) (W:=[.r [] [.n n.qm],.r [] [.callm [(950,950),(100000,100000),(4,100001)] [(951,20000)] (rM oz1) (oM oz1)],.r [] [.n n.qm],.r [] [.callm [(20000,950),(100000,100000),(100001,100001)] [(951,20001)] (rM oz5) (oM oz5)]]) (G:=[.drop [4],.ren 20001 951,.sort]) Tryz.func201 (by kernel_rfl) (.c (i6n n.qm (by omega))<|.c oz1<|.c oz2<|.c (CR_ n.qm (by omega))<|.c (show NilNo L_ (169:Nat) "stepwell/pack.number" from (nilNo (f:=92) (by kernel_rfl)))<|.c oz5<|.c oz2<|.n)
theorem lscale_r (B:List Int) (L:Int→List Int) (n:Nod) (hB:B.length≤900000) (hL:Puts L) (hq:In32 n.rm):VM L_ 201 ([.ifc 169 (.ptr 100000 0 0),.ptr 100001 0 14]) ([(950,.slc 5 1 (B.map (row1 .u8))),(100000,.var [.own 950]),(100001,.var (nodC n))]) (.tup []) ([(951,.slc 5 1 ((B++L n.rm++L n.rs).map (row1 .u8))),(100000,.var [.own 951]),(100001,.var (nodC n))]):=by
 have q1:=hL.l n.rm
 have q2:(B++L n.rm).length=B.length+(L n.rm).length:=O_
 have oz1:=@lnum_1 (B) (L) (n.rm) (2147483647) (by omega) hL
 have oz2:=(show MethodIs L_ (169:Nat) "stepwell/pack.number" (methF L_ (169:Nat) "stepwell/pack.number") from (methodIs (by kernel_rfl)))
 have oz5:=@lnum_rs (B++L n.rm) (L) (n) (62) (by omega) hL
 exact VM.run (fn:=Tryz.f201) (W:=[.r [] [.n n.rm],.r [] [.callm [(950,950),(100000,100000),(4,100001)] [(951,20000)] (rM oz1) (oM oz1)],.r [] [.n n.rm],.r [] [.callm [(20000,950),(100000,100000),(100001,100001)] [(951,20001)] (rM oz5) (oM oz5)]]) (G:=[.drop [4],.ren 20001 951,.sort]) Tryz.func201 (by kernel_rfl) (.c (i6n n.rm (by omega))<|.c oz1<|.c oz2<|.c (CR_ n.rm (by omega))<|.c (show NilNo L_ (169:Nat) "stepwell/pack.number" from (nilNo (f:=92) (by kernel_rfl)))<|.c oz5<|.c oz2<|.n)
theorem llists_v (B:List Int) (L:Int→List Int) (n:Nod) (hB:B.length≤500000) (hL:Puts L) (hw:n.w.length≤100000) (hb:n.b.length≤16384) (hx:∀ x∈n.b,-2147483648≤x∧x≤2147483647):VM L_ 168 ([.ifc 169 (.ptr 100000 0 0),.ptr 100001 0 9,.ptr 100001 0 10]) ([(950,.slc 5 1 (B.map (row1 .u8))),(100000,.var [.own 950]),(100001,.var (nodC n))]) (.tup []) ([(951,.slc 5 1 ((B++L (n.w.length:Int)++smallL n.w++L (n.b.length:Int)++wideL n.b).map (row1 .u8))),(100000,.var [.own 951]),(100001,.var (nodC n))]):=by
 have q1:=hL.l (n.w.length:Int)
 have q3:=hL.l (n.b.length:Int)
 have q2:(smallL n.w).length=n.w.length:=N_ _
 have q4:(B++L (n.w.length:Int)).length=B.length+(L (n.w.length:Int)).length:=O_
 have q5:(B++L (n.w.length:Int)++smallL n.w).length=B.length+(L (n.w.length:Int)).length+n.w.length:=by rw[O_,q4,q2]
 have q6:(B++L (n.w.length:Int)++smallL n.w++L (n.b.length:Int)).length=B.length+(L (n.w.length:Int)).length+n.w.length+(L (n.b.length:Int)).length:=by rw[O_,q5]
 have oz0:=@lnum_1 (B) (L) (((K_ (row1 .i8) n.w).length:Int)) (16384) (by omega) hL
 have oz1:=(show MethodIs L_ (169:Nat) "stepwell/pack.number" (methF L_ (169:Nat) "stepwell/pack.number") from (methodIs (by kernel_rfl)))
 have oz2:=@lsml_w (B++L ((K_ (row1 .i8) n.w).length:Int)) (n) (((K_ (row1 .i8) n.w).length:Int)) (by (simp only[N_];omega)) hw
 have oz4:=@lnum_1 (B++L ((K_ (row1 .i8) n.w).length:Int)++smallL n.w) (L) (((K_ (row1 .i32) n.b).length:Int)) (16384) (by (simp only[N_];omega)) hL
 have oz6:=@lwid_b (B++L ((K_ (row1 .i8) n.w).length:Int)++smallL n.w++L ((K_ (row1 .i32) n.b).length:Int)) (n) (((K_ (row1 .i32) n.b).length:Int)) (by (simp only[N_];omega)) (by omega) hx
 exact VM.run (fn:=Tryz.f168) (W:=[r_,.r [] [.callm [(950,950),(100000,100000),(6,100001)] [(951,20000)] (rM oz0) (oM oz0)],.r [] [.callm [(20000,950),(100000,100000),(100001,100001)] [(951,20001)] (rM oz2) (oM oz2)],r_,.r [] [.callm [(20001,950),(100000,100000),(7,100001)] [(951,20002)] (rM oz4) (oM oz4)],.r [] [.callm [(20002,950),(100000,100000),(100001,100001)] [(951,20003)] (rM oz6) (oM oz6)]]) (G:=[.drop [6,7],.ren 20003 951,.blk 951 (Blk.slc 5 1 (K_ (row1 .u8) (B++L (n.w.length:Int)++smallL n.w++L (n.b.length:Int)++wideL n.b))),.sort]) Tryz.func168 (by kernel_rfl) (.c oz0<|.c oz1<|.c oz2<|.c (show MethodIs L_ (169:Nat) "stepwell/pack.small" (methF L_ (169:Nat) "stepwell/pack.small") from (methodIs (by kernel_rfl)))<|.c oz4<|.c oz1<|.c oz6<|.c (show MethodIs L_ (169:Nat) "stepwell/pack.wides" (methF L_ (169:Nat) "stepwell/pack.wides") from (methodIs (by kernel_rfl)))<|.c (show BlkW (Blk.slc 5 1 (K_ (row1 .u8) (B++L ((K_ (row1 .i8) n.w).length:Int)++smallL n.w++L ((K_ (row1 .i32) n.b).length:Int)++wideL n.b))) (Blk.slc 5 1 (K_ (row1 .u8) (B++L (n.w.length:Int)++smallL n.w++L (n.b.length:Int)++wideL n.b))) from (AG_ (e:=5) (z:=1) (rows_to (row1 .u8) (r:=K_ (row1 .u8) (B++L ((K_ (row1 .i8) n.w).length:Int)++smallL n.w++L ((K_ (row1 .i32) n.b).length:Int)++wideL n.b)) (l:=B++L ((K_ (row1 .i8) n.w).length:Int)++smallL n.w++L ((K_ (row1 .i32) n.b).length:Int)++wideL n.b) (m:=B++L (n.w.length:Int)++smallL n.w++L (n.b.length:Int)++wideL n.b) rfl (show (B++L ((K_ (row1 .i8) n.w).length:Int)++smallL n.w++L ((K_ (row1 .i32) n.b).length:Int)++wideL n.b)=(B++L (n.w.length:Int)++smallL n.w++L (n.b.length:Int)++wideL n.b) from (by (simp;done))))))<|.n)
theorem lsides_1 (B:List Int) (L:Int→List Int) (n:Nod) (hB:B.length≤900000) (hL:Puts L) (hk:n.kd=1):VM L_ 199 ([.ifc 169 (.ptr 100000 0 0),.ptr 100001 0 0,.agg [bv false,bv true,bv true,bv true,bv true,bv true]]) ([(950,.slc 5 1 (B.map (row1 .u8))),(100000,.var [.own 950]),(100001,.var (nodC n))]) (.tup []) ([(951,.slc 5 1 ((B++L n.nk++L n.ns++L n.np++L n.no).map (row1 .u8))),(100000,.var [.own 951]),(100001,.var (nodC n))]):=by
 have q0:=hL.l n.nk
 have r0:(B++L n.nk).length=B.length+(L n.nk).length:=by rw[O_]
 have q1:=hL.l n.ns
 have r1:(B++L n.nk++L n.ns).length=B.length+(L n.nk).length+(L n.ns).length:=by rw[O_,r0]
 have q2:=hL.l n.np
 have r2:(B++L n.nk++L n.ns++L n.np).length=B.length+(L n.nk).length+(L n.ns).length+(L n.np).length:=by rw[O_,r1]
 have q3:=hL.l n.no
 have r3:(B++L n.nk++L n.ns++L n.np++L n.no).length=B.length+(L n.nk).length+(L n.ns).length+(L n.np).length+(L n.no).length:=by rw[O_,r2]
 have oz0:=@side_n
 have oz1:=@lside_nk (B) (L) (n) (by omega) hL
 have oz2:=@lside_ns (B++L n.nk) (L) (n) (by omega) hL
 have oz3:=(show true = !false by (simp;done))
 have oz9:=@lside_np (B++L n.nk++L n.ns) (L) (n) (by omega) hL
 have oz10:=@lside_no (B++L n.nk++L n.ns++L n.np) (L) (n) (by omega) hL
 exact VM.run (fn:=Tryz.f199) (W:=[r_,r_,.r [] [.callm [] [] (rM oz0) (oM oz0)],.r [] [.callm [(950,950),(100000,100000),(100001,100001),(3,100002)] [(951,20000)] (rM oz1) (oM oz1)],.r [] [.callm [(20000,950),(100000,100000),(100001,100001),(3,100002)] [(951,20001)] (rM oz2) (oM oz2)],.r [] [f_,f_,f_,f_,f_,e_,.callm [(20001,950),(100000,100000),(100001,100001),(3,100002)] [(951,20002)] (rM oz9) (oM oz9)],.r [] [.callm [(20002,950),(100000,100000),(100001,100001),(3,100002)] [(951,20003)] (rM oz10) (oM oz10)]]) (G:=[.drop [5,3],.ren 20003 951,.sort]) Tryz.func199 (by kernel_rfl) (.c oz0<|.c oz1<|.c oz2<|.c oz3<|.c oz3<|.c oz3<|.c oz3<|.c oz3<|.c (show true=true by with_reducible rfl)<|.c oz9<|.c oz10<|.n)
theorem lsides_2 (B:List Int) (L:Int→List Int) (n:Nod) (hB:B.length≤900000) (hL:Puts L) (hk:n.kd=2):VM L_ 199 ([.ifc 169 (.ptr 100000 0 0),.ptr 100001 0 0,.agg [bv false,bv true,bv false,bv true,bv true,bv true]]) ([(950,.slc 5 1 (B.map (row1 .u8))),(100000,.var [.own 950]),(100001,.var (nodC n))]) (.tup []) ([(951,.slc 5 1 ((B++L n.nk++L n.ns++L n.np).map (row1 .u8))),(100000,.var [.own 951]),(100001,.var (nodC n))]):=by
 have q0:=hL.l n.nk
 have r0:(B++L n.nk).length=B.length+(L n.nk).length:=by rw[O_]
 have q1:=hL.l n.ns
 have r1:(B++L n.nk++L n.ns).length=B.length+(L n.nk).length+(L n.ns).length:=by rw[O_,r0]
 have q2:=hL.l n.np
 have r2:(B++L n.nk++L n.ns++L n.np).length=B.length+(L n.nk).length+(L n.ns).length+(L n.np).length:=by rw[O_,r1]
 have oz0:=@side_n
 have oz1:=@lside_nk (B) (L) (n) (by omega) hL
 have oz2:=@lside_ns (B++L n.nk) (L) (n) (by omega) hL
 have oz3:=(show true = !false by (simp;done))
 have oz9:=@lside_np (B++L n.nk++L n.ns) (L) (n) (by omega) hL
 exact VM.run (fn:=Tryz.f199) (W:=[r_,r_,.r [] [.callm [] [] (rM oz0) (oM oz0)],.r [] [.callm [(950,950),(100000,100000),(100001,100001),(3,100002)] [(951,20000)] (rM oz1) (oM oz1)],.r [] [.callm [(20000,950),(100000,100000),(100001,100001),(3,100002)] [(951,20001)] (rM oz2) (oM oz2)],.r [] [f_,f_,f_,f_,f_,e_,.callm [(20001,950),(100000,100000),(100001,100001),(3,100002)] [(951,20002)] (rM oz9) (oM oz9)],.r [] [.callm [] [] (rM oz0) (oM oz0)]]) (G:=[.drop [5,3],.ren 20002 951,.sort]) Tryz.func199 (by kernel_rfl) (.c oz0<|.c oz1<|.c oz2<|.c oz3<|.c oz3<|.c oz3<|.c oz3<|.c oz3<|.c (show true=true by with_reducible rfl)<|.c oz9<|.c oz0<|.n)
theorem lsides_3 (B:List Int) (L:Int→List Int) (n:Nod) (hB:B.length≤900000) (hL:Puts L) (hk:n.kd=3):VM L_ 199 ([.ifc 169 (.ptr 100000 0 0),.ptr 100001 0 0,.agg [bv false,bv false,bv true,bv true,bv true,bv true]]) ([(950,.slc 5 1 (B.map (row1 .u8))),(100000,.var [.own 950]),(100001,.var (nodC n))]) (.tup []) ([(951,.slc 5 1 ((B++L n.no).map (row1 .u8))),(100000,.var [.own 951]),(100001,.var (nodC n))]):=by
 have q0:=hL.l n.no
 have r0:(B++L n.no).length=B.length+(L n.no).length:=by rw[O_]
 have oz0:=@side_n
 have oz3:=(show false=false by with_reducible rfl)
 have oz9:=@VM.pre _ _ ([bv (n.kd==8),AV.any,AV.any]) _ ([]) _ _ _ ([GI.weak 0 (bv false),GI.sort]) _ (@side_n) (by kernel_rfl) (.c (AZ_ (show ((n.kd==8):Bool)=(false) from (by (refine decide_eq_false ?_;omega))))<|.n)
 have oz10:=@lside_no (B) (L) (n) (by omega) hL
 exact VM.run (fn:=Tryz.f199) (W:=[r_,r_,.r [] [.callm [] [] (rM oz0) (oM oz0)],.r [] [.callm [] [] (rM oz0) (oM oz0)],.r [] [.callm [] [] (rM oz0) (oM oz0)],.r [] [e_,e_,e_,e_,e_,f_,.callm [] [] (rM oz9) (oM oz9)],.r [] [.callm [(950,950),(100000,100000),(100001,100001),(3,100002)] [(951,20000)] (rM oz10) (oM oz10)]]) (G:=[.drop [5,3],.ren 20000 951,.sort]) Tryz.func199 (by kernel_rfl) (.c oz0<|.c oz0<|.c oz0<|.c oz3<|.c oz3<|.c oz3<|.c oz3<|.c oz3<|.c oz3<|.c oz9<|.c oz10<|.n)
theorem lsides_4 (B:List Int) (L:Int→List Int) (n:Nod) (hB:B.length≤900000) (hL:Puts L) (hk:n.kd=4∨n.kd=5):VM L_ 199 ([.ifc 169 (.ptr 100000 0 0),.ptr 100001 0 0,.agg [bv false,bv true,bv false,bv false,bv false,bv false]]) ([(950,.slc 5 1 (B.map (row1 .u8))),(100000,.var [.own 950]),(100001,.var (nodC n))]) (.tup []) ([(951,.slc 5 1 ((B++L n.nk++L n.ns++L n.np).map (row1 .u8))),(100000,.var [.own 951]),(100001,.var (nodC n))]):=by
 have q0:=hL.l n.nk
 have r0:(B++L n.nk).length=B.length+(L n.nk).length:=by rw[O_]
 have q1:=hL.l n.ns
 have r1:(B++L n.nk++L n.ns).length=B.length+(L n.nk).length+(L n.ns).length:=by rw[O_,r0]
 have q2:=hL.l n.np
 have r2:(B++L n.nk++L n.ns++L n.np).length=B.length+(L n.nk).length+(L n.ns).length+(L n.np).length:=by rw[O_,r1]
 have oz0:=@side_n
 have oz1:=@lside_nk (B) (L) (n) (by omega) hL
 have oz2:=@lside_ns (B++L n.nk) (L) (n) (by omega) hL
 have oz3:=(show true = !false by (simp;done))
 have oz9:=@lside_np (B++L n.nk++L n.ns) (L) (n) (by omega) hL
 exact VM.run (fn:=Tryz.f199) (W:=[r_,r_,.r [] [.callm [] [] (rM oz0) (oM oz0)],.r [] [.callm [(950,950),(100000,100000),(100001,100001),(3,100002)] [(951,20000)] (rM oz1) (oM oz1)],.r [] [.callm [(20000,950),(100000,100000),(100001,100001),(3,100002)] [(951,20001)] (rM oz2) (oM oz2)],.r [] [f_,f_,f_,f_,f_,e_,.callm [(20001,950),(100000,100000),(100001,100001),(3,100002)] [(951,20002)] (rM oz9) (oM oz9)],.r [] [.callm [] [] (rM oz0) (oM oz0)]]) (G:=[.drop [5,3],.ren 20002 951,.sort]) Tryz.func199 (by kernel_rfl) (.c oz0<|.c oz1<|.c oz2<|.c oz3<|.c oz3<|.c oz3<|.c oz3<|.c oz3<|.c (show true=true by with_reducible rfl)<|.c oz9<|.c oz0<|.n)
theorem lsides_6 (B:List Int) (L:Int→List Int) (n:Nod) (hB:B.length≤900000) (hL:Puts L) (hk:n.kd=6):VM L_ 199 ([.ifc 169 (.ptr 100000 0 0),.ptr 100001 0 0,.agg [bv true,bv false,bv false,bv true,bv false,bv true]]) ([(950,.slc 5 1 (B.map (row1 .u8))),(100000,.var [.own 950]),(100001,.var (nodC n))]) (.tup []) ([(951,.slc 5 1 ((B++L n.nb).map (row1 .u8))),(100000,.var [.own 951]),(100001,.var (nodC n))]):=by
 have q0:=hL.l n.nb
 have r0:(B++L n.nb).length=B.length+(L n.nb).length:=by rw[O_]
 have oz0:=@lside_nb (B) (L) (n) (by omega) hL
 have oz1:=@side_n
 have oz3:=(show false=false by with_reducible rfl)
 have oz9:=@VM.pre _ _ ([bv (n.kd==8),AV.any,AV.any]) _ ([]) _ _ _ ([GI.weak 0 (bv false),GI.sort]) _ (@side_n) (by kernel_rfl) (.c (AZ_ (show ((n.kd==8):Bool)=(false) from (by (refine decide_eq_false ?_;omega))))<|.n)
 exact VM.run (fn:=Tryz.f199) (W:=[r_,r_,.r [] [.callm [(950,950),(100000,100000),(100001,100001),(3,100002)] [(951,20000)] (rM oz0) (oM oz0)],.r [] [.callm [] [] (rM oz1) (oM oz1)],.r [] [.callm [] [] (rM oz1) (oM oz1)],.r [] [e_,e_,e_,e_,e_,f_,.callm [] [] (rM oz9) (oM oz9)],.r [] [.callm [] [] (rM oz1) (oM oz1)]]) (G:=[.drop [5,3],.ren 20000 951,.sort]) Tryz.func199 (by kernel_rfl) (.c oz0<|.c oz1<|.c oz1<|.c oz3<|.c oz3<|.c oz3<|.c oz3<|.c oz3<|.c oz3<|.c oz9<|.c oz1<|.n)
theorem lsides_7 (B:List Int) (L:Int→List Int) (n:Nod) (hB:B.length≤900000) (hL:Puts L) (hk:n.kd=7):VM L_ 199 ([.ifc 169 (.ptr 100000 0 0),.ptr 100001 0 0,.agg [bv false,bv false,bv false,bv true,bv false,bv true]]) ([(950,.slc 5 1 (B.map (row1 .u8))),(100000,.var [.own 950]),(100001,.var (nodC n))]) (.tup []) ([(950,.slc 5 1 (B.map (row1 .u8))),(100000,.var [.own 950]),(100001,.var (nodC n))]):=by
 have oz0:=@side_n
 have oz3:=(show false=false by with_reducible rfl)
 have oz9:=@VM.pre _ _ ([bv (n.kd==8),AV.any,AV.any]) _ ([]) _ _ _ ([GI.weak 0 (bv false),GI.sort]) _ (@side_n) (by kernel_rfl) (.c (AZ_ (show ((n.kd==8):Bool)=(false) from (by (refine decide_eq_false ?_;omega))))<|.n)
 exact VM.run (fn:=Tryz.f199) (W:=[r_,r_,.r [] [.callm [] [] (rM oz0) (oM oz0)],.r [] [.callm [] [] (rM oz0) (oM oz0)],.r [] [.callm [] [] (rM oz0) (oM oz0)],.r [] [e_,e_,e_,e_,e_,f_,.callm [] [] (rM oz9) (oM oz9)],.r [] [.callm [] [] (rM oz0) (oM oz0)]]) (G:=[.drop [3,5],.sort]) Tryz.func199 (by kernel_rfl) (.c oz0<|.c oz0<|.c oz0<|.c oz3<|.c oz3<|.c oz3<|.c oz3<|.c oz3<|.c oz3<|.c oz9<|.c oz0<|.n)
theorem lsides_8 (B:List Int) (L:Int→List Int) (n:Nod) (hB:B.length≤900000) (hL:Puts L) (hk:n.kd=8):VM L_ 199 ([.ifc 169 (.ptr 100000 0 0),.ptr 100001 0 0,.agg [bv false,bv false,bv false,bv true,bv false,bv false]]) ([(950,.slc 5 1 (B.map (row1 .u8))),(100000,.var [.own 950]),(100001,.var (nodC n))]) (.tup []) ([(951,.slc 5 1 ((B++L n.np).map (row1 .u8))),(100000,.var [.own 951]),(100001,.var (nodC n))]):=by
 have q0:=hL.l n.np
 have r0:(B++L n.np).length=B.length+(L n.np).length:=by rw[O_]
 have oz0:=@side_n
 have oz3:=(show false=false by with_reducible rfl)
 have oz9:=@VM.pre _ _ ([bv (n.kd==8),AV.ptr 100001 0 5,AV.ptr 100002 0 0]) _ ([(950,Blk.slc 5 1 (K_ (row1 .u8) B)),(100000,Blk.var [AV.own 950]),(100001,Blk.var [i64 n.kd,i64 n.na,i64 n.nb,i64 n.nk,i64 n.ns,i64 n.np,i64 n.no,i8 n.za,i8 n.zb,AV.sl 1 (K_ (row1 .i8) n.w),AV.sl 1 (K_ (row1 .i32) n.b),i32 n.qm,i64 n.qs,i8 n.qz,i32 n.rm,i64 n.rs,i8 n.rz,i8 n.lo,i8 n.hi]),(100002,Blk.var [AV.ifc 169 (AV.ptr 100000 0 0)])]) _ _ _ ([GI.weak 0 (bv true),GI.sort]) _ (@lside_np (B) (L) (n) (by omega) hL) (by kernel_rfl) (.c (AZ_ (show ((n.kd==8):Bool)=(true) from (by (refine decide_eq_true ?_;omega))))<|.n)
 exact VM.run (fn:=Tryz.f199) (W:=[r_,r_,.r [] [.callm [] [] (rM oz0) (oM oz0)],.r [] [.callm [] [] (rM oz0) (oM oz0)],.r [] [.callm [] [] (rM oz0) (oM oz0)],.r [] [e_,e_,e_,e_,e_,f_,.callm [(950,950),(100000,100000),(100001,100001),(3,100002)] [(951,20000)] (rM oz9) (oM oz9)],.r [] [.callm [] [] (rM oz0) (oM oz0)]]) (G:=[.drop [5,3],.ren 20000 951,.sort]) Tryz.func199 (by kernel_rfl) (.c oz0<|.c oz0<|.c oz0<|.c oz3<|.c oz3<|.c oz3<|.c oz3<|.c oz3<|.c oz3<|.c oz9<|.c oz0<|.n)
theorem lsides_9 (B:List Int) (L:Int→List Int) (n:Nod) (hB:B.length≤900000) (hL:Puts L) (hk:n.kd<1∨8<n.kd):VM L_ 199 ([.ifc 169 (.ptr 100000 0 0),.ptr 100001 0 0,.agg [bv false,bv false,bv false,bv false,bv false,bv false]]) ([(950,.slc 5 1 (B.map (row1 .u8))),(100000,.var [.own 950]),(100001,.var (nodC n))]) (.tup []) ([(950,.slc 5 1 (B.map (row1 .u8))),(100000,.var [.own 950]),(100001,.var (nodC n))]):=by
 have oz0:=@side_n
 have oz3:=(show false=false by with_reducible rfl)
 have oz9:=@VM.pre _ _ ([bv (n.kd==8),AV.any,AV.any]) _ ([]) _ _ _ ([GI.weak 0 (bv false),GI.sort]) _ (@side_n) (by kernel_rfl) (.c (AZ_ (show ((n.kd==8):Bool)=(false) from (by (refine decide_eq_false ?_;omega))))<|.n)
 exact VM.run (fn:=Tryz.f199) (W:=[r_,r_,.r [] [.callm [] [] (rM oz0) (oM oz0)],.r [] [.callm [] [] (rM oz0) (oM oz0)],.r [] [.callm [] [] (rM oz0) (oM oz0)],.r [] [e_,e_,e_,e_,e_,f_,.callm [] [] (rM oz9) (oM oz9)],.r [] [.callm [] [] (rM oz0) (oM oz0)]]) (G:=[.drop [3,5],.sort]) Tryz.func199 (by kernel_rfl) (.c oz0<|.c oz0<|.c oz0<|.c oz3<|.c oz3<|.c oz3<|.c oz3<|.c oz3<|.c oz3<|.c oz9<|.c oz0<|.n)
end Go.Proofs.YtgimdjfbnbkpgaaGreat
