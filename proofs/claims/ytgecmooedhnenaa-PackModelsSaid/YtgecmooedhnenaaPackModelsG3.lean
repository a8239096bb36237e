/- A part of this claim. No condition. -/
import Derived.Shelf.Bits.Mul64
import Derived.Handy
import Derived.ScopeJumps
import Derived.Test.YtgecmooedhnenaaProg
import Derived.WalkKit
import Derived.Below
import Derived.LoopTactic
import Derived.RegionTactic
import Derived.ChangeAlike
import Derived.BigRegion
import Derived.Deep.QuietTactic
import Derived.BigQuiet
import Derived.Lib.Hide
import Derived.WalkSpells
import Derived.WalkLawsBesides
import Derived.WalkSmall
import Derived.Laws.BytesString
import Derived.Laws.IdiomStrings
import Derived.Laws.BitsAllLaws
import Derived.Laws.AppendOwnNone
import Derived.PlainAid
import Derived.Laws.Tables
import Derived.Laws.CopyOwn
import Derived.Deep.WholeRow
import Derived.Laws.ResultCell
import Derived.OwnWalk
import Derived.Deep.Slices
import Derived.ProofKit
import Derived.OpenShut
import Derived.ShutString
import Derived.ChangeOld
import Derived.Outline
import Derived.Deep.LoopGhost
import Derived.Test.YtgecmooedhnenaaPackModelsG2
set_option maxRecDepth 100000
set_option maxHeartbeats 2000000
set_option linter.unusedVariables false
set_option linter.unusedSimpArgs false
set_option linter.unnecessarySimpa false
namespace Go.Proofs.Ytgecmooedhnenaa
open Go.RowKit
theorem lla {α:Type} {a b:List α}:(a++b).length=a.length+b.length:=List.length_append
abbrev w8 (n:Int):Int:=IntKind.u8.wrap n
abbrev cm {P:Program} {f:Nat} {a:List AV} {o z:List (Nat×Blk)} {r:AV} (h:VM P f a o r z):PI:=.callm [(100000,100000)] [] (rM h) (oM h)
abbrev cn {P:Program} {f:Nat} {a:List AV} {o z:List (Nat×Blk)} {r:AV} (h:VM P f a o r z):PI:=.callm [(100000,100000),(100001,100001)] [] (rM h) (oM h)
theorem cbc {p:Prop} (h:¬p→False):p:=Classical.byContradiction h
theorem i6n (n:Int) (h:-9223372036854775808≤n∧n≤9223372036854775807):IntKind.i64.wrap n=n:=IntWalk.i64_in n h
theorem bft (b:Bool):b=true∨b=false:=Bool.eq_false_or_eq_true b
theorem ret_int {k:IntKind} {a b:Int} (h:a=b):Ending.returned (.int k a)=.returned (.int k b):=by rw [h]
def Rd (w:World) (v:Value) (xs:List Value):Prop :=
 ∃ ao cap,v=.slice ao xs.length cap∧(xs.length≤cap∧cap≤maxLen∧(ao=none→cap=0))∧(xs≠[]→∃ b off,ao=some ⟨b,off,none⟩∧∀ j (h:j<xs.length),w.cell? ⟨b,off+j,none⟩=some xs[j])
theorem Rd.nil (w:World):Rd w (.slice none 0 0) []:=⟨none,0,rfl,⟨Nat.le_refl _,Nat.zero_le _,fun _=>rfl⟩,fun h=>absurd rfl h⟩
theorem lt_of_cell {w:World} {a:Addr} {v:Value} (h:w.cell? a=some v):a.block<w.heap.size:=World.block_lt_of_cell? w a h
def Own (B:Nat) (w:World) (e:TypeId) (v:Value) (xs:List Value):Prop:=w.ownsRow B e 1 v xs.length xs
theorem Own.nil (B:Nat) (w:World) (e:TypeId):Own B w e (.slice none 0 0) []:=World.ownsRow_nil _ _ _ _
theorem Own.rd {B:Nat} {w:World} {e:TypeId} {v:Value} {xs:List Value} (h:Own B w e v xs):Rd w v xs:=by
 have h0:=h
 obtain ⟨_,hcase⟩:=h
 rcases hcase with ⟨rfl,hn⟩ | ⟨g,cap,cur,rfl,hg,hh,hn,hcap,hsz,htake⟩
 ·have:xs=[]:=List.eq_nil_of_length_eq_zero hn
  subst this
  exact Rd.nil w
 ·refine ⟨_,_,rfl,⟨hn,hcap,by simp⟩,fun _=>⟨g,0,rfl,fun j hj=>?_⟩⟩
  rw [Nat.zero_add,World.ownsRow.cellAt h0 j (by omega),List.getElem?_eq_getElem hj]
theorem Own.below {B C:Nat} {w w':World} {e:TypeId} {v:Value} {xs:List Value} (h:Own B w e v xs) (hb:Below C w w') (hC:w.heap.size≤C):Own B w' e v xs:=by
 refine ⟨h.1,?_⟩
 rcases h.2 with h2 | ⟨g,cap,cur,hv,hg,hh,r⟩
 ·exact .inl h2
 ·refine .inr ⟨g,cap,cur,hv,hg,?_,r⟩
  rw [hb.block g (Nat.lt_of_lt_of_le (Array.getElem?_eq_some_iff.1 hh).1 hC)]
  exact hh
theorem bl_step {w w1 w2:World} (h:Below w.heap.size w w1) (k:Below w1.heap.size w1 w2):Below w.heap.size w w2 :=
 h.trans (k.mono h.size)
theorem bl_get {w w':World} (hb:Below w.heap.size w w') {b o:Nat} {v:Value} (h:w.cell? ⟨b,o,none⟩=some v):w'.cell? ⟨b,o,none⟩=some v :=
 (hb.cell (p:=⟨b,o,none⟩) (lt_of_cell h)).trans h
theorem one_new (w:World) (x:Value) (t:TypeId):∀ j u,[x][j]? = some u→(w.alloc (.cells #[x] t)).cell? ((⟨w.heap.size,0,none⟩:Addr).add j)=some u:=by
 intro j u hj
 match j,hj with
 | 0,hj =>
  simp at hj;subst hj
  rw [show (⟨w.heap.size,0,none⟩:Addr).add 0=⟨w.heap.size,0,none⟩ from by simp [Addr.add],World.cell?_alloc_at _ _ _ _ rfl];rfl
theorem one_cell (x:Value) (h:x.oneCell'=true):∀ u∈[x],u.oneCell'=true:=by intro u hu;simp at hu;subst hu;exact h
def Held (p:Prop):Prop:=p
theorem hold {p:Prop} (h:Held p):p:=h
theorem unheld {p:Prop} (h:p):Held p:=h
theorem wpList_app1 {P:Program} {ops:Array Oper} {rest:List Oper} {o:Oper} {a:Act} {Q:Exit→Act→World→Prop} (hgd:o.guard=none) (s x:Operand) (t:TypeId)
  (ho:o.op=.call { callee:=.builtin .append,args := #[s,x],argTypes := #[t,t] })
  (B:Nat) (e:TypeId) (i:TypeInfo) (z:Value) (bytes:Nat) (ht:P.underlying t=some (.slice e)) (hi:P.info? e=some i) (hz:i.zero=some z)
  (hsize:i.size=1) (hby:i.bytes=bytes) (hbs:bytes≤64) (hzs:z.cells.size=1)
  (v:Value) (xs:List Value) (w0:World) (u:Value) (te:TypeId)
  (hown:Own B w0 e v xs) (hs:a.eval s=v) (hx:a.eval x=.slice (some ⟨w0.heap.size,0,none⟩) 1 1) (hu:u.oneCell'=true) (hlen:xs.length+1≤1099511627776) (hB:B≤w0.heap.size)
  (h:∀ v' w',Own B w' e v' (xs++[u])→Below B w0 w'→wpList P ops Q rest (a.put o.dst v') w') :
  wpList P ops Q (o::rest) a (w0.alloc (.cells #[u] te)):=by
 have h63:xs.length+1≤maxLen:=by unfold maxLen;omega
 have hbytes:(xs.length+1)*bytes≤140737488355328:=Nat.le_trans (Nat.mul_le_mul hlen hbs) (by decide)
 refine wpList_append_own _ hgd s x t ho B e i z 1 bytes ht hi hz hsize hby hzs (by decide) v xs.length xs hs (World.ownsRow.alloc hown _) ⟨w0.heap.size,0,none⟩ 1 1 [u] hx rfl (one_new w0 u te) (one_cell u hu) h63 hbytes (by simp;omega) ?_
 intro v' w' hown' hgrow _
 refine h v' w' ?_ ?_
 ·unfold Own;rw [lla];exact hown'
 ·exact ((Below.refl B w0).alloc hB _).grown hgrow (by simp;omega) (fun k hk=>(hown.lt k hk).1)
theorem add_off (b off j:Nat):(⟨b,off,none⟩:Addr).add j=⟨b,off+j,none⟩:=by unfold Addr.add;split<;>simp_all
theorem wf_i64 {n:Int} (h:(Lit.int .i64 n).wf=true) : -9223372036854775808≤n∧n≤9223372036854775807:=by
 simp only [Lit.wf,IntKind.min,IntKind.max,IntKind.signed,IntKind.bits,Bool.and_eq_true,decide_eq_true_eq] at h;simp at h;omega
theorem wf_i32 {n:Int} (h:(Lit.int .i32 n).wf=true) : -2147483648≤n∧n≤2147483647:=by
 simp only [Lit.wf,IntKind.min,IntKind.max,IntKind.signed,IntKind.bits,Bool.and_eq_true] at h;simp at h;omega
theorem wf_u8 {n:Int} (h:(Lit.int .u8 n).wf=true):0≤n∧n≤255:=by
 simp only [Lit.wf,IntKind.min,IntKind.max,IntKind.signed,IntKind.bits,Bool.and_eq_true] at h;simp at h;omega
theorem wf_i8 {n:Int} (h:(Lit.int .i8 n).wf=true) : -128≤n∧n≤127:=by
 simp only [Lit.wf,IntKind.min,IntKind.max,IntKind.signed,IntKind.bits,Bool.and_eq_true] at h;simp at h;omega
theorem ints_one (k:IntKind) (zs:List Int):∀ u∈zs.map (Value.int k),u.oneCell'=true:=ints_oneCell k zs
theorem wpList_appS {P:Program} {ops:Array Oper} {rest:List Oper} {o:Oper} {a:Act} {w:World} {Q:Exit→Act→World→Prop} (hgd:o.guard=none) (s x:Operand) (t:TypeId)
  (ho:o.op=.call { callee:=.builtin .append,args := #[s,x],argTypes := #[t,t] })
  (B:Nat) (e:TypeId) (i:TypeInfo) (z:Value) (bytes:Nat) (ht:P.underlying t=some (.slice e)) (hi:P.info? e=some i) (hz:i.zero=some z)
  (hsize:i.size=1) (hby:i.bytes=bytes) (hbs:bytes≤64) (hzs:z.cells.size=1)
  (v sv:Value) (xs news:List Value) (hown:Own B w e v xs) (hsrc:Rd w sv news) (hs:a.eval s=v) (hx:a.eval x=sv)
  (hu:∀ u∈news,u.oneCell'=true) (hlen:xs.length+news.length≤1099511627776) (hB:B≤w.heap.size)
  (h:∀ v' w',Own B w' e v' (xs++news)→Below B w w'→wpList P ops Q rest (a.put o.dst v') w') :
  wpList P ops Q (o::rest) a w:=by
 have h63:xs.length+news.length≤maxLen:=by unfold maxLen;omega
 have hbytes:(xs.length+news.length)*bytes≤140737488355328:=Nat.le_trans (Nat.mul_le_mul hlen hbs) (by decide)
 obtain ⟨ao,cap,rfl,hcap,hc⟩:=hsrc
 have fin:∀ (ad:Addr),ao=some ad→(∀ j u,news[j]? = some u→w.cell? (ad.add j)=some u)→wpList P ops Q (o::rest) a w:=by
  rintro ad rfl hcells
  refine wpList_append_own _ hgd s x t ho B e i z 1 bytes ht hi hz hsize hby hzs (by decide) v xs.length xs hs hown ad news.length cap news hx (by simp) hcells hu h63 hbytes hB ?_
  intro v' w' hown' hgrow _
  refine h v' w' ?_ ?_
  ·unfold Own;rw [lla];exact hown'
  ·exact (Below.refl B w).grown hgrow hB (fun k hk=>(hown.lt k hk).1)
 by_cases hne:news=[]
 ·subst hne
  cases ao with
  | none =>
   obtain rfl:cap=0:=hcap.2.2 rfl
   refine wpList_append_own_none hgd s x t ho B e i 1 ht hi v xs.length xs hs hown hx ?_
   refine h v w (by rw [List.append_nil];exact hown) (Below.refl B w)
  | some ad=>exact fin ad rfl (by intro j u hj;simp at hj)
 ·obtain ⟨b,off,rfl,hk⟩:=hc hne
  refine fin _ rfl (fun j u hj=>?_)
  obtain ⟨hj',rfl⟩:=List.getElem?_eq_some_iff.1 hj
  rw [add_off];exact hk j hj'
def At (w:World) (g:Nat) (t:TypeId) (cs:Array Value):Prop:=w.heap[g]? = some (.cells cs t (0,0))
end Go.Proofs.Ytgecmooedhnenaa
namespace Go.Proofs.Ytgecmooedhnenaa
def rn (m s:Nat):Nat:=if s=0 then m else m / 2 ^ s+m / 2 ^ (s-1) % 2
def rightQ (mult shift:Int):Bool:=decide (0<mult)&&decide (0≤shift)&&decide (shift≤62)
end Go.Proofs.Ytgecmooedhnenaa
namespace Go.Proofs.Ytgecmooedhnenaa
open Go.RowKit
theorem right_any (m s z:Int) (w:World):Calls Try.prog 157 #[.agg #[.int .i32 m,.int .i64 s,.int .i8 z]] w fun e w'=>e=.returned (.bool (rightQ m s))∧Below w.heap.size w w':=by
 by_cases h1:0<m
 ·by_cases h2:0≤s
  ·by_cases h3:s≤62
   ·have e:rightQ m s=true:=by unfold rightQ;simp [h1,h2,h3]
    rw [e];clear e
    go_enter Try.func157,Try.ntmps157
    go_wp2
    go_ret
    exact ⟨rfl,(Below.refl _ _).alloc (Nat.le_refl _) _⟩
   ·have e:rightQ m s=false:=by unfold rightQ;simp [h3]
    rw [e];clear e
    go_enter Try.func157,Try.ntmps157
    go_wp2
    go_ret
    exact ⟨rfl,(Below.refl _ _).alloc (Nat.le_refl _) _⟩
  ·have e:rightQ m s=false:=by unfold rightQ;simp [h2]
   rw [e];clear e
   go_enter Try.func157,Try.ntmps157
   go_wp2
   go_ret
   exact ⟨rfl,(Below.refl _ _).alloc (Nat.le_refl _) _⟩
 ·have e:rightQ m s=false:=by unfold rightQ;simp [h1]
  rw [e];clear e
  go_enter Try.func157,Try.ntmps157
  go_wp2
  go_ret
  exact ⟨rfl,(Below.refl _ _).alloc (Nat.le_refl _) _⟩
theorem refRight_any (m s z:Int) (w:World):Calls Try.prog 99 #[.agg #[.int .i32 m,.int .i64 s,.int .i8 z]] w fun e w'=>e=.returned (.bool (rightQ m s))∧Below w.heap.size w w':=by
 by_cases h1:0<m
 ·by_cases h2:0≤s
  ·by_cases h3:s≤62
   ·have e:rightQ m s=true:=by unfold rightQ;simp [h1,h2,h3]
    rw [e];clear e
    go_enter Try.func99,Try.ntmps99
    go_wp2
    go_ret
    exact ⟨rfl,(Below.refl _ _).alloc (Nat.le_refl _) _⟩
   ·have e:rightQ m s=false:=by unfold rightQ;simp [h3]
    rw [e];clear e
    go_enter Try.func99,Try.ntmps99
    go_wp2
    go_ret
    exact ⟨rfl,(Below.refl _ _).alloc (Nat.le_refl _) _⟩
  ·have e:rightQ m s=false:=by unfold rightQ;simp [h2]
   rw [e];clear e
   go_enter Try.func99,Try.ntmps99
   go_wp2
   go_ret
   exact ⟨rfl,(Below.refl _ _).alloc (Nat.le_refl _) _⟩
 ·have e:rightQ m s=false:=by unfold rightQ;simp [h1]
  rw [e];clear e
  go_enter Try.func99,Try.ntmps99
  go_wp2
  go_ret
  exact ⟨rfl,(Below.refl _ _).alloc (Nat.le_refl _) _⟩
structure Ten where
 h:Int
 x:Int
 c:Int
 d:List Int
abbrev In64 (n:Int):Prop := -9223372036854775808≤n∧n≤9223372036854775807
abbrev In32 (n:Int):Prop := -2147483648≤n∧n≤2147483647
abbrev In8 (n:Int):Prop := -128≤n∧n≤127
abbrev ten (k:IntKind) (T:Ten):AV:=.agg [i64 T.h,i64 T.x,i64 T.c,ints k T.d]
structure Nod where
 kd:Int
 na:Int
 nb:Int
 nk:Int
 ns:Int
 np:Int
 no:Int
 za:Int
 zb:Int
 w:List Int
 b:List Int
 qm:Int
 qs:Int
 qz:Int
 rm:Int
 rs:Int
 rz:Int
 lo:Int
 hi:Int
abbrev nodC (n:Nod):List AV:=[i64 n.kd,i64 n.na,i64 n.nb,i64 n.nk,i64 n.ns,i64 n.np,i64 n.no,i8 n.za,i8 n.zb,ints .i8 n.w,ints .i32 n.b,i32 n.qm,i64 n.qs,i8 n.qz,i32 n.rm,i64 n.rs,i8 n.rz,i8 n.lo,i8 n.hi]
abbrev nod (n:Nod):AV:=.agg (nodC n)
structure Nod.Ok (n:Nod):Prop where
 kd:In64 n.kd
 na:In64 n.na
 nb:In64 n.nb
 nk:In64 n.nk
 ns:In64 n.ns
 np:In64 n.np
 no:In64 n.no
 za:In8 n.za
 zb:In8 n.zb
 w:∀ v∈n.w,In8 v
 b:∀ v∈n.b,In32 v
 qm:In32 n.qm
 qs:In64 n.qs
 qz:In8 n.qz
 rm:In32 n.rm
 rs:In64 n.rs
 rz:In8 n.rz
 lo:In8 n.lo
 hi:In8 n.hi
theorem right_v (m s z:Int):VC Try.prog 157 [.agg [i32 m,i64 s,i8 z]] (bv (rightQ m s)) :=
 VC.ofCalls (x:=.bool (rightQ m s)) rfl rfl fun w=>right_any m s z w
theorem refRight_v (m s z:Int):VC Try.prog 99 [.agg [i32 m,i64 s,i8 z]] (bv (rightQ m s)) :=
 VC.ofCalls (x:=.bool (rightQ m s)) rfl rfl fun w=>refRight_any m s z w
theorem Own.form {B:Nat} {w:World} {e:TypeId} {v:Value} {xs:List Value} (h:Own B w e v xs) (hne:xs≠[]) :
  ∃ g cap,v=.slice (some ⟨g,0,none⟩) xs.length cap∧xs.length≤cap∧cap≤maxLen∧B≤g∧g<w.heap.size∧(∀ j (hj:j<xs.length),w.cell? ⟨g,j,none⟩=some xs[j])∧(∀ j,w.frozen? ⟨g,j,none⟩=false) ∧
   ∀ i (u:Value),i<xs.length→Own B (w.setCell ⟨g,i,none⟩ u) e v (xs.set i u):=by
 have h0:=h
 obtain ⟨hl,hcase⟩:=h
 rcases hcase with ⟨rfl,hn⟩ | ⟨g,cap,cur,rfl,hg,hh,hn,hcap,hsz,htake⟩
 ·exact absurd (List.eq_nil_of_length_eq_zero hn) hne
 ·rw [Nat.mul_one] at hsz htake
  refine ⟨g,cap,rfl,hn,hcap,hg,(Array.getElem?_eq_some_iff.1 hh).1,fun j hj=>?_,fun j=>by simp [World.frozen?,hh],fun i u hi=>?_⟩
  ·rw [World.ownsRow.cellAt h0 j (by omega),List.getElem?_eq_getElem hj]
  ·refine ⟨by simp,.inr ⟨g,cap,cur.setIfInBounds i u,by simp,hg,?_,by simpa using hn,hcap,by simpa using hsz,?_⟩⟩
   ·simp [World.setCell,Array.getElem?_modify,hh]
   ·rw [Nat.mul_one,Array.toList_setIfInBounds,List.length_set]
    rw [←htake]
    simp only [List.length_take,Array.length_toList]
    rw [show min xs.length cur.size=xs.length from by omega]
    rw [List.take_set]
theorem Own.at {B:Nat} {w:World} {e:TypeId} {g n cap:Nat} {xs:List Value} (h:Own B w e (.slice (some ⟨g,0,none⟩) n cap) xs) (hne:xs≠[]) :
  n=xs.length∧xs.length≤cap∧B≤g∧g<w.heap.size∧(∀ j (hj:j<xs.length),w.cell? ⟨g,j,none⟩=some xs[j])∧(∀ j,w.frozen? ⟨g,j,none⟩=false) ∧
   ∀ i (u:Value),i<xs.length→Own B (w.setCell ⟨g,i,none⟩ u) e (.slice (some ⟨g,0,none⟩) n cap) (xs.set i u):=by
 obtain ⟨g',cap',hv,h1,h2,h3,h4,h5,h6,h7⟩:=h.form hne
 injection hv with e1 e2 e3
 injection e1 with e1
 injection e1 with e1 _ _
 subst e1 e2 e3
 exact ⟨rfl,h1,h3,h4,h5,h6,h7⟩
theorem Rd.ints {w:World} {v:Value} {k:IntKind} {l:List Int} (h:Rd w v (l.map (Value.int k))) :
  ∃ ao cap,v=.slice ao l.length cap∧l.length≤cap∧cap≤9223372036854775807∧(l≠[]→∃ b off,ao=some ⟨b,off,none⟩∧∀ j (hj:j<l.length),w.cell? ⟨b,off+j,none⟩=some (.int k l[j])):=by
 obtain ⟨ao,cap,rfl,⟨h1,h2,_⟩,hc⟩:=h
 rw [List.length_map] at h1
 refine ⟨ao,cap,by rw [List.length_map],h1,by unfold maxLen at h2;exact h2,fun hne=>?_⟩
 obtain ⟨b,off,rfl,hk⟩:=hc (by simpa using hne)
 exact ⟨b,off,rfl,fun j hj=>by rw [hk j (by simpa using hj),List.getElem_map]⟩
theorem madeCells_one (z:Value) (n:Nat):(madeCells #[z] (n*1)).toList=List.replicate n z:=by
 apply List.ext_getElem?
 intro i
 rw [Nat.mul_one]
 unfold madeCells
 by_cases h:i<n
 ·simp [h,Nat.mod_one]
 ·simp [h]
theorem wpList_makeO {P:Program} (w:World) {ops:Array Oper} {rest:List Oper} {o:Oper} {a:Act} {Q:Exit→Act→World→Prop} (hg:o.guard=none) (l c:Operand) (t:TypeId) (hop:o.op=Op.makeSlice t l c)
  (e:TypeId) (i:TypeInfo) (z:Value) (bytes:Nat) (ht:P.underlying t=some (.slice e)) (hi:P.info? e=some i) (hz:i.zero=some z) (hsize:i.size=1) (hby:i.bytes=bytes) (hbs:bytes≤64) (hzc:z.cells = #[z])
  (kl kc:IntKind) (n:Nat) (hl:a.eval l=.int kl (n:Int)) (hc:a.eval c=.int kc (n:Int)) (hn:n≤1099511627776)
  (hK:∀ w',Own w.heap.size w' e (.slice (some ⟨w.heap.size,0,none⟩) n n) (List.replicate n z)→Below w.heap.size w w'→wpList P ops Q rest (a.put o.dst (.slice (some ⟨w.heap.size,0,none⟩) n n)) w') :
  wpList P ops Q (o::rest) a w:=by
 refine wpList_make_full w hg l c t hop w.heap.size e i z 1 ht hi hz hsize kl kc _ _ n hl hc rfl rfl (by rw [hby];exact Nat.le_trans (Nat.mul_le_mul hbs hn) (by decide)) (by unfold maxLen;omega) (Nat.le_refl _) ?_
 intro w' hown hgrow
 rw [hzc,madeCells_one] at hown
 refine hK w' ?_ ((Below.refl _ _).grown hgrow (Nat.le_refl _) (by simp))
 unfold Own;rw [List.length_replicate];exact hown
def fill (A Z:List Value) (k:Nat):List Value:=A.take k++Z.drop k
theorem fill_zero (A Z:List Value):fill A Z 0=Z:=by simp [fill]
theorem fill_all (A Z:List Value) (h:A.length=Z.length):fill A Z A.length=A:=by unfold fill;rw [List.take_length,h,List.drop_length,List.append_nil]
theorem fill_len (A Z:List Value) (h:A.length=Z.length) (k:Nat):(fill A Z k).length=A.length:=by simp [fill];omega
theorem fill_set (A Z:List Value) (h:A.length=Z.length) (k:Nat) (hk:k<A.length) (u:Value) (hu:A[k]? = some u):(fill A Z k).set k u=fill A Z (k+1):=by
 apply List.ext_getElem?
 intro i
 unfold fill
 rw [List.getElem?_set]
 simp only [List.getElem?_append,List.length_take,lla,List.length_drop,List.getElem?_take,List.getElem?_drop]
 by_cases hik:k=i
 ·subst hik
  simp [hu,show min (k+1) A.length=k+1 by omega,show min k A.length=k by omega]
  omega
 ·simp only [hik,if_false]
  by_cases h1:i<k
  ·simp [h1,show i<k+1 by omega,show min (k+1) A.length=k+1 by omega,show min k A.length=k by omega]
  ·have h2:¬ i<k+1:=by omega
   simp [h1,h2,show min (k+1) A.length=k+1 by omega,show min k A.length=k by omega]
   congr 1;omega
def RelL (w:World) (l:List AV) (vs:List Value):Prop:=vs.length=l.length∧∀ (i:Nat) (c:AV) (v:Value),l[i]? = some c→vs[i]? = some v→Rel (fun _=>none) (fun _=>False) w c v
theorem RelL.nil (w:World):RelL w [] []:=⟨rfl,fun i c v h=>by simp at h⟩
theorem RelL.cons {w:World} {c:AV} {v:Value} {l:List AV} {vs:List Value} (h:Rel (fun _=>none) (fun _=>False) w c v) (hl:RelL w l vs):RelL w (c::l) (v::vs):=⟨by simp [hl.1],fun i a b ha hb=>by
 cases i with
 | zero=>simp at ha hb;subst ha hb;exact h
 | succ i=>exact hl.2 i a b (by simpa using ha) (by simpa using hb)⟩
theorem RelL.agg {w:World} {l:List AV} {vs:List Value} (h:RelL w l vs):Rel (fun _=>none) (fun _=>False) w (.agg l) (.agg vs.toArray):=.agg h.1 h.2
theorem law_of {P:Program} {f:Nat} {args:List AV} {xs:List Value} {w:World} (h:VC P f args (bv true)) (hr:RelL w args xs):Calls P f xs.toArray w fun e w'=>e=.returned (.bool true)∧Below w.heap.size w w' :=
 (h (fun _=>False) w xs (fun _ h=>h.elim) hr.1 hr.2).mono fun e w' ⟨x,he,hx,hb⟩=>⟨by rw [he,rel_lit hx],hb⟩
def RdN (c:Nat) (w:World) (v:Value) (rs:List (List Value)):Prop :=
 (∀ r∈rs,r.length=c)∧∃ ao cap,v=.slice ao rs.length cap∧(rs.length≤cap∧cap≤maxLen∧(ao=none→cap=0)) ∧
  (rs≠[]→∃ b off,ao=some ⟨b,off,none⟩∧∀ j r i u,rs[j]? = some r→r[i]? = some u→w.cell? ⟨b,off+j*c+i,none⟩=some u)
theorem RdN.nil (c:Nat) (w:World):RdN c w (.slice none 0 0) []:=⟨by simp,none,0,rfl,⟨Nat.le_refl _,Nat.zero_le _,fun _=>rfl⟩,fun h=>absurd rfl h⟩
end Go.Proofs.Ytgecmooedhnenaa
namespace Go.Proofs.Ytgecmooedhnenaa
open Go.RowKit Go.ChangeShapes Go.WideShapes
section
variable {H:Type} {enc:TypeId×Value→H} {P:Program} {w:World} {sp:Nat→Bool} {held:Bool}
def Can {H:Type} (enc:TypeId×Value→H) (P:Program) (w:World) (sp:Nat→Bool) (held:Bool) (t:TypeId) (cs:List Value):Prop:=∃ m x,DataW.trod enc P w 0 sp held m t cs=some x
theorem Can.of {t:TypeId} {v:Value} {d:DataW H} {p:List MemPlace} (h:DataW.Trod enc P w 0 sp held t v d p):Can enc P w sp held t v.cells.toList:=by
 obtain ⟨m,h⟩:=h;exact ⟨m,_,h⟩
theorem Can.int {t:TypeId} {k:IntKind} {c:Value} (ht:P.underlying t=some (.int k)) (h:Can enc P w sp held t [c]):∃ n,c=.int k n∧(Lit.int k n).wf=true:=by
 obtain ⟨m,x,h⟩:=h
 obtain ⟨n,hc,_,hw⟩:=DataW.trod_int ht h
 exact ⟨n,by simpa using hc,hw⟩
theorem Can.bool {t:TypeId} {c:Value} (ht:P.underlying t=some .bool) (h:Can enc P w sp held t [c]):∃ b,c=.bool b:=by
 obtain ⟨m,x,h⟩:=h
 obtain ⟨n,hc,_⟩:=DataW.trod_bool ht h
 exact ⟨n,by simpa using hc⟩
theorem Can.fields {t:TypeId} {fs:Array Field} {cs:List Value} (ht:P.underlying t=some (.struct fs)) (h:Can enc P w sp held t cs) :
  ∀ (i:Nat) (f:Field),fs[i]? = some f→Can enc P w sp held f.type ((cs.drop f.offset).take (P.cellsOf f.type)):=by
 obtain ⟨m,x,h⟩:=h
 obtain ⟨xs,n,_,_,_,hl,hf⟩:=DataW.trod_struct ht h
 intro i f hi
 have hlt:i<xs.length:=by rw [hl];exact (Array.getElem?_eq_some_iff.1 hi).1
 exact ⟨n,xs[i],by rw [hf i f hi,List.getElem?_eq_getElem hlt]⟩
theorem Can.slice {t e:TypeId} {v:Value} {c:Nat} (ht:P.underlying t=some (.slice e)) (hc:P.cellsOf e=c) (hc0:0<c) (h:Can enc P w sp held t [v]) :
  ∃ rs:List (List Value),RdN c w v rs∧∀ r∈rs,Can enc P w sp held e r:=by
 obtain ⟨m0,x,h⟩:=h
 rcases Go.Deep.open_slice ht h with ⟨hcs,_⟩ | ⟨a,len,cap,m,n,D,Pl,hcs,_,hl,hm,hmm,_,hel⟩
 ·simp only [List.cons.injEq,and_true] at hcs
  rw [hcs];exact ⟨[],RdN.nil _ _,by simp⟩
 ·simp only [List.cons.injEq,and_true] at hcs
  subst hcs
  have hlm:len≤m:=by rw [hmm];split<;>omega
  have hel':∀ i:Nat,∃ r:List Value,i<len→w.cells? 0 (a.add (i*c)) c=some r∧Can enc P w sp held e r:=by
   intro i
   by_cases hi:i<len
   ·obtain ⟨cs',h1,h2⟩:=hel i (by omega)
    rw [hc] at h1
    exact ⟨cs',fun _=>⟨h1,n,_,h2⟩⟩
   ·exact ⟨[],fun h=>absurd h hi⟩
  obtain ⟨R,hR⟩:∃ R:Nat→List Value,∀ i,i<len→w.cells? 0 (a.add (i*c)) c=some (R i)∧Can enc P w sp held e (R i):=⟨fun i=>Classical.choose (hel' i),fun i=>Classical.choose_spec (hel' i)⟩
  have key:∀ i,i<len→(R i).length=c∧∀ k,k<c→w.cell? ((a.add (i*c)).add k)=(R i)[k]? := by
   intro i hi
   have:=World.cells?_some (hR i hi).1
   exact ⟨this.2.1,this.2.2⟩
  refine ⟨(List.range len).map R,⟨?_,some a,cap,by simp,⟨by simpa using hl,hm,by simp⟩,fun hne=>?_⟩,?_⟩
  ·intro r hr
   obtain ⟨i,hi,rfl⟩:=List.mem_map.1 hr
   exact (key i (List.mem_range.1 hi)).1
  ·have h0:0<len:=by
    rcases Nat.eq_zero_or_pos len with h0 | h0
    ·subst h0;simp at hne
    ·exact h0
   obtain ⟨b,off,spot⟩:=a
   have g0:=(key 0 h0).2 0 hc0
   have hlt:0<(R 0).length:=by rw [(key 0 h0).1];exact hc0
   rw [List.getElem?_eq_getElem hlt] at g0
   have hs:spot=none:=by simpa [Addr.add] using World.cell?_spot g0
   subst hs
   refine ⟨b,off,rfl,fun j r i u hj hi=>?_⟩
   rw [List.getElem?_map] at hj
   obtain ⟨j',hj',rfl⟩:=Option.map_eq_some_iff.1 hj
   obtain ⟨hjl,rfl⟩:j<len∧j'=j:=by
    have:=List.getElem?_eq_some_iff.1 hj'
    obtain ⟨h1,h2⟩:=this
    simp at h1 h2;exact ⟨h1,h2.symm⟩
   have hic:i<c:=by have:=(List.getElem?_eq_some_iff.1 hi).1;rw [(key j' hjl).1] at this;exact this
   have:=(key j' hjl).2 i hic
   rw [hi,add_off,add_off] at this
   rw [←this]
  ·intro r hr
   obtain ⟨i,hi,rfl⟩:=List.mem_map.1 hr
   exact (hR i (List.mem_range.1 hi)).2
end
end Go.Proofs.Ytgecmooedhnenaa
namespace Go.Proofs.Ytgecmooedhnenaa
open Go.RowKit Go.ChangeShapes Go.WideShapes
def CellsAre (w:World) (l:List AV) (cs:List Value):Prop:=cs.length=l.length∧∀ (i:Nat) (a:AV) (v:Value),l[i]? = some a→cs[i]? = some v→PRel (fun _=>False) w a v∧v.oneCell'=true
theorem CellsAre.one {w:World} {a:AV} {v:Value} (h:PRel (fun _=>False) w a v) (h1:v.oneCell'=true):CellsAre w [a] [v]:=⟨rfl,fun i x y hx hy=>by
 cases i with
 | zero=>simp at hx hy;subst hx hy;exact ⟨h,h1⟩
 | succ i=>simp at hx⟩
theorem CellsAre.app {w:World} {l m:List AV} {cs ds:List Value} (h:CellsAre w l cs) (g:CellsAre w m ds):CellsAre w (l++m) (cs++ds):=⟨by simp [h.1,g.1],fun i a v ha hv=>by
 rw [List.getElem?_append] at ha hv
 rw [h.1] at hv
 split at ha
 ·rw [if_pos ‹_›] at hv;exact h.2 i a v ha hv
 ·rw [if_neg ‹_›] at hv;exact g.2 _ a v ha hv⟩
theorem CellsAre.rel {w:World} {l:List AV} {cs:List Value} (h:CellsAre w l cs):RelL w l cs:=⟨h.1,fun i a v ha hv=>.pure (h.2 i a v ha hv).1⟩
theorem CellsAre.agg {w:World} {l:List AV} {cs:List Value} (h:CellsAre w l cs):Rel (fun _=>none) (fun _=>False) w (.agg l) (.agg cs.toArray):=RelL.agg h.rel
theorem CellsAre.val {w:World} {a:AV} {v:Value} (h:CellsAre w [a] [v]):Rel (fun _=>none) (fun _=>False) w a v:=h.rel.2 0 a v rfl rfl
section
variable {H:Type} (enc:TypeId×Value→H) (P:Program) (w:World)
def Rdr (t:TypeId) (D:Type) (av:D→List AV) (ok:D→Prop):Prop:=∀ cs,Can enc P w (fun _=>true) true t cs→cs.length=P.cellsOf t→∃ d,ok d∧CellsAre w (av d) cs
variable {enc P w}
theorem Rdr.map {t:TypeId} {D E:Type} {av:D→List AV} {ok:D→Prop} {av':E→List AV} {ok':E→Prop} (h:Rdr enc P w t D av ok) (g:D→E) (ha:∀ d,av' (g d)=av d) (hk:∀ d,ok d→ok' (g d)):Rdr enc P w t E av' ok':=fun cs hc hl=>by
 obtain ⟨d,h1,h2⟩:=h cs hc hl
 exact ⟨g d,hk d h1,by rw [ha];exact h2⟩
theorem one_of_len {cs:List Value} (h:cs.length=1):∃ c,cs=[c]:=by
 match cs,h with
 | [c],_=>exact ⟨c,rfl⟩
theorem Rdr.int {t:TypeId} {k:IntKind} {ok:Int→Prop} (ht:P.underlying t=some (.int k)) (hc:P.cellsOf t=1) (hk:∀ n,(Lit.int k n).wf=true→ok n):Rdr enc P w t Int (fun n=>[.lit (.int k n)]) ok:=fun cs h hl=>by
 obtain ⟨c,rfl⟩:=one_of_len (hl.trans hc)
 obtain ⟨n,rfl,hw⟩:=Can.int ht h
 exact ⟨n,hk n hw,.one (.lit _) rfl⟩
theorem Rdr.bool {t:TypeId} (ht:P.underlying t=some .bool) (hc:P.cellsOf t=1):Rdr enc P w t Bool (fun b=>[.lit (.bool b)]) (fun _=>True):=fun cs h hl=>by
 obtain ⟨c,rfl⟩:=one_of_len (hl.trans hc)
 obtain ⟨b,rfl⟩:=Can.bool ht h
 exact ⟨b,trivial,.one (.lit _) rfl⟩
theorem Rdr.slice {t e:TypeId} {c:Nat} {D:Type} {av:D→List AV} {ok:D→Prop} (ht:P.underlying t=some (.slice e)) (hct:P.cellsOf t=1) (hc:P.cellsOf e=c) (hc0:0<c) (h:Rdr enc P w e D av ok) :
  Rdr enc P w t (List D) (fun l=>[.sl c (l.map av)]) (fun l=>∀ d∈l,ok d):=fun cs hcan hl=>by
 obtain ⟨v,rfl⟩:=one_of_len (hl.trans hct)
 obtain ⟨rs,⟨hlen,ao,cap,rfl,⟨h1,h2,h3⟩,hcell⟩,hr⟩:=Can.slice ht hc hc0 hcan
 have hds:∀ (rs:List (List Value)),(∀ r∈rs,r.length=c)→(∀ r∈rs,Can enc P w (fun _=>true) true e r)→∃ l:List D,l.length=rs.length∧(∀ d∈l,ok d)∧∀ (i:Nat) (d:D) (r:List Value),l[i]? = some d→rs[i]? = some r→CellsAre w (av d) r:=by
  intro rs
  induction rs with
  | nil=>intro _ _;exact ⟨[],rfl,by simp,by simp⟩
  | cons r rs ih =>
   intro hl hr
   obtain ⟨d,g1,g2⟩:=h r (hr r (by simp)) ((hl r (by simp)).trans hc.symm)
   obtain ⟨l,g3,g4,g5⟩:=ih (fun q hq=>hl q (by simp [hq])) (fun q hq=>hr q (by simp [hq]))
   refine ⟨d::l,by simp [g3],fun x hx=>?_,fun i x q hx hq=>?_⟩
   ·rcases List.mem_cons.1 hx with rfl | hx
    ·exact g1
    ·exact g4 x hx
   ·cases i with
    | zero=>simp at hx hq;subst hx hq;exact g2
    | succ i=>exact g5 i x q (by simpa using hx) (by simpa using hq)
 obtain ⟨l,g1,g2,g3⟩:=hds rs hlen hr
 refine ⟨l,g2,.one ?_ rfl⟩
 by_cases hne:rs=[]
 ·subst hne
  have:l=[]:=List.eq_nil_of_length_eq_zero g1
  subst this
  exact .nil c h2 h3
 ·obtain ⟨b,off,rfl,hcv⟩:=hcell hne
  have hlm:rs.length=(l.map av).length:=by rw [List.length_map,g1]
  rw [hlm]
  have get:∀ (i:Nat) (q:List AV),(l.map av)[i]? = some q→∃ (r:List Value),rs[i]? = some r∧CellsAre w q r∧r.length=c:=by
   intro i q hq
   rw [List.getElem?_map,Option.map_eq_some_iff] at hq
   obtain ⟨d,hd,rfl⟩:=hq
   have hi:i<rs.length:=by rw [←g1];exact (List.getElem?_eq_some_iff.1 hd).1
   exact ⟨rs[i],List.getElem?_eq_getElem hi,g3 i d _ hd (List.getElem?_eq_getElem hi),hlen _ (List.getElem_mem hi)⟩
  have cell:∀ (i:Nat) (q:List AV) (j:Nat) (a:AV),(l.map av)[i]? = some q→q[j]? = some a→w.cell? ⟨b,off+i*c+j,none⟩=some (((rs[i]?).getD [])[j]?.getD undef)∧PRel (fun _=>False) w a (((rs[i]?).getD [])[j]?.getD undef)∧(((rs[i]?).getD [])[j]?.getD undef).oneCell'=true:=by
   intro i q j a hq ha
   obtain ⟨r,hr,hca,_⟩:=get i q hq
   have hj:j<r.length:=by rw [hca.1];exact (List.getElem?_eq_some_iff.1 ha).1
   rw [hr,Option.getD_some,List.getElem?_eq_getElem hj,Option.getD_some]
   have:=hca.2 j a _ ha (List.getElem?_eq_getElem hj)
   exact ⟨hcv i r j _ hr (List.getElem?_eq_getElem hj),this.1,this.2⟩
  refine .sl (fun i j=>((rs[i]?).getD [])[j]?.getD undef) (fun _ h=>h) (fun hn=>?_) (by rw [←hlm];exact h1) h2 (fun i q hq=>?_) (fun i q j a hq ha=>(cell i q j a hq ha).1) (fun i q j a hq ha=>(cell i q j a hq ha).2.1) (fun i q j a hq ha=>(cell i q j a hq ha).2.2)
  ·have h0:0<rs.length:=List.length_pos_iff.2 hne
   have hl0:0<(rs[0]).length:=by rw [hlen _ (List.getElem_mem h0)];exact hc0
   exact World.block_lt_of_cell? w _ (hcv 0 rs[0] 0 _ (List.getElem?_eq_getElem h0) (List.getElem?_eq_getElem hl0))
  ·obtain ⟨r,_,hca,hrl⟩:=get i q hq
   rw [←hca.1,hrl]
def RdrF (enc:TypeId×Value→H) (P:Program) (w:World) (fs:List Field) (off n:Nat) (D:Type) (av:D→List AV) (ok:D→Prop):Prop :=
 ∀ cs:List Value,cs.length=n→(∀ f∈fs,Can enc P w (fun _=>true) true f.type ((cs.drop f.offset).take (P.cellsOf f.type)))→∃ d,ok d∧CellsAre w (av d) (cs.drop off)
theorem RdrF.nil {n off:Nat} (h:n≤off):RdrF enc P w [] off n Unit (fun _=>[]) (fun _=>True):=fun cs hl _=>⟨(),trivial,by
 rw [List.drop_eq_nil_of_le (by omega)];exact ⟨rfl,by simp⟩⟩
theorem RdrF.cons {f:Field} {fs:List Field} {off n c:Nat} {D E:Type} {av:D→List AV} {ok:D→Prop} {av':E→List AV} {ok':E→Prop} (ho:f.offset=off) (hc:P.cellsOf f.type=c) (hn:off+c≤n) (h:Rdr enc P w f.type D av ok) (g:RdrF enc P w fs (off+c) n E av' ok') :
  RdrF enc P w (f::fs) off n (D×E) (fun d=>av d.1++av' d.2) (fun d=>ok d.1∧ok' d.2):=fun cs hl hf=>by
 obtain ⟨d,h1,h2⟩:=h _ (hf f (by simp)) (by simp;omega)
 obtain ⟨e,h3,h4⟩:=g cs hl (fun x hx=>hf x (by simp [hx]))
 refine ⟨(d,e),⟨h1,h3⟩,?_⟩
 have:cs.drop off=(cs.drop f.offset).take (P.cellsOf f.type)++cs.drop (off+c):=by
  rw [ho,hc,←List.drop_drop,List.take_append_drop]
 rw [this];exact h2.app h4
theorem Rdr.struct {t:TypeId} {fs:List Field} {n:Nat} {D:Type} {av:D→List AV} {ok:D→Prop} (ht:P.underlying t=some (.struct fs.toArray)) (hn:P.cellsOf t=n) (h:RdrF enc P w fs 0 n D av ok):Rdr enc P w t D av ok:=fun cs hc hl=>by
 obtain ⟨d,h1,h2⟩:=h cs (hl.trans hn) (fun f hf=>by
  obtain ⟨i,hi⟩:=List.mem_iff_getElem?.1 hf
  exact Can.fields ht hc i f (by simpa using hi))
 exact ⟨d,h1,by simpa using h2⟩
theorem Rdr.aggV {t:TypeId} {fs:Array Field} {D:Type} {av:D→List AV} {ok:D→Prop} {v:Value} {d:DataW H} {p:List MemPlace} {r:Reach} {base:Nat} (h:Rdr enc P w t D av ok) (ht:P.underlying t=some (.struct fs)) (hv:Value.okWide P w r base t v) (hd:DataW.Trod enc P w 0 (fun _=>true) true t v d p) :
  ∃ x,ok x∧Rel (fun _=>none) (fun _=>False) w (.agg (av x)) v:=by
 obtain ⟨cs,rfl,hs⟩:=okWide_struct ht hv
 obtain ⟨x,h1,h2⟩:=h _ (Can.of hd) (by simpa [Value.cells] using hs)
 refine ⟨x,h1,?_⟩
 have:=h2.agg
 simpa [Value.cells] using this
theorem Rdr.oneV {t:TypeId} {D:Type} {a:D→AV} {ok:D→Prop} {v:Value} {d:DataW H} {p:List MemPlace} (h:Rdr enc P w t D (fun x=>[a x]) ok) (hv:v.cells = #[v]) (hc:P.cellsOf t=1) (hd:DataW.Trod enc P w 0 (fun _=>true) true t v d p):∃ x,ok x∧Rel (fun _=>none) (fun _=>False) w (a x) v:=by
 obtain ⟨x,h1,h2⟩:=h _ (Can.of hd) (by rw [hv,hc];rfl)
 rw [hv] at h2
 exact ⟨x,h1,CellsAre.val h2⟩
end
end Go.Proofs.Ytgecmooedhnenaa
namespace Go.Proofs.Ytgecmooedhnenaa
open Go.RowKit
def smallL (l:List Int):List Int:=l.map fun v=>v % 256
theorem u8conv (n:Int):IntKind.u8.wrap n=n % 256:=IntKind.wrap_u8' n
theorem small_any (v:Value) (xs:List Int) (w:World) (hv:Rd w v (xs.map (Value.int .i8))) (hl:xs.length≤1000000) :
  Calls Try.prog 258 #[v] w fun e w'=>∃ r,e=.returned r∧Own w.heap.size w' 5 r ((smallL xs).map (Value.int .u8))∧Below w.heap.size w w':=by
 obtain ⟨a,c,rfl,hle,hm,ha⟩:=hv.ints
 obtain ⟨i0,hi,hz0,hz1,hz2⟩:=info_parts (show (Try.prog.info? 5).map (fun i=>(i.zero,i.size,i.bytes))=some (some (.int .u8 0),1,1) from by kernel_rfl)
 have hsl:((smallL xs).map (Value.int .u8)).length=xs.length:=by simp [smallL]
 have HSL:=Lib.hid hsl;clear hsl
 go_enter Try.func258,Try.ntmps258
 go_wp2_with (at_make;refine wpList_makeO w rfl _ _ 64 rfl 5 i0 (.int .u8 0) 1 Try.underlying64 hi hz0 hz1 hz2 (by decide) rfl _ _ xs.length rfl rfl (by omega) ?_)
 intro w1 hown hb1
 obtain ⟨g,hg⟩:∃ g,g=w.heap.size:=⟨_,rfl⟩
 rw [←hg] at hown ⊢
 have HG:=Lib.hid hg;clear hg
 go_wp2_with fail
 go_loopw [4,5,11] (fun _ _ i wr=>∃ (k:Nat),i=.int .i64 k∧k≤xs.length∧Own g wr 5 (.slice (some ⟨g,0,none⟩) xs.length xs.length) (fill ((smallL xs).map (Value.int .u8)) (List.replicate xs.length (.int .u8 0)) k)∧Below w.heap.size w wr) (fun _ _ i _=>xs.length-(intOf i).toNat)
 case atStart=>exact ⟨0,rfl,by omega,by rw [fill_zero];exact hown,hb1⟩
 case round =>
  obtain ⟨k,rfl,hk,hown,hb⟩:=hrel
  by_cases hlt:k<xs.length
  ·obtain ⟨b,o,rfl,hc⟩:=ha (by intro h;subst h;simp at hlt)
   have hcell:=bl_get hb (hc k hlt)
   obtain ⟨x1,x2,x3,x4,h5,h6,h7⟩:=hown.at (by intro h;have:=congrArg List.length h;rw [fill_len _ _ (by rw [HSL.out];simp),HSL.out,List.length_nil] at this;omega)
   have hl:=fill_len ((smallL xs).map (Value.int .u8)) (List.replicate xs.length (.int .u8 0)) (by rw [HSL.out];simp) k
   rw [HSL.out] at hl
   obtain ⟨y,c9⟩:∃ y,wr.cell? ⟨g,k,none⟩=some y:=⟨_,h5 k (by omega)⟩
   have f9:=h6 k
   have H7:=Lib.hid (h7 k (.int .u8 (xs[k] % 256)) (by omega))
   have hget:((smallL xs).map (Value.int .u8))[k]? = some (.int .u8 (xs[k] % 256)):=by simp [smallL,hlt]
   have HGT:=Lib.hid hget
   obtain ⟨x,hx⟩:∃ x,x=xs[k]:=⟨_,rfl⟩
   rw [←hx] at hcell H7 HGT
   have hu8:IntKind.u8.wrap x=x % 256:=u8conv x
   have hgl:w.heap.size≤g:=by rw [HG.out];exact Nat.le_refl _
   have kk0:(0:Int)≤(k:Int):=by omega
   have kk1:(k:Int)<(xs.length:Int):=by omega
   clear h5 h6 h7 hl hown x1 x2 x3 x4 hget hx hc ha
   go_wp2_with fail
   go_roundw
   case rel =>
    refine ⟨k+1,by go_num,by omega,?_,hb.setCell hgl _⟩
    have:=H7.out
    rwa [fill_set _ _ (by rw [HSL.out];simp) k (by rw [HSL.out];exact hlt) _ HGT.out] at this
   case measure=>simp [intOf];omega
  ·obtain rfl:k=xs.length:=by omega
   have e:=fill_all ((smallL xs).map (Value.int .u8)) (List.replicate xs.length (.int .u8 0)) (by rw [HSL.out];simp)
   rw [HSL.out] at e
   rw [e] at hown
   clear e
   go_wp2
   go_ret
   exact ⟨_,rfl,by rw [←HG.out];exact hown,hb⟩
theorem refSmall_any (v:Value) (xs:List Int) (w:World) (hv:Rd w v (xs.map (Value.int .i8))) (hl:xs.length≤1000000) :
  Calls Try.prog 178 #[v] w fun e w'=>∃ r,e=.returned r∧Own w.heap.size w' 5 r ((smallL xs).map (Value.int .u8))∧Below w.heap.size w w':=by
 obtain ⟨a,c,rfl,hle,hm,ha⟩:=hv.ints
 obtain ⟨i0,hi,hz0,hz1,hz2⟩:=info_parts (show (Try.prog.info? 5).map (fun i=>(i.zero,i.size,i.bytes))=some (some (.int .u8 0),1,1) from by kernel_rfl)
 go_enter Try.func178,Try.ntmps178
 go_wp2_with fail
 go_loopw [3,4] (fun r i wr=>∃ (k:Nat),i=.int .i64 k∧k≤xs.length∧Own w.heap.size wr 5 r ((smallL (xs.take k)).map (Value.int .u8))∧Below w.heap.size w wr) (fun _ i _=>xs.length-(intOf i).toNat)
 case atStart=>exact ⟨0,rfl,by omega,Own.nil _ _ _,Below.refl _ _⟩
 case round =>
  obtain ⟨k,rfl,hk,hown,hb⟩:=hrel
  by_cases hlt:k<xs.length
  ·obtain ⟨b,o,rfl,hc⟩:=ha (by intro h;subst h;simp at hlt)
   have hcell:=bl_get hb (hc k hlt)
   have hst:(smallL (xs.take (k+1))).map (Value.int .u8)=(smallL (xs.take k)).map (Value.int .u8)++[.int .u8 (xs[k] % 256)]:=by
    unfold smallL;rw [List.take_succ_eq_append_getElem hlt,List.map_append,List.map_append];rfl
   have hlk:((smallL (xs.take k)).map (Value.int .u8)).length≤1000000:=by simp [smallL];omega
   obtain ⟨x,hx⟩:∃ x,x=xs[k]:=⟨_,rfl⟩
   rw [←hx] at hcell hst
   have hu8:IntKind.u8.wrap x=x % 256:=u8conv x
   have HST:=Lib.hid hst;have HO:=Lib.hid hown;have HLK:=Lib.hid hlk
   have kk0:(0:Int)≤(k:Int):=by omega
   have kk1:(k:Int)<(xs.length:Int):=by omega
   clear hst hx hc ha hown hlk
   go_wp2_with (at_builtin;refine hold ?_)
   refine unheld ?_
   refine wpList_app1 rfl _ _ 64 rfl w.heap.size 5 i0 (.int .u8 0) 1 Try.underlying64 hi hz0 hz1 hz2 (by decide) rfl _ _ wr (.int .u8 (x % 256)) _ HO.out rfl rfl rfl (by have:=HLK.out;omega) hb.size ?_
   intro v' w' hown' hb'
   have HO2:=Lib.hid hown';clear hown'
   go_wp2_with fail
   go_roundw
   case rel=>exact ⟨k+1,by go_num,by omega,by rw [HST.out];exact HO2.out,hb.trans hb'⟩
   case measure=>simp [intOf];omega
  ·have hkk:xs.take k=xs:=List.take_of_length_le (by omega)
   rw [hkk] at hown
   go_wp2
   go_ret
   exact ⟨_,rfl,hown,hb⟩
def putL (n:Nat):List Int:=if n<128 then [(n:Int)] else ((n % 128+128:Nat):Int)::putL (n / 128)
termination_by n
decreasing_by omega
theorem putL_len (k:Nat):∀ n,n<128 ^ (k+1)→(putL n).length≤k+1:=by
 induction k with
 | zero=>intro n h;rw [putL,if_pos (by omega)];simp
 | succ k ih =>
  intro n h
  rw [putL]
  by_cases hn:n<128
  ·rw [if_pos hn];simp
  ·rw [if_neg hn]
   have:=ih (n / 128) (by rw [Nat.pow_succ] at h;omega)
   simp only [List.length_cons];omega
theorem putL_len10 (n:Nat) (h:n<18446744073709551616):(putL n).length≤10:=putL_len 9 n (by omega)
theorem Try.info5:(Try.prog.info? 5).map (fun i=>(i.zero,i.size,i.bytes))=some (some (.int .u8 0),1,1):=by kernel_rfl
theorem or128 (n:Nat):bits BinOp.or IntKind.u8 ((n:Int) % 256) 128=((n % 128+128:Nat):Int):=by
 have h:∀ x:Fin 256,bits BinOp.or IntKind.u8 ((x.val:Nat):Int) 128=((x.val % 128+128:Nat):Int):=by decide +kernel
 have h':=h ⟨n % 256,by omega⟩
 have e1:((n:Int) % 256)=((n % 256:Nat):Int):=by omega
 have e2:n % 256 % 128=n % 128:=by omega
 rw [e1,h']
 show ((n % 256 % 128+128:Nat):Int)=_
 rw [e2]
theorem put_any (n:Int) (w:World) (h0:0≤n) (h1:n≤18446744073709551615) :
  Calls Try.prog 176 #[.int .u64 n] w fun e w'=>∃ v,e=.returned v∧Own w.heap.size w' 5 v ((putL n.toNat).map (Value.int .u8))∧Below w.heap.size w w':=by
 obtain ⟨i0,hi,hz0,hz1,hz2⟩:=info_parts Try.info5
 obtain ⟨m0,rfl⟩:=Int.eq_ofNat_of_zero_le h0
 have hl:=putL_len10 m0 (by omega)
 go_enter Try.func176,Try.ntmps176
 go_wp2
 go_loopw [0,3] (fun n v wr=>∃ (m:Nat) (acc:List Int),n=.int .u64 m∧m≤18446744073709551615∧Own w.heap.size wr 5 v (acc.map (Value.int .u8))∧Below w.heap.size w wr∧acc++putL m=putL m0)
  (fun n _ _=>(intOf n).toNat)
 case atStart=>exact ⟨m0,[],rfl,by omega,Own.nil _ _ _,Below.refl _ _,rfl⟩
 case round =>
  obtain ⟨m,acc,rfl,hm,hown,hb,hacc⟩:=hrel
  have hal:acc.length≤10:=by have:=congrArg List.length hacc;simp at this;omega
  have HA:=Lib.hid hacc;clear hacc
  have HM:=Lib.hid hm;clear hm;have H1:=Lib.hid h1;clear h1
  by_cases hlt:m<128
  ·go_wp2_with (at_builtin;go_must (refine wpList_app1 rfl _ _ 64 rfl w.heap.size 5 i0 (.int .u8 0) 1 Try.underlying64 hi hz0 hz1 hz2 (by decide) rfl _ _ _ _ _ hown rfl rfl rfl (by simp;omega) hb.size ?_))
   intro v' w1 hown1 hb1
   go_wp2
   go_ret
   refine ⟨v',rfl,?_,hb.trans hb1⟩
   rw [Int.toNat_natCast,←HA.out,putL,if_pos hlt,List.map_append];exact hown1
  ·go_wp2_with (at_builtin;go_must (refine wpList_app1 rfl _ _ 64 rfl w.heap.size 5 i0 (.int .u8 0) 1 Try.underlying64 hi hz0 hz1 hz2 (by decide) rfl _ _ _ _ _ hown rfl rfl rfl (by simp;omega) hb.size ?_))
   intro v' w1 hown1 hb1
   go_wp2
   go_roundw
   case rel =>
    refine ⟨m / 128,acc++[((m % 128+128:Nat):Int)],by go_num,by have:=HM.out;omega,?_,hb.trans hb1,?_⟩
    ·rw [List.map_append];rw [or128] at hown1;exact hown1
    ·rw [←HA.out,List.append_assoc];conv=>rhs;rw [putL,if_neg hlt]
     rfl
   case measure=>simp [intOf];omega
theorem refPut_any (n:Int) (w:World) (h0:0≤n) (h1:n≤18446744073709551615) :
  Calls Try.prog 177 #[.int .u64 n] w fun e w'=>∃ v,e=.returned v∧Own w.heap.size w' 5 v ((putL n.toNat).map (Value.int .u8))∧Below w.heap.size w w':=by
 obtain ⟨i0,hi,hz0,hz1,hz2⟩:=info_parts Try.info5
 obtain ⟨m0,rfl⟩:=Int.eq_ofNat_of_zero_le h0
 have hl:=putL_len10 m0 (by omega)
 have H1:=Lib.hid h1;clear h1
 go_enter Try.func177,Try.ntmps177
 go_wp2
 go_loopw [0,3] (fun n v wr=>∃ (m:Nat) (acc:List Int),n=.int .u64 m∧m≤18446744073709551615∧Own w.heap.size wr 5 v (acc.map (Value.int .u8))∧Below w.heap.size w wr∧acc++putL m=putL m0)
  (fun n _ _=>(intOf n).toNat)
 case atStart=>exact ⟨m0,[],rfl,by have:=H1.out;omega,Own.nil _ _ _,Below.refl _ _,rfl⟩
 case round =>
  obtain ⟨m,acc,rfl,hm,hown,hb,hacc⟩:=hrel
  have hal:acc.length≤10:=by have:=congrArg List.length hacc;simp at this;omega
  have HA:=Lib.hid hacc;clear hacc
  have hmi:(m:Int)≤18446744073709551615:=by omega
  have HM:=Lib.hid hm;clear hm
  by_cases hlt:m<128
  ·go_wp2_with (at_builtin;go_must (refine wpList_app1 rfl _ _ 64 rfl w.heap.size 5 i0 (.int .u8 0) 1 Try.underlying64 hi hz0 hz1 hz2 (by decide) rfl _ _ _ _ _ hown rfl rfl rfl (by simp;omega) hb.size ?_))
   intro v' w1 hown1 hb1
   go_wp2
   go_ret
   refine ⟨v',rfl,?_,hb.trans hb1⟩
   rw [Int.toNat_natCast,←HA.out,putL,if_pos hlt,List.map_append];exact hown1
  ·have ew:IntKind.u8.wrap ((m:Int) % 128+128)=((m % 128+128:Nat):Int):=by rw [IntWalk.u8_in _ (by omega)];omega
   go_wp2_with (at_builtin;go_must (refine wpList_app1 rfl _ _ 64 rfl w.heap.size 5 i0 (.int .u8 0) 1 Try.underlying64 hi hz0 hz1 hz2 (by decide) rfl _ _ _ _ _ hown rfl rfl rfl (by simp;omega) hb.size ?_))
   intro v' w1 hown1 hb1
   go_wp2
   go_roundw
   case rel =>
    refine ⟨m / 128,acc++[((m % 128+128:Nat):Int)],by go_num,by have:=HM.out;omega,?_,hb.trans hb1,?_⟩
    ·rw [List.map_append];exact hown1
    ·rw [←HA.out,List.append_assoc];conv=>rhs;rw [putL,if_neg hlt]
     rfl
   case measure=>simp [intOf];omega
def foldN (v:Int):Int:=if 0≤v then 2*v else 2*(-(v+1))+1
theorem fold_any (v:Int) (w:World) (h0 : -9223372036854775808≤v) (h1:v≤9223372036854775807) :
  Calls Try.prog 211 #[.int .i64 v] w fun e w'=>e=.returned (.int .u64 (foldN v))∧w=w':=by
 by_cases hv:0≤v
 ·go_enter Try.func211,Try.ntmps211
  go_wp2
  go_ret
  exact ⟨ret_int (by unfold foldN;rw [if_pos hv]),rfl⟩
 ·go_enter Try.func211,Try.ntmps211
  go_wp2
  go_ret
  exact ⟨ret_int (by unfold foldN;rw [if_neg (by omega)]),rfl⟩
theorem xor_ones (a:Nat) (h:a<18446744073709551616):a ^^^ 18446744073709551615=18446744073709551615-a:=by
 have h1:=congrArg BitVec.toNat (BitVec.xor_allOnes (x:=BitVec.ofNat 64 a))
 rw [BitVec.toNat_xor,BitVec.toNat_not,BitVec.toNat_allOnes,BitVec.toNat_ofNat,Nat.mod_eq_of_lt (by omega)] at h1
 simpa using h1
theorem fold_xor_pos (v:Int) (h0:0≤v) (h1:v≤9223372036854775807):bits BinOp.xor IntKind.u64 (v*2) (v / 9223372036854775808)=foldN v:=by
 rw [PlainAid.shr63_nonneg h0 h1,u64_xor _ _ (by omega) (by omega) (by omega) (by omega)]
 unfold foldN;rw [if_pos h0]
 simp;omega
theorem fold_xor_neg (v:Int) (h0:v<0) (h1 : -9223372036854775808≤v) :
  bits BinOp.xor IntKind.u64 (IntKind.u64.wrap (IntKind.u64.wrap v*2)) (IntKind.u64.wrap (v / 9223372036854775808))=foldN v:=by
 rw [PlainAid.shr63_neg h0 h1]
 have e1:IntKind.u64.wrap (-1)=18446744073709551615:=by decide
 have e2:IntKind.u64.wrap (IntKind.u64.wrap v*2)=2*v+18446744073709551616:=by
  simp only [IntKind.wrap_u64];omega
 rw [e1,e2,u64_xor _ _ (by omega) (by omega) (by omega) (by omega)]
 have e3:(18446744073709551615:Int).toNat=18446744073709551615:=by decide
 rw [e3,xor_ones _ (by omega)]
 unfold foldN;rw [if_neg (by omega)]
 omega
theorem foldN_bd (v:Int) (h0 : -9223372036854775808≤v) (h1:v≤9223372036854775807):0≤foldN v∧foldN v≤18446744073709551615:=by
 unfold foldN;split<;>omega
theorem putInt_any (v:Int) (w:World) (h0 : -9223372036854775808≤v) (h1:v≤9223372036854775807) :
  Calls Try.prog 260 #[.int .i64 v] w fun e w'=>∃ r,e=.returned r∧Own w.heap.size w' 5 r ((putL (foldN v).toNat).map (Value.int .u8))∧Below w.heap.size w w':=by
 have hf:=foldN_bd v h0 h1
 by_cases hv:0≤v
 ·have he:=Lib.hid (fold_xor_pos v hv h1)
  go_enter Try.func260,Try.ntmps260
  go_wp2_with fail
  rw [he.out]
  refine (put_any _ _ hf.1 hf.2).mono ?_
  rintro e w1 ⟨r,rfl,hown,hb⟩
  go_wp2
  go_ret
  exact ⟨r,rfl,hown,hb⟩
 ·have he:=Lib.hid (fold_xor_neg v (by omega) h0)
  go_enter Try.func260,Try.ntmps260
  go_wp2_with fail
  rw [he.out]
  refine (put_any _ _ hf.1 hf.2).mono ?_
  rintro e w1 ⟨r,rfl,hown,hb⟩
  go_wp2
  go_ret
  exact ⟨r,rfl,hown,hb⟩
end Go.Proofs.Ytgecmooedhnenaa
namespace Go.Proofs.Ytgecmooedhnenaa
def val:List Int→Int
 | []=>0
 | c::r=>c % 128+128*val r
def fin:List Int→Nat→Option Nat
 | [],_=>none
 | c::r,k=>if 10≤k then none else if c<128 then some 0 else (fin r (k+1)).map (· + 1)
def getAt:List Int→Nat→Int→Int×Int×Int
 | [],_,_=>(0,0,20)
 | c::r,k,n =>
  if k=9∧1<c then (0,0,21) else if c=0∧0<k then (0,0,21) else
  if c<128 then (n+c % 128*128 ^ k,(k:Int)+1,0) else getAt r (k+1) (n+c % 128*128 ^ k)
def refGet (xs:List Int) (k:Nat) (n:Int):Int×Int×Int :=
 match fin xs k with
 | none=>(0,0,if 10≤xs.length+k then 21 else 20)
 | some j=>if (j+k=9∧1<xs.getD j 0)∨(0<j+k∧xs.getD j 0=0) then (0,0,21) else (n+128 ^ k*val (xs.take (j+1)),(k:Int)+j+1,0)
theorem fin_lt:∀ (xs:List Int) (k j:Nat),fin xs k=some j→j<xs.length∧j+k<10
 | [],_,_,h=>by simp [fin] at h
 | c::r,k,j,h=>by
  rw [fin] at h
  split at h
  ·simp at h
  ·split at h
   ·simp at h;subst h;simp;omega
   ·obtain ⟨i,hi,rfl⟩:=Option.map_eq_some_iff.1 h
    have:=fin_lt r (k+1) i hi
    simp;omega
theorem getAt_eq:∀ (xs:List Int) (k:Nat) (n:Int),k≤9→getAt xs k n=refGet xs k n
 | [],k,n,hk=>by simp [getAt,refGet,fin];omega
 | c::r,k,n,hk=>by
  have e10:¬ 10≤k:=by omega
  by_cases h128:c<128
  ·have hf:fin (c::r) k=some 0:=by rw [fin,if_neg e10,if_pos h128]
   rw [getAt,refGet,hf]
   simp only [List.getD_cons_zero,Nat.zero_add]
   by_cases h1:k=9∧1<c
   ·rw [if_pos h1,if_pos (.inl h1)]
   ·rw [if_neg h1]
    by_cases h2:c=0∧0<k
    ·rw [if_pos h2,if_pos (.inr ⟨h2.2,h2.1⟩)]
    ·rw [if_neg h2,if_pos h128,if_neg (by intro h;rcases h with h | h;exact h1 h;exact h2 ⟨h.2,h.1⟩)]
     simp [val,Int.mul_comm]
  ·by_cases h9:k=9
   ·subst h9
    rw [getAt,if_pos ⟨rfl,by omega⟩,refGet]
    have hf:fin (c::r) 9=none:=by
     rw [fin,if_neg e10,if_neg h128]
     cases hr:fin r (9+1) with
     | none=>rfl
     | some j=>have:=fin_lt r _ _ hr;omega
    rw [hf];simp
   ·rw [getAt,if_neg (by omega),if_neg (by omega),if_neg h128,getAt_eq r (k+1) _ (by omega),refGet,refGet]
    have hf:fin (c::r) k=(fin r (k+1)).map (· + 1):=by rw [fin,if_neg e10,if_neg h128]
    rw [hf]
    cases hr:fin r (k+1) with
    | none=>simp;omega
    | some j =>
     simp only [Option.map_some,List.getD_cons_succ]
     have e:j+(k+1)=j+1+k:=by omega
     rw [e]
     split
     ·rfl
     ·simp only [List.take_succ_cons,val,Prod.mk.injEq]
      refine ⟨?_,by omega,trivial⟩
      rw [Int.mul_add,Int.pow_succ,←Int.mul_assoc,Int.mul_comm (c % 128)]
      omega
theorem pow_pos128 (k:Nat):(0:Int)<128 ^ k:=Int.pow_pos (by decide)
theorem get_put (b:List Int):∀ (n k:Nat) (acc:Int),k≤9→n<128 ^ (9-k)*2→(k=0∨0<n) →
  getAt (putL n++b) k acc=(acc+128 ^ k*n,(k:Int)+(putL n).length,0):=by
 intro n
 induction n using Nat.strongRecOn with
 | _ n ih =>
  intro k acc hk hn hz
  by_cases h:n<128
  ·have e:putL n=[(n:Int)]:=by rw [putL,if_pos h]
   rw [e,List.singleton_append,getAt,if_neg (by rintro ⟨rfl,h1⟩;simp at hn;omega),if_neg (by omega),if_pos (by omega)]
   have:(n:Int) % 128=n:=by omega
   simp [this,Int.mul_comm]
  ·have e:putL n=((n % 128+128:Nat):Int)::putL (n / 128):=by rw [putL,if_neg h]
   have h9:k≠9:=by rintro rfl;simp at hn;omega
   have hd:n / 128<128 ^ (9-(k+1))*2:=by
    have e2:9-k=(9-(k+1))+1:=by omega
    rw [e2,Nat.pow_succ] at hn
    rw [Nat.div_lt_iff_lt_mul (by decide)]
    rw [Nat.mul_right_comm] at hn;exact hn
   rw [e,List.cons_append,getAt,if_neg (by omega),if_neg (by omega),if_neg (by omega),ih (n / 128) (by omega) (k+1) _ (by omega) hd (.inr (by omega))]
   have e3:((n % 128+128:Nat):Int) % 128=((n % 128:Nat):Int):=by omega
   rw [e3]
   simp only [Prod.mk.injEq,List.length_cons]
   refine ⟨?_,by omega,trivial⟩
   have e4:(n:Int)=((n % 128:Nat):Int)+128*((n / 128:Nat):Int):=by omega
   conv=>rhs;rw [e4]
   rw [Int.mul_add,Int.pow_succ,←Int.mul_assoc,Int.mul_comm (((n % 128:Nat):Int))]
   omega
theorem val_nonneg:∀ (xs:List Int),0≤val xs
 | []=>by simp [val]
 | c::r=>by have:=val_nonneg r;rw [val];omega
theorem put_val:∀ (xs:List Int) (k j:Nat),(∀ x∈xs,0≤x∧x≤255)→fin xs k=some j→(0<k+j→xs.getD j 0≠0) →
  putL (val (xs.take (j+1))).toNat=xs.take (j+1)∧(0<k+j→0<val (xs.take (j+1)))
 | [],_,_,_,h,_=>by simp [fin] at h
 | c::r,k,j,hb,h,hz=>by
  have hc:=hb c (by simp)
  rw [fin] at h
  split at h
  ·simp at h
  ·split at h
   ·rename_i h128
    simp at h;subst h
    simp only [List.take_succ_cons,List.take_zero,val,List.getD_cons_zero] at hz ⊢
    have e:c % 128+128*0=c:=by omega
    rw [e,putL,if_pos (by omega)]
    refine ⟨by simp;omega,fun hk=>?_⟩
    have:=hz (by omega)
    omega
   ·rename_i h128
    obtain ⟨i,hi,rfl⟩:=Option.map_eq_some_iff.1 h
    have ih:=put_val r (k+1) i (fun x hx=>hb x (by simp [hx])) hi (fun _=>by have:=hz (by omega);simpa using this)
    have hp:=ih.2 (by omega)
    simp only [List.take_succ_cons,val] at ih hp ⊢
    refine ⟨?_,fun _=>by omega⟩
    rw [putL,if_neg (by omega)]
    have e1:(c % 128+128*val (r.take (i+1))).toNat / 128=(val (r.take (i+1))).toNat:=by omega
    rw [e1,ih.1]
    congr 1
    omega
theorem get_back (xs:List Int) (hb:∀ x∈xs,0≤x∧x≤255) (w m:Int) (h:getAt xs 0 0=(w,m,0)):0<m∧m≤xs.length∧putL w.toNat=xs.take m.toNat:=by
 rw [getAt_eq xs 0 0 (by omega),refGet] at h
 cases hf:fin xs 0 with
 | none=>rw [hf] at h;simp at h;split at h<;>omega
 | some j =>
  rw [hf] at h
  have hj:=fin_lt xs 0 j hf
  simp only [Nat.add_zero] at h
  split at h
  ·simp at h
  ·rename_i hn
   simp at h
   obtain ⟨rfl,rfl⟩:=h
   have:=put_val xs 0 j hb hf (fun h0=>by intro he;exact hn (.inr ⟨by omega,he⟩))
   refine ⟨by omega,by omega,?_⟩
   have e:((j:Int)+1).toNat=j+1:=by omega
   rw [e];exact this.1
def unfoldN (n:Int):Int:=if n % 2=0 then n / 2 else -(n / 2)-1
end Go.Proofs.Ytgecmooedhnenaa
namespace Go.Proofs.Ytgecmooedhnenaa
open Go.RowKit
def tup3 (r:Int×Int×Int):Value:=.tuple #[.int .u64 r.1,.int .i64 r.2.1,.int .i64 r.2.2]
theorem getAt_step (xs:List Int) (k:Nat) (n c:Int) (r:List Int) (h:xs=c::r):getAt xs k n =
  if k=9∧1<c then (0,0,21) else if c=0∧0<k then (0,0,21) else
  if c<128 then (n+c % 128*128 ^ k,(k:Int)+1,0) else getAt r (k+1) (n+c % 128*128 ^ k):=by rw [h,getAt]
theorem drop_cons (xs:List Int) (k:Nat) (h:k<xs.length):xs.drop k=xs[k]::xs.drop (k+1):=List.drop_eq_getElem_cons h
theorem and127 (c:Int) (h0:0≤c) (h1:c≤255):bits BinOp.and IntKind.u8 c 127=c % 128:=by
 have h:∀ x:Fin 256,bits BinOp.and IntKind.u8 ((x.val:Nat):Int) 127=((x.val:Nat):Int) % 128:=by decide +kernel
 have h':=h ⟨c.toNat,by omega⟩
 rw [show ((c.toNat:Nat):Int)=c from by omega] at h'
 exact h'
theorem orstep (k:Nat) (m c:Int) (hk:k≤9) (m0:0≤m) (m1:m<128 ^ k) (h0:0≤c) (h1:c≤255) (h9:k=9→c≤1) :
  bits BinOp.or IntKind.u64 m (IntKind.u64.wrap (IntKind.u64.wrap (bits BinOp.and IntKind.u8 c 127)*2 ^ (7*k)))=m+c % 128*128 ^ k:=by
 rw [and127 c h0 h1]
 have e1:IntKind.u64.wrap (c % 128)=c % 128:=IntWalk.u64_in _ (by omega)
 have e2:(2:Int) ^ (7*k)=128 ^ k:=by rw [Int.pow_mul];rfl
 rw [e1,e2]
 obtain ⟨M,rfl⟩:=Int.eq_ofNat_of_zero_le m0
 obtain ⟨x,hx⟩:=Int.eq_ofNat_of_zero_le (show 0≤c % 128 by omega)
 rw [hx]
 have e3:((x:Int)*128 ^ k)=((x*128 ^ k:Nat):Int):=by simp
 have hM:M<128 ^ k:=by
  have e:((128:Int) ^ k)=((128 ^ k:Nat):Int):=by simp
  rw [e] at m1;omega
 have hb:x*128 ^ k+M<18446744073709551616:=by
  have hxl:x≤127:=by omega
  by_cases h:k=9
  ·subst h
   have:=h9 rfl
   have:x≤1:=by omega
   have:=Nat.mul_le_mul_right (128 ^ 9) this
   omega
  ·have hp:128 ^ k≤128 ^ 8:=Nat.pow_le_pow_right (by decide) (by omega)
   have:=Nat.mul_le_mul hxl hp
   omega
 have e4:IntKind.u64.wrap ((x:Int)*128 ^ k)=((x*128 ^ k:Nat):Int):=by
  rw [e3];exact IntWalk.u64_in _ (by omega)
 rw [e4,u64_or_nat _ _ (by omega) (by omega)]
 have e5:(128:Nat) ^ k=2 ^ (7*k):=by rw [Nat.pow_mul]
 rw [e5] at hM ⊢
 have e6:=Nat.two_pow_add_eq_or_of_lt hM x
 rw [Nat.mul_comm x,Nat.or_comm,←e6]
 have e7:(128:Int) ^ k=((2 ^ (7*k):Nat):Int):=by rw [←e5];simp
 rw [e7]
 rw [Int.mul_comm]
 omega
theorem tup3_of (a:Int) (b c:Int) (r:Int×Int×Int) (h:r=(a,b,c)):tup3 r=.tuple #[.int .u64 a,.int .i64 b,.int .i64 c]:=by rw [h];rfl
theorem getAt_more (k:Nat) (m c:Int) (m0:0≤m) (m1:m<128 ^ k):0≤m+c % 128*128 ^ k∧m+c % 128*128 ^ k<128 ^ (k+1):=by
 have hp:=pow_pos128 k
 have h1:0≤c % 128*128 ^ k:=Int.mul_nonneg (by omega) (by omega)
 have h2:c % 128*128 ^ k≤127*128 ^ k:=Int.mul_le_mul_of_nonneg_right (by omega) (by omega)
 rw [Int.pow_succ]
 constructor<;>omega
theorem get_any (v:Value) (xs:List Int) (w:World) (hv:Rd w v (xs.map (Value.int .u8))) (hb:∀ x∈xs,0≤x∧x≤255) (hx:xs.length≤1099511627776) :
  Calls Try.prog 213 #[v] w fun e w'=>e=.returned (tup3 (getAt xs 0 0))∧Below w.heap.size w w':=by
 obtain ⟨ao,ca,rfl,_,ha⟩:=hv
 simp only [List.length_map]
 have HB:=Lib.hid hb;clear hb
 go_enter Try.func213,Try.ntmps213
 go_wp2
 go_step3
 go_wp2
 go_step3
 go_wp2
 go_loopw [5,6,11] (fun n sz i wr=>∃ (k:Nat) (m:Int),i=.int .i64 k∧k≤xs.length∧k≤9∧n=.int .u64 m∧0≤m∧m<128 ^ k∧sz=.int .i64 0∧getAt (xs.drop k) k m=getAt xs 0 0∧Below w.heap.size w wr)
  (fun _ _ i _=>xs.length-(intOf i).toNat)
 case atStart=>exact ⟨0,0,rfl,by omega,by omega,rfl,by omega,by simp,rfl,rfl,Below.refl _ _⟩
 case round =>
  obtain ⟨k,m,rfl,hk,hk9,rfl,hm0,hm1,rfl,hg,hbw⟩:=hrel
  have HG:=Lib.hid hg;have HM:=Lib.hid hm1;clear hg hm1
  by_cases hlt:k<xs.length
  ·obtain ⟨b,o,rfl,hc⟩:=ha (by intro h;simp at h;subst h;simp at hlt)
   have hcell:=bl_get hbw (hc k (by simpa using hlt))
   simp only [List.getElem_map] at hcell
   have hcb:=HB.out xs[k] (List.getElem_mem hlt)
   have hs:=getAt_step (xs.drop k) k m xs[k] _ (drop_cons xs k hlt)
   rw [HG.out] at hs
   obtain ⟨c,hcc⟩:∃ c,c=xs[k]:=⟨_,rfl⟩
   rw [←hcc] at hcell hcb hs
   obtain ⟨hc0,hc1⟩:=hcb
   have HC:=Lib.hid hcc;clear hcc hc ha
   by_cases h1:k=9∧1<c
   ·rw [if_pos h1] at hs
    have HS:=Lib.hid hs;clear hs
    obtain ⟨rfl,h1⟩:=h1
    go_wp2
    (try rw [Exit.noGoto_ret]);go_ret3
    exact ⟨by rw [HS.out];rfl,hbw⟩
   ·rw [if_neg h1] at hs
    by_cases h2:c=0∧0<k
    ·rw [if_pos h2] at hs
     have HS:=Lib.hid hs;clear hs h1
     obtain ⟨rfl,h2⟩:=h2
     by_cases h9:k=9
     ·subst h9
      go_wp2
      (try rw [Exit.noGoto_ret]);go_ret3
      exact ⟨by rw [HS.out];rfl,hbw⟩
     ·go_wp2
      (try rw [Exit.noGoto_ret]);go_ret3
      exact ⟨by rw [HS.out];rfl,hbw⟩
    ·rw [if_neg h2] at hs
     by_cases h3:c<128
     ·rw [if_pos h3] at hs
      have HS:=Lib.hid hs;clear hs
      by_cases h9:k=9
      ·subst h9
       have hc2:c≤1:=by omega
       have hc3:1≤c:=by omega
       clear h1 h2
       go_wp2
       (try rw [Exit.noGoto_ret]);go_ret3
       refine ⟨?_,hbw⟩
       have e:=orstep 9 m c (by omega) hm0 HM.out hc0 hc1 (fun _=>hc2)
       rw [HS.out,←e];rfl
      ·clear h1
       by_cases h4:k=0
       ·subst h4
        simp only [Nat.add_zero] at hcell
        clear h2
        by_cases h5:c=0
        ·subst h5
         go_wp2
         (try rw [Exit.noGoto_ret]);go_ret3
         refine ⟨?_,hbw⟩
         have e:=orstep 0 m 0 (by omega) hm0 HM.out (by omega) (by omega) (by omega)
         simp only [Nat.mul_zero,Int.pow_zero,Int.mul_one] at e
         rw [HS.out];simp only [Int.pow_zero,Int.mul_one];rw [←e];rfl
        ·have hc3:1≤c:=by omega
         go_wp2
         (try rw [Exit.noGoto_ret]);go_ret3
         refine ⟨?_,hbw⟩
         have e:=orstep 0 m c (by omega) hm0 HM.out (by omega) (by omega) (by omega)
         simp only [Nat.mul_zero,Int.pow_zero,Int.mul_one] at e
         rw [HS.out];simp only [Int.pow_zero,Int.mul_one];rw [←e];rfl
       ·have hc3:1≤c:=by omega
        clear h2
        go_wp2
        (try rw [Exit.noGoto_ret]);go_ret3
        refine ⟨?_,hbw⟩
        have e:=orstep k m c (by omega) hm0 HM.out hc0 hc1 (by omega)
        rw [HS.out,←e];rfl
     ·rw [if_neg h3] at hs
      have HS:=Lib.hid hs;clear hs
      have h9:k<9:=by omega
      clear h1 h2
      go_wp2
      go_roundw
      case rel =>
       have e:=orstep k m c (by omega) hm0 HM.out hc0 hc1 (by omega)
       have e2:=getAt_more k m c hm0 HM.out
       exact ⟨k+1,m+c % 128*128 ^ k,by go_num,by omega,by omega,by rw [e],e2.1,e2.2,rfl,HS.out.symm,hbw⟩
      case measure=>simp [intOf];omega
  ·have hv:getAt xs 0 0=(0,0,20):=by rw [←HG.out,List.drop_of_length_le (by omega)];rfl
   have HV:=Lib.hid hv;clear hv
   go_wp2
   (try rw [Exit.noGoto_ret]);go_ret3
   exact ⟨by rw [HV.out];rfl,hbw⟩
theorem fin_none_of:∀ (xs:List Int) (k:Nat),(∀ j (h:j<xs.length),j+k<10→¬ xs[j]<128)→fin xs k=none
 | [],_,_=>rfl
 | c::r,k,h=>by
  rw [fin]
  by_cases hk:10≤k
  ·rw [if_pos hk]
  ·have h0:¬ c<128:=h 0 (by simp) (by omega)
   rw [if_neg hk,if_neg h0,fin_none_of r (k+1) (fun j hj hjk=>h (j+1) (by simp;omega) (by omega))];rfl
theorem fin_some_of:∀ (xs:List Int) (k j:Nat) (hj:j<xs.length),j+k<10→xs[j]<128→(∀ i (h:i<j),¬ xs[i]<128)→fin xs k=some j
 | [],_,_,h,_,_,_=>by simp at h
 | c::r,k,0,_,hk,hx,_=>by
  rw [fin,if_neg (by omega),if_pos (by simpa using hx)]
 | c::r,k,j+1,hj,hk,hx,ha=>by
  have h0:¬ c<128:=ha 0 (by omega)
  rw [fin,if_neg (by omega),if_neg h0,fin_some_of r (k+1) j (by simpa using hj) (by omega) (by simpa using hx) (fun i hi=>by simpa using ha (i+1) (by omega))];rfl
def Seen (xs:List Int) (k:Nat) (e:Int):Prop :=
 (e = -1∧∀ i (h:i<xs.length),i<k→¬ xs[i]<128)∨(∃ j:Nat,e=j∧∃ hj:j<xs.length,j<k∧xs[j]<128∧∀ i (_:i<j),¬ xs[i]<128)
theorem val_drop (xs:List Int) (t:Nat) (h:t<xs.length):val (xs.drop t)=xs[t] % 128+128*val (xs.drop (t+1)):=by
 rw [List.drop_eq_getElem_cons h,val]
theorem val_drop_le:∀ (xs:List Int) (t:Nat),val (xs.drop t)≤val xs
 | [],t=>by simp
 | c::r,0=>by simp
 | c::r,t+1=>by
  have h1:=val_drop_le r t
  have h2:=val_nonneg r
  simp only [List.drop_succ_cons,val];omega
theorem val_bound:∀ (xs:List Int) (k:Nat),xs.length≤k+1→(∀ h:k<xs.length,xs[k]≤1)→(∀ x∈xs,0≤x)→val xs<128 ^ k*2
 | [],k,_,_,_=>by have:=pow_pos128 k;simp [val];omega
 | c::r,0,hl,hx,h0=>by
  have:r=[]:=by simpa using hl
  subst this
  have:=hx (by simp);simp at this
  have:=h0 c (by simp)
  simp [val];omega
 | c::r,k+1,hl,hx,h0=>by
  have ih:=val_bound r k (by simpa using hl) (fun h=>hx (by simpa using h)) (fun x hx=>h0 x (by simp [hx]))
  rw [val,Int.pow_succ];omega
theorem val_u64 (xs:List Int) (j:Nat) (hj:j<xs.length) (hj9:j≤9) (hx:j=9→xs[j]≤1) (h0:∀ x∈xs,0≤x):val (xs.take (j+1))≤18446744073709551615:=by
 have h:=val_bound (xs.take (j+1)) 9 (by simp;omega) (fun h=>by
  have hl:9<j+1:=by simp at h;omega
  have e:j=9:=by omega
  subst e
  have:=hx rfl
  simpa using this) (fun x hx=>h0 x (List.mem_of_mem_take hx))
 omega
theorem refGet_any (v:Value) (xs:List Int) (w:World) (hv:Rd w v (xs.map (Value.int .u8))) (hb:∀ x∈xs,0≤x∧x≤255) (hx:xs.length≤1099511627776) :
  Calls Try.prog 174 #[v] w fun e w'=>e=.returned (tup3 (getAt xs 0 0))∧Below w.heap.size w w':=by
 obtain ⟨ao,ca,rfl,_,ha⟩:=hv
 simp only [List.length_map]
 have HB:=Lib.hid hb;clear hb
 go_enter Try.func174,Try.ntmps174
 go_wp2
 go_loopw [5,6] (fun e i wr=>∃ (k:Nat) (E:Int),i=.int .i64 k∧k≤xs.length∧k≤10∧e=.int .i64 E∧Seen xs k E∧Below w.heap.size w wr)
  (fun _ i _=>xs.length-(intOf i).toNat)
 case atStart=>exact ⟨0,-1,rfl,by omega,by omega,rfl,.inl ⟨rfl,by omega⟩,Below.refl _ _⟩
 case round =>
  obtain ⟨k,E,rfl,hk,hk10,rfl,hs,hbw⟩:=hrel
  by_cases hlt:k<xs.length∧k<10
  ·obtain ⟨hlt,hlt10⟩:=hlt
   obtain ⟨b,o,rfl,hc⟩:=ha (by intro h;simp at h;subst h;simp at hlt)
   have hcell:=bl_get hbw (hc k (by simpa using hlt))
   simp only [List.getElem_map] at hcell
   have hcb:=HB.out xs[k] (List.getElem_mem hlt)
   obtain ⟨c,hcc⟩:∃ c,c=xs[k]:=⟨_,rfl⟩
   rw [←hcc] at hcell hcb
   obtain ⟨hc0,hc1⟩:=hcb
   have HC:=Lib.hid hcc;clear hcc hc ha
   have HS:=Lib.hid hs
   rcases hs with ⟨rfl,hs⟩ | ⟨j,rfl,hj,hjk,hx,hs⟩
   ·have H:=Lib.hid hs;clear hs
    by_cases h128:c<128
    ·go_wp2
     go_roundw
     case rel =>
      refine ⟨k+1,k,by go_num,by omega,by omega,rfl,.inr ⟨k,rfl,hlt,by omega,by rw [←HC.out];exact h128,fun i hi=>H.out i (by omega) hi⟩,hbw⟩
     case measure=>simp [intOf];omega
    ·go_wp2
     go_roundw
     case rel =>
      refine ⟨k+1,-1,by go_num,by omega,by omega,rfl,.inl ⟨rfl,fun i hi hik=>?_⟩,hbw⟩
      by_cases e:i=k
      ·subst e;rw [←HC.out];exact h128
      ·exact H.out i hi (by omega)
     case measure=>simp [intOf];omega
   ·have H:=Lib.hid hs;clear hs hx
    go_wp2
    go_roundw
    case rel =>
     refine ⟨k+1,j,by go_num,by omega,by omega,rfl,.inr ?_,hbw⟩
     rcases HS.out with ⟨h,_⟩ | ⟨j',h,r⟩
     ·omega
     ·obtain ⟨r1,r2,r3⟩:=r
      exact ⟨j',h,r1,by omega,r3⟩
    case measure=>simp [intOf];omega
  ·have hend:k=xs.length∨k=10:=by omega
   rcases hs with ⟨rfl,hs⟩ | ⟨j,rfl,hj,hjk,hx,hs⟩
   ·have hf:fin xs 0=none:=fin_none_of xs 0 (fun j hj hj10=>hs j hj (by omega))
    clear hs
    by_cases h10:10≤xs.length
    ·have hg:getAt xs 0 0=(0,0,21):=by rw [getAt_eq xs 0 0 (by omega),refGet,hf];simp;omega
     have HG:=Lib.hid hg;have HF:=Lib.hid hf;clear hg hf
     have hk':k=10:=by omega
     subst hk'
     clear hend hlt
     go_wp2
     all_goals
      go_ret3
      exact ⟨by rw [HG.out];rfl,hbw⟩
    ·have hg:getAt xs 0 0=(0,0,20):=by rw [getAt_eq xs 0 0 (by omega),refGet,hf];simp;omega
     have HG:=Lib.hid hg;have HF:=Lib.hid hf;clear hg hf
     obtain rfl:k=xs.length:=by omega
     clear hend hlt
     go_wp2
     go_ret3
     exact ⟨by rw [HG.out];rfl,hbw⟩
   ·have hf:fin xs 0=some j:=fin_some_of xs 0 j hj (by omega) hx (fun i hi=>hs i hi)
    have hne:xs≠[]:=by intro h;subst h;simp at hj
    obtain ⟨b,o,rfl,hc⟩:=ha (by simpa using hne)
    have hcell:=bl_get hbw (hc j (by simpa using hj))
    simp only [List.getElem_map] at hcell
    have hxb:=HB.out xs[j] (List.getElem_mem hj)
    have hg:=getAt_eq xs 0 0 (by omega)
    rw [refGet,hf] at hg
    simp only [Nat.add_zero,List.getD_eq_getElem?_getD,List.getElem?_eq_getElem hj,Option.getD_some] at hg
    obtain ⟨x,hxx⟩:∃ x,x=xs[j]:=⟨_,rfl⟩
    have hvu:(j=9→x≤1)→val (xs.take (j+1))≤18446744073709551615:=fun h=>val_u64 xs j hj (by omega) (by rw [←hxx];exact h) (fun x hx=>(HB.out x hx).1)
    rw [←hxx] at hcell hxb hx hg
    obtain ⟨hx0,hx1⟩:=hxb
    have HX:=Lib.hid hxx;have HV:=Lib.hid hvu;have HS:=Lib.hid hs;have HCC:=Lib.hid hc;have HF:=Lib.hid hf;clear hs hf hxx ha hc hvu
    by_cases e1:j=9∧1<x
    ·rw [if_pos (.inl e1)] at hg
     have HG:=Lib.hid hg;clear hg
     obtain ⟨rfl,e1⟩:=e1
     obtain rfl:k=10:=by omega
     clear hend hlt
     go_wp2
     all_goals
      go_ret3
      exact ⟨by rw [HG.out];rfl,hbw⟩
    ·by_cases e2:0<j∧x=0
     ·rw [if_pos (.inr e2)] at hg
      have HG:=Lib.hid hg;clear hg
      obtain ⟨e2,rfl⟩:=e2
      clear e1
      by_cases e9:j=9
      ·subst e9
       obtain rfl:k=10:=by omega
       clear hend hlt
       go_wp2
       all_goals
        go_ret3
        exact ⟨by rw [HG.out];rfl,hbw⟩
      ·go_wp2
       all_goals
        go_ret3
        exact ⟨by rw [HG.out];rfl,hbw⟩
     ·rw [if_neg (by intro h;rcases h with h | h;exact e1 h;exact e2 h)] at hg
      have HG:=Lib.hid hg;have HJ:=Lib.hid hj
      have HQ:Hid (j=9→x≤1):=Lib.hid (fun h=>by omega)
      clear hg
      by_cases e9:j=9
      ·subst e9
       have hx2:x≤1:=by omega
       have hx3:1≤x:=by omega
       obtain rfl:k=10:=by omega
       clear hend hlt e1 e2
       go_wp2
       all_goals
        go_loopw [7,8] (fun n i wr2=>∃ I:Int,-1≤I∧I≤9∧i=.int .i64 I∧n=.int .u64 (val ((xs.take (9+1)).drop (I+1).toNat))∧Below w.heap.size w wr2) (fun _ i _=>(intOf i+1).toNat)
        case atStart=>exact ⟨9,by omega,by omega,rfl,by rw [List.drop_of_length_le (by simp;omega)];rfl,hbw⟩
        case round =>
         obtain ⟨I,hI1,hI2,rfl,rfl,hbw2⟩:=hrel
         by_cases hI:I = -1
         ·subst hI
          go_wp2
          go_ret3
          refine ⟨?_,hbw2⟩
          rw [tup3_of _ _ _ _ HG.out]
          simp
         ·obtain ⟨s,rfl⟩:=Int.eq_ofNat_of_zero_le (show 0≤I by omega)
          have hsl:s<(xs.take (9+1)).length:=by have:=(HJ.out:9<xs.length);simp;omega
          have hvd:=val_drop _ s hsl
          have hle:=val_drop_le (xs.take (9+1)) s
          have hV:=HV.out HQ.out
          have hn:=val_nonneg ((xs.take (9+1)).drop (s+1))
          have hsx:s<xs.length:=by have:=(HJ.out:9<xs.length);omega
          have hcs:=bl_get hbw2 (HCC.out s (by simpa using hsx))
          simp only [List.getElem_map] at hcs
          have hyb:=HB.out xs[s] (List.getElem_mem hsx)
          rw [List.getElem_take] at hvd
          obtain ⟨y,hy⟩:∃ y,y=xs[s]:=⟨_,rfl⟩
          rw [←hy] at hcs hyb hvd
          have et:((s:Int)+1).toNat=s+1:=by omega
          rw [et]
          obtain ⟨V,hVV⟩:∃ V,V=val ((xs.take (9+1)).drop (s+1)):=⟨_,rfl⟩
          rw [←hVV] at hvd hn ⊢
          have hb1:V*128+y % 128≤18446744073709551615:=by omega
          have hb2:V*128≤18446744073709551615:=by omega
          have HVD:=Lib.hid hvd;have HVV:=Lib.hid hVV;have HY:=Lib.hid hy
          obtain ⟨hy0,hy1⟩:=hyb
          clear hvd hVV hy hle hV
          go_wp2
          go_roundw
          case rel=>exact ⟨(s:Int)-1,by omega,by omega,by go_num,by rw [show ((s:Int)-1+1).toNat=s from by omega,HVD.out,Int.mul_comm 128,Int.add_comm],hbw2⟩
          case measure=>simp [intOf]
      ·by_cases e0:j=0
       ·subst e0
        simp only [Nat.add_zero] at hcell
        clear e1 e2
        go_wp2
        all_goals
         go_loopw [7,8] (fun n i wr2=>∃ I:Int,-1≤I∧I≤0∧i=.int .i64 I∧n=.int .u64 (val ((xs.take (0+1)).drop (I+1).toNat))∧Below w.heap.size w wr2) (fun _ i _=>(intOf i+1).toNat)
         case atStart=>exact ⟨0,by omega,by omega,rfl,by rw [List.drop_of_length_le (by simp;omega)];rfl,hbw⟩
         case round =>
          obtain ⟨I,hI1,hI2,rfl,rfl,hbw2⟩:=hrel
          by_cases hI:I = -1
          ·subst hI
           go_wp2
           go_ret3
           refine ⟨?_,hbw2⟩
           rw [tup3_of _ _ _ _ HG.out]
           simp
          ·obtain ⟨s,rfl⟩:=Int.eq_ofNat_of_zero_le (show 0≤I by omega)
           have hsl:s<(xs.take (0+1)).length:=by have:=(HJ.out:0<xs.length);simp;omega
           have hvd:=val_drop _ s hsl
           have hle:=val_drop_le (xs.take (0+1)) s
           have hV:=HV.out HQ.out
           have hn:=val_nonneg ((xs.take (0+1)).drop (s+1))
           have hsx:s<xs.length:=by have:=(HJ.out:0<xs.length);omega
           have hcs:=bl_get hbw2 (HCC.out s (by simpa using hsx))
           simp only [List.getElem_map] at hcs
           have hyb:=HB.out xs[s] (List.getElem_mem hsx)
           rw [List.getElem_take] at hvd
           obtain ⟨y,hy⟩:∃ y,y=xs[s]:=⟨_,rfl⟩
           rw [←hy] at hcs hyb hvd
           have et:((s:Int)+1).toNat=s+1:=by omega
           rw [et]
           obtain ⟨V,hVV⟩:∃ V,V=val ((xs.take (0+1)).drop (s+1)):=⟨_,rfl⟩
           rw [←hVV] at hvd hn ⊢
           have hb1:V*128+y % 128≤18446744073709551615:=by omega
           have hb2:V*128≤18446744073709551615:=by omega
           have HVD:=Lib.hid hvd;have HVV:=Lib.hid hVV;have HY:=Lib.hid hy
           obtain ⟨hy0,hy1⟩:=hyb
           clear hvd hVV hy hle hV
           go_wp2
           go_roundw
           case rel=>exact ⟨(s:Int)-1,by omega,by omega,by go_num,by rw [show ((s:Int)-1+1).toNat=s from by omega,HVD.out,Int.mul_comm 128,Int.add_comm],hbw2⟩
           case measure=>simp [intOf]
       ·have hx3:1≤x:=by omega
        clear e1 e2
        go_wp2
        all_goals
         go_loopw [7,8] (fun n i wr2=>∃ I:Int,-1≤I∧I≤j∧i=.int .i64 I∧n=.int .u64 (val ((xs.take (j+1)).drop (I+1).toNat))∧Below w.heap.size w wr2) (fun _ i _=>(intOf i+1).toNat)
         case atStart=>exact ⟨j,by omega,by omega,rfl,by rw [List.drop_of_length_le (by simp;omega)];rfl,hbw⟩
         case round =>
          obtain ⟨I,hI1,hI2,rfl,rfl,hbw2⟩:=hrel
          by_cases hI:I = -1
          ·subst hI
           go_wp2
           go_ret3
           refine ⟨?_,hbw2⟩
           rw [tup3_of _ _ _ _ HG.out]
           simp
          ·obtain ⟨s,rfl⟩:=Int.eq_ofNat_of_zero_le (show 0≤I by omega)
           have hsl:s<(xs.take (j+1)).length:=by have:=(HJ.out:j<xs.length);simp;omega
           have hvd:=val_drop _ s hsl
           have hle:=val_drop_le (xs.take (j+1)) s
           have hV:=HV.out HQ.out
           have hn:=val_nonneg ((xs.take (j+1)).drop (s+1))
           have hsx:s<xs.length:=by have:=(HJ.out:j<xs.length);omega
           have hcs:=bl_get hbw2 (HCC.out s (by simpa using hsx))
           simp only [List.getElem_map] at hcs
           have hyb:=HB.out xs[s] (List.getElem_mem hsx)
           rw [List.getElem_take] at hvd
           obtain ⟨y,hy⟩:∃ y,y=xs[s]:=⟨_,rfl⟩
           rw [←hy] at hcs hyb hvd
           have et:((s:Int)+1).toNat=s+1:=by omega
           rw [et]
           obtain ⟨V,hVV⟩:∃ V,V=val ((xs.take (j+1)).drop (s+1)):=⟨_,rfl⟩
           rw [←hVV] at hvd hn ⊢
           have hb1:V*128+y % 128≤18446744073709551615:=by omega
           have hb2:V*128≤18446744073709551615:=by omega
           have HVD:=Lib.hid hvd;have HVV:=Lib.hid hVV;have HY:=Lib.hid hy
           obtain ⟨hy0,hy1⟩:=hyb
           clear hvd hVV hy hle hV
           go_wp2
           go_roundw
           case rel=>exact ⟨(s:Int)-1,by omega,by omega,by go_num,by rw [show ((s:Int)-1+1).toNat=s from by omega,HVD.out,Int.mul_comm 128,Int.add_comm],hbw2⟩
           case measure=>simp [intOf]
theorem getAt_range (xs:List Int) (hb:∀ x∈xs,0≤x∧x≤255):0≤(getAt xs 0 0).1∧(getAt xs 0 0).1≤18446744073709551615∧0≤(getAt xs 0 0).2.1∧(getAt xs 0 0).2.1≤10∧0≤(getAt xs 0 0).2.2∧(getAt xs 0 0).2.2≤21∧((getAt xs 0 0).2.2≠0→(getAt xs 0 0).1=0):=by
 rw [getAt_eq xs 0 0 (by omega),refGet]
 cases hf:fin xs 0 with
 | none=>simp;split<;>omega
 | some j =>
  have hj:=fin_lt xs 0 j hf
  simp only [Nat.add_zero]
  split
  ·simp
  ·rename_i hn
   have h1:=val_nonneg (xs.take (j+1))
   have h2:=val_u64 xs j hj.1 (by omega) (fun h=>by
    have:¬ 1<xs.getD j 0:=fun h1=>hn (.inl ⟨h,h1⟩)
    simp [List.getD,List.getElem?_eq_getElem hj.1] at this
    exact this) (fun x hx=>(hb x hx).1)
   simp;omega
theorem xor_i64_zero (a:Int) (h0:0≤a) (h1:a≤9223372036854775807):bits BinOp.xor IntKind.i64 a 0=a:=by
 show IntKind.i64.wrap ((BitVec.ofInt 64 a ^^^ 0#64).toNat:Int)=_
 rw [BitVec.xor_zero,BitVec.toNat_ofInt,IntKind.wrap_i64]
 omega
theorem xor_i64_ones (a:Int) (h0:0≤a) (h1:a≤9223372036854775807):bits BinOp.xor IntKind.i64 a (-1) = -a-1:=by
 show IntKind.i64.wrap ((BitVec.ofInt 64 a ^^^ BitVec.allOnes 64).toNat:Int)=_
 rw [BitVec.xor_allOnes,BitVec.toNat_not,BitVec.toNat_ofInt,IntKind.wrap_i64]
 omega
theorem unf_bits (n:Int) (h0:0≤n) (h1:n≤18446744073709551615) :
  bits BinOp.xor IntKind.i64 (n / 2) (wrap64 (-wrap64 (bits BinOp.and IntKind.u64 n 1)))=unfoldN n:=by
 rw [and_one_u64 n h0 h1]
 by_cases he:n % 2=0
 ·rw [he,unfoldN,if_pos he,show wrap64 (-wrap64 0)=0 from by decide +kernel,xor_i64_zero _ (by omega) (by omega)]
 ·rw [show n % 2=1 from by omega,unfoldN,if_neg he,show wrap64 (-wrap64 1) = -1 from by decide +kernel,xor_i64_ones _ (by omega) (by omega)]
theorem unfold_any (n:Int) (w:World) (h0:0≤n) (h1:n≤18446744073709551615) :
  Calls Try.prog 210 #[.int .u64 n] w fun e w'=>e=.returned (.int .i64 (unfoldN n))∧w=w':=by
 by_cases he:n % 2=0
 ·go_enter Try.func210,Try.ntmps210
  go_wp2
  go_ret
  exact ⟨ret_int (by unfold unfoldN;rw [if_pos he]),rfl⟩
 ·have he2:n % 2=1:=by omega
  have ht:(n % 2==0)=false:=by simp;omega
  clear he he2
  go_enter Try.func210,Try.ntmps210
  go_wp2
  go_ret
  exact ⟨ret_int (by unfold unfoldN;rw [if_neg (by simpa using ht)]),rfl⟩
theorem getInt_any (v:Value) (xs:List Int) (w:World) (hv:Rd w v (xs.map (Value.int .u8))) (hb:∀ x∈xs,0≤x∧x≤255) (hx:xs.length≤1099511627776) :
  Calls Try.prog 271 #[v] w fun e w'=>e=.returned (.tuple #[.int .i64 (unfoldN (getAt xs 0 0).1),.int .i64 (getAt xs 0 0).2.1,.int .i64 (getAt xs 0 0).2.2])∧Below w.heap.size w w':=by
 obtain ⟨r0,r1,_⟩:=getAt_range xs hb
 go_enter Try.func271,Try.ntmps271
 go_wp2_with fail
 refine (get_any _ _ _ hv hb hx).mono ?_
 rintro e w1 ⟨rfl,hb1⟩
 unfold tup3
 go_wp2
 go_ret3
 refine ⟨?_,hb1⟩
 rw [←unf_bits _ r0 r1];rfl
theorem got (n:Nat) (b:List Int) (hn:n<18446744073709551616):getAt (putL n++b) 0 0=((n:Int),((putL n).length:Int),0):=by
 rw [get_put b n 0 0 (by omega) (by omega) (.inl rfl)];simp
def wideL (xs:List Int):List Int:=(xs.map fun v=>putL (foldN v).toNat).flatten
theorem wideL_cons (x:Int) (xs:List Int):wideL (x::xs)=putL (foldN x).toNat++wideL xs:=rfl
theorem wideL_snoc (xs:List Int) (x:Int):wideL (xs++[x])=wideL xs++putL (foldN x).toNat:=by simp [wideL]
theorem wideL_len:∀ (xs:List Int),(∀ x∈xs,-2147483648≤x∧x≤2147483647)→(wideL xs).length≤10*xs.length
 | [],_=>by simp [wideL]
 | x::xs,h=>by
  have h1:=h x (by simp)
  have h2:=wideL_len xs (fun y hy=>h y (by simp [hy]))
  have hf:=foldN_bd x (by omega) (by omega)
  have h3:=putL_len10 (foldN x).toNat (by omega)
  rw [wideL_cons,lla,List.length_cons];omega
theorem refWide_any (v:Value) (xs:List Int) (w:World) (hv:Rd w v (xs.map (Value.int .i32))) (hx:∀ x∈xs,-2147483648≤x∧x≤2147483647) (hl:xs.length≤1000000) :
  Calls Try.prog 179 #[v] w fun e w'=>∃ r,e=.returned r∧Own w.heap.size w' 5 r ((wideL xs).map (Value.int .u8))∧Below w.heap.size w w':=by
 obtain ⟨a,c,rfl,hle,hm,ha⟩:=hv.ints
 obtain ⟨i0,hi,hz0,hz1,hz2⟩:=info_parts (show (Try.prog.info? 5).map (fun i=>(i.zero,i.size,i.bytes))=some (some (.int .u8 0),1,1) from by kernel_rfl)
 have HX:=Lib.hid hx;clear hx
 go_enter Try.func179,Try.ntmps179
 go_wp2_with fail
 go_loopw [3,4] (fun r i wr=>∃ (k:Nat),i=.int .i64 k∧k≤xs.length∧Own w.heap.size wr 5 r ((wideL (xs.take k)).map (Value.int .u8))∧Below w.heap.size w wr) (fun _ i _=>xs.length-(intOf i).toNat)
 case atStart=>exact ⟨0,rfl,by omega,Own.nil _ _ _,Below.refl _ _⟩
 case round =>
  obtain ⟨k,rfl,hk,hown,hb⟩:=hrel
  by_cases hlt:k<xs.length
  ·obtain ⟨b,o,rfl,hc⟩:=ha (by intro h;subst h;simp at hlt)
   have hcell:=bl_get hb (hc k hlt)
   obtain ⟨x0,x1⟩:=HX.out xs[k] (List.getElem_mem hlt)
   have hst:(wideL (xs.take (k+1))).map (Value.int .u8)=(wideL (xs.take k)).map (Value.int .u8)++(putL (foldN xs[k]).toNat).map (Value.int .u8):=by
    rw [List.take_succ_eq_append_getElem hlt,wideL_snoc,List.map_append]
   have hlk:((wideL (xs.take k)).map (Value.int .u8)).length≤10000000:=by
    have:=wideL_len (xs.take k) (fun y hy=>HX.out y (List.mem_of_mem_take hy))
    rw [List.length_take] at this;rw [List.length_map];omega
   obtain ⟨x,hx⟩:∃ x,x=xs[k]:=⟨_,rfl⟩
   rw [←hx] at hcell hst x0 x1
   obtain ⟨f0,f1⟩:=foldN_bd x (by omega) (by omega)
   have hpl:=putL_len10 (foldN x).toNat (by omega)
   have HST:=Lib.hid hst;have HO:=Lib.hid hown;have HLK:=Lib.hid hlk;have HPL:=Lib.hid hpl
   have kk0:(0:Int)≤(k:Int):=by omega
   have kk1:(k:Int)<(xs.length:Int):=by omega
   clear hst hx hc ha hown hlk hpl
   go_wp2_with fail
   refine (fold_any x _ (by omega) (by omega)).mono ?_
   rintro e w1 ⟨rfl,rfl⟩
   go_wp2_with fail
   refine (refPut_any (foldN x) _ f0 f1).mono ?_
   rintro e w2 ⟨r,rfl,hr,hb2⟩
   have HR:=Lib.hid hr.rd
   have HO2:=Lib.hid (HO.out.below hb2 (Nat.le_refl _))
   clear hr
   have hbw:Below w.heap.size w w2:=bl_step hb hb2
   go_wp2_with (at_builtin;refine hold ?_)
   refine unheld ?_
   refine wpList_appS rfl _ _ 64 rfl w.heap.size 5 i0 (.int .u8 0) 1 Try.underlying64 hi hz0 hz1 hz2 (by decide) rfl _ _ _ _ HO2.out HR.out rfl rfl (ints_one _ _) (by have:=HLK.out;have:=HPL.out;simp only [List.length_map] at *;omega) hbw.size ?_
   intro v' w' hown' hb'
   have HO3:=Lib.hid hown';clear hown'
   go_wp2_with fail
   go_roundw
   case rel=>exact ⟨k+1,by go_num,by omega,by rw [HST.out];exact HO3.out,hbw.trans hb'⟩
   case measure=>simp [intOf];omega
  ·have hkk:xs.take k=xs:=List.take_of_length_le (by omega)
   rw [hkk] at hown
   go_wp2
   go_ret
   exact ⟨_,rfl,hown,hb⟩
theorem wide_any (v:Value) (xs:List Int) (w:World) (hv:Rd w v (xs.map (Value.int .i32))) (hx:∀ x∈xs,-2147483648≤x∧x≤2147483647) (hl:xs.length≤1000000) :
  Calls Try.prog 259 #[v] w fun e w'=>∃ r,e=.returned r∧Own w.heap.size w' 5 r ((wideL xs).map (Value.int .u8))∧Below w.heap.size w w':=by
 obtain ⟨a,c,rfl,hle,hm,ha⟩:=hv.ints
 obtain ⟨i0,hi,hz0,hz1,hz2⟩:=info_parts (show (Try.prog.info? 5).map (fun i=>(i.zero,i.size,i.bytes))=some (some (.int .u8 0),1,1) from by kernel_rfl)
 have HX:=Lib.hid hx;clear hx
 go_enter Try.func259,Try.ntmps259
 go_wp2_with fail
 go_loopw [3,8] (fun r i wr=>∃ (k:Nat),i=.int .i64 k∧k≤xs.length∧Own w.heap.size wr 5 r ((wideL (xs.take k)).map (Value.int .u8))∧Below w.heap.size w wr) (fun _ i _=>xs.length-(intOf i).toNat)
 case atStart=>exact ⟨0,rfl,by omega,Own.nil _ _ _,Below.refl _ _⟩
 case round =>
  obtain ⟨k,rfl,hk,hown,hb⟩:=hrel
  by_cases hlt:k<xs.length
  ·obtain ⟨b,o,rfl,hc⟩:=ha (by intro h;subst h;simp at hlt)
   have hcell:=bl_get hb (hc k hlt)
   obtain ⟨x0,x1⟩:=HX.out xs[k] (List.getElem_mem hlt)
   have hst:(wideL (xs.take (k+1))).map (Value.int .u8)=(wideL (xs.take k)).map (Value.int .u8)++(putL (foldN xs[k]).toNat).map (Value.int .u8):=by
    rw [List.take_succ_eq_append_getElem hlt,wideL_snoc,List.map_append]
   have hlk:((wideL (xs.take k)).map (Value.int .u8)).length≤10000000:=by
    have:=wideL_len (xs.take k) (fun y hy=>HX.out y (List.mem_of_mem_take hy))
    rw [List.length_take] at this;rw [List.length_map];omega
   obtain ⟨x,hx⟩:∃ x,x=xs[k]:=⟨_,rfl⟩
   rw [←hx] at hcell hst x0 x1
   obtain ⟨f0,f1⟩:=foldN_bd x (by omega) (by omega)
   have hpl:=putL_len10 (foldN x).toNat (by omega)
   have HST:=Lib.hid hst;have HO:=Lib.hid hown;have HLK:=Lib.hid hlk;have HPL:=Lib.hid hpl
   have kk0:(0:Int)≤(k:Int):=by omega
   have kk1:(k:Int)<(xs.length:Int):=by omega
   clear hst hx hc ha hown hlk hpl
   go_wp2_with fail
   refine (putInt_any x _ (by omega) (by omega)).mono ?_
   rintro e w2 ⟨r,rfl,hr,hb2⟩
   have HR:=Lib.hid hr.rd
   have HO2:=Lib.hid (HO.out.below hb2 (Nat.le_refl _))
   clear hr
   have hbw:Below w.heap.size w w2:=bl_step hb hb2
   go_wp2_with (at_builtin;refine hold ?_)
   refine unheld ?_
   refine wpList_appS rfl _ _ 64 rfl w.heap.size 5 i0 (.int .u8 0) 1 Try.underlying64 hi hz0 hz1 hz2 (by decide) rfl _ _ _ _ HO2.out HR.out rfl rfl (ints_one _ _) (by have:=HLK.out;have:=HPL.out;simp only [List.length_map] at *;omega) hbw.size ?_
   intro v' w' hown' hb'
   have HO3:=Lib.hid hown';clear hown'
   go_wp2_with fail
   go_roundw
   case rel=>exact ⟨k+1,by go_num,by omega,by rw [HST.out];exact HO3.out,hbw.trans hb'⟩
   case measure=>simp [intOf];omega
  ·have hkk:xs.take k=xs:=List.take_of_length_le (by omega)
   rw [hkk] at hown
   go_wp2
   go_ret
   exact ⟨_,rfl,hown,hb⟩
theorem ownR_sl {S:Nat→Prop} {w:World} {B:Nat} {t:TypeId} {k:IntKind} {L:List Int} {v:Value} (hS:∀ b,S b→b<B) (h:Own B w t v (L.map (Value.int k))):Rel (fun _=>none) S w (.sl 1 (L.map (row1 k))) v:=by
 by_cases hne:L=[]
 ·subst hne
  obtain ⟨ao,cap,rfl,⟨_,hm,h0⟩,_⟩:=h.rd
  exact .pure (.nil 1 hm h0)
 ·obtain ⟨g,cap,rfl,hc,hm,hB,hg,hcell,_,_⟩:=h.form (by simpa using hne)
  rw [List.length_map] at hc
  rw [List.length_map,show L.length=(L.map (row1 k)).length from by rw [List.length_map]]
  refine .pure (.sl (fun i _=>.int k (L.getD i 0)) (fun _ hs=>absurd (hS _ hs) (by omega)) (fun _=>hg) (by rw [List.length_map];exact hc) hm (fun i r hr=>?_) (fun i r j c hr hc=>?_) (fun i r j c hr hc=>?_) (fun i r j c hr hc=>by simp [Value.oneCell']))
  ·rw [List.getElem?_map] at hr
   cases q:L[i]? with
   | none=>rw [q] at hr;cases hr
   | some x=>rw [q] at hr;injection hr with hr;subst hr;rfl
  ·rw [List.getElem?_map] at hr
   cases q:L[i]? with
   | none=>rw [q] at hr;cases hr
   | some x =>
    rw [q] at hr;injection hr with hr;subst hr
    obtain ⟨hi,e⟩:=List.getElem?_eq_some_iff.1 q
    cases j with
    | zero =>
     have:=hcell i (by rw [List.length_map];exact hi)
     rw [show 0+i*1+0=i from by omega,this,List.getElem_map,List.getD_eq_getElem?_getD,q,e];rfl
    | succ j=>simp at hc
  ·rw [List.getElem?_map] at hr
   cases q:L[i]? with
   | none=>rw [q] at hr;cases hr
   | some x =>
    rw [q] at hr;injection hr with hr;subst hr
    cases j with
    | zero=>simp at hc;subst hc;rw [List.getD_eq_getElem?_getD,q];exact .lit _
    | succ j=>simp at hc
theorem sl_rd {μ:Nat→Option OI} {S:Nat→Prop} {w:World} {k:IntKind} {L:List Int} {v:Value} (h:Rel μ S w (.sl 1 (L.map (row1 k))) v):Rd w v (L.map (Value.int k)):=by
 cases h with
 | pure h =>
  generalize hr:L.map (row1 k)=rows at h
  cases h with
  | nil _ hm h0 =>
   have:L=[]:=by simpa using hr
   subst this
   exact ⟨_,_,rfl,⟨Nat.zero_le _,hm,h0⟩,fun h=>absurd rfl h⟩
  | @sl _ _ b off cap cv hX hb hc hm hz h1 h2 h3 =>
   subst hr
   rw [List.length_map] at hc ⊢
   refine ⟨some ⟨b,off,none⟩,cap,by rw [List.length_map],⟨by rw [List.length_map];exact hc,hm,by simp⟩,fun hne=>⟨b,off,rfl,fun j hj=>?_⟩⟩
   rw [List.length_map] at hj
   have e:(L.map (row1 k))[j]? = some (row1 k L[j]):=by rw [List.getElem?_map,List.getElem?_eq_getElem hj];rfl
   have a1:=h1 j _ 0 (.lit (.int k L[j])) e rfl
   have a2:=h2 j _ 0 (.lit (.int k L[j])) e rfl
   rw [show off+j=off+j*1+0 from by omega,a1]
   generalize cv j 0=u at a2
   cases a2
   rw [List.getElem_map]
theorem put_v (n:Int) (h0:0≤n) (h1:n≤18446744073709551615):VC Try.prog 176 [.lit (.int .u64 n)] (.sl 1 ((putL n.toNat).map (row1 .u8))):=by
 intro S w xs hS hl hxs
 have:=valAll_eq (us:=[.int .u64 n]) hl hxs rfl
 subst this
 exact (put_any n w h0 h1).mono fun e w' ⟨v,he,ho,hb⟩=>⟨v,he,ownR_sl hS ho,hb⟩
theorem refPut_v (n:Int) (h0:0≤n) (h1:n≤18446744073709551615):VC Try.prog 177 [.lit (.int .u64 n)] (.sl 1 ((putL n.toNat).map (row1 .u8))):=by
 intro S w xs hS hl hxs
 have:=valAll_eq (us:=[.int .u64 n]) hl hxs rfl
 subst this
 exact (refPut_any n w h0 h1).mono fun e w' ⟨v,he,ho,hb⟩=>⟨v,he,ownR_sl hS ho,hb⟩
theorem one_arg {μ:Nat→Option OI} {X:Nat→Prop} {w:World} {c:AV} {xs:List Value} (hl:xs.length=[c].length) (h:∀ (i:Nat) (c':AV) (v:Value),[c][i]? = some c'→xs[i]? = some v→Rel μ X w c' v):∃ v,xs=[v]∧Rel μ X w c v:=by
 match xs,hl with
 | [v],_=>exact ⟨v,rfl,h 0 c v rfl rfl⟩
theorem small_v (l:List Int) (hl:l.length≤1000000):VC Try.prog 258 [.sl 1 (l.map (row1 .i8))] (.sl 1 ((smallL l).map (row1 .u8))):=by
 intro S w xs hS hn hxs
 obtain ⟨v,rfl,hv⟩:=one_arg hn hxs
 exact (small_any v l w (sl_rd hv) hl).mono fun e w' ⟨v,he,ho,hb⟩=>⟨v,he,ownR_sl hS ho,hb⟩
theorem refSmall_v (l:List Int) (hl:l.length≤1000000):VC Try.prog 178 [.sl 1 (l.map (row1 .i8))] (.sl 1 ((smallL l).map (row1 .u8))):=by
 intro S w xs hS hn hxs
 obtain ⟨v,rfl,hv⟩:=one_arg hn hxs
 exact (refSmall_any v l w (sl_rd hv) hl).mono fun e w' ⟨v,he,ho,hb⟩=>⟨v,he,ownR_sl hS ho,hb⟩
theorem wide_v (l:List Int) (hx:∀ x∈l,-2147483648≤x∧x≤2147483647) (hl:l.length≤1000000):VC Try.prog 259 [.sl 1 (l.map (row1 .i32))] (.sl 1 ((wideL l).map (row1 .u8))):=by
 intro S w xs hS hn hxs
 obtain ⟨v,rfl,hv⟩:=one_arg hn hxs
 exact (wide_any v l w (sl_rd hv) hx hl).mono fun e w' ⟨v,he,ho,hb⟩=>⟨v,he,ownR_sl hS ho,hb⟩
theorem refWide_v (l:List Int) (hx:∀ x∈l,-2147483648≤x∧x≤2147483647) (hl:l.length≤1000000):VC Try.prog 179 [.sl 1 (l.map (row1 .i32))] (.sl 1 ((wideL l).map (row1 .u8))):=by
 intro S w xs hS hn hxs
 obtain ⟨v,rfl,hv⟩:=one_arg hn hxs
 exact (refWide_any v l w (sl_rd hv) hx hl).mono fun e w' ⟨v,he,ho,hb⟩=>⟨v,he,ownR_sl hS ho,hb⟩
theorem rel3 {μ:Nat→Option OI} {X:Nat→Prop} {w:World} (a b c:Value):Rel μ X w (.tup [.lit a,.lit b,.lit c]) (.tuple #[a,b,c]) :=
 .tup (vs:=[a,b,c]) rfl (fun i x v hx hv=>by
  match i with
  | 0=>simp at hx hv;subst hx hv;exact .pure (.lit _)
  | 1=>simp at hx hv;subst hx hv;exact .pure (.lit _)
  | 2=>simp at hx hv;subst hx hv;exact .pure (.lit _)
  | i+3=>simp at hx)
def getV (l:List Int):Int:=(getAt l 0 0).1
def getN (l:List Int):Int:=(getAt l 0 0).2.1
def getE (l:List Int):Int:=(getAt l 0 0).2.2
theorem get_v (l:List Int) (hb:∀ x∈l,0≤x∧x≤255) (hl:l.length≤1000000):VC Try.prog 213 [.sl 1 (l.map (row1 .u8))] (.tup [.lit (.int .u64 (getV l)),i64 (getN l),i64 (getE l)]):=by
 intro S w xs hS hn hxs
 obtain ⟨v,rfl,hv⟩:=one_arg hn hxs
 exact (get_any v l w (sl_rd hv) hb (by omega)).mono fun e w' ⟨he,hb⟩=>⟨_,he,rel3 _ _ _,hb⟩
theorem refGet_v (l:List Int) (hb:∀ x∈l,0≤x∧x≤255) (hl:l.length≤1000000):VC Try.prog 174 [.sl 1 (l.map (row1 .u8))] (.tup [.lit (.int .u64 (getV l)),i64 (getN l),i64 (getE l)]):=by
 intro S w xs hS hn hxs
 obtain ⟨v,rfl,hv⟩:=one_arg hn hxs
 exact (refGet_any v l w (sl_rd hv) hb (by omega)).mono fun e w' ⟨he,hb⟩=>⟨_,he,rel3 _ _ _,hb⟩
theorem getInt_v (l:List Int) (hb:∀ x∈l,0≤x∧x≤255) (hl:l.length≤1000000):VC Try.prog 271 [.sl 1 (l.map (row1 .u8))] (.tup [i64 (unfoldN (getV l)),i64 (getN l),i64 (getE l)]):=by
 intro S w xs hS hn hxs
 obtain ⟨v,rfl,hv⟩:=one_arg hn hxs
 exact (getInt_any v l w (sl_rd hv) hb (by omega)).mono fun e w' ⟨he,hb⟩=>⟨_,he,rel3 _ _ _,hb⟩
theorem unfold_v (n:Int) (h0:0≤n) (h1:n≤18446744073709551615):VC Try.prog 210 [.lit (.int .u64 n)] (i64 (unfoldN n)) :=
 VC.ofSame (vals:=[.int .u64 n]) rfl rfl fun w=>unfold_any n w h0 h1
abbrev Rst:=List Int×Int
abbrev rdC (s:Rst):List AV:=[.sl 1 (s.1.map (row1 .u8)),i64 s.2]
theorem get_rng {l:List Int} (hb:∀ x∈l,0≤x∧x≤255):0≤getV l∧getV l≤18446744073709551615∧(getE l=0→0<getN l∧getN l≤l.length):=by
 obtain ⟨a,b,c⟩:=getAt_range l hb
 refine ⟨a,b,fun h=>?_⟩
 have:=get_back l hb (getAt l 0 0).1 (getAt l 0 0).2.1 (Prod.ext rfl (Prod.ext rfl h))
 exact ⟨this.1,this.2.1⟩
def cntS (s:Rst) (most:Int):Rst :=
 if s.2≠0 then s else if getE s.1≠0 then ([],getE s.1) else if max most 0<getV s.1 then ([],3) else (s.1.drop (getN s.1).toNat,0)
def cntV (s:Rst) (most:Int):Int :=
 if s.2≠0 then 0 else if getE s.1≠0 then 0 else if max most 0<getV s.1 then 0 else getV s.1
theorem rfail_v (l:List Int) (f:Int)  : VM Try.prog 214 ([.ptr 100000 0 0,i64 f]) ([(100000,.var (rdC (l,0)))]) (.tup []) ([(100000,.var (rdC ([],f)))]):=by
 exact VM.run (fn:=Try.f214) (W:=[.r [] [],.br true,.r [] []]) (G:=[.blk 100000 (Blk.var [AV.sl 1 [],i64 f]),.sort]) Try.func214 (by kernel_rfl) (.c (show ((l,0).snd==0)=true by (refine decide_eq_true ?_;omega))<|.c (show BlkW (Blk.var [nilv,i64 f]) (Blk.var [AV.sl 1 [],i64 f]) from (BlkW.var (.cons (Weak.nil _) (.cons (.refl _) .nil))))<|.n)
theorem z0_:false=false:=rfl
theorem next_e (s:Rst) (h:s.2≠0):VM Try.prog 212 ([.ptr 100000 0 0,.clo 213 []]) ([(100000,.var (rdC s))]) (.tup [.lit (.int .u64 0),bv false]) ([(100000,.var (rdC s))]):=by
 have oz0:=z0_
 exact VM.run (fn:=Try.f212) (W:=[.r [] [],.r [] [.br true,.br true,.br true,.br true,.br true,.br false],.br true,.r [] []]) (G:=[.sort]) Try.func212 (by kernel_rfl) (.c oz0<|.c oz0<|.c oz0<|.c oz0<|.c oz0<|.c oz0<|.c (show (s.snd != 0)=true by (simp;omega))<|.n)
theorem next_g (l:List Int) (hb:∀ x∈l,0≤x∧x≤255) (hl:l.length≤1000000) (h:getE l≠0):VM Try.prog 212 ([.ptr 100000 0 0,.clo 213 []]) ([(100000,.var (rdC (l,0)))]) (.tup [.lit (.int .u64 0),bv false]) ([(100000,.var (rdC ([],getE l)))]):=by
 have oz0:=z0_
 have oz7 := @get_v (l) hb hl
 have oz9 := @rfail_v (l) (getE l)
 exact VM.run (fn:=Try.f212) (W:=[.r [] [],.r [] [.br true,.br true,.br true,.br true,.br true,.br false],.br false,.r [] [.callr (rO oz7)],.r [] [],.br true,.r [] [cm oz9],.r [] []]) (G:=[.sort]) Try.func212 (by kernel_rfl) (.c oz0<|.c oz0<|.c oz0<|.c oz0<|.c oz0<|.c oz0<|.c (show ((l,0).snd != 0)=false by (simp;done))<|.c oz7<|.c (show (getE l != 0)=true by (simp;omega))<|.c oz9<|.n)
theorem next_y (l:List Int) (hb:∀ x∈l,0≤x∧x≤255) (hl:l.length≤1000000) (h:getE l=0):VM Try.prog 212 ([.ptr 100000 0 0,.clo 213 []]) ([(100000,.var (rdC (l,0)))]) (.tup [.lit (.int .u64 (getV l)),bv true]) ([(100000,.var (rdC (l.drop (getN l).toNat,0)))]):=by
 obtain ⟨q1,q2,q3⟩:=get_rng hb
 have q4:=q3 h
 have oz0:=z0_
 have oz7 := @get_v (l) hb hl
 exact VM.run (fn:=Try.f212) (W:=[.r [] [],.r [] [.br true,.br true,.br true,.br true,.br true,.br false],.br false,.r [] [.callr (rO oz7)],.r [] [],.br false,.r [] [.nats (getN l).toNat (List.map (row1 IntKind.u8) (l,0).fst).length],.r [] []]) (G:=[.blk 100000 (Blk.var [AV.sl 1 (List.map (row1 IntKind.u8) (List.drop (getN l).toNat l)),i64 0]),.sort]) Try.func212 (by kernel_rfl) (.c oz0<|.c oz0<|.c oz0<|.c oz0<|.c oz0<|.c oz0<|.c (show ((l,0).snd != 0)=false by (simp;done))<|.c oz7<|.c (show (getE l != 0)=false by (simp;omega))<|.c (show getN l=(↑(getN l).toNat:Int) by omega)<|.c (show (List.map (row1 IntKind.u8) (l,0).fst).length=(List.map (row1 IntKind.u8) (l,0).fst).length by with_reducible rfl)<|.c (show (getN l).toNat≤(List.map (row1 IntKind.u8) (l,0).fst).length by (simp;omega))<|.c (show (List.map (row1 IntKind.u8) (l,0).fst).length≤(List.map (row1 IntKind.u8) (l,0).fst).length by omega)<|.c (show BlkW (Blk.var [AV.sl 1 (List.take ((List.map (row1 IntKind.u8) (l,0).fst).length-(getN l).toNat) (List.drop (getN l).toNat (List.map (row1 IntKind.u8) (l,0).fst))),i64 (l,0).snd]) (Blk.var [AV.sl 1 (List.map (row1 IntKind.u8) (List.drop (getN l).toNat l)),i64 0]) from (BlkW.var (.cons (Weak.rows (rows_to (row1 IntKind.u8) (r:=List.take ((List.map (row1 IntKind.u8) (l,0).fst).length-(getN l).toNat) (List.drop (getN l).toNat (List.map (row1 IntKind.u8) (l,0).fst))) (l:=List.take ((List.map (row1 IntKind.u8) (l,0).fst).length-(getN l).toNat) (List.drop (getN l).toNat (l,0).fst)) (m:=List.drop (getN l).toNat l) (by first|(simp;done)|rfl|(simp;rfl)) (show (List.take ((List.map (row1 IntKind.u8) (l,0).fst).length-(getN l).toNat) (List.drop (getN l).toNat (l,0).fst))=(List.drop (getN l).toNat l) from (by (rw [List.take_of_length_le (by simp [List.length_drop])]))))) (.cons (.refl _) .nil))))<|.n)
theorem nexti_e (s:Rst) (h:s.2≠0):VM Try.prog 270 ([.ptr 100000 0 0,.clo 271 []]) ([(100000,.var (rdC s))]) (.tup [.lit (.int .i64 0),bv false]) ([(100000,.var (rdC s))]):=by
 have oz0:=z0_
 exact VM.run (fn:=Try.f270) (W:=[.r [] [],.r [] [.br true,.br true,.br true,.br true,.br true,.br false],.br true,.r [] []]) (G:=[.sort]) Try.func270 (by kernel_rfl) (.c oz0<|.c oz0<|.c oz0<|.c oz0<|.c oz0<|.c oz0<|.c (show (s.snd != 0)=true by (simp;omega))<|.n)
theorem nexti_g (l:List Int) (hb:∀ x∈l,0≤x∧x≤255) (hl:l.length≤1000000) (h:getE l≠0):VM Try.prog 270 ([.ptr 100000 0 0,.clo 271 []]) ([(100000,.var (rdC (l,0)))]) (.tup [.lit (.int .i64 0),bv false]) ([(100000,.var (rdC ([],getE l)))]):=by
 have oz0:=z0_
 have oz7 := @getInt_v (l) hb hl
 have oz9 := @rfail_v (l) (getE l)
 exact VM.run (fn:=Try.f270) (W:=[.r [] [],.r [] [.br true,.br true,.br true,.br true,.br true,.br false],.br false,.r [] [.callr (rO oz7)],.r [] [],.br true,.r [] [cm oz9],.r [] []]) (G:=[.sort]) Try.func270 (by kernel_rfl) (.c oz0<|.c oz0<|.c oz0<|.c oz0<|.c oz0<|.c oz0<|.c (show ((l,0).snd != 0)=false by (simp;done))<|.c oz7<|.c (show (getE l != 0)=true by (simp;omega))<|.c oz9<|.n)
theorem nexti_y (l:List Int) (hb:∀ x∈l,0≤x∧x≤255) (hl:l.length≤1000000) (h:getE l=0):VM Try.prog 270 ([.ptr 100000 0 0,.clo 271 []]) ([(100000,.var (rdC (l,0)))]) (.tup [.lit (.int .i64 (unfoldN (getV l))),bv true]) ([(100000,.var (rdC (l.drop (getN l).toNat,0)))]):=by
 obtain ⟨q1,q2,q3⟩:=get_rng hb
 have q4:=q3 h
 have oz0:=z0_
 have oz7 := @getInt_v (l) hb hl
 exact VM.run (fn:=Try.f270) (W:=[.r [] [],.r [] [.br true,.br true,.br true,.br true,.br true,.br false],.br false,.r [] [.callr (rO oz7)],.r [] [],.br false,.r [] [.nats (getN l).toNat (List.map (row1 IntKind.u8) (l,0).fst).length],.r [] []]) (G:=[.blk 100000 (Blk.var [AV.sl 1 (List.map (row1 IntKind.u8) (List.drop (getN l).toNat l)),i64 0]),.sort]) Try.func270 (by kernel_rfl) (.c oz0<|.c oz0<|.c oz0<|.c oz0<|.c oz0<|.c oz0<|.c (show ((l,0).snd != 0)=false by (simp;done))<|.c oz7<|.c (show (getE l != 0)=false by (simp;omega))<|.c (show getN l=(↑(getN l).toNat:Int) by omega)<|.c (show (List.map (row1 IntKind.u8) (l,0).fst).length=(List.map (row1 IntKind.u8) (l,0).fst).length by with_reducible rfl)<|.c (show (getN l).toNat≤(List.map (row1 IntKind.u8) (l,0).fst).length by (simp;omega))<|.c (show (List.map (row1 IntKind.u8) (l,0).fst).length≤(List.map (row1 IntKind.u8) (l,0).fst).length by omega)<|.c (show BlkW (Blk.var [AV.sl 1 (List.take ((List.map (row1 IntKind.u8) (l,0).fst).length-(getN l).toNat) (List.drop (getN l).toNat (List.map (row1 IntKind.u8) (l,0).fst))),i64 (l,0).snd]) (Blk.var [AV.sl 1 (List.map (row1 IntKind.u8) (List.drop (getN l).toNat l)),i64 0]) from (BlkW.var (.cons (Weak.rows (rows_to (row1 IntKind.u8) (r:=List.take ((List.map (row1 IntKind.u8) (l,0).fst).length-(getN l).toNat) (List.drop (getN l).toNat (List.map (row1 IntKind.u8) (l,0).fst))) (l:=List.take ((List.map (row1 IntKind.u8) (l,0).fst).length-(getN l).toNat) (List.drop (getN l).toNat (l,0).fst)) (m:=List.drop (getN l).toNat l) (by first|(simp;done)|rfl|(simp;rfl)) (show (List.take ((List.map (row1 IntKind.u8) (l,0).fst).length-(getN l).toNat) (List.drop (getN l).toNat (l,0).fst))=(List.drop (getN l).toNat l) from (by (rw [List.take_of_length_le (by simp [List.length_drop])]))))) (.cons (.refl _) .nil))))<|.n)
theorem z1_:true=true:=rfl
theorem count_e (s:Rst) (m:Int) (h:s.2≠0) (h0:0≤m) (h1:m≤2147483647):VM Try.prog 180 ([.ptr 100000 0 0,i64 m]) ([(100000,.var (rdC s))]) (i64 0) ([(100000,.var (rdC s))]):=by
 have oz0 := @next_e (s) h
 exact VM.run (fn:=Try.f180) (W:=[.r [] [],.r [] [cm oz0],.r [] [],.br true,.r [] []]) (G:=[.sort]) Try.func180 (by kernel_rfl) (.c oz0<|.c z1_<|.n)
theorem count_g (l:List Int) (m:Int) (hb:∀ x∈l,0≤x∧x≤255) (hl:l.length≤1000000) (h:getE l≠0) (h0:0≤m) (h1:m≤2147483647):VM Try.prog 180 ([.ptr 100000 0 0,i64 m]) ([(100000,.var (rdC (l,0)))]) (i64 0) ([(100000,.var (rdC ([],getE l)))]):=by
 have oz0 := @next_g (l) hb hl h
 exact VM.run (fn:=Try.f180) (W:=[.r [] [],.r [] [cm oz0],.r [] [],.br true,.r [] []]) (G:=[.sort]) Try.func180 (by kernel_rfl) (.c oz0<|.c z1_<|.n)
theorem count_m (l:List Int) (m:Int) (hb:∀ x∈l,0≤x∧x≤255) (hl:l.length≤1000000) (h:getE l=0) (h0:0≤m) (h1:m≤2147483647) (h2:m<getV l):VM Try.prog 180 ([.ptr 100000 0 0,i64 m]) ([(100000,.var (rdC (l,0)))]) (i64 0) ([(100000,.var (rdC ([],3)))]):=by
 obtain ⟨q1,q2,q3⟩:=get_rng hb
 have oz0 := @next_y (l) hb hl h
 have oz4 := @rfail_v (List.drop (getN l).toNat l) (3)
 exact VM.run (fn:=Try.f180) (W:=[.r [] [],.r [] [cm oz0],.r [] [],.br false,.r [] [.n (if 0 > m then 0 else m)],.br true,.r [] [cm oz4],.r [] []]) (G:=[.sort]) Try.func180 (by kernel_rfl) (.c oz0<|.c z0_<|.c (IntWalk.u64_in (if 0 > m then 0 else m) (by omega))<|.c (decide_eq_true (p:=(getV l > if 0 > m then 0 else m)) (by omega))<|.c oz4<|.n)
theorem count_y (l:List Int) (m:Int) (hb:∀ x∈l,0≤x∧x≤255) (hl:l.length≤1000000) (h:getE l=0) (h0:0≤m) (h1:m≤2147483647) (h2:getV l≤m):VM Try.prog 180 ([.ptr 100000 0 0,i64 m]) ([(100000,.var (rdC (l,0)))]) (i64 (getV l)) ([(100000,.var (rdC (l.drop (getN l).toNat,0)))]):=by
 obtain ⟨q1,q2,q3⟩:=get_rng hb
 have oz0 := @next_y (l) hb hl h
 exact VM.run (fn:=Try.f180) (W:=[.r [] [],.r [] [cm oz0],.r [] [],.br false,.r [] [.n (if 0 > m then 0 else m)],.br false,.r [] [.n (getV l)]]) (G:=[.sort]) Try.func180 (by kernel_rfl) (.c oz0<|.c z0_<|.c (IntWalk.u64_in (if 0 > m then 0 else m) (by omega))<|.c (decide_eq_false (p:=(getV l > if 0 > m then 0 else m)) (by omega))<|.c (i6n (getV l) (by omega))<|.n)
structure Rst.In (s:Rst):Prop where
 b:∀ x∈s.1,0≤x∧x≤255
 l:s.1.length≤1000000
theorem mem_drop' {l:List Int} {n:Nat} {p:Int→Prop} (h:∀ x∈l,p x):∀ x∈l.drop n,p x:=fun x hx=>h x (List.mem_of_mem_drop hx)
theorem cnt_in {s:Rst} (h:s.In) (m:Int):(cntS s m).In:=by
 unfold cntS
 split
 ·exact h
 ·split
  ·exact ⟨by simp,by simp⟩
  ·split
   ·exact ⟨by simp,by simp⟩
   ·exact ⟨mem_drop' h.b,by have:=h.l;simp only [List.length_drop];omega⟩
theorem cnt_v (s:Rst) (m:Int) (h:s.In) (h0:0≤m) (h1:m≤2147483647):VM Try.prog 180 [.ptr 100000 0 0,i64 m] [(100000,.var (rdC s))] (i64 (cntV s m)) [(100000,.var (rdC (cntS s m)))]:=by
 obtain ⟨l,e⟩:=s
 by_cases he:e=0
 ·subst he
  by_cases hg:getE l=0
  ·by_cases hm:m<getV l
   ·rw [show cntS (l,0) m=([],3) from by simp [cntS,hg,show max m 0<getV l by omega],show cntV (l,0) m=0 from by simp [cntV,hg,show max m 0<getV l by omega]]
    exact count_m l m h.b h.l hg h0 h1 hm
   ·rw [show cntS (l,0) m=(l.drop (getN l).toNat,0) from by simp [cntS,hg,show ¬ max m 0<getV l by omega],show cntV (l,0) m=getV l from by simp [cntV,hg,show ¬ max m 0<getV l by omega]]
    exact count_y l m h.b h.l hg h0 h1 (by omega)
  ·rw [show cntS (l,0) m=([],getE l) from by simp [cntS,hg],show cntV (l,0) m=0 from by simp [cntV,hg]]
   exact count_g l m h.b h.l hg h0 h1
 ·rw [show cntS (l,e) m=(l,e) from by simp [cntS,he],show cntV (l,e) m=0 from by simp [cntV,he]]
  exact count_e (l,e) m he h0 h1
theorem cntV_rng {s:Rst} {m:Int} (h:s.In) (h0:0≤m):0≤cntV s m∧cntV s m≤m:=by
 have:=(get_rng h.b).1
 unfold cntV
 split
 ·omega
 ·split
  ·omega
  ·split
   ·omega
   ·omega
def intS (s:Rst) (lo hi:Int):Rst :=
 if s.2≠0 then s else if getE s.1≠0 then ([],getE s.1) else if unfoldN (getV s.1)<lo∨hi<unfoldN (getV s.1) then ([],3) else (s.1.drop (getN s.1).toNat,0)
def intV (s:Rst) (lo hi:Int):Int :=
 if s.2≠0 then 0 else if getE s.1≠0 then 0 else if unfoldN (getV s.1)<lo∨hi<unfoldN (getV s.1) then 0 else unfoldN (getV s.1)
theorem int_in {s:Rst} (h:s.In) (lo hi:Int):(intS s lo hi).In:=by
 unfold intS
 split
 ·exact h
 ·split
  ·exact ⟨by simp,by simp⟩
  ·split
   ·exact ⟨by simp,by simp⟩
   ·exact ⟨mem_drop' h.b,by have:=h.l;simp only [List.length_drop];omega⟩
theorem int_e (s:Rst) (lo hi:Int) (h:s.2≠0):VM Try.prog 269 ([.ptr 100000 0 0,i64 lo,i64 hi]) ([(100000,.var (rdC s))]) (i64 0) ([(100000,.var (rdC s))]):=by
 have oz0 := @nexti_e (s) h
 exact VM.run (fn:=Try.f269) (W:=[.r [] [],.r [] [cm oz0],.r [] [],.br true,.r [] []]) (G:=[.sort]) Try.func269 (by kernel_rfl) (.c oz0<|.c z1_<|.n)
theorem int_g (l:List Int) (lo hi:Int) (hb:∀ x∈l,0≤x∧x≤255) (hl:l.length≤1000000) (h:getE l≠0):VM Try.prog 269 ([.ptr 100000 0 0,i64 lo,i64 hi]) ([(100000,.var (rdC (l,0)))]) (i64 0) ([(100000,.var (rdC ([],getE l)))]):=by
 have oz0 := @nexti_g (l) hb hl h
 exact VM.run (fn:=Try.f269) (W:=[.r [] [],.r [] [cm oz0],.r [] [],.br true,.r [] []]) (G:=[.sort]) Try.func269 (by kernel_rfl) (.c oz0<|.c z1_<|.n)
theorem int_m (l:List Int) (lo hi:Int) (hb:∀ x∈l,0≤x∧x≤255) (hl:l.length≤1000000) (h:getE l=0) (h2:unfoldN (getV l)<lo∨hi<unfoldN (getV l)):VM Try.prog 269 ([.ptr 100000 0 0,i64 lo,i64 hi]) ([(100000,.var (rdC (l,0)))]) (i64 0) ([(100000,.var (rdC ([],3)))]):=by
 have oz0 := @nexti_y (l) hb hl h
 have oz3 := @rfail_v (List.drop (getN l).toNat l) (3)
 exact VM.run (fn:=Try.f269) (W:=[.r [] [],.r [] [cm oz0],.r [] [],.br false,.r [] [.op false,.op false,.op false,.sel 1],.br true,.r [] [cm oz3],.r [] []]) (G:=[.sort]) Try.func269 (by kernel_rfl) (.c oz0<|.c z0_<|.c (show (decide (unfoldN (getV l)<lo) || decide (unfoldN (getV l) > hi))=true by (simp;omega))<|.c oz3<|.n)
theorem int_y (l:List Int) (lo hi:Int) (hb:∀ x∈l,0≤x∧x≤255) (hl:l.length≤1000000) (h:getE l=0) (h2:¬ unfoldN (getV l)<lo) (h3:¬ hi<unfoldN (getV l)):VM Try.prog 269 ([.ptr 100000 0 0,i64 lo,i64 hi]) ([(100000,.var (rdC (l,0)))]) (i64 (unfoldN (getV l))) ([(100000,.var (rdC (l.drop (getN l).toNat,0)))]):=by
 have oz0 := @nexti_y (l) hb hl h
 have oz2:=(decide_eq_false (p:=(unfoldN (getV l)<lo)) (by omega))
 exact VM.run (fn:=Try.f269) (W:=[.r [] [],.r [] [cm oz0],.r [] [],.br false,.r [] [.br true,.br true,.br true,.br false],.br false,.r [] []]) (G:=[.sort]) Try.func269 (by kernel_rfl) (.c oz0<|.c z0_<|.c oz2<|.c oz2<|.c oz2<|.c oz2<|.c (decide_eq_false (p:=(unfoldN (getV l) > hi)) (by omega))<|.n)
theorem int_v (s:Rst) (lo hi:Int) (h:s.In):VM Try.prog 269 [.ptr 100000 0 0,i64 lo,i64 hi] [(100000,.var (rdC s))] (i64 (intV s lo hi)) [(100000,.var (rdC (intS s lo hi)))]:=by
 obtain ⟨l,e⟩:=s
 by_cases he:e=0
 ·subst he
  by_cases hg:getE l=0
  ·by_cases hm:unfoldN (getV l)<lo∨hi<unfoldN (getV l)
   ·rw [show intS (l,0) lo hi=([],3) from by simp only [intS];rw [if_neg (by simp),if_neg (by simp [hg]),if_pos hm],show intV (l,0) lo hi=0 from by simp only [intV];rw [if_neg (by simp),if_neg (by simp [hg]),if_pos hm]]
    exact int_m l lo hi h.b h.l hg hm
   ·rw [show intS (l,0) lo hi=(l.drop (getN l).toNat,0) from by simp only [intS];rw [if_neg (by simp),if_neg (by simp [hg]),if_neg hm],show intV (l,0) lo hi=unfoldN (getV l) from by simp only [intV];rw [if_neg (by simp),if_neg (by simp [hg]),if_neg hm]]
    exact int_y l lo hi h.b h.l hg (fun q=>hm (.inl q)) (fun q=>hm (.inr q))
  ·rw [show intS (l,0) lo hi=([],getE l) from by simp [intS,hg],show intV (l,0) lo hi=0 from by simp [intV,hg]]
   exact int_g l lo hi h.b h.l hg
 ·rw [show intS (l,e) lo hi=(l,e) from by simp [intS,he],show intV (l,e) lo hi=0 from by simp [intV,he]]
  exact int_e (l,e) lo hi he
theorem intV_rng {s:Rst} {lo hi:Int} (h0:lo≤0) (h1:0≤hi):lo≤intV s lo hi∧intV s lo hi≤hi:=by
 unfold intV
 split
 ·omega
 ·split
  ·omega
  ·split
   ·omega
   ·omega
theorem int32_v (s:Rst) (h:s.In):VM Try.prog 268 ([.ptr 100000 0 0]) ([(100000,.var (rdC s))]) (i32 (intV s (-2147483648) 2147483647)) ([(100000,.var (rdC (intS s (-2147483648) 2147483647)))]):=by
 have q := @intV_rng s (-2147483648) 2147483647 (by decide) (by decide)
 have oz0 := @int_v (s) (-2147483648) (2147483647) h
 have oz1:=(IntWalk.i32_in (intV s (-2147483648) 2147483647) (by omega))
 exact VM.run (fn:=Try.f268) (W:=[.r [] [],.r [] [cm oz0,.n (nO oz1)]]) (G:=[.sort]) Try.func268 (by kernel_rfl) (.c oz0<|.c oz1<|.n)
theorem z2_:(0:Int)≤(0:Int):=by omega
theorem byte8_v (l:List Int) (hb:∀ x∈l,0≤x∧x≤255) (hl:l.length≤1000000) (h:0<l.length):VM Try.prog 266 ([.ptr 100000 0 0]) ([(100000,.var (rdC (l,0)))]) (i8 (IntKind.i8.wrap (l.getD 0 default))) ([(100000,.var (rdC (l.drop 1,0)))]):=by
 have oz6:=(Weak.int (k:=.i8) (show ((IntKind.i8.wrap ((l,0).fst.getD 0 0)):Int)=(IntKind.i8.wrap (l.getD 0 default)) from (by (simp;done))))
 exact VM.run (fn:=Try.f266) (W:=[.r [] [],.r [] [.row [u8 ((l,0).fst.getD 0 0)],.w],.r [] [.nats 1 (List.map (row1 IntKind.u8) (l,0).fst).length],.r [] []]) (G:=[.weak 0 (wO oz6),.blk 100000 (Blk.var [AV.sl 1 (List.map (row1 IntKind.u8) (List.drop 1 l)),i64 0]),.sort]) Try.func266 (by kernel_rfl) (.c z2_<|.c (map_at (row1 IntKind.u8) (0) (l:=(l,0).fst) (i:=0) h)<|.c (show (1:Int)=(↑(1:Nat):Int) by omega)<|.c (show (List.map (row1 IntKind.u8) (l,0).fst).length=(List.map (row1 IntKind.u8) (l,0).fst).length by with_reducible rfl)<|.c (show 1≤(List.map (row1 IntKind.u8) (l,0).fst).length by (simp;omega))<|.c (show (List.map (row1 IntKind.u8) (l,0).fst).length≤(List.map (row1 IntKind.u8) (l,0).fst).length by omega)<|.c oz6<|.c (show BlkW (Blk.var [AV.sl 1 (List.take ((List.map (row1 IntKind.u8) (l,0).fst).length-1) (List.drop 1 (List.map (row1 IntKind.u8) (l,0).fst))),i64 (l,0).snd]) (Blk.var [AV.sl 1 (List.map (row1 IntKind.u8) (List.drop 1 l)),i64 0]) from (BlkW.var (.cons (Weak.rows (rows_to (row1 IntKind.u8) (r:=List.take ((List.map (row1 IntKind.u8) (l,0).fst).length-1) (List.drop 1 (List.map (row1 IntKind.u8) (l,0).fst))) (l:=List.take ((List.map (row1 IntKind.u8) (l,0).fst).length-1) (List.drop 1 (l,0).fst)) (m:=List.drop 1 l) (by first|(simp;done)|rfl|(simp;rfl)) (show (List.take ((List.map (row1 IntKind.u8) (l,0).fst).length-1) (List.drop 1 (l,0).fst))=(List.drop 1 l) from (by (rw [List.take_of_length_le (by simp [List.length_drop])]))))) (.cons (.refl _) .nil))))<|.n)
theorem left_v (s:Rst)  : VM Try.prog 43 ([.ptr 100000 0 0]) ([(100000,.var (rdC s))]) (i64 s.1.length) ([(100000,.var (rdC s))]):=by
 have oz1:=(Weak.int (k:=.i64) (show (((↑(List.map (row1 IntKind.u8) s.fst).length:Int)):Int)=((↑s.fst.length:Int)) from (by (simp;done))))
 exact VM.run (fn:=Try.f43) (W:=[.r [] [],.r [] [],.br false,.r [] []]) (G:=[.weak 0 (wO oz1),.sort]) Try.func43 (by kernel_rfl) (.c z0_<|.c oz1<|.n)
theorem end_e (s:Rst) (h:s.2≠0):VM Try.prog 173 ([.ptr 100000 0 0]) ([(100000,.var (rdC s))]) (i64 s.2) ([(100000,.var (rdC s))]):=by
 exact VM.run (fn:=Try.f173) (W:=[.r [] [],.r [] [],.br false,.r [] [],.br true,.r [] []]) (G:=[.sort]) Try.func173 (by kernel_rfl) (.c z0_<|.c (show (s.snd != 0)=true by (simp;omega))<|.n)
theorem end_m (l:List Int) (h:0<l.length):VM Try.prog 173 ([.ptr 100000 0 0]) ([(100000,.var (rdC (l,0)))]) (i64 24) ([(100000,.var (rdC (l,0)))]):=by
 exact VM.run (fn:=Try.f173) (W:=[.r [] [],.r [] [],.br false,.r [] [],.br false,.r [] [],.br true,.r [] []]) (G:=[.sort]) Try.func173 (by kernel_rfl) (.c z0_<|.c (show ((l,0).snd != 0)=false by (simp;done))<|.c (show decide ((↑(List.map (row1 IntKind.u8) (l,0).fst).length:Int) > 0)=true by (simp;omega))<|.n)
theorem end_z   : VM Try.prog 173 ([.ptr 100000 0 0]) ([(100000,.var (rdC ([],0)))]) (i64 0) ([(100000,.var (rdC ([],0)))]):=by
 have oz0:=z0_
 exact VM.run (fn:=Try.f173) (W:=[.r [] [],.r [] [],.br false,.r [] [],.br false,.r [] [],.br false,.r [] []]) (G:=[.sort]) Try.func173 (by kernel_rfl) (.c oz0<|.c oz0<|.c oz0<|.n)
def dpW (l:List Int):Nat→List Int
 | 0=>l
 | k+1=>(dpW l k).drop 1
def tkW (l:List Int):Nat→List Int
 | 0=>[]
 | k+1=>tkW l k++[IntKind.i8.wrap ((dpW l k).getD 0 default)]
theorem dpW_eq (l:List Int) (k:Nat):dpW l k=l.drop k:=by
 induction k with
 | zero=>rfl
 | succ k ih=>rw [dpW,ih,List.drop_drop]
theorem tkW_len (l:List Int) (k:Nat):(tkW l k).length=k:=by
 induction k with
 | zero=>rfl
 | succ k ih=>rw [tkW,lla,ih];rfl
def itS (s:Rst):Nat→Rst
 | 0=>s
 | k+1=>intS (itS s k) (-2147483648) 2147483647
def itV (s:Rst):Nat→List Int
 | 0=>[]
 | k+1=>itV s k++[intV (itS s k) (-2147483648) 2147483647]
theorem itS_in {s:Rst} (h:s.In) (k:Nat):(itS s k).In:=by
 induction k with
 | zero=>exact h
 | succ k ih=>exact int_in ih _ _
theorem itV_len (s:Rst) (k:Nat):(itV s k).length=k:=by
 induction k with
 | zero=>rfl
 | succ k ih=>rw [itV,lla,ih];rfl
noncomputable def all8_l_I (l:List Int) (n:Nat) (k:Nat):VS:=stt 45 [(0,AV.ptr 100000 0 0),(2,.bnd 266 (.ptr 100000 0 0)),(7,.own 900),(30,i64 n),(31,i64 k)] [(900,.slc 30 1 ((tkW l k).map (row1 .i8))),(100000,.var (rdC (dpW l k,0)))]
noncomputable def all8_l_Z (l:List Int) (n:Nat):VS:=all8_l_I l n (n)
theorem all8_l_s (l:List Int) (n:Nat) (hb:∀ x∈l,0≤x∧x≤255) (hl:l.length≤1000000) (h1:n≤l.length) (k:Nat) (hk:k<n):VT Try.prog (fnC Try.f265 [1,1,1,1,0,1,0,0]) (all8_l_I l n k) .normal (all8_l_I l n (k+1)):=by
 have q1:∀ x∈dpW l k,0≤x∧x≤255:=by rw [dpW_eq];exact mem_drop' hb
 have q2:(dpW l k).length=l.length-k:=by rw [dpW_eq,List.length_drop]
 have q3:=tkW_len l k
 have oz1 := @byte8_v (dpW l k) q1 (by omega) (by omega)
 exact VT.run (W:=[.r [] [],.br true,.r [] [cm oz1],.r [] [.n ((↑k:Int)+1)]]) (G:=[.any (rg [(32,7)]),.drop [36],.ren 37 900,.weak 31 (i64 (↑(k+1):Int)),.blk 900 (Blk.slc 30 1 (List.map (row1 IntKind.i8) (tkW l (k+1)))),.blk 100000 (Blk.var [AV.sl 1 (List.map (row1 IntKind.u8) (dpW l (k+1))),i64 0]),.sort]) (by kernel_rfl) (.c (decide_eq_true (p:=((↑k:Int)<(↑n:Int))) (by omega))<|.c oz1<|.c (show ((List.map (row1 IntKind.i8) (tkW l k)).length+1)*1≤140737488355328 by (simp;omega))<|.c (show (List.map (row1 IntKind.i8) (tkW l k)).length+1≤9223372036854775807 by (simp;omega))<|.c (i6n ((↑k:Int)+1) (by omega))<|.c (Weak.int (k:=.i64) (show (((↑k:Int)+1):Int)=((↑(k+1):Int)) from (by omega)))<|.c (show BlkW (Blk.slc 30 1 (List.map (row1 IntKind.i8) (tkW l k)++[[i8 (IntKind.i8.wrap ((dpW l k).getD 0 default))]])) (Blk.slc 30 1 (List.map (row1 IntKind.i8) (tkW l (k+1)))) from (BlkW.rows (rows_to (row1 IntKind.i8) (r:=List.map (row1 IntKind.i8) (tkW l k)++[[i8 (IntKind.i8.wrap ((dpW l k).getD 0 default))]]) (l:=tkW l k++[IntKind.i8.wrap ((dpW l k).getD 0 default)]) (m:=tkW l (k+1)) (by first|(simp;done)|rfl|(simp;rfl)) (show (tkW l k++[IntKind.i8.wrap ((dpW l k).getD 0 default)])=(tkW l (k+1)) from (by rfl)))))<|.c (show BlkW (Blk.var [AV.sl 1 (List.map (row1 IntKind.u8) (List.drop 1 (dpW l k))),i64 0]) (Blk.var [AV.sl 1 (List.map (row1 IntKind.u8) (dpW l (k+1))),i64 0]) from (BlkW.var (.cons (Weak.rows (rows_to (row1 IntKind.u8) (r:=List.map (row1 IntKind.u8) (List.drop 1 (dpW l k))) (l:=List.drop 1 (dpW l k)) (m:=dpW l (k+1)) rfl (show (List.drop 1 (dpW l k))=(dpW l (k+1)) from (by rfl)))) (.cons (.refl _) .nil))))<|.n)
theorem all8_l_e (l:List Int) (n:Nat) (hb:∀ x∈l,0≤x∧x≤255) (hl:l.length≤1000000) (h1:n≤l.length):VT Try.prog (fnC Try.f265 [1,1,1,1,0,1,0,0]) (all8_l_I l n (n)) (.exit 0) (all8_l_Z l n):=by
 exact VT.run (W:=[.r [] [],.br false]) (G:=[.any [32],.sort]) (by kernel_rfl) (.c (decide_eq_false (p:=((↑n:Int)<(↑n:Int))) (by omega))<|.n)
theorem all8_l (l:List Int) (n:Nat) (hb:∀ x∈l,0≤x∧x≤255) (hl:l.length≤1000000) (h1:n≤l.length):VT Try.prog (fnC Try.f265 [1,1,1,1,0,1,0]) (all8_l_I l n 0) (.exit 0) (all8_l_Z l n) :=
 VT.loop (fun k=>all8_l_I l n k) (n) (fun k hk=>all8_l_s l n hb hl h1 k hk) (all8_l_e l n hb hl h1) (by intro h;cases h)
noncomputable def all32_l_I (l:List Int) (n:Nat) (k:Nat):VS:=stt 45 [(0,AV.ptr 100000 0 0),(2,.bnd 268 (.ptr 100000 0 0)),(7,.own 900),(30,i64 n),(31,i64 k)] [(900,.slc 21 1 ((itV (l,0) k).map (row1 .i32))),(100000,.var (rdC (itS (l,0) k)))]
noncomputable def all32_l_Z (l:List Int) (n:Nat):VS:=all32_l_I l n (n)
theorem all32_l_s (l:List Int) (n:Nat) (hb:∀ x∈l,0≤x∧x≤255) (hl:l.length≤1000000) (h1:n≤l.length) (k:Nat) (hk:k<n):VT Try.prog (fnC Try.f267 [1,1,1,1,0,1,0,0]) (all32_l_I l n k) .normal (all32_l_I l n (k+1)):=by
 have q1:(itS (l,0) k).In:=itS_in ⟨hb,hl⟩ k
 have q3:=itV_len (l,0) k
 have oz1 := @int32_v (itS (l,0) k) q1
 exact VT.run (W:=[.r [] [],.br true,.r [] [cm oz1],.r [] [.n ((↑k:Int)+1)]]) (G:=[.any (rg [(32,7)]),.drop [36],.ren 37 900,.weak 31 (i64 (↑(k+1):Int)),.blk 900 (Blk.slc 21 1 (List.map (row1 IntKind.i32) (itV (l,0) (k+1)))),.blk 100000 (Blk.var [AV.sl 1 (List.map (row1 IntKind.u8) (itS (l,0) (k+1)).fst),i64 (itS (l,0) (k+1)).snd]),.sort]) (by kernel_rfl) (.c (decide_eq_true (p:=((↑k:Int)<(↑n:Int))) (by omega))<|.c oz1<|.c (show ((List.map (row1 IntKind.i32) (itV (l,0) k)).length+1)*4≤140737488355328 by (simp;omega))<|.c (show (List.map (row1 IntKind.i32) (itV (l,0) k)).length+1≤9223372036854775807 by (simp;omega))<|.c (i6n ((↑k:Int)+1) (by omega))<|.c (Weak.int (k:=.i64) (show (((↑k:Int)+1):Int)=((↑(k+1):Int)) from (by omega)))<|.c (show BlkW (Blk.slc 21 1 (List.map (row1 IntKind.i32) (itV (l,0) k)++[[i32 (intV (itS (l,0) k) (-2147483648) 2147483647)]])) (Blk.slc 21 1 (List.map (row1 IntKind.i32) (itV (l,0) (k+1)))) from (BlkW.rows (rows_to (row1 IntKind.i32) (r:=List.map (row1 IntKind.i32) (itV (l,0) k)++[[i32 (intV (itS (l,0) k) (-2147483648) 2147483647)]]) (l:=itV (l,0) k++[intV (itS (l,0) k) (-2147483648) 2147483647]) (m:=itV (l,0) (k+1)) (by first|(simp;done)|rfl|(simp;rfl)) (show (itV (l,0) k++[intV (itS (l,0) k) (-2147483648) 2147483647])=(itV (l,0) (k+1)) from (by rfl)))))<|.c (show BlkW (Blk.var [AV.sl 1 (List.map (row1 IntKind.u8) (intS (itS (l,0) k) (-2147483648) 2147483647).fst),i64 (intS (itS (l,0) k) (-2147483648) 2147483647).snd]) (Blk.var [AV.sl 1 (List.map (row1 IntKind.u8) (itS (l,0) (k+1)).fst),i64 (itS (l,0) (k+1)).snd]) from (BlkW.var (.cons (Weak.rows (rows_to (row1 IntKind.u8) (r:=List.map (row1 IntKind.u8) (intS (itS (l,0) k) (-2147483648) 2147483647).fst) (l:=(intS (itS (l,0) k) (-2147483648) 2147483647).fst) (m:=(itS (l,0) (k+1)).fst) rfl (show ((intS (itS (l,0) k) (-2147483648) 2147483647).fst)=((itS (l,0) (k+1)).fst) from (by rfl)))) (.cons (Weak.int (show (((intS (itS (l,0) k) (-2147483648) 2147483647).snd):Int)=((itS (l,0) (k+1)).snd) from (by rfl))) .nil))))<|.n)
theorem all32_l_e (l:List Int) (n:Nat) (hb:∀ x∈l,0≤x∧x≤255) (hl:l.length≤1000000) (h1:n≤l.length):VT Try.prog (fnC Try.f267 [1,1,1,1,0,1,0,0]) (all32_l_I l n (n)) (.exit 0) (all32_l_Z l n):=by
 exact VT.run (W:=[.r [] [],.br false]) (G:=[.any [32],.sort]) (by kernel_rfl) (.c (decide_eq_false (p:=((↑n:Int)<(↑n:Int))) (by omega))<|.n)
theorem all32_l (l:List Int) (n:Nat) (hb:∀ x∈l,0≤x∧x≤255) (hl:l.length≤1000000) (h1:n≤l.length):VT Try.prog (fnC Try.f267 [1,1,1,1,0,1,0]) (all32_l_I l n 0) (.exit 0) (all32_l_Z l n) :=
 VT.loop (fun k=>all32_l_I l n k) (n) (fun k hk=>all32_l_s l n hb hl h1 k hk) (all32_l_e l n hb hl h1) (by intro h;cases h)
theorem all8_y (l:List Int) (n:Nat) (hb:∀ x∈l,0≤x∧x≤255) (hl:l.length≤1000000) (h0:1≤n) (h1:n≤l.length):VM Try.prog 265 ([.ptr 100000 0 0,i64 n,.bnd 266 (.ptr 100000 0 0)]) ([(100000,.var (rdC (l,0)))]) (.sl 1 ((tkW l n).map (row1 .i8))) ([(100000,.var (rdC (dpW l n,0)))]):=by
 have q3:=tkW_len l n
 have oz0:=z0_
 have oz10 := @all8_l (l) (n) hb hl h1
 exact VM.run (fn:=Try.f265) (W:=[.r [] [],.r [] [.br true,.br true,.br true,.br true,.br true,.br false,.op false,.op false,.sel 1],.br false,.r [] [],.br false,.r [] [],.r [] [],.code [.any (rg [(1,1),(6,1),(8,10),(20,8)]),.weak 31 (i64 (↑0:Int)),.nils 7 900 30 1,.blk 100000 (Blk.var [AV.sl 1 (List.map (row1 IntKind.u8) (dpW l 0)),i64 0]),.sort] (Exit.exit 0) (zO oz10),.r [] [],.br false,.r [] []]) (G:=[.frz 900,.sort]) Try.func265 (by kernel_rfl) (.c oz0<|.c oz0<|.c oz0<|.c oz0<|.c oz0<|.c oz0<|.c (show ((l,0).snd != 0 || decide ((↑n:Int)<1))=false by (refine decide_eq_false ?_;omega))<|.c (show decide ((↑n:Int) > (↑(List.map (row1 IntKind.u8) (l,0).fst).length:Int))=false by (simp;omega))<|.c (Weak.int (k:=.i64) (show ((0):Int)=((↑0:Int)) from (by omega)))<|.c (show BlkW (Blk.var [AV.sl 1 (List.map (row1 IntKind.u8) (l,0).fst),i64 (l,0).snd]) (Blk.var [AV.sl 1 (List.map (row1 IntKind.u8) (dpW l 0)),i64 0]) from (BlkW.var (.cons (Weak.rows (rows_to (row1 IntKind.u8) (r:=List.map (row1 IntKind.u8) (l,0).fst) (l:=(l,0).fst) (m:=dpW l 0) rfl (show ((l,0).fst)=(dpW l 0) from (by rfl)))) (.cons (.refl _) .nil))))<|.c oz10<|.c oz0<|.n)
theorem all8_e (s:Rst) (n:Int) (h:s.2≠0):VM Try.prog 265 ([.ptr 100000 0 0,i64 n,.bnd 266 (.ptr 100000 0 0)]) ([(100000,.var (rdC s))]) (.sl 1 (([]:List Int).map (row1 .i8))) ([(100000,.var (rdC s))]):=by
 have oz0:=z0_
 exact VM.run (fn:=Try.f265) (W:=[.r [] [],.r [] [.br true,.br true,.br true,.br true,.br true,.br false,.op false,.op false,.sel 1],.br true,.r [] []]) (G:=[.weak 0 (AV.sl 1 []),.sort]) Try.func265 (by kernel_rfl) (.c oz0<|.c oz0<|.c oz0<|.c oz0<|.c oz0<|.c oz0<|.c (show (s.snd != 0 || decide (n<1))=true by (simp;omega))<|.c (show Weak (nilv) (AV.sl 1 []) from (Weak.nil _))<|.n)
theorem all8_n (l:List Int) (n:Int) (h:n<1):VM Try.prog 265 ([.ptr 100000 0 0,i64 n,.bnd 266 (.ptr 100000 0 0)]) ([(100000,.var (rdC (l,0)))]) (.sl 1 (([]:List Int).map (row1 .i8))) ([(100000,.var (rdC (l,0)))]):=by
 have oz0:=z0_
 exact VM.run (fn:=Try.f265) (W:=[.r [] [],.r [] [.br true,.br true,.br true,.br true,.br true,.br false,.op false,.op false,.sel 1],.br true,.r [] []]) (G:=[.weak 0 (AV.sl 1 []),.sort]) Try.func265 (by kernel_rfl) (.c oz0<|.c oz0<|.c oz0<|.c oz0<|.c oz0<|.c oz0<|.c (show ((l,0).snd != 0 || decide (n<1))=true by (refine decide_eq_true ?_;omega))<|.c (show Weak (nilv) (AV.sl 1 []) from (Weak.nil _))<|.n)
theorem all8_m (l:List Int) (n:Int) (h:1≤n) (h1:(l.length:Int)<n):VM Try.prog 265 ([.ptr 100000 0 0,i64 n,.bnd 266 (.ptr 100000 0 0)]) ([(100000,.var (rdC (l,0)))]) (.sl 1 (([]:List Int).map (row1 .i8))) ([(100000,.var (rdC ([],20)))]):=by
 have oz0:=z0_
 have oz8 := @rfail_v (l) (20)
 exact VM.run (fn:=Try.f265) (W:=[.r [] [],.r [] [.br true,.br true,.br true,.br true,.br true,.br false,.op false,.op false,.sel 1],.br false,.r [] [],.br true,.r [] [cm oz8],.r [] []]) (G:=[.weak 0 (AV.sl 1 []),.sort]) Try.func265 (by kernel_rfl) (.c oz0<|.c oz0<|.c oz0<|.c oz0<|.c oz0<|.c oz0<|.c (show ((l,0).snd != 0 || decide (n<1))=false by (refine decide_eq_false ?_;omega))<|.c (show decide (n > (↑(List.map (row1 IntKind.u8) (l,0).fst).length:Int))=true by (simp;omega))<|.c oz8<|.c (show Weak (nilv) (AV.sl 1 []) from (Weak.nil _))<|.n)
theorem all32_y (l:List Int) (n:Nat) (hb:∀ x∈l,0≤x∧x≤255) (hl:l.length≤1000000) (h0:1≤n) (h1:n≤l.length) (h:(itS (l,0) n).2=0):VM Try.prog 267 ([.ptr 100000 0 0,i64 n,.bnd 268 (.ptr 100000 0 0)]) ([(100000,.var (rdC (l,0)))]) (.sl 1 ((itV (l,0) n).map (row1 .i32))) ([(100000,.var (rdC (itS (l,0) n)))]):=by
 have q3:=itV_len (l,0) n
 have oz0:=z0_
 have oz10 := @all32_l (l) (n) hb hl h1
 exact VM.run (fn:=Try.f267) (W:=[.r [] [],.r [] [.br true,.br true,.br true,.br true,.br true,.br false,.op false,.op false,.sel 1],.br false,.r [] [],.br false,.r [] [],.r [] [],.code [.any (rg [(1,1),(6,1),(8,10),(20,8)]),.weak 31 (i64 (↑0:Int)),.nils 7 900 21 1,.blk 100000 (Blk.var [AV.sl 1 (List.map (row1 IntKind.u8) (itS (l,0) 0).fst),i64 (itS (l,0) 0).snd]),.sort] (Exit.exit 0) (zO oz10),.r [] [],.br false,.r [] []]) (G:=[.frz 900,.sort]) Try.func267 (by kernel_rfl) (.c oz0<|.c oz0<|.c oz0<|.c oz0<|.c oz0<|.c oz0<|.c (show ((l,0).snd != 0 || decide ((↑n:Int)<1))=false by (refine decide_eq_false ?_;omega))<|.c (show decide ((↑n:Int) > (↑(List.map (row1 IntKind.u8) (l,0).fst).length:Int))=false by (simp;omega))<|.c (Weak.int (k:=.i64) (show ((0):Int)=((↑0:Int)) from (by omega)))<|.c (show BlkW (Blk.var [AV.sl 1 (List.map (row1 IntKind.u8) (l,0).fst),i64 (l,0).snd]) (Blk.var [AV.sl 1 (List.map (row1 IntKind.u8) (itS (l,0) 0).fst),i64 (itS (l,0) 0).snd]) from (BlkW.var (.cons (Weak.rows (rows_to (row1 IntKind.u8) (r:=List.map (row1 IntKind.u8) (l,0).fst) (l:=(l,0).fst) (m:=(itS (l,0) 0).fst) rfl (show ((l,0).fst)=((itS (l,0) 0).fst) from (by rfl)))) (.cons (Weak.int (show (((l,0).snd):Int)=((itS (l,0) 0).snd) from (by rfl))) .nil))))<|.c oz10<|.c (show ((itS (l,0) n).snd != 0)=false by (simp;omega))<|.n)
theorem all32_f (l:List Int) (n:Nat) (hb:∀ x∈l,0≤x∧x≤255) (hl:l.length≤1000000) (h0:1≤n) (h1:n≤l.length) (h:(itS (l,0) n).2≠0):VM Try.prog 267 ([.ptr 100000 0 0,i64 n,.bnd 268 (.ptr 100000 0 0)]) ([(100000,.var (rdC (l,0)))]) (.sl 1 (([]:List Int).map (row1 .i8))) ([(100000,.var (rdC (itS (l,0) n)))]):=by
 have q3:=itV_len (l,0) n
 have oz0:=z0_
 have oz10 := @all32_l (l) (n) hb hl h1
 exact VM.run (fn:=Try.f267) (W:=[.r [] [],.r [] [.br true,.br true,.br true,.br true,.br true,.br false,.op false,.op false,.sel 1],.br false,.r [] [],.br false,.r [] [],.r [] [],.code [.any (rg [(1,1),(6,1),(8,10),(20,8)]),.weak 31 (i64 (↑0:Int)),.nils 7 900 21 1,.blk 100000 (Blk.var [AV.sl 1 (List.map (row1 IntKind.u8) (itS (l,0) 0).fst),i64 (itS (l,0) 0).snd]),.sort] (Exit.exit 0) (zO oz10),.r [] [],.br true,.r [] []]) (G:=[.drop [900],.weak 0 (AV.sl 1 []),.sort]) Try.func267 (by kernel_rfl) (.c oz0<|.c oz0<|.c oz0<|.c oz0<|.c oz0<|.c oz0<|.c (show ((l,0).snd != 0 || decide ((↑n:Int)<1))=false by (refine decide_eq_false ?_;omega))<|.c (show decide ((↑n:Int) > (↑(List.map (row1 IntKind.u8) (l,0).fst).length:Int))=false by (simp;omega))<|.c (Weak.int (k:=.i64) (show ((0):Int)=((↑0:Int)) from (by omega)))<|.c (show BlkW (Blk.var [AV.sl 1 (List.map (row1 IntKind.u8) (l,0).fst),i64 (l,0).snd]) (Blk.var [AV.sl 1 (List.map (row1 IntKind.u8) (itS (l,0) 0).fst),i64 (itS (l,0) 0).snd]) from (BlkW.var (.cons (Weak.rows (rows_to (row1 IntKind.u8) (r:=List.map (row1 IntKind.u8) (l,0).fst) (l:=(l,0).fst) (m:=(itS (l,0) 0).fst) rfl (show ((l,0).fst)=((itS (l,0) 0).fst) from (by rfl)))) (.cons (Weak.int (show (((l,0).snd):Int)=((itS (l,0) 0).snd) from (by rfl))) .nil))))<|.c oz10<|.c (show ((itS (l,0) n).snd != 0)=true by (simp;omega))<|.c (show Weak (nilv) (AV.sl 1 []) from (Weak.nil _))<|.n)
theorem all32_e (s:Rst) (n:Int) (h:s.2≠0):VM Try.prog 267 ([.ptr 100000 0 0,i64 n,.bnd 268 (.ptr 100000 0 0)]) ([(100000,.var (rdC s))]) (.sl 1 (([]:List Int).map (row1 .i8))) ([(100000,.var (rdC s))]):=by
 have oz0:=z0_
 exact VM.run (fn:=Try.f267) (W:=[.r [] [],.r [] [.br true,.br true,.br true,.br true,.br true,.br false,.op false,.op false,.sel 1],.br true,.r [] []]) (G:=[.weak 0 (AV.sl 1 []),.sort]) Try.func267 (by kernel_rfl) (.c oz0<|.c oz0<|.c oz0<|.c oz0<|.c oz0<|.c oz0<|.c (show (s.snd != 0 || decide (n<1))=true by (simp;omega))<|.c (show Weak (nilv) (AV.sl 1 []) from (Weak.nil _))<|.n)
theorem all32_n (l:List Int) (n:Int) (h:n<1):VM Try.prog 267 ([.ptr 100000 0 0,i64 n,.bnd 268 (.ptr 100000 0 0)]) ([(100000,.var (rdC (l,0)))]) (.sl 1 (([]:List Int).map (row1 .i8))) ([(100000,.var (rdC (l,0)))]):=by
 have oz0:=z0_
 exact VM.run (fn:=Try.f267) (W:=[.r [] [],.r [] [.br true,.br true,.br true,.br true,.br true,.br false,.op false,.op false,.sel 1],.br true,.r [] []]) (G:=[.weak 0 (AV.sl 1 []),.sort]) Try.func267 (by kernel_rfl) (.c oz0<|.c oz0<|.c oz0<|.c oz0<|.c oz0<|.c oz0<|.c (show ((l,0).snd != 0 || decide (n<1))=true by (refine decide_eq_true ?_;omega))<|.c (show Weak (nilv) (AV.sl 1 []) from (Weak.nil _))<|.n)
theorem all32_m (l:List Int) (n:Int) (h:1≤n) (h1:(l.length:Int)<n):VM Try.prog 267 ([.ptr 100000 0 0,i64 n,.bnd 268 (.ptr 100000 0 0)]) ([(100000,.var (rdC (l,0)))]) (.sl 1 (([]:List Int).map (row1 .i8))) ([(100000,.var (rdC ([],20)))]):=by
 have oz0:=z0_
 have oz8 := @rfail_v (l) (20)
 exact VM.run (fn:=Try.f267) (W:=[.r [] [],.r [] [.br true,.br true,.br true,.br true,.br true,.br false,.op false,.op false,.sel 1],.br false,.r [] [],.br true,.r [] [cm oz8],.r [] []]) (G:=[.weak 0 (AV.sl 1 []),.sort]) Try.func267 (by kernel_rfl) (.c oz0<|.c oz0<|.c oz0<|.c oz0<|.c oz0<|.c oz0<|.c (show ((l,0).snd != 0 || decide (n<1))=false by (refine decide_eq_false ?_;omega))<|.c (show decide (n > (↑(List.map (row1 IntKind.u8) (l,0).fst).length:Int))=true by (simp;omega))<|.c oz8<|.c (show Weak (nilv) (AV.sl 1 []) from (Weak.nil _))<|.n)
def smlS (s:Rst) (n:Int):Rst :=
 if s.2≠0 then s else if n<1 then s else if (s.1.length:Int)<n then ([],20) else (dpW s.1 n.toNat,0)
def smlV (s:Rst) (n:Int):List Int :=
 if s.2≠0 then [] else if n<1 then [] else if (s.1.length:Int)<n then [] else tkW s.1 n.toNat
theorem sml_in {s:Rst} (h:s.In) (n:Int):(smlS s n).In:=by
 unfold smlS
 split
 ·exact h
 ·split
  ·exact h
  ·split
   ·exact ⟨by simp,by simp⟩
   ·exact ⟨by dsimp only;rw [dpW_eq];exact mem_drop' h.b,by dsimp only;rw [dpW_eq];have:=h.l;simp only [List.length_drop];omega⟩
theorem smlV_len (s:Rst) (n:Int):(smlV s n).length≤s.1.length:=by
 unfold smlV
 split
 ·simp
 ·split
  ·simp
  ·split
   ·simp
   ·rw [tkW_len];omega
theorem all8_v (s:Rst) (n:Int) (h:s.In):VM Try.prog 265 [.ptr 100000 0 0,i64 n,.bnd 266 (.ptr 100000 0 0)] [(100000,.var (rdC s))] (.sl 1 ((smlV s n).map (row1 .i8))) [(100000,.var (rdC (smlS s n)))]:=by
 obtain ⟨l,e⟩:=s
 by_cases he:e=0
 ·subst he
  by_cases h1:n<1
  ·rw [show smlS (l,0) n=(l,0) from by simp [smlS,h1],show smlV (l,0) n=[] from by simp [smlV,h1]]
   exact all8_n l n h1
  ·by_cases h2:(l.length:Int)<n
   ·rw [show smlS (l,0) n=([],20) from by simp [smlS,h1,h2],show smlV (l,0) n=[] from by simp [smlV,h1,h2]]
    exact all8_m l n (by omega) h2
   ·obtain ⟨m,rfl⟩:=Int.eq_ofNat_of_zero_le (show 0≤n by omega)
    rw [show smlS (l,0) (m:Int)=(dpW l m,0) from by simp [smlS,h1,h2],show smlV (l,0) (m:Int)=tkW l m from by simp [smlV,h1,h2]]
    exact all8_y l m h.b h.l (by omega) (by omega)
 ·rw [show smlS (l,e) n=(l,e) from by simp [smlS,he],show smlV (l,e) n=[] from by simp [smlV,he]]
  exact all8_e (l,e) n he
def widS (s:Rst) (n:Int):Rst :=
 if s.2≠0 then s else if n<1 then s else if (s.1.length:Int)<n then ([],20) else itS s n.toNat
def widV (s:Rst) (n:Int):List Int :=
 if s.2≠0 then [] else if n<1 then [] else if (s.1.length:Int)<n then [] else if (itS s n.toNat).2≠0 then [] else itV s n.toNat
theorem wid_in {s:Rst} (h:s.In) (n:Int):(widS s n).In:=by
 unfold widS
 split
 ·exact h
 ·split
  ·exact h
  ·split
   ·exact ⟨by simp,by simp⟩
   ·exact itS_in h _
theorem widV_len (s:Rst) (n:Int):(widV s n).length≤s.1.length:=by
 unfold widV
 split
 ·simp
 ·split
  ·simp
  ·split
   ·simp
   ·split
    ·simp
    ·rw [itV_len];omega
theorem all32_v (s:Rst) (n:Int) (h:s.In):VM Try.prog 267 [.ptr 100000 0 0,i64 n,.bnd 268 (.ptr 100000 0 0)] [(100000,.var (rdC s))] (.sl 1 ((widV s n).map (row1 .i32))) [(100000,.var (rdC (widS s n)))]:=by
 obtain ⟨l,e⟩:=s
 by_cases he:e=0
 ·subst he
  by_cases h1:n<1
  ·rw [show widS (l,0) n=(l,0) from by simp [widS,h1],show widV (l,0) n=[] from by simp [widV,h1]]
   exact all32_n l n h1
  ·by_cases h2:(l.length:Int)<n
   ·rw [show widS (l,0) n=([],20) from by simp [widS,h1,h2],show widV (l,0) n=[] from by simp [widV,h1,h2]]
    exact all32_m l n (by omega) h2
   ·obtain ⟨m,rfl⟩:=Int.eq_ofNat_of_zero_le (show 0≤n by omega)
    by_cases h3:(itS (l,0) m).2=0
    ·rw [show widS (l,0) (m:Int)=itS (l,0) m from by simp [widS,h1,h2],show widV (l,0) (m:Int)=itV (l,0) m from by simp [widV,h1,h2,h3]]
     exact all32_y l m h.b h.l (by omega) (by omega) h3
    ·rw [show widS (l,0) (m:Int)=itS (l,0) m from by simp [widS,h1,h2],show widV (l,0) (m:Int)=[] from by simp [widV,h1,h2,h3]]
     exact all32_f l m h.b h.l (by omega) (by omega) h3
 ·rw [show widS (l,e) n=(l,e) from by simp [widS,he],show widV (l,e) n=[] from by simp [widV,he]]
  exact all32_e (l,e) n he
theorem smallR_v (s:Rst) (n:Int) (h:s.In):VM Try.prog 263 ([.ptr 100000 0 0,i64 n]) ([(100000,.var (rdC s))]) (.sl 1 ((smlV s n).map (row1 .i8))) ([(100000,.var (rdC (smlS s n)))]):=by
 have oz0 := @all8_v (s) (n) h
 exact VM.run (fn:=Try.f263) (W:=[.r [] [],.r [] [cm oz0]]) (G:=[.sort]) Try.func263 (by kernel_rfl) (.c oz0<|.n)
theorem wideR_v (s:Rst) (n:Int) (h:s.In):VM Try.prog 264 ([.ptr 100000 0 0,i64 n]) ([(100000,.var (rdC s))]) (.sl 1 ((widV s n).map (row1 .i32))) ([(100000,.var (rdC (widS s n)))]):=by
 have oz0 := @all32_v (s) (n) h
 exact VM.run (fn:=Try.f264) (W:=[.r [] [],.r [] [cm oz0]]) (G:=[.sort]) Try.func264 (by kernel_rfl) (.c oz0<|.n)
abbrev Rrf:=Nat×Int
abbrev rrC (xs:List Int) (r:Rrf):List AV:=[.sl 1 (xs.map (row1 .u8)),i64 (r.1:Nat),i64 r.2]
def toS (xs:List Int) (r:Rrf):Rst:=if r.2=0 then (xs.drop r.1,0) else ([],r.2)
def cntR (xs:List Int) (r:Rrf) (m:Int):Rrf :=
 if r.2≠0 then r else if getE (xs.drop r.1)≠0 then (r.1,getE (xs.drop r.1)) else if max m 0<getV (xs.drop r.1) then (r.1,3) else (r.1+(getN (xs.drop r.1)).toNat,0)
def intR (xs:List Int) (r:Rrf) (lo hi:Int):Rrf :=
 if r.2≠0 then r else if getE (xs.drop r.1)≠0 then (r.1,getE (xs.drop r.1)) else if unfoldN (getV (xs.drop r.1))<lo∨hi<unfoldN (getV (xs.drop r.1)) then (r.1,3) else (r.1+(getN (xs.drop r.1)).toNat,0)
theorem rcount_e (xs:List Int) (r:Rrf) (m:Int) (h:r.2≠0):VM Try.prog 109 ([.ptr 100000 0 0,i64 m]) ([(100000,.var (rrC xs r))]) (i64 0) ([(100000,.var (rrC xs r))]):=by
 exact VM.run (fn:=Try.f109) (W:=[.r [] [],.r [] [],.br true,.r [] []]) (G:=[.sort]) Try.func109 (by kernel_rfl) (.c (show (r.snd != 0)=true by (simp;omega))<|.n)
theorem rcount_g (xs:List Int) (c:Nat) (m:Int) (hb:∀ x∈xs,0≤x∧x≤255) (hl:xs.length≤1000000) (ha:c≤xs.length) (h:getE (xs.drop c)≠0) (h0:0≤m) (h1:m≤2147483647):VM Try.prog 109 ([.ptr 100000 0 0,i64 m]) ([(100000,.var (rrC xs (c,0)))]) (i64 0) ([(100000,.var (rrC xs (c,getE (xs.drop c))))]):=by
 have qt:List.take ((List.map (row1 .u8) xs).length-c) (List.drop c xs)=xs.drop c:=List.take_of_length_le (by simp [List.length_drop])
 have qu:List.take ((List.map (row1 .u8) xs).length-((c:Nat):Int).toNat) (List.drop ((c:Nat):Int).toNat xs)=xs.drop c:=by rw [Int.toNat_natCast];exact qt
 have qb:∀ x∈xs.drop c,0≤x∧x≤255:=mem_drop' hb
 obtain ⟨q1,q2,q3⟩:=get_rng qb
 have q5:(xs.drop c).length=xs.length-c:=List.length_drop
 rcases bft (getE (List.take ((List.map (row1 IntKind.u8) xs).length-c) (List.drop c xs)) != 0) with hc0 | hc0
 ·have gc0:¬getE (List.take ((List.map (row1 IntKind.u8) xs).length-c) (List.drop c xs))=0:=bdt hc0
  have oz6 := @refGet_v (List.take ((List.map (row1 IntKind.u8) xs).length-c) (List.drop c xs)) (by (rw [qt];exact qb)) (by (rw [qt];omega))
  exact VM.run (fn:=Try.f109) (W:=[.r [] [],.r [] [],.br false,.r [] [.nats (c,0).fst (List.map (row1 IntKind.u8) xs).length,.call (aO oz6) (rO oz6)],.r [] [],.br true,.r [] [],.r [] []]) (G:=[.blk 100000 (Blk.var [AV.sl 1 (List.map (row1 IntKind.u8) xs),i64 (↑c:Int),i64 (getE (List.drop c xs))]),.sort]) Try.func109 (by kernel_rfl) (.c (show ((c,0).snd != 0)=false by (simp;done))<|.c (show (↑(c,0).fst:Int)=(↑(c,0).fst:Int) by with_reducible rfl)<|.c (show (List.map (row1 IntKind.u8) xs).length=(List.map (row1 IntKind.u8) xs).length by with_reducible rfl)<|.c (show (c,0).fst≤(List.map (row1 IntKind.u8) xs).length by (simp;omega))<|.c (show (List.map (row1 IntKind.u8) xs).length≤(List.map (row1 IntKind.u8) xs).length by omega)<|.c (show WeakL [AV.sl 1 (List.take ((List.map (row1 IntKind.u8) xs).length-(c,0).fst) (List.drop (c,0).fst (List.map (row1 IntKind.u8) xs)))] [AV.sl 1 (List.map (row1 IntKind.u8) (List.take ((List.map (row1 IntKind.u8) xs).length-c) (List.drop c xs)))] from (.cons (Weak.rows (rows_to (row1 IntKind.u8) (r:=List.take ((List.map (row1 IntKind.u8) xs).length-(c,0).fst) (List.drop (c,0).fst (List.map (row1 IntKind.u8) xs))) (l:=List.take ((List.map (row1 IntKind.u8) xs).length-(c,0).fst) (List.drop (c,0).fst xs)) (m:=List.take ((List.map (row1 IntKind.u8) xs).length-(c,0).fst) (List.drop (c,0).fst xs)) (by first|(simp;done)|rfl|(simp;rfl)) rfl)) .nil))<|.c oz6<|.c hc0<|.c (show BlkW (Blk.var [AV.sl 1 (List.map (row1 IntKind.u8) xs),i64 (↑(c,0).fst:Int),i64 (getE (List.take ((List.map (row1 IntKind.u8) xs).length-c) (List.drop c xs)))]) (Blk.var [AV.sl 1 (List.map (row1 IntKind.u8) xs),i64 (↑c:Int),i64 (getE (List.drop c xs))]) from (BlkW.var (.cons (.refl _) (.cons (.refl _) (.cons (Weak.int (show ((getE (List.take ((List.map (row1 IntKind.u8) xs).length-c) (List.drop c xs))):Int)=(getE (List.drop c xs)) from (by (rw [qt])))) .nil)))))<|.n)
 ·have gc0:getE (List.take ((List.map (row1 IntKind.u8) xs).length-c) (List.drop c xs))=0:=bdf hc0
  have oz6 := @refGet_v (List.take ((List.map (row1 IntKind.u8) xs).length-c) (List.drop c xs)) (by (rw [qt];exact qb)) (by (rw [qt];omega))
  exact VM.run (fn:=Try.f109) (W:=[.r [] [],.r [] [],.br false,.r [] [.nats (c,0).fst (List.map (row1 IntKind.u8) xs).length,.call (aO oz6) (rO oz6)],.r [] [],.br false,.r [] [.n (if 0 > m then 0 else m)],.br true,.r [] [],.r [] []]) (G:=[.blk 100000 (Blk.var [AV.sl 1 (List.map (row1 IntKind.u8) xs),i64 (↑c:Int),i64 (getE (List.drop c xs))]),.sort]) Try.func109 (by kernel_rfl) (.c (show ((c,0).snd != 0)=false by (rw [qt] at *;first | exact h | omega))<|.c (show (↑(c,0).fst:Int)=(↑(c,0).fst:Int) by with_reducible rfl)<|.c (show (List.map (row1 IntKind.u8) xs).length=(List.map (row1 IntKind.u8) xs).length by with_reducible rfl)<|.c (show (c,0).fst≤(List.map (row1 IntKind.u8) xs).length by (rw [qt] at *;first | exact h | omega))<|.c (show (List.map (row1 IntKind.u8) xs).length≤(List.map (row1 IntKind.u8) xs).length by omega)<|.c (show WeakL [AV.sl 1 (List.take ((List.map (row1 IntKind.u8) xs).length-(c,0).fst) (List.drop (c,0).fst (List.map (row1 IntKind.u8) xs)))] [AV.sl 1 (List.map (row1 IntKind.u8) (List.take ((List.map (row1 IntKind.u8) xs).length-c) (List.drop c xs)))] from (.cons (Weak.rows (rows_to (row1 IntKind.u8) (r:=List.take ((List.map (row1 IntKind.u8) xs).length-(c,0).fst) (List.drop (c,0).fst (List.map (row1 IntKind.u8) xs))) (l:=List.take ((List.map (row1 IntKind.u8) xs).length-(c,0).fst) (List.drop (c,0).fst xs)) (m:=List.take ((List.map (row1 IntKind.u8) xs).length-(c,0).fst) (List.drop (c,0).fst xs)) (by first|(simp;done)|rfl|(simp;rfl)) rfl)) .nil))<|.c oz6<|.c hc0<|.c (IntWalk.u64_in (if 0 > m then 0 else m) (by omega))<|.c (show decide (getV (List.take ((List.map (row1 IntKind.u8) xs).length-c) (List.drop c xs)) > if 0 > m then 0 else m)=true by (rw [qt] at *;first | exact h | omega))<|.c (show BlkW (Blk.var [AV.sl 1 (List.map (row1 IntKind.u8) xs),i64 (↑(c,0).fst:Int),i64 3]) (Blk.var [AV.sl 1 (List.map (row1 IntKind.u8) xs),i64 (↑c:Int),i64 (getE (List.drop c xs))]) from (BlkW.var (.cons (.refl _) (.cons (.refl _) (.cons (Weak.int (show ((3):Int)=(getE (List.drop c xs)) from (by (rw [qt] at *;first | exact h | omega)))) .nil)))))<|.n)
theorem rcount_m (xs:List Int) (c:Nat) (m:Int) (hb:∀ x∈xs,0≤x∧x≤255) (hl:xs.length≤1000000) (ha:c≤xs.length) (h:getE (xs.drop c)=0) (h2:m<getV (xs.drop c)) (h0:0≤m) (h1:m≤2147483647):VM Try.prog 109 ([.ptr 100000 0 0,i64 m]) ([(100000,.var (rrC xs (c,0)))]) (i64 0) ([(100000,.var (rrC xs (c,3)))]):=by
 have qt:List.take ((List.map (row1 .u8) xs).length-c) (List.drop c xs)=xs.drop c:=List.take_of_length_le (by simp [List.length_drop])
 have qu:List.take ((List.map (row1 .u8) xs).length-((c:Nat):Int).toNat) (List.drop ((c:Nat):Int).toNat xs)=xs.drop c:=by rw [Int.toNat_natCast];exact qt
 have qb:∀ x∈xs.drop c,0≤x∧x≤255:=mem_drop' hb
 obtain ⟨q1,q2,q3⟩:=get_rng qb
 have q5:(xs.drop c).length=xs.length-c:=List.length_drop
 rcases bft (getE (List.take ((List.map (row1 IntKind.u8) xs).length-c) (List.drop c xs)) != 0) with hc0 | hc0
 ·have gc0:¬getE (List.take ((List.map (row1 IntKind.u8) xs).length-c) (List.drop c xs))=0:=bdt hc0
  have oz6 := @refGet_v (List.take ((List.map (row1 IntKind.u8) xs).length-c) (List.drop c xs)) (by (rw [qt];exact qb)) (by (rw [qt];omega))
  exact VM.run (fn:=Try.f109) (W:=[.r [] [],.r [] [],.br false,.r [] [.nats (c,0).fst (List.map (row1 IntKind.u8) xs).length,.call (aO oz6) (rO oz6)],.r [] [],.br true,.r [] [],.r [] []]) (G:=[.blk 100000 (Blk.var [AV.sl 1 (List.map (row1 IntKind.u8) xs),i64 (↑c:Int),i64 3]),.sort]) Try.func109 (by kernel_rfl) (.c (show ((c,0).snd != 0)=false by (rw [qt] at *;first | exact h | omega))<|.c (show (↑(c,0).fst:Int)=(↑(c,0).fst:Int) by with_reducible rfl)<|.c (show (List.map (row1 IntKind.u8) xs).length=(List.map (row1 IntKind.u8) xs).length by with_reducible rfl)<|.c (show (c,0).fst≤(List.map (row1 IntKind.u8) xs).length by (rw [qt] at *;first | exact h | omega))<|.c (show (List.map (row1 IntKind.u8) xs).length≤(List.map (row1 IntKind.u8) xs).length by omega)<|.c (show WeakL [AV.sl 1 (List.take ((List.map (row1 IntKind.u8) xs).length-(c,0).fst) (List.drop (c,0).fst (List.map (row1 IntKind.u8) xs)))] [AV.sl 1 (List.map (row1 IntKind.u8) (List.take ((List.map (row1 IntKind.u8) xs).length-c) (List.drop c xs)))] from (.cons (Weak.rows (rows_to (row1 IntKind.u8) (r:=List.take ((List.map (row1 IntKind.u8) xs).length-(c,0).fst) (List.drop (c,0).fst (List.map (row1 IntKind.u8) xs))) (l:=List.take ((List.map (row1 IntKind.u8) xs).length-(c,0).fst) (List.drop (c,0).fst xs)) (m:=List.take ((List.map (row1 IntKind.u8) xs).length-(c,0).fst) (List.drop (c,0).fst xs)) (by first|(simp;done)|rfl|(simp;rfl)) rfl)) .nil))<|.c oz6<|.c hc0<|.c (show BlkW (Blk.var [AV.sl 1 (List.map (row1 IntKind.u8) xs),i64 (↑(c,0).fst:Int),i64 (getE (List.take ((List.map (row1 IntKind.u8) xs).length-c) (List.drop c xs)))]) (Blk.var [AV.sl 1 (List.map (row1 IntKind.u8) xs),i64 (↑c:Int),i64 3]) from (BlkW.var (.cons (.refl _) (.cons (.refl _) (.cons (Weak.int (show ((getE (List.take ((List.map (row1 IntKind.u8) xs).length-c) (List.drop c xs))):Int)=(3) from (by (rw [qt] at *;first | exact h | omega)))) .nil)))))<|.n)
 ·have gc0:getE (List.take ((List.map (row1 IntKind.u8) xs).length-c) (List.drop c xs))=0:=bdf hc0
  rcases bft (decide (getV (List.take ((List.map (row1 IntKind.u8) xs).length-c) (List.drop c xs)) > if 0 > m then 0 else m)) with hc1 | hc1
  ·have gc1:=of_decide_eq_true hc1
   have oz6 := @refGet_v (List.take ((List.map (row1 IntKind.u8) xs).length-c) (List.drop c xs)) (by (rw [qt];exact qb)) (by (rw [qt];omega))
   exact VM.run (fn:=Try.f109) (W:=[.r [] [],.r [] [],.br false,.r [] [.nats (c,0).fst (List.map (row1 IntKind.u8) xs).length,.call (aO oz6) (rO oz6)],.r [] [],.br false,.r [] [.n (if 0 > m then 0 else m)],.br true,.r [] [],.r [] []]) (G:=[.sort]) Try.func109 (by kernel_rfl) (.c (show ((c,0).snd != 0)=false by (simp;done))<|.c (show (↑(c,0).fst:Int)=(↑(c,0).fst:Int) by with_reducible rfl)<|.c (show (List.map (row1 IntKind.u8) xs).length=(List.map (row1 IntKind.u8) xs).length by with_reducible rfl)<|.c (show (c,0).fst≤(List.map (row1 IntKind.u8) xs).length by (simp;omega))<|.c (show (List.map (row1 IntKind.u8) xs).length≤(List.map (row1 IntKind.u8) xs).length by omega)<|.c (show WeakL [AV.sl 1 (List.take ((List.map (row1 IntKind.u8) xs).length-(c,0).fst) (List.drop (c,0).fst (List.map (row1 IntKind.u8) xs)))] [AV.sl 1 (List.map (row1 IntKind.u8) (List.take ((List.map (row1 IntKind.u8) xs).length-c) (List.drop c xs)))] from (.cons (Weak.rows (rows_to (row1 IntKind.u8) (r:=List.take ((List.map (row1 IntKind.u8) xs).length-(c,0).fst) (List.drop (c,0).fst (List.map (row1 IntKind.u8) xs))) (l:=List.take ((List.map (row1 IntKind.u8) xs).length-(c,0).fst) (List.drop (c,0).fst xs)) (m:=List.take ((List.map (row1 IntKind.u8) xs).length-(c,0).fst) (List.drop (c,0).fst xs)) (by first|(simp;done)|rfl|(simp;rfl)) rfl)) .nil))<|.c oz6<|.c hc0<|.c (IntWalk.u64_in (if 0 > m then 0 else m) (by omega))<|.c hc1<|.n)
  ·have gc1:=of_decide_eq_false hc1
   have oz6 := @refGet_v (List.take ((List.map (row1 IntKind.u8) xs).length-c) (List.drop c xs)) (by (rw [qt];exact qb)) (by (rw [qt];omega))
   have oz10:=(show IntKind.i64.wrap ((↑(c,0).fst:Int)+getN (List.take ((List.map (row1 IntKind.u8) xs).length-c) (List.drop c xs)))=(↑(c,0).fst:Int)+getN (List.take ((List.map (row1 IntKind.u8) xs).length-c) (List.drop c xs)) by (rw [qt] at *;first | exact h | omega))
   have oz11:=(show IntKind.i64.wrap (getV (List.take ((List.map (row1 IntKind.u8) xs).length-c) (List.drop c xs)))=getV (List.take ((List.map (row1 IntKind.u8) xs).length-c) (List.drop c xs)) by (rw [qt] at *;first | exact h | omega))
   have oz12:=(Weak.int (k:=.i64) (show ((getV (List.take ((List.map (row1 IntKind.u8) xs).length-c) (List.drop c xs))):Int)=(0) from (by (rw [qt] at *;first | exact h | omega))))
   exact VM.run (fn:=Try.f109) (W:=[.r [] [],.r [] [],.br false,.r [] [.nats (c,0).fst (List.map (row1 IntKind.u8) xs).length,.call (aO oz6) (rO oz6)],.r [] [],.br false,.r [] [.n (if 0 > m then 0 else m)],.br false,.r [] [.n (nO oz10)],.r [] [.n (nO oz11)]]) (G:=[.weak 0 (wO oz12),.blk 100000 (Blk.var [AV.sl 1 (List.map (row1 IntKind.u8) xs),i64 (↑c:Int),i64 3]),.sort]) Try.func109 (by kernel_rfl) (.c (show ((c,0).snd != 0)=false by (rw [qt] at *;first | exact h | omega))<|.c (show (↑(c,0).fst:Int)=(↑(c,0).fst:Int) by with_reducible rfl)<|.c (show (List.map (row1 IntKind.u8) xs).length=(List.map (row1 IntKind.u8) xs).length by with_reducible rfl)<|.c (show (c,0).fst≤(List.map (row1 IntKind.u8) xs).length by (rw [qt] at *;first | exact h | omega))<|.c (show (List.map (row1 IntKind.u8) xs).length≤(List.map (row1 IntKind.u8) xs).length by omega)<|.c (show WeakL [AV.sl 1 (List.take ((List.map (row1 IntKind.u8) xs).length-(c,0).fst) (List.drop (c,0).fst (List.map (row1 IntKind.u8) xs)))] [AV.sl 1 (List.map (row1 IntKind.u8) (List.take ((List.map (row1 IntKind.u8) xs).length-c) (List.drop c xs)))] from (.cons (Weak.rows (rows_to (row1 IntKind.u8) (r:=List.take ((List.map (row1 IntKind.u8) xs).length-(c,0).fst) (List.drop (c,0).fst (List.map (row1 IntKind.u8) xs))) (l:=List.take ((List.map (row1 IntKind.u8) xs).length-(c,0).fst) (List.drop (c,0).fst xs)) (m:=List.take ((List.map (row1 IntKind.u8) xs).length-(c,0).fst) (List.drop (c,0).fst xs)) (by first|(simp;done)|rfl|(simp;rfl)) rfl)) .nil))<|.c oz6<|.c hc0<|.c (IntWalk.u64_in (if 0 > m then 0 else m) (by omega))<|.c hc1<|.c oz10<|.c oz11<|.c oz12<|.c (show BlkW (Blk.var [AV.sl 1 (List.map (row1 IntKind.u8) xs),i64 ((↑(c,0).fst:Int)+getN (List.take ((List.map (row1 IntKind.u8) xs).length-c) (List.drop c xs))),i64 (c,0).snd]) (Blk.var [AV.sl 1 (List.map (row1 IntKind.u8) xs),i64 (↑c:Int),i64 3]) from (BlkW.var (.cons (.refl _) (.cons (Weak.int (show (((↑(c,0).fst:Int)+getN (List.take ((List.map (row1 IntKind.u8) xs).length-c) (List.drop c xs))):Int)=((↑c:Int)) from (by (rw [qt] at *;first | exact h | omega)))) (.cons (Weak.int (show (((c,0).snd):Int)=(3) from (by (rw [qt] at *;first | exact h | omega)))) .nil)))))<|.n)
theorem rcount_y (xs:List Int) (c:Nat) (m:Int) (hb:∀ x∈xs,0≤x∧x≤255) (hl:xs.length≤1000000) (ha:c≤xs.length) (h:getE (xs.drop c)=0) (h2:getV (xs.drop c)≤m) (h0:0≤m) (h1:m≤2147483647):VM Try.prog 109 ([.ptr 100000 0 0,i64 m]) ([(100000,.var (rrC xs (c,0)))]) (i64 (getV (xs.drop c))) ([(100000,.var (rrC xs (c+(getN (xs.drop c)).toNat,0)))]):=by
 have qt:List.take ((List.map (row1 .u8) xs).length-c) (List.drop c xs)=xs.drop c:=List.take_of_length_le (by simp [List.length_drop])
 have qu:List.take ((List.map (row1 .u8) xs).length-((c:Nat):Int).toNat) (List.drop ((c:Nat):Int).toNat xs)=xs.drop c:=by rw [Int.toNat_natCast];exact qt
 have qb:∀ x∈xs.drop c,0≤x∧x≤255:=mem_drop' hb
 obtain ⟨q1,q2,q3⟩:=get_rng qb
 have q5:(xs.drop c).length=xs.length-c:=List.length_drop
 rcases bft (getE (List.take ((List.map (row1 IntKind.u8) xs).length-c) (List.drop c xs)) != 0) with hc0 | hc0
 ·have gc0:¬getE (List.take ((List.map (row1 IntKind.u8) xs).length-c) (List.drop c xs))=0:=bdt hc0
  have oz6 := @refGet_v (List.take ((List.map (row1 IntKind.u8) xs).length-c) (List.drop c xs)) (by (rw [qt];exact qb)) (by (rw [qt];omega))
  exact VM.run (fn:=Try.f109) (W:=[.r [] [],.r [] [],.br false,.r [] [.nats (c,0).fst (List.map (row1 IntKind.u8) xs).length,.call (aO oz6) (rO oz6)],.r [] [],.br true,.r [] [],.r [] []]) (G:=[.weak 0 (i64 (getV (List.drop c xs))),.blk 100000 (Blk.var [AV.sl 1 (List.map (row1 IntKind.u8) xs),i64 (↑(c+(getN (List.drop c xs)).toNat):Int),i64 0]),.sort]) Try.func109 (by kernel_rfl) (.c (show ((c,0).snd != 0)=false by (rw [qt] at *;first | exact h | omega))<|.c (show (↑(c,0).fst:Int)=(↑(c,0).fst:Int) by with_reducible rfl)<|.c (show (List.map (row1 IntKind.u8) xs).length=(List.map (row1 IntKind.u8) xs).length by with_reducible rfl)<|.c (show (c,0).fst≤(List.map (row1 IntKind.u8) xs).length by (rw [qt] at *;first | exact h | omega))<|.c (show (List.map (row1 IntKind.u8) xs).length≤(List.map (row1 IntKind.u8) xs).length by omega)<|.c (show WeakL [AV.sl 1 (List.take ((List.map (row1 IntKind.u8) xs).length-(c,0).fst) (List.drop (c,0).fst (List.map (row1 IntKind.u8) xs)))] [AV.sl 1 (List.map (row1 IntKind.u8) (List.take ((List.map (row1 IntKind.u8) xs).length-c) (List.drop c xs)))] from (.cons (Weak.rows (rows_to (row1 IntKind.u8) (r:=List.take ((List.map (row1 IntKind.u8) xs).length-(c,0).fst) (List.drop (c,0).fst (List.map (row1 IntKind.u8) xs))) (l:=List.take ((List.map (row1 IntKind.u8) xs).length-(c,0).fst) (List.drop (c,0).fst xs)) (m:=List.take ((List.map (row1 IntKind.u8) xs).length-(c,0).fst) (List.drop (c,0).fst xs)) (by first|(simp;done)|rfl|(simp;rfl)) rfl)) .nil))<|.c oz6<|.c hc0<|.c (Weak.int (k:=.i64) (show ((0):Int)=(getV (List.drop c xs)) from (by (rw [qt] at *;first | exact h | omega))))<|.c (show BlkW (Blk.var [AV.sl 1 (List.map (row1 IntKind.u8) xs),i64 (↑(c,0).fst:Int),i64 (getE (List.take ((List.map (row1 IntKind.u8) xs).length-c) (List.drop c xs)))]) (Blk.var [AV.sl 1 (List.map (row1 IntKind.u8) xs),i64 (↑(c+(getN (List.drop c xs)).toNat):Int),i64 0]) from (BlkW.var (.cons (.refl _) (.cons (Weak.int (show (((↑(c,0).fst:Int)):Int)=((↑(c+(getN (List.drop c xs)).toNat):Int)) from (by (rw [qt] at *;first | exact h | omega)))) (.cons (Weak.int (show ((getE (List.take ((List.map (row1 IntKind.u8) xs).length-c) (List.drop c xs))):Int)=(0) from (by (rw [qt];omega)))) .nil)))))<|.n)
 ·have gc0:getE (List.take ((List.map (row1 IntKind.u8) xs).length-c) (List.drop c xs))=0:=bdf hc0
  rcases bft (decide (getV (List.take ((List.map (row1 IntKind.u8) xs).length-c) (List.drop c xs)) > if 0 > m then 0 else m)) with hc1 | hc1
  ·have gc1:=of_decide_eq_true hc1
   have oz6 := @refGet_v (List.take ((List.map (row1 IntKind.u8) xs).length-c) (List.drop c xs)) (by (rw [qt];exact qb)) (by (rw [qt];omega))
   exact VM.run (fn:=Try.f109) (W:=[.r [] [],.r [] [],.br false,.r [] [.nats (c,0).fst (List.map (row1 IntKind.u8) xs).length,.call (aO oz6) (rO oz6)],.r [] [],.br false,.r [] [.n (if 0 > m then 0 else m)],.br true,.r [] [],.r [] []]) (G:=[.weak 0 (i64 (getV (List.drop c xs))),.blk 100000 (Blk.var [AV.sl 1 (List.map (row1 IntKind.u8) xs),i64 (↑(c+(getN (List.drop c xs)).toNat):Int),i64 0]),.sort]) Try.func109 (by kernel_rfl) (.c (show ((c,0).snd != 0)=false by (rw [qt] at *;first | exact h | omega))<|.c (show (↑(c,0).fst:Int)=(↑(c,0).fst:Int) by with_reducible rfl)<|.c (show (List.map (row1 IntKind.u8) xs).length=(List.map (row1 IntKind.u8) xs).length by with_reducible rfl)<|.c (show (c,0).fst≤(List.map (row1 IntKind.u8) xs).length by (rw [qt] at *;first | exact h | omega))<|.c (show (List.map (row1 IntKind.u8) xs).length≤(List.map (row1 IntKind.u8) xs).length by omega)<|.c (show WeakL [AV.sl 1 (List.take ((List.map (row1 IntKind.u8) xs).length-(c,0).fst) (List.drop (c,0).fst (List.map (row1 IntKind.u8) xs)))] [AV.sl 1 (List.map (row1 IntKind.u8) (List.take ((List.map (row1 IntKind.u8) xs).length-c) (List.drop c xs)))] from (.cons (Weak.rows (rows_to (row1 IntKind.u8) (r:=List.take ((List.map (row1 IntKind.u8) xs).length-(c,0).fst) (List.drop (c,0).fst (List.map (row1 IntKind.u8) xs))) (l:=List.take ((List.map (row1 IntKind.u8) xs).length-(c,0).fst) (List.drop (c,0).fst xs)) (m:=List.take ((List.map (row1 IntKind.u8) xs).length-(c,0).fst) (List.drop (c,0).fst xs)) (by first|(simp;done)|rfl|(simp;rfl)) rfl)) .nil))<|.c oz6<|.c hc0<|.c (IntWalk.u64_in (if 0 > m then 0 else m) (by omega))<|.c hc1<|.c (Weak.int (k:=.i64) (show ((0):Int)=(getV (List.drop c xs)) from (by (rw [qt] at *;first | exact h | omega))))<|.c (show BlkW (Blk.var [AV.sl 1 (List.map (row1 IntKind.u8) xs),i64 (↑(c,0).fst:Int),i64 3]) (Blk.var [AV.sl 1 (List.map (row1 IntKind.u8) xs),i64 (↑(c+(getN (List.drop c xs)).toNat):Int),i64 0]) from (BlkW.var (.cons (.refl _) (.cons (Weak.int (show (((↑(c,0).fst:Int)):Int)=((↑(c+(getN (List.drop c xs)).toNat):Int)) from (by (rw [qt] at *;first | exact h | omega)))) (.cons (Weak.int (show ((3):Int)=(0) from (by (rw [qt] at *;first | exact h | omega)))) .nil)))))<|.n)
  ·have gc1:=of_decide_eq_false hc1
   have oz6 := @refGet_v (List.take ((List.map (row1 IntKind.u8) xs).length-c) (List.drop c xs)) (by (rw [qt];exact qb)) (by (rw [qt];omega))
   have oz10:=(Weak.int (k:=.i64) (show ((IntKind.i64.wrap (getV (List.take ((List.map (row1 IntKind.u8) xs).length-c) (List.drop c xs)))):Int)=(getV (List.drop c xs)) from (by (rw [qt];exact i6n _ (by omega)))))
   exact VM.run (fn:=Try.f109) (W:=[.r [] [],.r [] [],.br false,.r [] [.nats (c,0).fst (List.map (row1 IntKind.u8) xs).length,.call (aO oz6) (rO oz6)],.r [] [],.br false,.r [] [.n (if 0 > m then 0 else m)],.br false,.r [] [.w],.r [] [.w]]) (G:=[.weak 0 (wO oz10),.blk 100000 (Blk.var [AV.sl 1 (List.map (row1 IntKind.u8) xs),i64 (↑(c+(getN (List.drop c xs)).toNat):Int),i64 0]),.sort]) Try.func109 (by kernel_rfl) (.c (show ((c,0).snd != 0)=false by (simp;done))<|.c (show (↑(c,0).fst:Int)=(↑(c,0).fst:Int) by with_reducible rfl)<|.c (show (List.map (row1 IntKind.u8) xs).length=(List.map (row1 IntKind.u8) xs).length by with_reducible rfl)<|.c (show (c,0).fst≤(List.map (row1 IntKind.u8) xs).length by (simp;omega))<|.c (show (List.map (row1 IntKind.u8) xs).length≤(List.map (row1 IntKind.u8) xs).length by omega)<|.c (show WeakL [AV.sl 1 (List.take ((List.map (row1 IntKind.u8) xs).length-(c,0).fst) (List.drop (c,0).fst (List.map (row1 IntKind.u8) xs)))] [AV.sl 1 (List.map (row1 IntKind.u8) (List.take ((List.map (row1 IntKind.u8) xs).length-c) (List.drop c xs)))] from (.cons (Weak.rows (rows_to (row1 IntKind.u8) (r:=List.take ((List.map (row1 IntKind.u8) xs).length-(c,0).fst) (List.drop (c,0).fst (List.map (row1 IntKind.u8) xs))) (l:=List.take ((List.map (row1 IntKind.u8) xs).length-(c,0).fst) (List.drop (c,0).fst xs)) (m:=List.take ((List.map (row1 IntKind.u8) xs).length-(c,0).fst) (List.drop (c,0).fst xs)) (by first|(simp;done)|rfl|(simp;rfl)) rfl)) .nil))<|.c oz6<|.c hc0<|.c (IntWalk.u64_in (if 0 > m then 0 else m) (by omega))<|.c hc1<|.c oz10<|.c (show BlkW (Blk.var [AV.sl 1 (List.map (row1 IntKind.u8) xs),i64 (IntKind.i64.wrap ((↑(c,0).fst:Int)+getN (List.take ((List.map (row1 IntKind.u8) xs).length-c) (List.drop c xs)))),i64 (c,0).snd]) (Blk.var [AV.sl 1 (List.map (row1 IntKind.u8) xs),i64 (↑(c+(getN (List.drop c xs)).toNat):Int),i64 0]) from (BlkW.var (.cons (.refl _) (.cons (Weak.int (show ((IntKind.i64.wrap ((↑(c,0).fst:Int)+getN (List.take ((List.map (row1 IntKind.u8) xs).length-c) (List.drop c xs)))):Int)=((↑(c+(getN (List.drop c xs)).toNat):Int)) from (by (rw [qt];exact (i6n _ (by simp only [];omega)).trans (by simp only [];omega))))) (.cons (.refl _) .nil)))))<|.n)
structure Rrf.In (xs:List Int) (r:Rrf):Prop where
 b:∀ x∈xs,0≤x∧x≤255
 l:xs.length≤1000000
 a:r.1≤xs.length
theorem toS_in {xs:List Int} {r:Rrf} (h:Rrf.In xs r):(toS xs r).In:=by
 unfold toS
 split
 ·exact ⟨mem_drop' h.b,by have:=h.l;simp only [List.length_drop];omega⟩
 ·exact ⟨by simp,by simp⟩
theorem next_le {xs:List Int} {c:Nat} (hb:∀ x∈xs,0≤x∧x≤255) (ha:c≤xs.length) (h:getE (xs.drop c)=0):c+(getN (xs.drop c)).toNat≤xs.length:=by
 have:=(get_rng (mem_drop' (n:=c) hb)).2.2 h
 rw [List.length_drop] at this;omega
theorem cntR_in {xs:List Int} {r:Rrf} (h:Rrf.In xs r) (m:Int):Rrf.In xs (cntR xs r m):=by
 obtain ⟨hb,hl,ha⟩:=h
 refine ⟨hb,hl,?_⟩
 unfold cntR
 split
 ·exact ha
 ·split
  ·exact ha
  ·split
   ·exact ha
   ·exact next_le hb ha (Classical.not_not.1 ‹_›)
theorem toS_cnt (xs:List Int) (r:Rrf) (m:Int):toS xs (cntR xs r m)=cntS (toS xs r) m:=by
 obtain ⟨c,e⟩:=r
 by_cases he:e=0
 ·subst he
  by_cases hg:getE (xs.drop c)=0
  ·by_cases hm:max m 0<getV (xs.drop c)
   ·simp [toS,cntR,cntS,hg,hm]
   ·simp [toS,cntR,cntS,hg,hm,List.drop_drop]
  ·simp [toS,cntR,cntS,hg]
 ·simp [toS,cntR,cntS,he]
theorem rcnt_v (xs:List Int) (r:Rrf) (m:Int) (h:Rrf.In xs r) (h0:0≤m) (h1:m≤2147483647):VM Try.prog 109 [.ptr 100000 0 0,i64 m] [(100000,.var (rrC xs r))] (i64 (cntV (toS xs r) m)) [(100000,.var (rrC xs (cntR xs r m)))]:=by
 obtain ⟨c,e⟩:=r
 obtain ⟨hb,hl,ha⟩:=h
 by_cases he:e=0
 ·subst he
  by_cases hg:getE (xs.drop c)=0
  ·by_cases hm:m<getV (xs.drop c)
   ·rw [show cntR xs (c,0) m=(c,3) from by simp [cntR,hg,show max m 0<getV (xs.drop c) by omega],show cntV (toS xs (c,0)) m=0 from by simp [toS,cntV,hg,show max m 0<getV (xs.drop c) by omega]]
    exact rcount_m xs c m hb hl ha hg hm h0 h1
   ·rw [show cntR xs (c,0) m=(c+(getN (xs.drop c)).toNat,0) from by simp [cntR,hg,show ¬ max m 0<getV (xs.drop c) by omega],show cntV (toS xs (c,0)) m=getV (xs.drop c) from by simp [toS,cntV,hg,show ¬ max m 0<getV (xs.drop c) by omega]]
    exact rcount_y xs c m hb hl ha hg (by omega) h0 h1
  ·rw [show cntR xs (c,0) m=(c,getE (xs.drop c)) from by simp [cntR,hg],show cntV (toS xs (c,0)) m=0 from by simp [toS,cntV,hg]]
   exact rcount_g xs c m hb hl ha hg h0 h1
 ·rw [show cntR xs (c,e) m=(c,e) from by simp [cntR,he],show cntV (toS xs (c,e)) m=0 from by simp [toS,cntV,he]]
  exact rcount_e xs (c,e) m he
theorem intR_in {xs:List Int} {r:Rrf} (h:Rrf.In xs r) (lo hi:Int):Rrf.In xs (intR xs r lo hi):=by
 obtain ⟨hb,hl,ha⟩:=h
 refine ⟨hb,hl,?_⟩
 unfold intR
 split
 ·exact ha
 ·split
  ·exact ha
  ·split
   ·exact ha
   ·exact next_le hb ha (Classical.not_not.1 ‹_›)
theorem toS_int (xs:List Int) (r:Rrf) (lo hi:Int):toS xs (intR xs r lo hi)=intS (toS xs r) lo hi:=by
 obtain ⟨c,e⟩:=r
 by_cases he:e=0
 ·subst he
  by_cases hg:getE (xs.drop c)=0
  ·by_cases hm:unfoldN (getV (xs.drop c))<lo∨hi<unfoldN (getV (xs.drop c))
   ·simp only [toS,intR,intS];simp [hg,hm]
   ·simp only [toS,intR,intS];simp [hg,hm,List.drop_drop]
  ·simp [toS,intR,intS,hg]
 ·simp [toS,intR,intS,he]
theorem rint_e (xs:List Int) (r:Rrf) (lo hi:Int) (h:r.2≠0):VM Try.prog 175 ([.ptr 100000 0 0,i64 lo,i64 hi]) ([(100000,.var (rrC xs r))]) (i64 0) ([(100000,.var (rrC xs r))]):=by
 exact VM.run (fn:=Try.f175) (W:=[.r [] [],.r [] [],.br true,.r [] []]) (G:=[.sort]) Try.func175 (by kernel_rfl) (.c (show (r.snd != 0)=true by (simp;omega))<|.n)
theorem rint_g (xs:List Int) (c:Nat) (lo hi:Int) (hb:∀ x∈xs,0≤x∧x≤255) (hl:xs.length≤1000000) (ha:c≤xs.length) (h:getE (xs.drop c)≠0):VM Try.prog 175 ([.ptr 100000 0 0,i64 lo,i64 hi]) ([(100000,.var (rrC xs (c,0)))]) (i64 0) ([(100000,.var (rrC xs (c,getE (xs.drop c))))]):=by
 have qt:List.take ((List.map (row1 .u8) xs).length-c) (List.drop c xs)=xs.drop c:=List.take_of_length_le (by simp [List.length_drop])
 have qu:List.take ((List.map (row1 .u8) xs).length-((c:Nat):Int).toNat) (List.drop ((c:Nat):Int).toNat xs)=xs.drop c:=by rw [Int.toNat_natCast];exact qt
 have qb:∀ x∈xs.drop c,0≤x∧x≤255:=mem_drop' hb
 obtain ⟨q1,q2,q3⟩:=get_rng qb
 have q5:(xs.drop c).length=xs.length-c:=List.length_drop
 rcases bft (getE (List.take ((List.map (row1 IntKind.u8) xs).length-c) (List.drop c xs)) != 0) with hc0 | hc0
 ·have gc0:¬getE (List.take ((List.map (row1 IntKind.u8) xs).length-c) (List.drop c xs))=0:=bdt hc0
  have oz6 := @refGet_v (List.take ((List.map (row1 IntKind.u8) xs).length-c) (List.drop c xs)) (by (rw [qt];exact qb)) (by (rw [qt];omega))
  exact VM.run (fn:=Try.f175) (W:=[.r [] [],.r [] [],.br false,.r [] [.nats (c,0).fst (List.map (row1 IntKind.u8) xs).length,.call (aO oz6) (rO oz6)],.r [] [],.br true,.r [] [],.r [] []]) (G:=[.blk 100000 (Blk.var [AV.sl 1 (List.map (row1 IntKind.u8) xs),i64 (↑c:Int),i64 (getE (List.drop c xs))]),.sort]) Try.func175 (by kernel_rfl) (.c (show ((c,0).snd != 0)=false by (simp;done))<|.c (show (↑(c,0).fst:Int)=(↑(c,0).fst:Int) by with_reducible rfl)<|.c (show (List.map (row1 IntKind.u8) xs).length=(List.map (row1 IntKind.u8) xs).length by with_reducible rfl)<|.c (show (c,0).fst≤(List.map (row1 IntKind.u8) xs).length by (simp;omega))<|.c (show (List.map (row1 IntKind.u8) xs).length≤(List.map (row1 IntKind.u8) xs).length by omega)<|.c (show WeakL [AV.sl 1 (List.take ((List.map (row1 IntKind.u8) xs).length-(c,0).fst) (List.drop (c,0).fst (List.map (row1 IntKind.u8) xs)))] [AV.sl 1 (List.map (row1 IntKind.u8) (List.take ((List.map (row1 IntKind.u8) xs).length-c) (List.drop c xs)))] from (.cons (Weak.rows (rows_to (row1 IntKind.u8) (r:=List.take ((List.map (row1 IntKind.u8) xs).length-(c,0).fst) (List.drop (c,0).fst (List.map (row1 IntKind.u8) xs))) (l:=List.take ((List.map (row1 IntKind.u8) xs).length-(c,0).fst) (List.drop (c,0).fst xs)) (m:=List.take ((List.map (row1 IntKind.u8) xs).length-(c,0).fst) (List.drop (c,0).fst xs)) (by first|(simp;done)|rfl|(simp;rfl)) rfl)) .nil))<|.c oz6<|.c hc0<|.c (show BlkW (Blk.var [AV.sl 1 (List.map (row1 IntKind.u8) xs),i64 (↑(c,0).fst:Int),i64 (getE (List.take ((List.map (row1 IntKind.u8) xs).length-c) (List.drop c xs)))]) (Blk.var [AV.sl 1 (List.map (row1 IntKind.u8) xs),i64 (↑c:Int),i64 (getE (List.drop c xs))]) from (BlkW.var (.cons (.refl _) (.cons (.refl _) (.cons (Weak.int (show ((getE (List.take ((List.map (row1 IntKind.u8) xs).length-c) (List.drop c xs))):Int)=(getE (List.drop c xs)) from (by (rw [qt])))) .nil)))))<|.n)
 ·have gc0:getE (List.take ((List.map (row1 IntKind.u8) xs).length-c) (List.drop c xs))=0:=bdf hc0
  have oz6 := @refGet_v (List.take ((List.map (row1 IntKind.u8) xs).length-c) (List.drop c xs)) (by (rw [qt];exact qb)) (by (rw [qt];omega))
  have oz8 := @unfold_v (getV (List.take ((List.map (row1 IntKind.u8) xs).length-c) (List.drop c xs))) (by (rw [qt];omega)) (by (rw [qt];omega))
  exact VM.run (fn:=Try.f175) (W:=[.r [] [],.r [] [],.br false,.r [] [.nats (c,0).fst (List.map (row1 IntKind.u8) xs).length,.call (aO oz6) (rO oz6)],.r [] [],.br false,.r [] [.callr (rO oz8)],.r [] [.op false,.op false,.op false,.sel 1],.br true,.r [] [],.r [] []]) (G:=[.blk 100000 (Blk.var [AV.sl 1 (List.map (row1 IntKind.u8) xs),i64 (↑c:Int),i64 (getE (List.drop c xs))]),.sort]) Try.func175 (by kernel_rfl) (.c (show ((c,0).snd != 0)=false by (rw [qt] at *;first | exact h | omega))<|.c (show (↑(c,0).fst:Int)=(↑(c,0).fst:Int) by with_reducible rfl)<|.c (show (List.map (row1 IntKind.u8) xs).length=(List.map (row1 IntKind.u8) xs).length by with_reducible rfl)<|.c (show (c,0).fst≤(List.map (row1 IntKind.u8) xs).length by (rw [qt] at *;first | exact h | omega))<|.c (show (List.map (row1 IntKind.u8) xs).length≤(List.map (row1 IntKind.u8) xs).length by omega)<|.c (show WeakL [AV.sl 1 (List.take ((List.map (row1 IntKind.u8) xs).length-(c,0).fst) (List.drop (c,0).fst (List.map (row1 IntKind.u8) xs)))] [AV.sl 1 (List.map (row1 IntKind.u8) (List.take ((List.map (row1 IntKind.u8) xs).length-c) (List.drop c xs)))] from (.cons (Weak.rows (rows_to (row1 IntKind.u8) (r:=List.take ((List.map (row1 IntKind.u8) xs).length-(c,0).fst) (List.drop (c,0).fst (List.map (row1 IntKind.u8) xs))) (l:=List.take ((List.map (row1 IntKind.u8) xs).length-(c,0).fst) (List.drop (c,0).fst xs)) (m:=List.take ((List.map (row1 IntKind.u8) xs).length-(c,0).fst) (List.drop (c,0).fst xs)) (by first|(simp;done)|rfl|(simp;rfl)) rfl)) .nil))<|.c oz6<|.c hc0<|.c oz8<|.c (show (decide (unfoldN (getV (List.take ((List.map (row1 IntKind.u8) xs).length-c) (List.drop c xs)))<lo) || decide (unfoldN (getV (List.take ((List.map (row1 IntKind.u8) xs).length-c) (List.drop c xs))) > hi))=true by (rw [qt] at *;first | exact h | omega))<|.c (show BlkW (Blk.var [AV.sl 1 (List.map (row1 IntKind.u8) xs),i64 (↑(c,0).fst:Int),i64 3]) (Blk.var [AV.sl 1 (List.map (row1 IntKind.u8) xs),i64 (↑c:Int),i64 (getE (List.drop c xs))]) from (BlkW.var (.cons (.refl _) (.cons (.refl _) (.cons (Weak.int (show ((3):Int)=(getE (List.drop c xs)) from (by (rw [qt] at *;first | exact h | omega)))) .nil)))))<|.n)
theorem rint_m (xs:List Int) (c:Nat) (lo hi:Int) (hb:∀ x∈xs,0≤x∧x≤255) (hl:xs.length≤1000000) (ha:c≤xs.length) (h:getE (xs.drop c)=0) (h2:unfoldN (getV (xs.drop c))<lo∨hi<unfoldN (getV (xs.drop c))):VM Try.prog 175 ([.ptr 100000 0 0,i64 lo,i64 hi]) ([(100000,.var (rrC xs (c,0)))]) (i64 0) ([(100000,.var (rrC xs (c,3)))]):=by
 have qt:List.take ((List.map (row1 .u8) xs).length-c) (List.drop c xs)=xs.drop c:=List.take_of_length_le (by simp [List.length_drop])
 have qu:List.take ((List.map (row1 .u8) xs).length-((c:Nat):Int).toNat) (List.drop ((c:Nat):Int).toNat xs)=xs.drop c:=by rw [Int.toNat_natCast];exact qt
 have qb:∀ x∈xs.drop c,0≤x∧x≤255:=mem_drop' hb
 obtain ⟨q1,q2,q3⟩:=get_rng qb
 have q5:(xs.drop c).length=xs.length-c:=List.length_drop
 rcases bft (getE (List.take ((List.map (row1 IntKind.u8) xs).length-c) (List.drop c xs)) != 0) with hc0 | hc0
 ·have gc0:¬getE (List.take ((List.map (row1 IntKind.u8) xs).length-c) (List.drop c xs))=0:=bdt hc0
  have oz6 := @refGet_v (List.take ((List.map (row1 IntKind.u8) xs).length-c) (List.drop c xs)) (by (rw [qt];exact qb)) (by (rw [qt];omega))
  exact VM.run (fn:=Try.f175) (W:=[.r [] [],.r [] [],.br false,.r [] [.nats (c,0).fst (List.map (row1 IntKind.u8) xs).length,.call (aO oz6) (rO oz6)],.r [] [],.br true,.r [] [],.r [] []]) (G:=[.blk 100000 (Blk.var [AV.sl 1 (List.map (row1 IntKind.u8) xs),i64 (↑c:Int),i64 3]),.sort]) Try.func175 (by kernel_rfl) (.c (show ((c,0).snd != 0)=false by (rw [qt] at *;first | exact h | omega))<|.c (show (↑(c,0).fst:Int)=(↑(c,0).fst:Int) by with_reducible rfl)<|.c (show (List.map (row1 IntKind.u8) xs).length=(List.map (row1 IntKind.u8) xs).length by with_reducible rfl)<|.c (show (c,0).fst≤(List.map (row1 IntKind.u8) xs).length by (rw [qt] at *;first | exact h | omega))<|.c (show (List.map (row1 IntKind.u8) xs).length≤(List.map (row1 IntKind.u8) xs).length by omega)<|.c (show WeakL [AV.sl 1 (List.take ((List.map (row1 IntKind.u8) xs).length-(c,0).fst) (List.drop (c,0).fst (List.map (row1 IntKind.u8) xs)))] [AV.sl 1 (List.map (row1 IntKind.u8) (List.take ((List.map (row1 IntKind.u8) xs).length-c) (List.drop c xs)))] from (.cons (Weak.rows (rows_to (row1 IntKind.u8) (r:=List.take ((List.map (row1 IntKind.u8) xs).length-(c,0).fst) (List.drop (c,0).fst (List.map (row1 IntKind.u8) xs))) (l:=List.take ((List.map (row1 IntKind.u8) xs).length-(c,0).fst) (List.drop (c,0).fst xs)) (m:=List.take ((List.map (row1 IntKind.u8) xs).length-(c,0).fst) (List.drop (c,0).fst xs)) (by first|(simp;done)|rfl|(simp;rfl)) rfl)) .nil))<|.c oz6<|.c hc0<|.c (show BlkW (Blk.var [AV.sl 1 (List.map (row1 IntKind.u8) xs),i64 (↑(c,0).fst:Int),i64 (getE (List.take ((List.map (row1 IntKind.u8) xs).length-c) (List.drop c xs)))]) (Blk.var [AV.sl 1 (List.map (row1 IntKind.u8) xs),i64 (↑c:Int),i64 3]) from (BlkW.var (.cons (.refl _) (.cons (.refl _) (.cons (Weak.int (show ((getE (List.take ((List.map (row1 IntKind.u8) xs).length-c) (List.drop c xs))):Int)=(3) from (by (rw [qt] at *;first | exact h | omega)))) .nil)))))<|.n)
 ·have gc0:getE (List.take ((List.map (row1 IntKind.u8) xs).length-c) (List.drop c xs))=0:=bdf hc0
  rcases bft (decide (unfoldN (getV (List.take ((List.map (row1 IntKind.u8) xs).length-c) (List.drop c xs)))<lo) || decide (unfoldN (getV (List.take ((List.map (row1 IntKind.u8) xs).length-c) (List.drop c xs))) > hi)) with hc1 | hc1
  ·have gc1:unfoldN (getV (List.take ((List.map (row1 IntKind.u8) xs).length-c) (List.drop c xs)))<lo∨unfoldN (getV (List.take ((List.map (row1 IntKind.u8) xs).length-c) (List.drop c xs))) > hi:=by first | (simp only [Bool.or_eq_true,Bool.or_eq_false_iff,Bool.and_eq_true,Bool.and_eq_false_iff,Bool.not_eq_true',Bool.not_eq_false',decide_eq_true_eq,decide_eq_false_iff_not,beq_iff_eq,bne_iff_ne,ne_eq,beq_eq_false_iff_ne,bne_eq_false_iff_eq,eqNums,Bool.and_true] at hc1;first | exact hc1 | omega) | simpa using hc1 | (simp at hc1 ⊢;omega) | (apply cbc;intro hn;simp_all [eqNums];done) | (apply cbc;intro hn;simp [eqNums] at hc1 hn;omega)
   have oz6 := @refGet_v (List.take ((List.map (row1 IntKind.u8) xs).length-c) (List.drop c xs)) (by (rw [qt];exact qb)) (by (rw [qt];omega))
   have oz8 := @unfold_v (getV (List.take ((List.map (row1 IntKind.u8) xs).length-c) (List.drop c xs))) (by (rw [qt];omega)) (by (rw [qt];omega))
   exact VM.run (fn:=Try.f175) (W:=[.r [] [],.r [] [],.br false,.r [] [.nats (c,0).fst (List.map (row1 IntKind.u8) xs).length,.call (aO oz6) (rO oz6)],.r [] [],.br false,.r [] [.callr (rO oz8)],.r [] [.op false,.op false,.op false,.sel 1],.br true,.r [] [],.r [] []]) (G:=[.sort]) Try.func175 (by kernel_rfl) (.c (show ((c,0).snd != 0)=false by (simp;done))<|.c (show (↑(c,0).fst:Int)=(↑(c,0).fst:Int) by with_reducible rfl)<|.c (show (List.map (row1 IntKind.u8) xs).length=(List.map (row1 IntKind.u8) xs).length by with_reducible rfl)<|.c (show (c,0).fst≤(List.map (row1 IntKind.u8) xs).length by (simp;omega))<|.c (show (List.map (row1 IntKind.u8) xs).length≤(List.map (row1 IntKind.u8) xs).length by omega)<|.c (show WeakL [AV.sl 1 (List.take ((List.map (row1 IntKind.u8) xs).length-(c,0).fst) (List.drop (c,0).fst (List.map (row1 IntKind.u8) xs)))] [AV.sl 1 (List.map (row1 IntKind.u8) (List.take ((List.map (row1 IntKind.u8) xs).length-c) (List.drop c xs)))] from (.cons (Weak.rows (rows_to (row1 IntKind.u8) (r:=List.take ((List.map (row1 IntKind.u8) xs).length-(c,0).fst) (List.drop (c,0).fst (List.map (row1 IntKind.u8) xs))) (l:=List.take ((List.map (row1 IntKind.u8) xs).length-(c,0).fst) (List.drop (c,0).fst xs)) (m:=List.take ((List.map (row1 IntKind.u8) xs).length-(c,0).fst) (List.drop (c,0).fst xs)) (by first|(simp;done)|rfl|(simp;rfl)) rfl)) .nil))<|.c oz6<|.c hc0<|.c oz8<|.c hc1<|.n)
  ·have gc1:¬unfoldN (getV (List.take ((List.map (row1 IntKind.u8) xs).length-c) (List.drop c xs)))<lo∧¬unfoldN (getV (List.take ((List.map (row1 IntKind.u8) xs).length-c) (List.drop c xs))) > hi:=by first | (simp only [Bool.or_eq_true,Bool.or_eq_false_iff,Bool.and_eq_true,Bool.and_eq_false_iff,Bool.not_eq_true',Bool.not_eq_false',decide_eq_true_eq,decide_eq_false_iff_not,beq_iff_eq,bne_iff_ne,ne_eq,beq_eq_false_iff_ne,bne_eq_false_iff_eq,eqNums,Bool.and_true] at hc1;first | exact hc1 | omega) | simpa using hc1 | (simp at hc1 ⊢;omega) | (apply cbc;intro hn;simp_all [eqNums];done) | (apply cbc;intro hn;simp [eqNums] at hc1 hn;omega)
   have oz6 := @refGet_v (List.take ((List.map (row1 IntKind.u8) xs).length-c) (List.drop c xs)) (by (rw [qt];exact qb)) (by (rw [qt];omega))
   have oz8 := @unfold_v (getV (List.take ((List.map (row1 IntKind.u8) xs).length-c) (List.drop c xs))) (by (rw [qt];omega)) (by (rw [qt];omega))
   have oz10:=(show IntKind.i64.wrap ((↑(c,0).fst:Int)+getN (List.take ((List.map (row1 IntKind.u8) xs).length-c) (List.drop c xs)))=(↑(c,0).fst:Int)+getN (List.take ((List.map (row1 IntKind.u8) xs).length-c) (List.drop c xs)) by (rw [qt] at *;first | exact h | omega))
   have oz11:=(Weak.int (k:=.i64) (show ((unfoldN (getV (List.take ((List.map (row1 IntKind.u8) xs).length-c) (List.drop c xs)))):Int)=(0) from (by (rw [qt] at *;first | exact h | omega))))
   exact VM.run (fn:=Try.f175) (W:=[.r [] [],.r [] [],.br false,.r [] [.nats (c,0).fst (List.map (row1 IntKind.u8) xs).length,.call (aO oz6) (rO oz6)],.r [] [],.br false,.r [] [.callr (rO oz8)],.r [] [.op false,.op false,.op false,.sel 1],.br false,.r [] [.n (nO oz10)],.r [] []]) (G:=[.weak 0 (wO oz11),.blk 100000 (Blk.var [AV.sl 1 (List.map (row1 IntKind.u8) xs),i64 (↑c:Int),i64 3]),.sort]) Try.func175 (by kernel_rfl) (.c (show ((c,0).snd != 0)=false by (rw [qt] at *;first | exact h | omega))<|.c (show (↑(c,0).fst:Int)=(↑(c,0).fst:Int) by with_reducible rfl)<|.c (show (List.map (row1 IntKind.u8) xs).length=(List.map (row1 IntKind.u8) xs).length by with_reducible rfl)<|.c (show (c,0).fst≤(List.map (row1 IntKind.u8) xs).length by (rw [qt] at *;first | exact h | omega))<|.c (show (List.map (row1 IntKind.u8) xs).length≤(List.map (row1 IntKind.u8) xs).length by omega)<|.c (show WeakL [AV.sl 1 (List.take ((List.map (row1 IntKind.u8) xs).length-(c,0).fst) (List.drop (c,0).fst (List.map (row1 IntKind.u8) xs)))] [AV.sl 1 (List.map (row1 IntKind.u8) (List.take ((List.map (row1 IntKind.u8) xs).length-c) (List.drop c xs)))] from (.cons (Weak.rows (rows_to (row1 IntKind.u8) (r:=List.take ((List.map (row1 IntKind.u8) xs).length-(c,0).fst) (List.drop (c,0).fst (List.map (row1 IntKind.u8) xs))) (l:=List.take ((List.map (row1 IntKind.u8) xs).length-(c,0).fst) (List.drop (c,0).fst xs)) (m:=List.take ((List.map (row1 IntKind.u8) xs).length-(c,0).fst) (List.drop (c,0).fst xs)) (by first|(simp;done)|rfl|(simp;rfl)) rfl)) .nil))<|.c oz6<|.c hc0<|.c oz8<|.c hc1<|.c oz10<|.c oz11<|.c (show BlkW (Blk.var [AV.sl 1 (List.map (row1 IntKind.u8) xs),i64 ((↑(c,0).fst:Int)+getN (List.take ((List.map (row1 IntKind.u8) xs).length-c) (List.drop c xs))),i64 (c,0).snd]) (Blk.var [AV.sl 1 (List.map (row1 IntKind.u8) xs),i64 (↑c:Int),i64 3]) from (BlkW.var (.cons (.refl _) (.cons (Weak.int (show (((↑(c,0).fst:Int)+getN (List.take ((List.map (row1 IntKind.u8) xs).length-c) (List.drop c xs))):Int)=((↑c:Int)) from (by (rw [qt] at *;first | exact h | omega)))) (.cons (Weak.int (show (((c,0).snd):Int)=(3) from (by (rw [qt] at *;first | exact h | omega)))) .nil)))))<|.n)
theorem rint_y (xs:List Int) (c:Nat) (lo hi:Int) (hb:∀ x∈xs,0≤x∧x≤255) (hl:xs.length≤1000000) (ha:c≤xs.length) (h:getE (xs.drop c)=0) (h2:¬ unfoldN (getV (xs.drop c))<lo) (h3:¬ hi<unfoldN (getV (xs.drop c))):VM Try.prog 175 ([.ptr 100000 0 0,i64 lo,i64 hi]) ([(100000,.var (rrC xs (c,0)))]) (i64 (unfoldN (getV (xs.drop c)))) ([(100000,.var (rrC xs (c+(getN (xs.drop c)).toNat,0)))]):=by
 have qt:List.take ((List.map (row1 .u8) xs).length-c) (List.drop c xs)=xs.drop c:=List.take_of_length_le (by simp [List.length_drop])
 have qu:List.take ((List.map (row1 .u8) xs).length-((c:Nat):Int).toNat) (List.drop ((c:Nat):Int).toNat xs)=xs.drop c:=by rw [Int.toNat_natCast];exact qt
 have qb:∀ x∈xs.drop c,0≤x∧x≤255:=mem_drop' hb
 obtain ⟨q1,q2,q3⟩:=get_rng qb
 have q5:(xs.drop c).length=xs.length-c:=List.length_drop
 rcases bft (getE (List.take ((List.map (row1 IntKind.u8) xs).length-c) (List.drop c xs)) != 0) with hc0 | hc0
 ·have gc0:¬getE (List.take ((List.map (row1 IntKind.u8) xs).length-c) (List.drop c xs))=0:=bdt hc0
  have oz6 := @refGet_v (List.take ((List.map (row1 IntKind.u8) xs).length-c) (List.drop c xs)) (by (rw [qt];exact qb)) (by (rw [qt];omega))
  exact VM.run (fn:=Try.f175) (W:=[.r [] [],.r [] [],.br false,.r [] [.nats (c,0).fst (List.map (row1 IntKind.u8) xs).length,.call (aO oz6) (rO oz6)],.r [] [],.br true,.r [] [],.r [] []]) (G:=[.weak 0 (i64 (unfoldN (getV (List.drop c xs)))),.blk 100000 (Blk.var [AV.sl 1 (List.map (row1 IntKind.u8) xs),i64 (↑(c+(getN (List.drop c xs)).toNat):Int),i64 0]),.sort]) Try.func175 (by kernel_rfl) (.c (show ((c,0).snd != 0)=false by (rw [qt] at *;first | exact h | omega))<|.c (show (↑(c,0).fst:Int)=(↑(c,0).fst:Int) by with_reducible rfl)<|.c (show (List.map (row1 IntKind.u8) xs).length=(List.map (row1 IntKind.u8) xs).length by with_reducible rfl)<|.c (show (c,0).fst≤(List.map (row1 IntKind.u8) xs).length by (rw [qt] at *;first | exact h | omega))<|.c (show (List.map (row1 IntKind.u8) xs).length≤(List.map (row1 IntKind.u8) xs).length by omega)<|.c (show WeakL [AV.sl 1 (List.take ((List.map (row1 IntKind.u8) xs).length-(c,0).fst) (List.drop (c,0).fst (List.map (row1 IntKind.u8) xs)))] [AV.sl 1 (List.map (row1 IntKind.u8) (List.take ((List.map (row1 IntKind.u8) xs).length-c) (List.drop c xs)))] from (.cons (Weak.rows (rows_to (row1 IntKind.u8) (r:=List.take ((List.map (row1 IntKind.u8) xs).length-(c,0).fst) (List.drop (c,0).fst (List.map (row1 IntKind.u8) xs))) (l:=List.take ((List.map (row1 IntKind.u8) xs).length-(c,0).fst) (List.drop (c,0).fst xs)) (m:=List.take ((List.map (row1 IntKind.u8) xs).length-(c,0).fst) (List.drop (c,0).fst xs)) (by first|(simp;done)|rfl|(simp;rfl)) rfl)) .nil))<|.c oz6<|.c hc0<|.c (Weak.int (k:=.i64) (show ((0):Int)=(unfoldN (getV (List.drop c xs))) from (by (rw [qt] at *;first | exact h | omega))))<|.c (show BlkW (Blk.var [AV.sl 1 (List.map (row1 IntKind.u8) xs),i64 (↑(c,0).fst:Int),i64 (getE (List.take ((List.map (row1 IntKind.u8) xs).length-c) (List.drop c xs)))]) (Blk.var [AV.sl 1 (List.map (row1 IntKind.u8) xs),i64 (↑(c+(getN (List.drop c xs)).toNat):Int),i64 0]) from (BlkW.var (.cons (.refl _) (.cons (Weak.int (show (((↑(c,0).fst:Int)):Int)=((↑(c+(getN (List.drop c xs)).toNat):Int)) from (by (rw [qt] at *;first | exact h | omega)))) (.cons (Weak.int (show ((getE (List.take ((List.map (row1 IntKind.u8) xs).length-c) (List.drop c xs))):Int)=(0) from (by (rw [qt];omega)))) .nil)))))<|.n)
 ·have gc0:getE (List.take ((List.map (row1 IntKind.u8) xs).length-c) (List.drop c xs))=0:=bdf hc0
  rcases bft (decide (unfoldN (getV (List.take ((List.map (row1 IntKind.u8) xs).length-c) (List.drop c xs)))<lo) || decide (unfoldN (getV (List.take ((List.map (row1 IntKind.u8) xs).length-c) (List.drop c xs))) > hi)) with hc1 | hc1
  ·have gc1:unfoldN (getV (List.take ((List.map (row1 IntKind.u8) xs).length-c) (List.drop c xs)))<lo∨unfoldN (getV (List.take ((List.map (row1 IntKind.u8) xs).length-c) (List.drop c xs))) > hi:=by first | (simp only [Bool.or_eq_true,Bool.or_eq_false_iff,Bool.and_eq_true,Bool.and_eq_false_iff,Bool.not_eq_true',Bool.not_eq_false',decide_eq_true_eq,decide_eq_false_iff_not,beq_iff_eq,bne_iff_ne,ne_eq,beq_eq_false_iff_ne,bne_eq_false_iff_eq,eqNums,Bool.and_true] at hc1;first | exact hc1 | omega) | simpa using hc1 | (simp at hc1 ⊢;omega) | (apply cbc;intro hn;simp_all [eqNums];done) | (apply cbc;intro hn;simp [eqNums] at hc1 hn;omega)
   have oz6 := @refGet_v (List.take ((List.map (row1 IntKind.u8) xs).length-c) (List.drop c xs)) (by (rw [qt];exact qb)) (by (rw [qt];omega))
   have oz8 := @unfold_v (getV (List.take ((List.map (row1 IntKind.u8) xs).length-c) (List.drop c xs))) (by (rw [qt];omega)) (by (rw [qt];omega))
   exact VM.run (fn:=Try.f175) (W:=[.r [] [],.r [] [],.br false,.r [] [.nats (c,0).fst (List.map (row1 IntKind.u8) xs).length,.call (aO oz6) (rO oz6)],.r [] [],.br false,.r [] [.callr (rO oz8)],.r [] [.op false,.op false,.op false,.sel 1],.br true,.r [] [],.r [] []]) (G:=[.weak 0 (i64 (unfoldN (getV (List.drop c xs)))),.blk 100000 (Blk.var [AV.sl 1 (List.map (row1 IntKind.u8) xs),i64 (↑(c+(getN (List.drop c xs)).toNat):Int),i64 0]),.sort]) Try.func175 (by kernel_rfl) (.c (show ((c,0).snd != 0)=false by (rw [qt] at *;first | exact h | omega))<|.c (show (↑(c,0).fst:Int)=(↑(c,0).fst:Int) by with_reducible rfl)<|.c (show (List.map (row1 IntKind.u8) xs).length=(List.map (row1 IntKind.u8) xs).length by with_reducible rfl)<|.c (show (c,0).fst≤(List.map (row1 IntKind.u8) xs).length by (rw [qt] at *;first | exact h | omega))<|.c (show (List.map (row1 IntKind.u8) xs).length≤(List.map (row1 IntKind.u8) xs).length by omega)<|.c (show WeakL [AV.sl 1 (List.take ((List.map (row1 IntKind.u8) xs).length-(c,0).fst) (List.drop (c,0).fst (List.map (row1 IntKind.u8) xs)))] [AV.sl 1 (List.map (row1 IntKind.u8) (List.take ((List.map (row1 IntKind.u8) xs).length-c) (List.drop c xs)))] from (.cons (Weak.rows (rows_to (row1 IntKind.u8) (r:=List.take ((List.map (row1 IntKind.u8) xs).length-(c,0).fst) (List.drop (c,0).fst (List.map (row1 IntKind.u8) xs))) (l:=List.take ((List.map (row1 IntKind.u8) xs).length-(c,0).fst) (List.drop (c,0).fst xs)) (m:=List.take ((List.map (row1 IntKind.u8) xs).length-(c,0).fst) (List.drop (c,0).fst xs)) (by first|(simp;done)|rfl|(simp;rfl)) rfl)) .nil))<|.c oz6<|.c hc0<|.c oz8<|.c hc1<|.c (Weak.int (k:=.i64) (show ((0):Int)=(unfoldN (getV (List.drop c xs))) from (by (rw [qt] at *;first | exact h | omega))))<|.c (show BlkW (Blk.var [AV.sl 1 (List.map (row1 IntKind.u8) xs),i64 (↑(c,0).fst:Int),i64 3]) (Blk.var [AV.sl 1 (List.map (row1 IntKind.u8) xs),i64 (↑(c+(getN (List.drop c xs)).toNat):Int),i64 0]) from (BlkW.var (.cons (.refl _) (.cons (Weak.int (show (((↑(c,0).fst:Int)):Int)=((↑(c+(getN (List.drop c xs)).toNat):Int)) from (by (rw [qt] at *;first | exact h | omega)))) (.cons (Weak.int (show ((3):Int)=(0) from (by (rw [qt] at *;first | exact h | omega)))) .nil)))))<|.n)
  ·have gc1:¬unfoldN (getV (List.take ((List.map (row1 IntKind.u8) xs).length-c) (List.drop c xs)))<lo∧¬unfoldN (getV (List.take ((List.map (row1 IntKind.u8) xs).length-c) (List.drop c xs))) > hi:=by first | (simp only [Bool.or_eq_true,Bool.or_eq_false_iff,Bool.and_eq_true,Bool.and_eq_false_iff,Bool.not_eq_true',Bool.not_eq_false',decide_eq_true_eq,decide_eq_false_iff_not,beq_iff_eq,bne_iff_ne,ne_eq,beq_eq_false_iff_ne,bne_eq_false_iff_eq,eqNums,Bool.and_true] at hc1;first | exact hc1 | omega) | simpa using hc1 | (simp at hc1 ⊢;omega) | (apply cbc;intro hn;simp_all [eqNums];done) | (apply cbc;intro hn;simp [eqNums] at hc1 hn;omega)
   have oz6 := @refGet_v (List.take ((List.map (row1 IntKind.u8) xs).length-c) (List.drop c xs)) (by (rw [qt];exact qb)) (by (rw [qt];omega))
   have oz8 := @unfold_v (getV (List.take ((List.map (row1 IntKind.u8) xs).length-c) (List.drop c xs))) (by (rw [qt];omega)) (by (rw [qt];omega))
   have oz10:=(Weak.int (k:=.i64) (show ((unfoldN (getV (List.take ((List.map (row1 IntKind.u8) xs).length-c) (List.drop c xs)))):Int)=(unfoldN (getV (List.drop c xs))) from (by (rw [qt]))))
   exact VM.run (fn:=Try.f175) (W:=[.r [] [],.r [] [],.br false,.r [] [.nats (c,0).fst (List.map (row1 IntKind.u8) xs).length,.call (aO oz6) (rO oz6)],.r [] [],.br false,.r [] [.callr (rO oz8)],.r [] [.op false,.op false,.op false,.sel 1],.br false,.r [] [.w],.r [] []]) (G:=[.weak 0 (wO oz10),.blk 100000 (Blk.var [AV.sl 1 (List.map (row1 IntKind.u8) xs),i64 (↑(c+(getN (List.drop c xs)).toNat):Int),i64 0]),.sort]) Try.func175 (by kernel_rfl) (.c (show ((c,0).snd != 0)=false by (simp;done))<|.c (show (↑(c,0).fst:Int)=(↑(c,0).fst:Int) by with_reducible rfl)<|.c (show (List.map (row1 IntKind.u8) xs).length=(List.map (row1 IntKind.u8) xs).length by with_reducible rfl)<|.c (show (c,0).fst≤(List.map (row1 IntKind.u8) xs).length by (simp;omega))<|.c (show (List.map (row1 IntKind.u8) xs).length≤(List.map (row1 IntKind.u8) xs).length by omega)<|.c (show WeakL [AV.sl 1 (List.take ((List.map (row1 IntKind.u8) xs).length-(c,0).fst) (List.drop (c,0).fst (List.map (row1 IntKind.u8) xs)))] [AV.sl 1 (List.map (row1 IntKind.u8) (List.take ((List.map (row1 IntKind.u8) xs).length-c) (List.drop c xs)))] from (.cons (Weak.rows (rows_to (row1 IntKind.u8) (r:=List.take ((List.map (row1 IntKind.u8) xs).length-(c,0).fst) (List.drop (c,0).fst (List.map (row1 IntKind.u8) xs))) (l:=List.take ((List.map (row1 IntKind.u8) xs).length-(c,0).fst) (List.drop (c,0).fst xs)) (m:=List.take ((List.map (row1 IntKind.u8) xs).length-(c,0).fst) (List.drop (c,0).fst xs)) (by first|(simp;done)|rfl|(simp;rfl)) rfl)) .nil))<|.c oz6<|.c hc0<|.c oz8<|.c hc1<|.c oz10<|.c (show BlkW (Blk.var [AV.sl 1 (List.map (row1 IntKind.u8) xs),i64 (IntKind.i64.wrap ((↑(c,0).fst:Int)+getN (List.take ((List.map (row1 IntKind.u8) xs).length-c) (List.drop c xs)))),i64 (c,0).snd]) (Blk.var [AV.sl 1 (List.map (row1 IntKind.u8) xs),i64 (↑(c+(getN (List.drop c xs)).toNat):Int),i64 0]) from (BlkW.var (.cons (.refl _) (.cons (Weak.int (show ((IntKind.i64.wrap ((↑(c,0).fst:Int)+getN (List.take ((List.map (row1 IntKind.u8) xs).length-c) (List.drop c xs)))):Int)=((↑(c+(getN (List.drop c xs)).toNat):Int)) from (by (rw [qt];exact (i6n _ (by simp only [];omega)).trans (by simp only [];omega))))) (.cons (.refl _) .nil)))))<|.n)
theorem rleft_y (xs:List Int) (c:Nat) (ha:c≤xs.length) (hl:xs.length≤1000000):VM Try.prog 44 ([.ptr 100000 0 0]) ([(100000,.var (rrC xs (c,0)))]) (i64 ((xs.drop c).length:Nat)) ([(100000,.var (rrC xs (c,0)))]):=by
 have oz1:=(Weak.int (k:=.i64) (show ((IntKind.i64.wrap ((↑(List.map (row1 IntKind.u8) xs).length:Int)-(↑(c,0).fst:Int))):Int)=((↑(List.drop c xs).length:Int)) from (by (rw [List.length_drop,List.length_map];dsimp only;rw [i6n _ (by omega)];omega))))
 exact VM.run (fn:=Try.f44) (W:=[.r [] [],.r [] [],.br false,.r [] [.w]]) (G:=[.weak 0 (wO oz1),.sort]) Try.func44 (by kernel_rfl) (.c (show ((c,0).snd != 0)=false by (simp;done))<|.c oz1<|.n)
theorem tk_at (xs:List Int) (c k:Nat):(dpW (xs.drop c) k).getD 0 default=xs.getD (c+k) default:=by
 rw [dpW_eq,List.drop_drop,List.getD_eq_getElem?_getD,List.getD_eq_getElem?_getD,List.getElem?_drop,Nat.add_zero]
def itR (xs:List Int) (r:Rrf):Nat→Rrf
 | 0=>r
 | k+1=>intR xs (itR xs r k) (-2147483648) 2147483647
theorem itR_in {xs:List Int} {r:Rrf} (h:Rrf.In xs r) (k:Nat):Rrf.In xs (itR xs r k):=by
 induction k with
 | zero=>exact h
 | succ k ih=>exact intR_in ih _ _
theorem toS_it (xs:List Int) (r:Rrf) (k:Nat):toS xs (itR xs r k)=itS (toS xs r) k:=by
 induction k with
 | zero=>rfl
 | succ k ih=>rw [itR,toS_int,ih];rfl
theorem rint_v (xs:List Int) (r:Rrf) (lo hi:Int) (h:Rrf.In xs r):VM Try.prog 175 [.ptr 100000 0 0,i64 lo,i64 hi] [(100000,.var (rrC xs r))] (i64 (intV (toS xs r) lo hi)) [(100000,.var (rrC xs (intR xs r lo hi)))]:=by
 obtain ⟨c,e⟩:=r
 obtain ⟨hb,hl,ha⟩:=h
 by_cases he:e=0
 ·subst he
  by_cases hg:getE (xs.drop c)=0
  ·by_cases hm:unfoldN (getV (xs.drop c))<lo∨hi<unfoldN (getV (xs.drop c))
   ·rw [show intR xs (c,0) lo hi=(c,3) from by simp only [intR];rw [if_neg (by simp),if_neg (by simp [hg]),if_pos hm],show intV (toS xs (c,0)) lo hi=0 from by simp only [toS,intV];simp [hg,hm]]
    exact rint_m xs c lo hi hb hl ha hg hm
   ·rw [show intR xs (c,0) lo hi=(c+(getN (xs.drop c)).toNat,0) from by simp only [intR];rw [if_neg (by simp),if_neg (by simp [hg]),if_neg hm],show intV (toS xs (c,0)) lo hi=unfoldN (getV (xs.drop c)) from by simp only [toS,intV];simp [hg,hm]]
    exact rint_y xs c lo hi hb hl ha hg (fun q=>hm (.inl q)) (fun q=>hm (.inr q))
  ·rw [show intR xs (c,0) lo hi=(c,getE (xs.drop c)) from by simp [intR,hg],show intV (toS xs (c,0)) lo hi=0 from by simp [toS,intV,hg]]
   exact rint_g xs c lo hi hb hl ha hg
 ·rw [show intR xs (c,e) lo hi=(c,e) from by simp [intR,he],show intV (toS xs (c,e)) lo hi=0 from by simp [toS,intV,he]]
  exact rint_e xs (c,e) lo hi he
noncomputable def rsml_l_I (xs:List Int) (c:Nat) (n:Nat) (k:Nat):VS:=stt 59 [(0,AV.ptr 100000 0 0),(1,i64 n),(5,.own 900),(6,i64 k)] [(900,.slc 30 1 ((tkW (xs.drop c) k).map (row1 .i8))),(100000,.var (rrC xs (c+k,0)))]
noncomputable def rsml_l_Z (xs:List Int) (c:Nat) (n:Nat):VS:=rsml_l_I xs c n (n)
theorem rsml_l_s (xs:List Int) (c:Nat) (n:Nat) (hb:∀ x∈xs,0≤x∧x≤255) (hl:xs.length≤1000000) (ha:c≤xs.length) (h1:n≤(xs.drop c).length) (k:Nat) (hk:k<n):VT Try.prog (fnC Try.f112 [1,1,1,1,0,1,0,0]) (rsml_l_I xs c n k) .normal (rsml_l_I xs c n (k+1)):=by
 have q5:(xs.drop c).length=xs.length-c:=List.length_drop
 have q3:=tkW_len (xs.drop c) k
 have q6:=tk_at xs c k
 have q7:0≤xs.getD (c+k) default∧xs.getD (c+k) default≤255:=by rw [List.getD_eq_getElem?_getD,List.getElem?_eq_getElem (show c+k<xs.length by omega)];exact hb _ (List.getElem_mem _)
 have oz2:=(map_at (row1 IntKind.u8) (0) (l:=xs) (i:=(c+k,0).fst) (by omega))
 exact VT.run (W:=[.r [] [],.br true,.r [] [.row (sO oz2),.w],.r [] [.n ((↑(c+k,0).fst:Int)+1)],.r [] [.n ((↑k:Int)+1)]]) (G:=[.any (rg [(31,27)]),.drop [48],.ren 49 900,.weak 6 (i64 (↑(k+1):Int)),.blk 900 (Blk.slc 30 1 (List.map (row1 IntKind.i8) (tkW (List.drop c xs) (k+1)))),.blk 100000 (Blk.var [AV.sl 1 (List.map (row1 IntKind.u8) xs),i64 (↑(c+(k+1)):Int),i64 0]),.sort]) (by kernel_rfl) (.c (decide_eq_true (p:=((↑k:Int)<(↑n:Int))) (by omega))<|.c (show 0≤(↑(c+k,0).fst:Int) by omega)<|.c oz2<|.c (show ((List.map (row1 IntKind.i8) (tkW (List.drop c xs) k)).length+1)*1≤140737488355328 by (simp;omega))<|.c (show (List.map (row1 IntKind.i8) (tkW (List.drop c xs) k)).length+1≤9223372036854775807 by (simp;omega))<|.c (i6n ((↑(c+k,0).fst:Int)+1) (by omega))<|.c (i6n ((↑k:Int)+1) (by omega))<|.c (Weak.int (k:=.i64) (show (((↑k:Int)+1):Int)=((↑(k+1):Int)) from (by omega)))<|.c (show BlkW (Blk.slc 30 1 (List.map (row1 IntKind.i8) (tkW (List.drop c xs) k)++[[i8 (IntKind.i8.wrap (xs.getD (c+k,0).fst 0))]])) (Blk.slc 30 1 (List.map (row1 IntKind.i8) (tkW (List.drop c xs) (k+1)))) from (BlkW.rows (rows_to (row1 IntKind.i8) (r:=List.map (row1 IntKind.i8) (tkW (List.drop c xs) k)++[[i8 (IntKind.i8.wrap (xs.getD (c+k,0).fst 0))]]) (l:=tkW (List.drop c xs) k++[IntKind.i8.wrap (xs.getD (c+k,0).fst 0)]) (m:=tkW (List.drop c xs) (k+1)) (by first|(simp;done)|rfl|(simp;rfl)) (show (tkW (List.drop c xs) k++[IntKind.i8.wrap (xs.getD (c+k,0).fst 0)])=(tkW (List.drop c xs) (k+1)) from (by (show tkW (xs.drop c) k++[IntKind.i8.wrap (xs.getD (c+k) default)]=_;rw [tkW,q6]))))))<|.c (show BlkW (Blk.var [AV.sl 1 (List.map (row1 IntKind.u8) xs),i64 ((↑(c+k,0).fst:Int)+1),i64 (c+k,0).snd]) (Blk.var [AV.sl 1 (List.map (row1 IntKind.u8) xs),i64 (↑(c+(k+1)):Int),i64 0]) from (BlkW.var (.cons (.refl _) (.cons (Weak.int (show (((↑(c+k,0).fst:Int)+1):Int)=((↑(c+(k+1)):Int)) from (by omega))) (.cons (.refl _) .nil)))))<|.n)
theorem rsml_l_e (xs:List Int) (c:Nat) (n:Nat) (hb:∀ x∈xs,0≤x∧x≤255) (hl:xs.length≤1000000) (ha:c≤xs.length) (h1:n≤(xs.drop c).length):VT Try.prog (fnC Try.f112 [1,1,1,1,0,1,0,0]) (rsml_l_I xs c n (n)) (.exit 0) (rsml_l_Z xs c n):=by
 exact VT.run (W:=[.r [] [],.br false]) (G:=[.any [31,32,33],.sort]) (by kernel_rfl) (.c (decide_eq_false (p:=((↑n:Int)<(↑n:Int))) (by omega))<|.n)
theorem rsml_l (xs:List Int) (c:Nat) (n:Nat) (hb:∀ x∈xs,0≤x∧x≤255) (hl:xs.length≤1000000) (ha:c≤xs.length) (h1:n≤(xs.drop c).length):VT Try.prog (fnC Try.f112 [1,1,1,1,0,1,0]) (rsml_l_I xs c n 0) (.exit 0) (rsml_l_Z xs c n) :=
 VT.loop (fun k=>rsml_l_I xs c n k) (n) (fun k hk=>rsml_l_s xs c n hb hl ha h1 k hk) (rsml_l_e xs c n hb hl ha h1) (by intro h;cases h)
noncomputable def rwid_l_I (xs:List Int) (c:Nat) (n:Nat) (k:Nat):VS:=stt 48 [(0,AV.ptr 100000 0 0),(1,i64 n),(5,.own 900),(6,i64 k)] [(900,.slc 21 1 ((itV (toS xs (c,0)) k).map (row1 .i32))),(100000,.var (rrC xs (itR xs (c,0) k)))]
noncomputable def rwid_l_Z (xs:List Int) (c:Nat) (n:Nat):VS:=rwid_l_I xs c n (n)
theorem rwid_l_s (xs:List Int) (c:Nat) (n:Nat) (hb:∀ x∈xs,0≤x∧x≤255) (hl:xs.length≤1000000) (ha:c≤xs.length) (h1:n≤(xs.drop c).length) (k:Nat) (hk:k<n):VT Try.prog (fnC Try.f113 [1,1,1,1,0,1,0,0]) (rwid_l_I xs c n k) .normal (rwid_l_I xs c n (k+1)):=by
 have q5:(xs.drop c).length=xs.length-c:=List.length_drop
 have q3:=itV_len (toS xs (c,0)) k
 have q6:=toS_it xs (c,0) k
 have q1:Rrf.In xs (itR xs (c,0) k):=itR_in ⟨hb,hl,ha⟩ k
 have q8 := @intV_rng (toS xs (itR xs (c,0) k)) (-2147483648) 2147483647 (by decide) (by decide)
 have oz1 := @rint_v (xs) (itR xs (c,0) k) (-2147483648) (2147483647) q1
 have oz2:=(IntWalk.i32_in (intV (toS xs (itR xs (c,0) k)) (-2147483648) 2147483647) (by omega))
 exact VT.run (W:=[.r [] [],.br true,.r [] [cm oz1,.n (nO oz2)],.r [] [.n ((↑k:Int)+1)]]) (G:=[.any (rg [(31,11)]),.drop [40],.ren 41 900,.weak 6 (i64 (↑(k+1):Int)),.blk 900 (Blk.slc 21 1 (List.map (row1 IntKind.i32) (itV (toS xs (c,0)) (k+1)))),.blk 100000 (Blk.var [AV.sl 1 (List.map (row1 IntKind.u8) xs),i64 (↑(itR xs (c,0) (k+1)).fst:Int),i64 (itR xs (c,0) (k+1)).snd]),.sort]) (by kernel_rfl) (.c (decide_eq_true (p:=((↑k:Int)<(↑n:Int))) (by omega))<|.c oz1<|.c oz2<|.c (show ((List.map (row1 IntKind.i32) (itV (toS xs (c,0)) k)).length+1)*4≤140737488355328 by (simp;omega))<|.c (show (List.map (row1 IntKind.i32) (itV (toS xs (c,0)) k)).length+1≤9223372036854775807 by (simp;omega))<|.c (i6n ((↑k:Int)+1) (by omega))<|.c (Weak.int (k:=.i64) (show (((↑k:Int)+1):Int)=((↑(k+1):Int)) from (by omega)))<|.c (show BlkW (Blk.slc 21 1 (List.map (row1 IntKind.i32) (itV (toS xs (c,0)) k)++[[i32 (intV (toS xs (itR xs (c,0) k)) (-2147483648) 2147483647)]])) (Blk.slc 21 1 (List.map (row1 IntKind.i32) (itV (toS xs (c,0)) (k+1)))) from (BlkW.rows (rows_to (row1 IntKind.i32) (r:=List.map (row1 IntKind.i32) (itV (toS xs (c,0)) k)++[[i32 (intV (toS xs (itR xs (c,0) k)) (-2147483648) 2147483647)]]) (l:=itV (toS xs (c,0)) k++[intV (toS xs (itR xs (c,0) k)) (-2147483648) 2147483647]) (m:=itV (toS xs (c,0)) (k+1)) (by first|(simp;done)|rfl|(simp;rfl)) (show (itV (toS xs (c,0)) k++[intV (toS xs (itR xs (c,0) k)) (-2147483648) 2147483647])=(itV (toS xs (c,0)) (k+1)) from (by (rw [itV,q6]))))))<|.c (show BlkW (Blk.var [AV.sl 1 (List.map (row1 IntKind.u8) xs),i64 (↑(intR xs (itR xs (c,0) k) (-2147483648) 2147483647).fst:Int),i64 (intR xs (itR xs (c,0) k) (-2147483648) 2147483647).snd]) (Blk.var [AV.sl 1 (List.map (row1 IntKind.u8) xs),i64 (↑(itR xs (c,0) (k+1)).fst:Int),i64 (itR xs (c,0) (k+1)).snd]) from (BlkW.var (.cons (.refl _) (.cons (Weak.int (show (((↑(intR xs (itR xs (c,0) k) (-2147483648) 2147483647).fst:Int)):Int)=((↑(itR xs (c,0) (k+1)).fst:Int)) from (by rfl))) (.cons (Weak.int (show (((intR xs (itR xs (c,0) k) (-2147483648) 2147483647).snd):Int)=((itR xs (c,0) (k+1)).snd) from (by rfl))) .nil)))))<|.n)
theorem rwid_l_e (xs:List Int) (c:Nat) (n:Nat) (hb:∀ x∈xs,0≤x∧x≤255) (hl:xs.length≤1000000) (ha:c≤xs.length) (h1:n≤(xs.drop c).length):VT Try.prog (fnC Try.f113 [1,1,1,1,0,1,0,0]) (rwid_l_I xs c n (n)) (.exit 0) (rwid_l_Z xs c n):=by
 exact VT.run (W:=[.r [] [],.br false]) (G:=[.any [31,32,33],.sort]) (by kernel_rfl) (.c (decide_eq_false (p:=((↑n:Int)<(↑n:Int))) (by omega))<|.n)
theorem rwid_l (xs:List Int) (c:Nat) (n:Nat) (hb:∀ x∈xs,0≤x∧x≤255) (hl:xs.length≤1000000) (ha:c≤xs.length) (h1:n≤(xs.drop c).length):VT Try.prog (fnC Try.f113 [1,1,1,1,0,1,0]) (rwid_l_I xs c n 0) (.exit 0) (rwid_l_Z xs c n) :=
 VT.loop (fun k=>rwid_l_I xs c n k) (n) (fun k hk=>rwid_l_s xs c n hb hl ha h1 k hk) (rwid_l_e xs c n hb hl ha h1) (by intro h;cases h)
theorem rsml_e (xs:List Int) (r:Rrf) (n:Int) (h:r.2≠0):VM Try.prog 112 ([.ptr 100000 0 0,i64 n]) ([(100000,.var (rrC xs r))]) (.sl 1 (([]:List Int).map (row1 .i8))) ([(100000,.var (rrC xs r))]):=by
 exact VM.run (fn:=Try.f112) (W:=[.r [] [],.r [] [],.r [] [.op false,.op false,.sel 1],.br true,.r [] []]) (G:=[.weak 0 (AV.sl 1 []),.sort]) Try.func112 (by kernel_rfl) (.c (show (r.snd != 0 || decide (n<1))=true by (simp;omega))<|.c (show Weak (nilv) (AV.sl 1 []) from (Weak.nil _))<|.n)
theorem rsml_n (xs:List Int) (c:Nat) (n:Int) (h:n<1):VM Try.prog 112 ([.ptr 100000 0 0,i64 n]) ([(100000,.var (rrC xs (c,0)))]) (.sl 1 (([]:List Int).map (row1 .i8))) ([(100000,.var (rrC xs (c,0)))]):=by
 exact VM.run (fn:=Try.f112) (W:=[.r [] [],.r [] [],.r [] [.op false,.op false,.sel 1],.br true,.r [] []]) (G:=[.weak 0 (AV.sl 1 []),.sort]) Try.func112 (by kernel_rfl) (.c (show ((c,0).snd != 0 || decide (n<1))=true by (refine decide_eq_true ?_;omega))<|.c (show Weak (nilv) (AV.sl 1 []) from (Weak.nil _))<|.n)
theorem rsml_m (xs:List Int) (c:Nat) (n:Int) (hl:xs.length≤1000000) (ha:c≤xs.length) (h:1≤n) (h1:((xs.drop c).length:Int)<n):VM Try.prog 112 ([.ptr 100000 0 0,i64 n]) ([(100000,.var (rrC xs (c,0)))]) (.sl 1 (([]:List Int).map (row1 .i8))) ([(100000,.var (rrC xs (c,20)))]):=by
 have q5:(xs.drop c).length=xs.length-c:=List.length_drop
 exact VM.run (fn:=Try.f112) (W:=[.r [] [],.r [] [],.r [] [.op false,.op false,.sel 1],.br false,.r [] [.w],.br true,.r [] [],.r [] []]) (G:=[.weak 0 (AV.sl 1 []),.sort]) Try.func112 (by kernel_rfl) (.c (show ((c,0).snd != 0 || decide (n<1))=false by (refine decide_eq_false ?_;omega))<|.c (show decide (n > IntKind.i64.wrap ((↑(List.map (row1 IntKind.u8) xs).length:Int)-(↑(c,0).fst:Int)))=true by (refine decide_eq_true ?_;rw [i6n _ (by simp only [List.length_map];omega)];simp only [List.length_map];omega))<|.c (show Weak (nilv) (AV.sl 1 []) from (Weak.nil _))<|.n)
theorem rwid_e (xs:List Int) (r:Rrf) (n:Int) (h:r.2≠0):VM Try.prog 113 ([.ptr 100000 0 0,i64 n]) ([(100000,.var (rrC xs r))]) (.sl 1 (([]:List Int).map (row1 .i32))) ([(100000,.var (rrC xs r))]):=by
 exact VM.run (fn:=Try.f113) (W:=[.r [] [],.r [] [],.r [] [.op false,.op false,.sel 1],.br true,.r [] []]) (G:=[.weak 0 (AV.sl 1 []),.sort]) Try.func113 (by kernel_rfl) (.c (show (r.snd != 0 || decide (n<1))=true by (simp;omega))<|.c (show Weak (nilv) (AV.sl 1 []) from (Weak.nil _))<|.n)
theorem rwid_n (xs:List Int) (c:Nat) (n:Int) (h:n<1):VM Try.prog 113 ([.ptr 100000 0 0,i64 n]) ([(100000,.var (rrC xs (c,0)))]) (.sl 1 (([]:List Int).map (row1 .i32))) ([(100000,.var (rrC xs (c,0)))]):=by
 exact VM.run (fn:=Try.f113) (W:=[.r [] [],.r [] [],.r [] [.op false,.op false,.sel 1],.br true,.r [] []]) (G:=[.weak 0 (AV.sl 1 []),.sort]) Try.func113 (by kernel_rfl) (.c (show ((c,0).snd != 0 || decide (n<1))=true by (refine decide_eq_true ?_;omega))<|.c (show Weak (nilv) (AV.sl 1 []) from (Weak.nil _))<|.n)
theorem rwid_m (xs:List Int) (c:Nat) (n:Int) (hl:xs.length≤1000000) (ha:c≤xs.length) (h:1≤n) (h1:((xs.drop c).length:Int)<n):VM Try.prog 113 ([.ptr 100000 0 0,i64 n]) ([(100000,.var (rrC xs (c,0)))]) (.sl 1 (([]:List Int).map (row1 .i32))) ([(100000,.var (rrC xs (c,20)))]):=by
 have q5:(xs.drop c).length=xs.length-c:=List.length_drop
 exact VM.run (fn:=Try.f113) (W:=[.r [] [],.r [] [],.r [] [.op false,.op false,.sel 1],.br false,.r [] [.w],.br true,.r [] [],.r [] []]) (G:=[.weak 0 (AV.sl 1 []),.sort]) Try.func113 (by kernel_rfl) (.c (show ((c,0).snd != 0 || decide (n<1))=false by (refine decide_eq_false ?_;omega))<|.c (show decide (n > IntKind.i64.wrap ((↑(List.map (row1 IntKind.u8) xs).length:Int)-(↑(c,0).fst:Int)))=true by (refine decide_eq_true ?_;rw [i6n _ (by simp only [List.length_map];omega)];simp only [List.length_map];omega))<|.c (show Weak (nilv) (AV.sl 1 []) from (Weak.nil _))<|.n)
theorem rsml_y (xs:List Int) (c:Nat) (n:Nat) (hb:∀ x∈xs,0≤x∧x≤255) (hl:xs.length≤1000000) (ha:c≤xs.length) (h0:1≤n) (h1:n≤(xs.drop c).length):VM Try.prog 112 ([.ptr 100000 0 0,i64 n]) ([(100000,.var (rrC xs (c,0)))]) (.sl 1 ((tkW (xs.drop c) n).map (row1 .i8))) ([(100000,.var (rrC xs (c+n,0)))]):=by
 have q5:(xs.drop c).length=xs.length-c:=List.length_drop
 have q3:=tkW_len (xs.drop c) n
 have oz3 := @rsml_l (xs) (c) (n) hb hl ha h1
 exact VM.run (fn:=Try.f112) (W:=[.r [] [],.r [] [],.r [] [.op false,.op false,.sel 1],.br false,.r [] [.w],.br false,.r [] [],.code [.any (rg [(4,1),(7,6),(15,13)]),.weak 6 (i64 (↑0:Int)),.nils 5 900 30 1,.sort] (Exit.exit 0) (zO oz3),.r [] []]) (G:=[.frz 900,.sort]) Try.func112 (by kernel_rfl) (.c (show ((c,0).snd != 0 || decide ((↑n:Int)<1))=false by (refine decide_eq_false ?_;omega))<|.c (show decide ((↑n:Int) > IntKind.i64.wrap ((↑(List.map (row1 IntKind.u8) xs).length:Int)-(↑(c,0).fst:Int)))=false by (refine decide_eq_false ?_;rw [i6n _ (by simp only [List.length_map];omega)];simp only [List.length_map];omega))<|.c (Weak.int (k:=.i64) (show ((0):Int)=((↑0:Int)) from (by omega)))<|.c oz3<|.n)
theorem rwid_y (xs:List Int) (c:Nat) (n:Nat) (hb:∀ x∈xs,0≤x∧x≤255) (hl:xs.length≤1000000) (ha:c≤xs.length) (h0:1≤n) (h1:n≤(xs.drop c).length) (h:(itR xs (c,0) n).2=0):VM Try.prog 113 ([.ptr 100000 0 0,i64 n]) ([(100000,.var (rrC xs (c,0)))]) (.sl 1 ((itV (toS xs (c,0)) n).map (row1 .i32))) ([(100000,.var (rrC xs (itR xs (c,0) n)))]):=by
 have q5:(xs.drop c).length=xs.length-c:=List.length_drop
 have q3:=itV_len (toS xs (c,0)) n
 have oz4 := @rwid_l (xs) (c) (n) hb hl ha h1
 exact VM.run (fn:=Try.f113) (W:=[.r [] [],.r [] [],.r [] [.op false,.op false,.sel 1],.br false,.r [] [.w],.br false,.r [] [],.code [.any (rg [(4,1),(7,6),(15,13)]),.weak 6 (i64 (↑0:Int)),.nils 5 900 21 1,.blk 100000 (Blk.var [AV.sl 1 (List.map (row1 IntKind.u8) xs),i64 (↑(itR xs (c,0) 0).fst:Int),i64 (itR xs (c,0) 0).snd]),.sort] (Exit.exit 0) (zO oz4),.r [] [],.br false,.r [] []]) (G:=[.frz 900,.sort]) Try.func113 (by kernel_rfl) (.c (show ((c,0).snd != 0 || decide ((↑n:Int)<1))=false by (refine decide_eq_false ?_;omega))<|.c (show decide ((↑n:Int) > IntKind.i64.wrap ((↑(List.map (row1 IntKind.u8) xs).length:Int)-(↑(c,0).fst:Int)))=false by (refine decide_eq_false ?_;rw [i6n _ (by simp only [List.length_map];omega)];simp only [List.length_map];omega))<|.c (Weak.int (k:=.i64) (show ((0):Int)=((↑0:Int)) from (by omega)))<|.c (show BlkW (Blk.var [AV.sl 1 (List.map (row1 IntKind.u8) xs),i64 (↑(c,0).fst:Int),i64 (c,0).snd]) (Blk.var [AV.sl 1 (List.map (row1 IntKind.u8) xs),i64 (↑(itR xs (c,0) 0).fst:Int),i64 (itR xs (c,0) 0).snd]) from (BlkW.var (.cons (.refl _) (.cons (.refl _) (.cons (Weak.int (show (((c,0).snd):Int)=((itR xs (c,0) 0).snd) from (by rfl))) .nil)))))<|.c oz4<|.c (show ((itR xs (c,0) n).snd != 0)=false by (simp;omega))<|.n)
end Go.Proofs.Ytgecmooedhnenaa
