/- A part of this claim. No condition. -/
import Derived.Test.YtgecmooedhnenaaGreatFuseSameG4
set_option maxRecDepth 100000
set_option maxHeartbeats 2000000
set_option linter.unusedVariables false
set_option linter.unusedSimpArgs false
set_option linter.unnecessarySimpa false
namespace Go.Proofs.YtgecmooedhnenaaGreat
open Go.RowKit
theorem cbc {p:Prop} (h:¬p→False):p:=Classical.byContradiction h
theorem i6n (n:Int) (h:-9223372036854775808≤n∧n≤9223372036854775807):IntKind.i64.wrap n=n:=IntWalk.i64_in n h
theorem bft (b:Bool):b=true∨b=false:=Bool.eq_false_or_eq_true b
abbrev rchC (r:Rng):List AV:=[i8 r.lo,i8 r.hi]
abbrev rch (r:Rng):AV:=.agg (rchC r)
def bothR (l:List Rng):Nat→Rng
 | 0=>l.getD 0 default
 | k+1=>⟨min (bothR l k).lo (l.getD k default).lo,max (bothR l k).hi (l.getD k default).hi⟩
noncomputable def both_l_I (l:List Rng) (k:Nat):VS:=stt 32 [(2,.ptr 2 0 0),(3,.ptr 3 0 0),(13,.sl 2 (l.map rngC)),(14,i64 l.length),(15,i64 k)] [(2,.var [i64 0,i64 0]),(3,.var (rngC (bothR l k)))]
noncomputable def both_l_Z (l:List Rng):VS:=both_l_I l (l.length)
theorem both_l_s (l:List Rng) (hl:l.length≤1000000) (k:Nat) (hk:k<l.length):VT Tryz.prog (fnC Tryz.f249 [1,1,1,0,1,0,0]) (both_l_I l k) .normal (both_l_I l (k+1)):=by
 have oz2:=(map_at (rngC) (default) (l:=l) (i:=k) hk)
 exact VT.run (W:=[.r [] [],.br true,.r [] [.row (sO oz2)],.r [] [],.r [] [.n ((↑k:Int)+1)]]) (G:=[.any (rg [(5,1),(16,15)]),.drop [5],.weak 15 (i64 (↑(k+1):Int)),.blk 3 (Blk.var [i64 (bothR l (k+1)).lo,i64 (bothR l (k+1)).hi]),.sort]) (by kernel_rfl) (.c (decide_eq_true (p:=((↑k:Int)<(↑l.length:Int))) (by omega))<|.c (show 0≤(↑k:Int) by omega)<|.c oz2<|.c (i6n ((↑k:Int)+1) (by omega))<|.c (Weak.int (k:=.i64) (show (((↑k:Int)+1):Int)=((↑(k+1):Int)) from (by omega)))<|.c (show BlkW (Blk.var [i64 (if (l.getD k default).lo<(bothR l k).lo then (l.getD k default).lo else (bothR l k).lo),i64 (if (l.getD k default).hi > (bothR l k).hi then (l.getD k default).hi else (bothR l k).hi)]) (Blk.var [i64 (bothR l (k+1)).lo,i64 (bothR l (k+1)).hi]) from (BlkW.var (.cons (Weak.int (show ((if (l.getD k default).lo<(bothR l k).lo then (l.getD k default).lo else (bothR l k).lo):Int)=((bothR l (k+1)).lo) from (by (simp only [bothR];split<;>omega)))) (.cons (Weak.int (show ((if (l.getD k default).hi > (bothR l k).hi then (l.getD k default).hi else (bothR l k).hi):Int)=((bothR l (k+1)).hi) from (by (simp only [bothR];split<;>omega)))) .nil))))<|.n)
theorem both_l_e (l:List Rng) (hl:l.length≤1000000):VT Tryz.prog (fnC Tryz.f249 [1,1,1,0,1,0,0]) (both_l_I l (l.length)) (.exit 0) (both_l_Z l):=by
 exact VT.run (W:=[.r [] [],.br false]) (G:=[.any [16],.sort]) (by kernel_rfl) (.c (decide_eq_false (p:=((↑l.length:Int)<(↑l.length:Int))) (by omega))<|.n)
theorem both_l (l:List Rng) (hl:l.length≤1000000):VT Tryz.prog (fnC Tryz.f249 [1,1,1,0,1,0]) (both_l_I l 0) (.exit 0) (both_l_Z l) :=
 VT.loop (fun k=>both_l_I l k) (l.length) (fun k hk=>both_l_s l hl k hk) (both_l_e l hl) (by intro h;cases h)
theorem both_v (l:List Rng) (hl:l.length≤1000000):VC Tryz.prog 249 ([.sl 2 (l.map rngC)]) (rng (bothR l l.length)):=by
 rcases bft ((↑(List.map rngC l).length:Int)==0) with hc0 | hc0
 ·have gc0:(↑(List.map rngC l).length:Int)=0:=bet hc0
  exact (VC.run (fn:=Tryz.f249) (W:=[.r [] [],.r [] [],.br true,.r [] []]) (r:=AV.agg [i64 0,i64 0]) Tryz.func249 (by kernel_rfl) (.c hc0<|.n)).weak (WeakL.refl _) (Weak.agg (.cons (Weak.int (show ((0):Int)=((bothR l l.length).lo) from (by (have:l=[]:=List.eq_nil_of_length_eq_zero (by simp only [List.length_map] at *;omega);subst this;rfl)))) (.cons (Weak.int (show ((0):Int)=((bothR l l.length).hi) from (by (have:l=[]:=List.eq_nil_of_length_eq_zero (by simp only [List.length_map] at *;omega);subst this;rfl)))) .nil)))
 ·have gc0:¬(↑(List.map rngC l).length:Int)=0:=bef hc0
  have oz2:=(map_at (rngC) (default) (l:=l) (i:=0) (by (simp only [List.length_map] at *;omega)))
  have oz6 := @both_l (l) hl
  exact VC.run (fn:=Tryz.f249) (W:=[.r [] [],.r [] [],.br false,.r [] [.row (sO oz2)],.r [] [],.code [.any [0,6,7,8,10,11,12],.weak 14 (i64 (↑l.length:Int)),.weak 15 (i64 (↑0:Int)),.blk 3 (Blk.var [i64 (bothR l 0).lo,i64 (bothR l 0).hi]),.sort] (Exit.exit 0) (zO oz6),.r [] []]) Tryz.func249 (by kernel_rfl) (.c hc0<|.c (show (0:Int)≤(0:Int) by omega)<|.c oz2<|.c (Weak.int (k:=.i64) (show (((↑(List.map rngC l).length:Int)):Int)=((↑l.length:Int)) from (by (simp;done))))<|.c (Weak.int (k:=.i64) (show ((0):Int)=((↑0:Int)) from (by omega)))<|.c (show BlkW (Blk.var [i64 (l.getD 0 default).lo,i64 (l.getD 0 default).hi]) (Blk.var [i64 (bothR l 0).lo,i64 (bothR l 0).hi]) from (BlkW.var (.cons (Weak.int (show (((l.getD 0 default).lo):Int)=((bothR l 0).lo) from (by rfl))) (.cons (Weak.int (show (((l.getD 0 default).hi):Int)=((bothR l 0).hi) from (by rfl))) .nil))))<|.c oz6<|.n)
def held32 (v:Int):Int:=if 2147483647<if -2147483648 > v then -2147483648 else v then 2147483647 else if -2147483648 > v then -2147483648 else v
theorem held32_in (v:Int):In32 (held32 v):=by unfold held32 In32;omega
theorem min_if (a b:Int):(if b<a then b else a)=min a b:=by omega
theorem max_if (a b:Int):(if b > a then b else a)=max a b:=by omega
def afterE (r:Rng) (n:Nod):Rng:=⟨min (heldQ (held32 r.lo) n.qm n.qs n.qz n.lo n.hi) (heldQ (held32 r.hi) n.qm n.qs n.qz n.lo n.hi),max (heldQ (held32 r.lo) n.qm n.qs n.qz n.lo n.hi) (heldQ (held32 r.hi) n.qm n.qs n.qz n.lo n.hi)⟩
theorem after_v (r:Rng) (n:Nod) (ok:n.Ok):VC Tryz.prog 248 ([rng r,.agg [i32 n.qm,i64 n.qs,i8 n.qz],i8 n.lo,i8 n.hi]) (.tup [i8 (afterE r n).lo,i8 (afterE r n).hi]):=by
 have ok_qm:=ok.qm
 have ok_qz:=ok.qz
 have ok_lo:=ok.lo
 have ok_hi:=ok.hi
 have q1:=held32_in r.lo
 have q2:=held32_in r.hi
 have oz0:=(IntWalk.i32_in (if 2147483647<if -2147483648 > r.lo then -2147483648 else r.lo then 2147483647 else if -2147483648 > r.lo then -2147483648 else r.lo) (by omega))
 have oz1 := @held_v (if 2147483647<if -2147483648 > r.lo then -2147483648 else r.lo then 2147483647 else if -2147483648 > r.lo then -2147483648 else r.lo) (n.qm) (n.qs) (n.qz) (n.lo) (n.hi) (by omega) ok_qm ok_qz ok_lo ok_hi
 have oz2:=(IntWalk.i32_in (if 2147483647<if -2147483648 > r.hi then -2147483648 else r.hi then 2147483647 else if -2147483648 > r.hi then -2147483648 else r.hi) (by omega))
 have oz3 := @held_v (if 2147483647<if -2147483648 > r.hi then -2147483648 else r.hi then 2147483647 else if -2147483648 > r.hi then -2147483648 else r.hi) (n.qm) (n.qs) (n.qz) (n.lo) (n.hi) (by omega) ok_qm ok_qz ok_lo ok_hi
 exact (VC.run (fn:=Tryz.f248) (W:=[.r [] [],.r [] [.n (nO oz0),.callr (rO oz1)],.r [] [.n (nO oz2),.callr (rO oz3)],.r [] []]) (r:=AV.tup [i8 (if heldQ (if 2147483647<if -2147483648 > r.hi then -2147483648 else r.hi then 2147483647 else if -2147483648 > r.hi then -2147483648 else r.hi) n.qm n.qs n.qz n.lo n.hi<heldQ (if 2147483647<if -2147483648 > r.lo then -2147483648 else r.lo then 2147483647 else if -2147483648 > r.lo then -2147483648 else r.lo) n.qm n.qs n.qz n.lo n.hi then heldQ (if 2147483647<if -2147483648 > r.hi then -2147483648 else r.hi then 2147483647 else if -2147483648 > r.hi then -2147483648 else r.hi) n.qm n.qs n.qz n.lo n.hi else heldQ (if 2147483647<if -2147483648 > r.lo then -2147483648 else r.lo then 2147483647 else if -2147483648 > r.lo then -2147483648 else r.lo) n.qm n.qs n.qz n.lo n.hi),i8 (if heldQ (if 2147483647<if -2147483648 > r.hi then -2147483648 else r.hi then 2147483647 else if -2147483648 > r.hi then -2147483648 else r.hi) n.qm n.qs n.qz n.lo n.hi > heldQ (if 2147483647<if -2147483648 > r.lo then -2147483648 else r.lo then 2147483647 else if -2147483648 > r.lo then -2147483648 else r.lo) n.qm n.qs n.qz n.lo n.hi then heldQ (if 2147483647<if -2147483648 > r.hi then -2147483648 else r.hi then 2147483647 else if -2147483648 > r.hi then -2147483648 else r.hi) n.qm n.qs n.qz n.lo n.hi else heldQ (if 2147483647<if -2147483648 > r.lo then -2147483648 else r.lo then 2147483647 else if -2147483648 > r.lo then -2147483648 else r.lo) n.qm n.qs n.qz n.lo n.hi)]) Tryz.func248 (by kernel_rfl) (.c oz0<|.c oz1<|.c oz2<|.c oz3<|.n)).weak (WeakL.refl _) (Weak.tup (.cons (Weak.int (show ((if heldQ (if 2147483647<if -2147483648 > r.hi then -2147483648 else r.hi then 2147483647 else if -2147483648 > r.hi then -2147483648 else r.hi) n.qm n.qs n.qz n.lo n.hi<heldQ (if 2147483647<if -2147483648 > r.lo then -2147483648 else r.lo then 2147483647 else if -2147483648 > r.lo then -2147483648 else r.lo) n.qm n.qs n.qz n.lo n.hi then heldQ (if 2147483647<if -2147483648 > r.hi then -2147483648 else r.hi then 2147483647 else if -2147483648 > r.hi then -2147483648 else r.hi) n.qm n.qs n.qz n.lo n.hi else heldQ (if 2147483647<if -2147483648 > r.lo then -2147483648 else r.lo then 2147483647 else if -2147483648 > r.lo then -2147483648 else r.lo) n.qm n.qs n.qz n.lo n.hi):Int)=((afterE r n).lo) from (by (exact min_if _ _)))) (.cons (Weak.int (show ((if heldQ (if 2147483647<if -2147483648 > r.hi then -2147483648 else r.hi then 2147483647 else if -2147483648 > r.hi then -2147483648 else r.hi) n.qm n.qs n.qz n.lo n.hi > heldQ (if 2147483647<if -2147483648 > r.lo then -2147483648 else r.lo then 2147483647 else if -2147483648 > r.lo then -2147483648 else r.lo) n.qm n.qs n.qz n.lo n.hi then heldQ (if 2147483647<if -2147483648 > r.hi then -2147483648 else r.hi then 2147483647 else if -2147483648 > r.hi then -2147483648 else r.hi) n.qm n.qs n.qz n.lo n.hi else heldQ (if 2147483647<if -2147483648 > r.lo then -2147483648 else r.lo then 2147483647 else if -2147483648 > r.lo then -2147483648 else r.lo) n.qm n.qs n.qz n.lo n.hi):Int)=((afterE r n).hi) from (by (exact max_if _ _)))) .nil)))
theorem clamp_in (v:Int) {lo hi:Int} (h1:In8 lo) (h2:In8 hi):In8 (clampI v lo hi):=by
 unfold clampI;split
 ·exact h1
 ·split
  ·exact h2
  ·omega
theorem refHeld_v (a m s z lo hi:Int) (ha:In32 a) (hm:In32 m) (hz:In8 z) (hl:In8 lo) (hh:In8 hi):VC Tryz.prog 157 ([i32 a,.agg [i32 m,i64 s,i8 z],i8 lo,i8 hi]) (i8 (heldQ a m s z lo hi)):=by
 have q1:=mul_bd32 a m ha.1 ha.2 hm.1 hm.2
 have q2:=rnd_bd (a*m) s 4611686018427387904 q1.1 q1.2
 have q3:=clamp_in (rnd (a*m) s+z) hl hh
 have oz0 := @refRight_v (m) (s) (z)
 rcases bft (!rightQ m s) with hc0 | hc0
 ·have gc0:rightQ m s=false:=by first | exact hc0 | exact of_decide_eq_true hc0 | exact of_decide_eq_false hc0 | simpa [eqNums] using hc0 | (simp [eqNums] at hc0 ⊢;first | done | assumption | omega)
  exact (VC.run (fn:=Tryz.f157) (W:=[.r [] [],.r [] [.callr (rO oz0)],.br true,.r [] []]) (r:=i8 0) Tryz.func157 (by kernel_rfl) (.c oz0<|.c hc0<|.n)).weak (WeakL.refl _) (Weak.int (show ((0):Int)=(heldQ a m s z lo hi) from (by (unfold heldQ;rw [if_neg (by simp_all)]))))
 ·have gc0:rightQ m s=true:=by first | exact hc0 | exact of_decide_eq_true hc0 | exact of_decide_eq_false hc0 | simpa [eqNums] using hc0 | (simp [eqNums] at hc0 ⊢;first | done | assumption | omega)
  have oz5 := @refRound_v (a*m) (s) (by omega)
  have oz10 := @refSatHeld_v (rnd (a*m) s+z) (lo) (hi)
  have oz11:=(IntWalk.i8_in (clampI (rnd (a*m) s+z) lo hi) (by omega))
  exact (VC.run (fn:=Tryz.f157) (W:=[.r [] [],.r [] [.callr (rO oz0)],.br false,.r [] [.n a,.n m,.n (a*m),.callr (rO oz5),.n z,.n (rnd (a*m) s+z)],.r [] [.n lo,.n hi,.callr (rO oz10),.n (nO oz11)]]) (r:=i8 (clampI (rnd (a*m) s+z) lo hi)) Tryz.func157 (by kernel_rfl) (.c oz0<|.c hc0<|.c (i6n a (by omega))<|.c (i6n m (by omega))<|.c (i6n (a*m) (by omega))<|.c oz5<|.c (i6n z (by omega))<|.c (i6n (rnd (a*m) s+z) (by omega))<|.c (i6n lo (by omega))<|.c (i6n hi (by omega))<|.c oz10<|.c oz11<|.n)).weak (WeakL.refl _) (Weak.int (show ((clampI (rnd (a*m) s+z) lo hi):Int)=(heldQ a m s z lo hi) from (by (unfold heldQ;rw [if_pos (by simp_all)]))))
theorem refAfter_v (r:Rng) (n:Nod) (ok:n.Ok):VC Tryz.prog 99 ([i64 r.lo,i64 r.hi,.agg [i32 n.qm,i64 n.qs,i8 n.qz],i8 n.lo,i8 n.hi]) (.tup [i8 (afterE r n).lo,i8 (afterE r n).hi]):=by
 have ok_qm:=ok.qm
 have ok_qz:=ok.qz
 have ok_lo:=ok.lo
 have ok_hi:=ok.hi
 have q1:=held32_in r.lo
 have q2:=held32_in r.hi
 have oz0:=(IntWalk.i32_in (if 2147483647<if -2147483648 > r.lo then -2147483648 else r.lo then 2147483647 else if -2147483648 > r.lo then -2147483648 else r.lo) (by omega))
 have oz1 := @refHeld_v (if 2147483647<if -2147483648 > r.lo then -2147483648 else r.lo then 2147483647 else if -2147483648 > r.lo then -2147483648 else r.lo) (n.qm) (n.qs) (n.qz) (n.lo) (n.hi) (by omega) ok_qm ok_qz ok_lo ok_hi
 have oz2:=(IntWalk.i32_in (if 2147483647<if -2147483648 > r.hi then -2147483648 else r.hi then 2147483647 else if -2147483648 > r.hi then -2147483648 else r.hi) (by omega))
 have oz3 := @refHeld_v (if 2147483647<if -2147483648 > r.hi then -2147483648 else r.hi then 2147483647 else if -2147483648 > r.hi then -2147483648 else r.hi) (n.qm) (n.qs) (n.qz) (n.lo) (n.hi) (by omega) ok_qm ok_qz ok_lo ok_hi
 exact (VC.run (fn:=Tryz.f99) (W:=[.r [] [],.r [] [.n (nO oz0),.callr (rO oz1)],.r [] [.n (nO oz2),.callr (rO oz3)],.r [] []]) (r:=AV.tup [i8 (if heldQ (if 2147483647<if -2147483648 > r.hi then -2147483648 else r.hi then 2147483647 else if -2147483648 > r.hi then -2147483648 else r.hi) n.qm n.qs n.qz n.lo n.hi<heldQ (if 2147483647<if -2147483648 > r.lo then -2147483648 else r.lo then 2147483647 else if -2147483648 > r.lo then -2147483648 else r.lo) n.qm n.qs n.qz n.lo n.hi then heldQ (if 2147483647<if -2147483648 > r.hi then -2147483648 else r.hi then 2147483647 else if -2147483648 > r.hi then -2147483648 else r.hi) n.qm n.qs n.qz n.lo n.hi else heldQ (if 2147483647<if -2147483648 > r.lo then -2147483648 else r.lo then 2147483647 else if -2147483648 > r.lo then -2147483648 else r.lo) n.qm n.qs n.qz n.lo n.hi),i8 (if heldQ (if 2147483647<if -2147483648 > r.hi then -2147483648 else r.hi then 2147483647 else if -2147483648 > r.hi then -2147483648 else r.hi) n.qm n.qs n.qz n.lo n.hi > heldQ (if 2147483647<if -2147483648 > r.lo then -2147483648 else r.lo then 2147483647 else if -2147483648 > r.lo then -2147483648 else r.lo) n.qm n.qs n.qz n.lo n.hi then heldQ (if 2147483647<if -2147483648 > r.hi then -2147483648 else r.hi then 2147483647 else if -2147483648 > r.hi then -2147483648 else r.hi) n.qm n.qs n.qz n.lo n.hi else heldQ (if 2147483647<if -2147483648 > r.lo then -2147483648 else r.lo then 2147483647 else if -2147483648 > r.lo then -2147483648 else r.lo) n.qm n.qs n.qz n.lo n.hi)]) Tryz.func99 (by kernel_rfl) (.c oz0<|.c oz1<|.c oz2<|.c oz3<|.n)).weak (WeakL.refl _) (Weak.tup (.cons (Weak.int (show ((if heldQ (if 2147483647<if -2147483648 > r.hi then -2147483648 else r.hi then 2147483647 else if -2147483648 > r.hi then -2147483648 else r.hi) n.qm n.qs n.qz n.lo n.hi<heldQ (if 2147483647<if -2147483648 > r.lo then -2147483648 else r.lo then 2147483647 else if -2147483648 > r.lo then -2147483648 else r.lo) n.qm n.qs n.qz n.lo n.hi then heldQ (if 2147483647<if -2147483648 > r.hi then -2147483648 else r.hi then 2147483647 else if -2147483648 > r.hi then -2147483648 else r.hi) n.qm n.qs n.qz n.lo n.hi else heldQ (if 2147483647<if -2147483648 > r.lo then -2147483648 else r.lo then 2147483647 else if -2147483648 > r.lo then -2147483648 else r.lo) n.qm n.qs n.qz n.lo n.hi):Int)=((afterE r n).lo) from (by (exact min_if _ _)))) (.cons (Weak.int (show ((if heldQ (if 2147483647<if -2147483648 > r.hi then -2147483648 else r.hi then 2147483647 else if -2147483648 > r.hi then -2147483648 else r.hi) n.qm n.qs n.qz n.lo n.hi > heldQ (if 2147483647<if -2147483648 > r.lo then -2147483648 else r.lo then 2147483647 else if -2147483648 > r.lo then -2147483648 else r.lo) n.qm n.qs n.qz n.lo n.hi then heldQ (if 2147483647<if -2147483648 > r.hi then -2147483648 else r.hi then 2147483647 else if -2147483648 > r.hi then -2147483648 else r.hi) n.qm n.qs n.qz n.lo n.hi else heldQ (if 2147483647<if -2147483648 > r.lo then -2147483648 else r.lo then 2147483647 else if -2147483648 > r.lo then -2147483648 else r.lo) n.qm n.qs n.qz n.lo n.hi):Int)=((afterE r n).hi) from (by (exact max_if _ _)))) .nil)))
def joinE (x y:Int) (n:Nod):Int:=if (rightQ n.qm n.qs&&rightQ n.rm n.rs)=true then clampI (rnd ((x-n.za)*n.qm) n.qs+rnd ((y-n.zb)*n.rm) n.rs+n.qz) n.lo n.hi else 0
theorem mul_bd9 (a m:Int) (a0 : -255≤a) (a1:a≤255) (hm:In32 m) : -547608330240≤a*m∧a*m≤547608330240:=by
 obtain ⟨m0,m1⟩:=hm
 have h1:(a.natAbs*m.natAbs:Nat)≤255*2147483648:=Nat.mul_le_mul (by omega) (by omega)
 have:=Int.natAbs_mul a m
 omega
theorem joinP (v z m s:Int) (h1:In8 v) (h2:In8 z) (h3:In32 m):(-547608330240≤(v-z)*m∧(v-z)*m≤547608330240) ∧ -547608330240≤rnd ((v-z)*m) s∧rnd ((v-z)*m) s≤547608330240:=by
 have q:=mul_bd9 (v-z) m (by omega) (by omega) h3
 exact ⟨q,rnd_bd _ s _ q.1 q.2⟩
theorem joinMay_v (n:Nod)  : VC Tryz.prog 250 ([nod n]) (bv (rightQ n.qm n.qs&&rightQ n.rm n.rs)):=by
 have oz0 := @right_v (n.qm) (n.qs) (n.qz)
 have oz1 := @right_v (n.rm) (n.rs) (n.rz)
 exact VC.run (fn:=Tryz.f250) (W:=[.r [] [],.r [] [.callr (rO oz0),.op false,.op false,.op false,.callr (rO oz1),.sel 2]]) Tryz.func250 (by kernel_rfl) (.c oz0<|.c oz1<|.n)
theorem joinScaled_v (v z m s z2:Int) (h1:In8 v) (h2:In8 z) (h3:In32 m):VC Tryz.prog 251 ([i8 v,i8 z,.agg [i32 m,i64 s,i8 z2]]) (i64 (rnd ((v-z)*m) s)):=by
 have oz3 := @scale_v (v-z) (m) (s) (by omega) h3
 exact VC.run (fn:=Tryz.f251) (W:=[.r [] [],.r [] [.n v,.n z,.n (v-z),.callr (rO oz3)]]) Tryz.func251 (by kernel_rfl) (.c (IntWalk.i32_in v (by omega))<|.c (IntWalk.i32_in z (by omega))<|.c (IntWalk.i32_in (v-z) (by omega))<|.c oz3<|.n)
theorem joinOne_v (x y:Int) (n:Nod) (ok:n.Ok) (hx:In8 x) (hy:In8 y):VC Tryz.prog 245 ([i8 x,i8 y,nod n]) (i8 (joinE x y n)):=by
 have ok_za:=ok.za
 have ok_zb:=ok.zb
 have ok_qm:=ok.qm
 have ok_rm:=ok.rm
 have ok_lo:=ok.lo
 have ok_hi:=ok.hi
 have ok_qz:=ok.qz
 have q1:=joinP x n.za n.qm n.qs hx ok.za ok.qm
 have q2:=joinP y n.zb n.rm n.rs hy ok.zb ok.rm
 have oz0 := @joinMay_v (n)
 rcases bft (!(rightQ n.qm n.qs&&rightQ n.rm n.rs)) with hc0 | hc0
 ·have gc0:rightQ n.qm n.qs=false∨rightQ n.rm n.rs=false:=by first | (simp only [Bool.or_eq_true,Bool.or_eq_false_iff,Bool.and_eq_true,Bool.and_eq_false_iff,Bool.not_eq_true',Bool.not_eq_false',decide_eq_true_eq,decide_eq_false_iff_not,beq_iff_eq,bne_iff_ne,ne_eq,beq_eq_false_iff_ne,bne_eq_false_iff_eq,eqNums,Bool.and_true] at hc0;first | exact hc0 | omega) | simpa using hc0 | (simp at hc0 ⊢;omega) | (apply cbc;intro hn;simp_all [eqNums];done) | (apply cbc;intro hn;simp [eqNums] at hc0 hn;omega)
  exact (VC.run (fn:=Tryz.f245) (W:=[.r [] [],.r [] [.callr (rO oz0)],.br true,.r [] []]) (r:=i8 0) Tryz.func245 (by kernel_rfl) (.c oz0<|.c hc0<|.n)).weak (WeakL.refl _) (Weak.int (show ((0):Int)=(joinE x y n) from (by (unfold joinE;rw [if_neg (by intro hh;simp only [Bool.and_eq_true] at hh;simp_all)]))))
 ·have gc0:rightQ n.qm n.qs=true∧rightQ n.rm n.rs=true:=by first | (simp only [Bool.or_eq_true,Bool.or_eq_false_iff,Bool.and_eq_true,Bool.and_eq_false_iff,Bool.not_eq_true',Bool.not_eq_false',decide_eq_true_eq,decide_eq_false_iff_not,beq_iff_eq,bne_iff_ne,ne_eq,beq_eq_false_iff_ne,bne_eq_false_iff_eq,eqNums,Bool.and_true] at hc0;first | exact hc0 | omega) | simpa using hc0 | (simp at hc0 ⊢;omega) | (apply cbc;intro hn;simp_all [eqNums];done) | (apply cbc;intro hn;simp [eqNums] at hc0 hn;omega)
  have oz2 := @joinScaled_v (x) (n.za) (n.qm) (n.qs) (n.qz) hx ok_za ok_qm
  have oz3 := @joinScaled_v (y) (n.zb) (n.rm) (n.rs) (n.rz) hy ok_zb ok_rm
  have oz4:=(i6n (rnd ((x-n.za)*n.qm) n.qs+rnd ((y-n.zb)*n.rm) n.rs) (by omega))
  have oz6:=(i6n (rnd ((x-n.za)*n.qm) n.qs+rnd ((y-n.zb)*n.rm) n.rs+n.qz) (by omega))
  have oz7 := @clamp_v (rnd ((x-n.za)*n.qm) n.qs+rnd ((y-n.zb)*n.rm) n.rs+n.qz) (n.lo) (n.hi) ok_lo ok_hi
  exact (VC.run (fn:=Tryz.f245) (W:=[.r [] [],.r [] [.callr (rO oz0)],.br false,.r [] [.callr (rO oz2),.callr (rO oz3),.n (nO oz4),.n n.qz,.n (nO oz6),.callr (rO oz7)]]) (r:=i8 (clampI (rnd ((x-n.za)*n.qm) n.qs+rnd ((y-n.zb)*n.rm) n.rs+n.qz) n.lo n.hi)) Tryz.func245 (by kernel_rfl) (.c oz0<|.c hc0<|.c oz2<|.c oz3<|.c oz4<|.c (i6n n.qz (by omega))<|.c oz6<|.c oz7<|.n)).weak (WeakL.refl _) (Weak.int (show ((clampI (rnd ((x-n.za)*n.qm) n.qs+rnd ((y-n.zb)*n.rm) n.rs+n.qz) n.lo n.hi):Int)=(joinE x y n) from (by (unfold joinE;rw [if_pos (by simp_all)]))))
theorem refJoinOne_v (x y:Int) (n:Nod) (ok:n.Ok) (hx:In8 x) (hy:In8 y):VC Tryz.prog 100 ([i8 x,i8 y,nod n]) (i8 (joinE x y n)):=by
 have ok_za:=ok.za
 have ok_zb:=ok.zb
 have ok_qm:=ok.qm
 have ok_rm:=ok.rm
 have ok_lo:=ok.lo
 have ok_hi:=ok.hi
 have ok_qz:=ok.qz
 have q1:=joinP x n.za n.qm n.qs hx ok.za ok.qm
 have q2:=joinP y n.zb n.rm n.rs hy ok.zb ok.rm
 have q3:=clamp_in (rnd ((x-n.za)*n.qm) n.qs+rnd ((y-n.zb)*n.rm) n.rs+n.qz) ok.lo ok.hi
 have oz0 := @refRight_v (n.qm) (n.qs) (n.qz)
 have oz1 := @refRight_v (n.rm) (n.rs) (n.rz)
 rcases bft (!rightQ n.qm n.qs || !rightQ n.rm n.rs) with hc0 | hc0
 ·have gc0:rightQ n.qm n.qs=false∨rightQ n.rm n.rs=false:=by first | (simp only [Bool.or_eq_true,Bool.or_eq_false_iff,Bool.and_eq_true,Bool.and_eq_false_iff,Bool.not_eq_true',Bool.not_eq_false',decide_eq_true_eq,decide_eq_false_iff_not,beq_iff_eq,bne_iff_ne,ne_eq,beq_eq_false_iff_ne,bne_eq_false_iff_eq,eqNums,Bool.and_true] at hc0;first | exact hc0 | omega) | simpa using hc0 | (simp at hc0 ⊢;omega) | (apply cbc;intro hn;simp_all [eqNums];done) | (apply cbc;intro hn;simp [eqNums] at hc0 hn;omega)
  exact (VC.run (fn:=Tryz.f100) (W:=[.r [] [],.r [] [.callr (rO oz0),.op false,.op false,.op false,.callr (rO oz1),.op false,.sel 1],.br true,.r [] []]) (r:=i8 0) Tryz.func100 (by kernel_rfl) (.c oz0<|.c oz1<|.c hc0<|.n)).weak (WeakL.refl _) (Weak.int (show ((0):Int)=(joinE x y n) from (by (unfold joinE;rw [if_neg (by intro hh;simp only [Bool.and_eq_true] at hh;simp_all)]))))
 ·have gc0:rightQ n.qm n.qs=true∧rightQ n.rm n.rs=true:=by first | (simp only [Bool.or_eq_true,Bool.or_eq_false_iff,Bool.and_eq_true,Bool.and_eq_false_iff,Bool.not_eq_true',Bool.not_eq_false',decide_eq_true_eq,decide_eq_false_iff_not,beq_iff_eq,bne_iff_ne,ne_eq,beq_eq_false_iff_ne,bne_eq_false_iff_eq,eqNums,Bool.and_true] at hc0;first | exact hc0 | omega) | simpa using hc0 | (simp at hc0 ⊢;omega) | (apply cbc;intro hn;simp_all [eqNums];done) | (apply cbc;intro hn;simp [eqNums] at hc0 hn;omega)
  have oz8 := @refRound_v ((x-n.za)*n.qm) (n.qs) (by omega)
  have oz14 := @refRound_v ((y-n.zb)*n.rm) (n.rs) (by omega)
  have oz15:=(i6n (rnd ((x-n.za)*n.qm) n.qs+rnd ((y-n.zb)*n.rm) n.rs) (by omega))
  have oz17:=(i6n (rnd ((x-n.za)*n.qm) n.qs+rnd ((y-n.zb)*n.rm) n.rs+n.qz) (by omega))
  have oz20 := @refSatHeld_v (rnd ((x-n.za)*n.qm) n.qs+rnd ((y-n.zb)*n.rm) n.rs+n.qz) (n.lo) (n.hi)
  have oz21:=(IntWalk.i8_in (clampI (rnd ((x-n.za)*n.qm) n.qs+rnd ((y-n.zb)*n.rm) n.rs+n.qz) n.lo n.hi) (by omega))
  exact (VC.run (fn:=Tryz.f100) (W:=[.r [] [],.r [] [.callr (rO oz0),.op false,.op false,.op false,.callr (rO oz1),.op false,.sel 1],.br false,.r [] [.n x,.n n.za,.n (x-n.za),.n n.qm,.n ((x-n.za)*n.qm),.callr (rO oz8)],.r [] [.n y,.n n.zb,.n (y-n.zb),.n n.rm,.n ((y-n.zb)*n.rm),.callr (rO oz14)],.r [] [.n (nO oz15),.n n.qz,.n (nO oz17),.n n.lo,.n n.hi,.callr (rO oz20),.n (nO oz21)]]) (r:=i8 (clampI (rnd ((x-n.za)*n.qm) n.qs+rnd ((y-n.zb)*n.rm) n.rs+n.qz) n.lo n.hi)) Tryz.func100 (by kernel_rfl) (.c oz0<|.c oz1<|.c hc0<|.c (i6n x (by omega))<|.c (i6n n.za (by omega))<|.c (i6n (x-n.za) (by omega))<|.c (i6n n.qm (by omega))<|.c (i6n ((x-n.za)*n.qm) (by omega))<|.c oz8<|.c (i6n y (by omega))<|.c (i6n n.zb (by omega))<|.c (i6n (y-n.zb) (by omega))<|.c (i6n n.rm (by omega))<|.c (i6n ((y-n.zb)*n.rm) (by omega))<|.c oz14<|.c oz15<|.c (i6n n.qz (by omega))<|.c oz17<|.c (i6n n.lo (by omega))<|.c (i6n n.hi (by omega))<|.c oz20<|.c oz21<|.n)).weak (WeakL.refl _) (Weak.int (show ((clampI (rnd ((x-n.za)*n.qm) n.qs+rnd ((y-n.zb)*n.rm) n.rs+n.qz) n.lo n.hi):Int)=(joinE x y n) from (by (unfold joinE;rw [if_pos (by simp_all)]))))
theorem refActOne_v (v:Int) (n:Nod) (ok:n.Ok) (hv:In8 v):VC Tryz.prog 101 ([i8 v,nod n]) (i8 (oneN v n)):=by
 have ok_za:=ok.za
 have ok_qm:=ok.qm
 have ok_qz:=ok.qz
 have ok_lo:=ok.lo
 have ok_hi:=ok.hi
 have oz3 := @refHeld_v (v-n.za) (n.qm) (n.qs) (n.qz) (n.lo) (n.hi) (by omega) ok_qm ok_qz ok_lo ok_hi
 exact (VC.run (fn:=Tryz.f101) (W:=[.r [] [],.r [] [.n v,.n n.za,.n (v-n.za),.callr (rO oz3)]]) (r:=i8 (heldQ (v-n.za) n.qm n.qs n.qz n.lo n.hi)) Tryz.func101 (by kernel_rfl) (.c (IntWalk.i32_in v (by omega))<|.c (IntWalk.i32_in n.za (by omega))<|.c (IntWalk.i32_in (v-n.za) (by omega))<|.c oz3<|.n)).weak (WeakL.refl _) (Weak.int (show ((heldQ (v-n.za) n.qm n.qs n.qz n.lo n.hi):Int)=(oneN v n) from (by rfl)))
theorem all_le (w b:List Int) (lo hi z:Int) (g:Bool) (bl:b.length≤100000):(allR w b lo hi z g (if sharedB w b=true then b.length else 0)).length≤1000000:=by
 have:(allR w b lo hi z g (if sharedB w b=true then b.length else 0)).length=if sharedB w b=true then b.length else 0:=by simp [allR]
 rw [this];split<;>omega
def spansN (n:Nod) (a:Rng):List Rng:=allR n.w n.b a.lo a.hi n.za (decide (n.np > 0)) (if sharedB n.w n.b=true then n.b.length else 0)
def sumG (n:Nod) (a:Rng):Rng×Int:=if (spansN n a).all holdB=true then (afterE (bothR (spansN n a) (spansN n a).length) n,0) else (⟨0,0⟩,10)
theorem sumG_y {n:Nod} {a:Rng} (h:(allR n.w n.b a.lo a.hi n.za (decide (n.np > 0)) (if sharedB n.w n.b=true then n.b.length else 0)).all holdB=true):sumG n a=(afterE (bothR (spansN n a) (spansN n a).length) n,0):=if_pos h
theorem summed_v (n:Nod) (a:Rng) (ok:n.Ok) (h1:In8 a.lo) (h2:In8 a.hi) (wl:n.w.length≤100000) (bl:n.b.length≤100000):VC Tryz.prog 244 ([nod n,rch a]) (.tup [rch (sumG n a).1,i64 (sumG n a).2]):=by
 have q:=all_le n.w n.b a.lo a.hi n.za (decide (n.np > 0)) bl
 have oz0 := @all_v (n) (a.lo) (a.hi) ok h1 h2 wl bl
 have oz1 := @holds_v (allR n.w n.b a.lo a.hi n.za (decide (n.np > 0)) (if sharedB n.w n.b=true then n.b.length else 0)) q
 rcases bft (!(allR n.w n.b a.lo a.hi n.za (decide (n.np > 0)) (if sharedB n.w n.b=true then n.b.length else 0)).all holdB) with hc0 | hc0
 ·have gc0:(allR n.w n.b a.lo a.hi n.za (decide (n.np > 0)) (if sharedB n.w n.b=true then n.b.length else 0)).all holdB=false:=by first | exact hc0 | exact of_decide_eq_true hc0 | exact of_decide_eq_false hc0 | simpa [eqNums] using hc0 | (simp [eqNums] at hc0 ⊢;first | done | assumption | omega)
  exact (VC.run (fn:=Tryz.f244) (W:=[.r [] [],.r [] [.callr (rO oz0)],.r [] [.callr (rO oz1)],.br true,.r [] []]) (r:=AV.tup [AV.agg [i8 0,i8 0],i64 10]) Tryz.func244 (by kernel_rfl) (.c oz0<|.c oz1<|.c hc0<|.n)).weak (WeakL.refl _) (Weak.tup (.cons (Weak.agg (.cons (Weak.int (show ((0):Int)=((sumG n a).fst.lo) from (by (unfold sumG spansN;rw [if_neg (by simp_all)])))) (.cons (Weak.int (show ((0):Int)=((sumG n a).fst.hi) from (by (unfold sumG spansN;rw [if_neg (by simp_all)])))) .nil))) (.cons (Weak.int (show ((10):Int)=((sumG n a).snd) from (by (unfold sumG spansN;rw [if_neg (by simp_all)])))) .nil)))
 ·have gc0:(allR n.w n.b a.lo a.hi n.za (decide (n.np > 0)) (if sharedB n.w n.b=true then n.b.length else 0)).all holdB=true:=by first | exact hc0 | exact of_decide_eq_true hc0 | exact of_decide_eq_false hc0 | simpa [eqNums] using hc0 | (simp [eqNums] at hc0 ⊢;first | done | assumption | omega)
  have oz3 := @both_v (allR n.w n.b a.lo a.hi n.za (decide (n.np > 0)) (if sharedB n.w n.b=true then n.b.length else 0)) q
  have oz4 := @after_v (bothR (allR n.w n.b a.lo a.hi n.za (decide (n.np > 0)) (if sharedB n.w n.b=true then n.b.length else 0)) (allR n.w n.b a.lo a.hi n.za (decide (n.np > 0)) (if sharedB n.w n.b=true then n.b.length else 0)).length) (n) ok
  exact (VC.run (fn:=Tryz.f244) (W:=[.r [] [],.r [] [.callr (rO oz0)],.r [] [.callr (rO oz1)],.br false,.r [] [.callr (rO oz3),.callr (rO oz4)],.r [] []]) (r:=AV.tup [AV.agg [i8 (afterE (bothR (allR n.w n.b a.lo a.hi n.za (decide (n.np > 0)) (if sharedB n.w n.b=true then n.b.length else 0)) (allR n.w n.b a.lo a.hi n.za (decide (n.np > 0)) (if sharedB n.w n.b=true then n.b.length else 0)).length) n).lo,i8 (afterE (bothR (allR n.w n.b a.lo a.hi n.za (decide (n.np > 0)) (if sharedB n.w n.b=true then n.b.length else 0)) (allR n.w n.b a.lo a.hi n.za (decide (n.np > 0)) (if sharedB n.w n.b=true then n.b.length else 0)).length) n).hi],i64 0]) Tryz.func244 (by kernel_rfl) (.c oz0<|.c oz1<|.c hc0<|.c oz3<|.c oz4<|.n)).weak (WeakL.refl _) (Weak.tup (.cons (Weak.agg (.cons (Weak.int (show (((afterE (bothR (allR n.w n.b a.lo a.hi n.za (decide (n.np > 0)) (if sharedB n.w n.b=true then n.b.length else 0)) (allR n.w n.b a.lo a.hi n.za (decide (n.np > 0)) (if sharedB n.w n.b=true then n.b.length else 0)).length) n).lo):Int)=((sumG n a).fst.lo) from (by (rw [sumG_y (by assumption)]<;>rfl)))) (.cons (Weak.int (show (((afterE (bothR (allR n.w n.b a.lo a.hi n.za (decide (n.np > 0)) (if sharedB n.w n.b=true then n.b.length else 0)) (allR n.w n.b a.lo a.hi n.za (decide (n.np > 0)) (if sharedB n.w n.b=true then n.b.length else 0)).length) n).hi):Int)=((sumG n a).fst.hi) from (by (rw [sumG_y (by assumption)]<;>rfl)))) .nil))) (.cons (Weak.int (show ((0):Int)=((sumG n a).snd) from (by (rw [sumG_y (by assumption)]<;>rfl)))) .nil)))
def eqBs:List (Bool×Bool)→Bool
 | []=>true
 | (a,b)::l=>(a==b)&&eqBs l
def blsA (l:List (Bool×Bool)):Value:=.agg (l.map fun q=>Value.bool q.1).toArray
def blsB (l:List (Bool×Bool)):Value:=.agg (l.map fun q=>Value.bool q.2).toArray
theorem eqItems_bls {P:Program} {d:Nat} {e:TypeId} {xs ys:Array Value} (w:World) (hu:P.underlying e=some .bool):∀ {l:List (Bool×Bool)} {off:Nat},
  (∀ (i:Nat) (q:Bool×Bool),l[i]? = some q→xs[off+i]? = some (.bool q.1)∧ys[off+i]? = some (.bool q.2)) →
  (Op.eqItems (d+1) e 1 xs ys (List.range' off l.length)).run P w=.ok (eqBs l) w
 | [],off,_=>by simp [Op.eqItems,eqBs]
 | (a,b)::l,off,h=>by
  obtain ⟨h2,h3⟩:=h 0 (a,b) rfl
  rw [Nat.add_zero] at h2 h3
  have hp:∀ (zs:Array Value) c,zs[off]? = some c→(part e zs (off*1)).run P w=.ok c w:=by
   intro zs c hc
   simp [part,isAgg,run_underlying hu,hc]
  have ih:=eqItems_bls (d:=d) (xs:=xs) (ys:=ys) w hu (l:=l) (off:=off+1) fun i q hq=>by
   have:=h (i+1) q (by simpa using hq)
   rw [show off+1+i=off+(i+1) by omega];exact this
  rw [List.length_cons,List.range'_succ,Op.eqItems]
  have hb:(Op.equalIn (d+1) e (Value.bool a) (Value.bool b)).run P w=.ok (a==b) w:=run_equalIn_bool w d e a b hu
  simp only [Sem.run_bind,hp _ _ h2,hp _ _ h3,Result.andThen_ok,hb]
  rw [eqBs]
  cases hab:(a==b)<;>simp [ih]
def arrOkB (P:Program) (t:TypeId) (m:Nat):Bool:=match P.underlying t with
 | some (.array n e)=>match P.info? e,P.underlying e with
  | some _,some .bool=>n==m&&P.cellsOf e==1
  | _,_=>false
 | _=>false
theorem bin_arrB {P:Program} {t:TypeId} {l:List (Bool×Bool)} (hg:P.eqGuardType P.depth t=false) (hk:arrOkB P t l.length=true) (x y:Operand) :
  BinTo P .eql t x y (blsA l) (blsB l) (.bool (eqBs l))∧BinTo P .neq t x y (blsA l) (blsB l) (.bool (!eqBs l)):=by
 unfold arrOkB at hk
 split at hk
 ·rename_i n e ht
  split at hk
  ·rename_i i hi hu
   simp only [Bool.and_eq_true,beq_iff_eq] at hk
   obtain ⟨hn,hc⟩:=hk
   have hr:∀ w,(Op.equalIn 10000 t (blsA l) (blsB l)).run P w=.ok (eqBs l) w:=by
    intro w
    rw [blsA,blsB,run_equalIn_array w 9999 _ _ ht hi,hc,hn,List.range_eq_range']
    refine eqItems_bls w hu (d:=9998) (off:=0) fun i q hq=>⟨?_,?_⟩
    ·simp [hq]
    ·simp [hq]
   constructor
   ·intro w;rw [Sem.run_bind,blsA,blsB,run_eqGuard_agg w _ _ _ _ _ _ hg,Result.andThen_ok,run_eql_struct,←blsA,←blsB,hr];rfl
   ·intro w;rw [Sem.run_bind,blsA,blsB,run_eqGuard_agg w _ _ _ _ _ _ hg,Result.andThen_ok,run_neq_struct,←blsA,←blsB,hr];rfl
  ·cases hk
 ·cases hk
theorem pvalues_v (n:Nod)  : VC Tryz.prog 102 ([nod n]) (ints .i64 (takesL n)):=by
 rcases bft (n.kd==6) with hc0 | hc0
 ·have gc0:n.kd=6:=bet hc0
  exact (VC.run (fn:=Tryz.f102) (W:=[.r [] [],.r [] [],.br true,.r [] []]) (r:=AV.sl 1 [[i64 n.na],[i64 n.nb]]) Tryz.func102 (by kernel_rfl) (.c hc0<|.n)).weak (WeakL.refl _) (Weak.rows (rows_to (row1 IntKind.i64) (r:=[[i64 n.na],[i64 n.nb]]) (l:=[n.na,n.nb]) (m:=takesL n) (by first | (simp only [List.map_append,List.map_cons,List.map_nil,List.map_set,List.map_replicate,List.map_take,List.map_drop];done) | rfl | (simp only [List.map_append,List.map_cons,List.map_nil,List.map_set,List.map_replicate,List.map_take,List.map_drop];rfl)) (show ([n.na,n.nb])=(takesL n) from (by (unfold takesL;rw [if_pos (by simp_all)])))))
 ·have gc0:¬n.kd=6:=bef hc0
  exact (VC.run (fn:=Tryz.f102) (W:=[.r [] [],.r [] [],.br false,.r [] []]) (r:=AV.sl 1 [[i64 n.na]]) Tryz.func102 (by kernel_rfl) (.c hc0<|.n)).weak (WeakL.refl _) (Weak.rows (rows_to (row1 IntKind.i64) (r:=[[i64 n.na]]) (l:=[n.na]) (m:=takesL n) (by first | (simp only [List.map_append,List.map_cons,List.map_nil,List.map_set,List.map_replicate,List.map_take,List.map_drop];done) | rfl | (simp only [List.map_append,List.map_cons,List.map_nil,List.map_set,List.map_replicate,List.map_take,List.map_drop];rfl)) (show ([n.na])=(takesL n) from (by (unfold takesL;rw [if_neg (by simp_all)])))))
theorem takes_in (n:Nod) (m:Int):(∀ k,k<(takesL n).length→0≤(takesL n).getD k 0∧(takesL n).getD k 0<m)↔thereB n m=true:=by
 rw [←takes_there];simp only [decide_eq_true_eq]
noncomputable def pord_iy_I (l:List Nod) (u:Nat) (L:List Int) (k:Nat):VS:=stt 30 [(3,i64 u),(7,.sl 19 (l.map nodC)),(8,i64 l.length),(9,i64 u),(15,ints .i64 L),(16,i64 L.length),(17,i64 k)] []
noncomputable def pord_iy_Z (l:List Nod) (u:Nat) (L:List Int):VS:=pord_iy_I l u L (L.length)
theorem pord_iy_s (l:List Nod) (u:Nat) (L:List Int) (hl:L.length≤2) (h:∀ k,k<L.length→0≤L.getD k 0∧L.getD k 0<(u:Int)+1) (k:Nat) (hk:k<L.length):VT Tryz.prog (fnC Tryz.f95 [1,0,1,0,0,1,1,0,0,1,1,0,0]) (pord_iy_I l u L k) .normal (pord_iy_I l u L (k+1)):=by
 have q:=h k hk
 have oz3:=(decide_eq_false (p:=(L.getD k 0<0)) (by omega))
 exact VT.run (W:=[.r [] [],.br true,.r [] [.row [i64 (L.getD k 0)]],.r [] [.br true,.br true,.br true,.br false],.br false,.r [] [.n ((↑k:Int)+1)]]) (G:=[.any (rg [(6,1),(18,11)]),.weak 17 (i64 (↑(k+1):Int)),.sort]) (by kernel_rfl) (.c (decide_eq_true (p:=((↑k:Int)<(↑L.length:Int))) (by omega))<|.c (show 0≤(↑k:Int) by omega)<|.c (map_at (row1 IntKind.i64) (0) (l:=L) (i:=k) hk)<|.c oz3<|.c oz3<|.c oz3<|.c oz3<|.c (decide_eq_false (p:=(L.getD k 0 > (↑u:Int))) (by omega))<|.c (i6n ((↑k:Int)+1) (by omega))<|.c (Weak.int (k:=.i64) (show (((↑k:Int)+1):Int)=((↑(k+1):Int)) from (by omega)))<|.n)
theorem pord_iy_e (l:List Nod) (u:Nat) (L:List Int) (hl:L.length≤2) (h:∀ k,k<L.length→0≤L.getD k 0∧L.getD k 0<(u:Int)+1):VT Tryz.prog (fnC Tryz.f95 [1,0,1,0,0,1,1,0,0,1,1,0,0]) (pord_iy_I l u L (L.length)) (.exit 2) (pord_iy_Z l u L):=by
 exact VT.run (W:=[.r [] [],.br false]) (G:=[.any [18],.sort]) (by kernel_rfl) (.c (decide_eq_false (p:=((↑L.length:Int)<(↑L.length:Int))) (by omega))<|.n)
theorem pord_iy (l:List Nod) (u:Nat) (L:List Int) (hl:L.length≤2) (h:∀ k,k<L.length→0≤L.getD k 0∧L.getD k 0<(u:Int)+1):VT Tryz.prog (fnC Tryz.f95 [1,0,1,0,0,1,1,0,0,1,1,0]) (pord_iy_I l u L 0) (.exit 2) (pord_iy_Z l u L) :=
 VT.loop (fun k=>pord_iy_I l u L k) (L.length) (fun k hk=>pord_iy_s l u L hl h k hk) (pord_iy_e l u L hl h) (by intro h;cases h)
noncomputable def pord_in_I (l:List Nod) (u:Nat) (L:List Int) (j:Nat) (k:Nat):VS:=stt 30 [(3,i64 u),(7,.sl 19 (l.map nodC)),(8,i64 l.length),(9,i64 u),(15,ints .i64 L),(16,i64 L.length),(17,i64 k)] []
noncomputable def pord_in_Z (l:List Nod) (u:Nat) (L:List Int) (j:Nat):VS:=stt 30 [(2,bv false)] []
theorem pord_in_s (l:List Nod) (u:Nat) (L:List Int) (j:Nat) (hl:L.length≤2) (hj:j<L.length) (hf:¬ (0≤L.getD j 0∧L.getD j 0<(u:Int)+1)) (h:∀ k,k<j→0≤L.getD k 0∧L.getD k 0<(u:Int)+1) (k:Nat) (hk:k<j):VT Tryz.prog (fnC Tryz.f95 [1,0,1,0,0,1,1,0,0,1,1,0,0]) (pord_in_I l u L j k) .normal (pord_in_I l u L j (k+1)):=by
 have q:=h k hk
 have oz3:=(decide_eq_false (p:=(L.getD k 0<0)) (by omega))
 exact VT.run (W:=[.r [] [],.br true,.r [] [.row [i64 (L.getD k 0)]],.r [] [.br true,.br true,.br true,.br false],.br false,.r [] [.n ((↑k:Int)+1)]]) (G:=[.any (rg [(6,1),(18,11)]),.weak 17 (i64 (↑(k+1):Int)),.sort]) (by kernel_rfl) (.c (decide_eq_true (p:=((↑k:Int)<(↑L.length:Int))) (by omega))<|.c (show 0≤(↑k:Int) by omega)<|.c (map_at (row1 IntKind.i64) (0) (l:=L) (i:=k) (by omega))<|.c oz3<|.c oz3<|.c oz3<|.c oz3<|.c (decide_eq_false (p:=(L.getD k 0 > (↑u:Int))) (by omega))<|.c (i6n ((↑k:Int)+1) (by omega))<|.c (Weak.int (k:=.i64) (show (((↑k:Int)+1):Int)=((↑(k+1):Int)) from (by omega)))<|.n)
theorem pord_in_e (l:List Nod) (u:Nat) (L:List Int) (j:Nat) (hl:L.length≤2) (hj:j<L.length) (hf:¬ (0≤L.getD j 0∧L.getD j 0<(u:Int)+1)) (h:∀ k,k<j→0≤L.getD k 0∧L.getD k 0<(u:Int)+1):VT Tryz.prog (fnC Tryz.f95 [1,0,1,0,0,1,1,0,0,1,1,0,0]) (pord_in_I l u L j (j)) (.ret) (pord_in_Z l u L j):=by
 exact VT.run (W:=[.r [] [],.br true,.r [] [.row [i64 (L.getD j 0)]],.r [] [.op false,.op false,.op false,.sel 1],.br true,.r [] []]) (G:=[.any (rg [(3,1),(6,4),(15,9),(27,1)]),.sort]) (by kernel_rfl) (.c (decide_eq_true (p:=((↑j:Int)<(↑L.length:Int))) (by omega))<|.c (show 0≤(↑j:Int) by omega)<|.c (map_at (row1 IntKind.i64) (0) (l:=L) (i:=j) hj)<|.c (show (decide (L.getD j 0<0) || decide (L.getD j 0 > (↑u:Int)))=true by (simp at *;omega))<|.n)
theorem pord_in (l:List Nod) (u:Nat) (L:List Int) (j:Nat) (hl:L.length≤2) (hj:j<L.length) (hf:¬ (0≤L.getD j 0∧L.getD j 0<(u:Int)+1)) (h:∀ k,k<j→0≤L.getD k 0∧L.getD k 0<(u:Int)+1):VT Tryz.prog (fnC Tryz.f95 [1,0,1,0,0,1,1,0,0,1,1,0]) (pord_in_I l u L j 0) (.ret) (pord_in_Z l u L j) :=
 VT.loop (fun k=>pord_in_I l u L j k) (j) (fun k hk=>pord_in_s l u L j hl hj hf h k hk) (pord_in_e l u L j hl hj hf h) (by intro h;cases h)
noncomputable def pord_oy_I (l:List Nod) (k:Nat):VS:=stt 30 [(7,.sl 19 (l.map nodC)),(8,i64 l.length),(9,i64 k)] []
noncomputable def pord_oy_Z (l:List Nod):VS:=pord_oy_I l (l.length)
theorem pord_oy_s (l:List Nod) (hl:l.length≤1000) (h:∀ k:Nat,k<l.length→thereB (l.getD k default) ((k:Int)+1)=true) (k:Nat) (hk:k<l.length):VT Tryz.prog (fnC Tryz.f95 [1,0,1,0,0]) (pord_oy_I l k) .normal (pord_oy_I l (k+1)):=by
 have q:=(takes_in _ _).2 (h k hk)
 have q2:=takes_len (l.getD k default)
 have oz2:=(map_at (nodC) (default) (l:=l) (i:=k) hk)
 have oz3 := @pvalues_v (l.getD k default)
 have oz4:=(Weak.int (k:=.i64) (show (((↑(List.map (row1 IntKind.i64) (takesL (l.getD k default))).length:Int)):Int)=((↑(takesL (l.getD k default)).length:Int)) from (by (simp;done))))
 have oz6 := @pord_iy (l) (k) (takesL (l.getD k default)) (by omega) q
 exact VT.run (W:=[.r [] [],.br true,.r [] [.row (sO oz2)],.r [] [.callr (rO oz3)],.code [.any (rg [(4,1),(10,5)]),.drop [4],.weak 16 (wO oz4),.weak 17 (i64 (↑0:Int)),.sort] (Exit.exit 2) (zO oz6),.r [] [.n ((↑k:Int)+1)]]) (G:=[.any [3,15,16,17,29],.weak 9 (i64 (↑(k+1):Int)),.sort]) (by kernel_rfl) (.c (decide_eq_true (p:=((↑k:Int)<(↑l.length:Int))) (by omega))<|.c (show 0≤(↑k:Int) by omega)<|.c oz2<|.c oz3<|.c oz4<|.c (Weak.int (k:=.i64) (show ((0):Int)=((↑0:Int)) from (by omega)))<|.c oz6<|.c (i6n ((↑k:Int)+1) (by omega))<|.c (Weak.int (k:=.i64) (show (((↑k:Int)+1):Int)=((↑(k+1):Int)) from (by omega)))<|.n)
theorem pord_oy_e (l:List Nod) (hl:l.length≤1000) (h:∀ k:Nat,k<l.length→thereB (l.getD k default) ((k:Int)+1)=true):VT Tryz.prog (fnC Tryz.f95 [1,0,1,0,0]) (pord_oy_I l (l.length)) (.exit 0) (pord_oy_Z l):=by
 exact VT.run (W:=[.r [] [],.br false]) (G:=[.any [10],.sort]) (by kernel_rfl) (.c (decide_eq_false (p:=((↑l.length:Int)<(↑l.length:Int))) (by omega))<|.n)
theorem pord_oy (l:List Nod) (hl:l.length≤1000) (h:∀ k:Nat,k<l.length→thereB (l.getD k default) ((k:Int)+1)=true):VT Tryz.prog (fnC Tryz.f95 [1,0,1,0]) (pord_oy_I l 0) (.exit 0) (pord_oy_Z l) :=
 VT.loop (fun k=>pord_oy_I l k) (l.length) (fun k hk=>pord_oy_s l hl h k hk) (pord_oy_e l hl h) (by intro h;cases h)
noncomputable def pord_on_I (l:List Nod) (m i:Nat) (k:Nat):VS:=stt 30 [(7,.sl 19 (l.map nodC)),(8,i64 l.length),(9,i64 k)] []
noncomputable def pord_on_Z (l:List Nod) (m i:Nat):VS:=stt 30 [(2,bv false)] []
theorem pord_on_s (l:List Nod) (m i:Nat) (hl:l.length≤1000) (hm:m<l.length) (hj:i<(takesL (l.getD m default)).length) (hf:¬ (0≤(takesL (l.getD m default)).getD i 0∧(takesL (l.getD m default)).getD i 0<(m:Int)+1)) (hi:∀ k,k<i→0≤(takesL (l.getD m default)).getD k 0∧(takesL (l.getD m default)).getD k 0<(m:Int)+1) (h:∀ k:Nat,k<m→thereB (l.getD k default) ((k:Int)+1)=true) (k:Nat) (hk:k<m):VT Tryz.prog (fnC Tryz.f95 [1,0,1,0,0]) (pord_on_I l m i k) .normal (pord_on_I l m i (k+1)):=by
 have q:=(takes_in _ _).2 (h k hk)
 have q2:=takes_len (l.getD k default)
 have q3:k<l.length:=by omega
 have oz2:=(map_at (nodC) (default) (l:=l) (i:=k) q3)
 have oz3 := @pvalues_v (l.getD k default)
 have oz4:=(Weak.int (k:=.i64) (show (((↑(List.map (row1 IntKind.i64) (takesL (l.getD k default))).length:Int)):Int)=((↑(takesL (l.getD k default)).length:Int)) from (by (simp;done))))
 have oz6 := @pord_iy (l) (k) (takesL (l.getD k default)) (by omega) q
 exact VT.run (W:=[.r [] [],.br true,.r [] [.row (sO oz2)],.r [] [.callr (rO oz3)],.code [.any (rg [(4,1),(10,5)]),.drop [4],.weak 16 (wO oz4),.weak 17 (i64 (↑0:Int)),.sort] (Exit.exit 2) (zO oz6),.r [] [.n ((↑k:Int)+1)]]) (G:=[.any [3,15,16,17,29],.weak 9 (i64 (↑(k+1):Int)),.sort]) (by kernel_rfl) (.c (decide_eq_true (p:=((↑k:Int)<(↑l.length:Int))) (by omega))<|.c (show 0≤(↑k:Int) by omega)<|.c oz2<|.c oz3<|.c oz4<|.c (Weak.int (k:=.i64) (show ((0):Int)=((↑0:Int)) from (by omega)))<|.c oz6<|.c (i6n ((↑k:Int)+1) (by omega))<|.c (Weak.int (k:=.i64) (show (((↑k:Int)+1):Int)=((↑(k+1):Int)) from (by omega)))<|.n)
theorem pord_on_e (l:List Nod) (m i:Nat) (hl:l.length≤1000) (hm:m<l.length) (hj:i<(takesL (l.getD m default)).length) (hf:¬ (0≤(takesL (l.getD m default)).getD i 0∧(takesL (l.getD m default)).getD i 0<(m:Int)+1)) (hi:∀ k,k<i→0≤(takesL (l.getD m default)).getD k 0∧(takesL (l.getD m default)).getD k 0<(m:Int)+1) (h:∀ k:Nat,k<m→thereB (l.getD k default) ((k:Int)+1)=true):VT Tryz.prog (fnC Tryz.f95 [1,0,1,0,0]) (pord_on_I l m i (m)) (.ret) (pord_on_Z l m i):=by
 have q2:=takes_len (l.getD m default)
 have oz2:=(map_at (nodC) (default) (l:=l) (i:=m) hm)
 have oz3 := @pvalues_v (l.getD m default)
 have oz4:=(Weak.int (k:=.i64) (show (((↑(List.map (row1 IntKind.i64) (takesL (l.getD m default))).length:Int)):Int)=((↑(takesL (l.getD m default)).length:Int)) from (by (simp;done))))
 have oz6 := @pord_in (l) (m) (takesL (l.getD m default)) (i) (by omega) hj hf hi
 exact VT.run (W:=[.r [] [],.br true,.r [] [.row (sO oz2)],.r [] [.callr (rO oz3)],.code [.any (rg [(4,1),(10,5)]),.drop [4],.weak 16 (wO oz4),.weak 17 (i64 (↑0:Int)),.sort] (Exit.ret) (zO oz6)]) (G:=[.sort]) (by kernel_rfl) (.c (decide_eq_true (p:=((↑m:Int)<(↑l.length:Int))) (by omega))<|.c (show 0≤(↑m:Int) by omega)<|.c oz2<|.c oz3<|.c oz4<|.c (Weak.int (k:=.i64) (show ((0):Int)=((↑0:Int)) from (by omega)))<|.c oz6<|.n)
theorem pord_on (l:List Nod) (m i:Nat) (hl:l.length≤1000) (hm:m<l.length) (hj:i<(takesL (l.getD m default)).length) (hf:¬ (0≤(takesL (l.getD m default)).getD i 0∧(takesL (l.getD m default)).getD i 0<(m:Int)+1)) (hi:∀ k,k<i→0≤(takesL (l.getD m default)).getD k 0∧(takesL (l.getD m default)).getD k 0<(m:Int)+1) (h:∀ k:Nat,k<m→thereB (l.getD k default) ((k:Int)+1)=true):VT Tryz.prog (fnC Tryz.f95 [1,0,1,0]) (pord_on_I l m i 0) (.ret) (pord_on_Z l m i) :=
 VT.loop (fun k=>pord_on_I l m i k) (m) (fun k hk=>pord_on_s l m i hl hm hj hf hi h k hk) (pord_on_e l m i hl hm hj hf hi h) (by intro h;cases h)
theorem pord_y (l:List Nod) (hl:l.length≤1000) (h:∀ k:Nat,k<l.length→thereB (l.getD k default) ((k:Int)+1)=true):VC Tryz.prog 95 ([.sl 19 (l.map nodC)]) (bv true):=by
 have oz2 := @pord_oy (l) hl h
 exact VC.run (fn:=Tryz.f95) (W:=[.r [] [],.r [] [],.code [.any [0,2],.weak 8 (i64 (↑l.length:Int)),.weak 9 (i64 (↑0:Int)),.sort] (Exit.exit 0) (zO oz2),.r [] []]) Tryz.func95 (by kernel_rfl) (.c (Weak.int (k:=.i64) (show (((↑(List.map nodC l).length:Int)):Int)=((↑l.length:Int)) from (by (simp;done))))<|.c (Weak.int (k:=.i64) (show ((0):Int)=((↑0:Int)) from (by omega)))<|.c oz2<|.n)
theorem pord_n (l:List Nod) (m i:Nat) (hl:l.length≤1000) (hm:m<l.length) (hj:i<(takesL (l.getD m default)).length) (hf:¬ (0≤(takesL (l.getD m default)).getD i 0∧(takesL (l.getD m default)).getD i 0<(m:Int)+1)) (hi:∀ k,k<i→0≤(takesL (l.getD m default)).getD k 0∧(takesL (l.getD m default)).getD k 0<(m:Int)+1) (h:∀ k:Nat,k<m→thereB (l.getD k default) ((k:Int)+1)=true):VC Tryz.prog 95 ([.sl 19 (l.map nodC)]) (bv false):=by
 have oz2 := @pord_on (l) (m) (i) hl hm hj hf hi h
 exact VC.run (fn:=Tryz.f95) (W:=[.r [] [],.r [] [],.code [.any [0,2],.weak 8 (i64 (↑l.length:Int)),.weak 9 (i64 (↑0:Int)),.sort] (Exit.ret) (zO oz2)]) Tryz.func95 (by kernel_rfl) (.c (Weak.int (k:=.i64) (show (((↑(List.map nodC l).length:Int)):Int)=((↑l.length:Int)) from (by (simp;done))))<|.c (Weak.int (k:=.i64) (show ((0):Int)=((↑0:Int)) from (by omega)))<|.c oz2<|.n)
theorem ordered_iff (l:List Nod):orderedB l=true↔∀ k:Nat,k<l.length→thereB (l.getD k default) ((k:Int)+1)=true:=by
 unfold orderedB;rw [List.all_eq_true];simp only [List.mem_range]
theorem pord_v (l:List Nod) (hl:l.length≤1000):VC Tryz.prog 95 [.sl 19 (l.map nodC)] (bv (orderedB l)):=by
 rcases all_or (fun k=>thereB (l.getD k default) ((k:Int)+1)) l.length with h | ⟨m,h1,h2,h3⟩
 ·rw [(ordered_iff l).2 h];exact pord_y l hl h
 ·have:orderedB l=false:=by
   cases e:orderedB l with
   | false=>rfl
   | true=>have:=(ordered_iff l).1 e m h1;rw [h2] at this;cases this
  rw [this]
  rcases all_or (fun k=>decide (0≤(takesL (l.getD m default)).getD k 0∧(takesL (l.getD m default)).getD k 0<(m:Int)+1)) (takesL (l.getD m default)).length with g | ⟨i,g1,g2,g3⟩
  ·have:=(takes_there (l.getD m default) ((m:Int)+1)).1 g;rw [h2] at this;cases this
  ·exact pord_n l m i hl h1 g1 (of_decide_eq_false g2) (fun k hk=>of_decide_eq_true (g3 k hk)) h3
abbrev usI (us:List Nat):List Int:=us.map fun u:Nat=>(u:Int)
def prunK (l:List Nod) (k:Nat):List Nod:=((usedL l).take k).map fun i=>pruneN (usedL l) (l.getD i default)
theorem prunK_len (l:List Nod) (k:Nat):(prunK l k).length≤k:=by unfold prunK;rw [List.length_map,List.length_take];omega
theorem prunK_step {l:List Nod} {k:Nat} (hk:k<(usedL l).length):prunK l (k+1)=prunK l k++[pruneN (usedL l) (l.getD ((usedL l).getD k 0) default)]:=by
 unfold prunK
 rw [List.take_add_one,List.getElem?_eq_getElem hk,List.getD_eq_getElem?_getD (l:=usedL l),List.getElem?_eq_getElem hk]
 simp only [Option.toList_some,List.map_append,List.map_cons,List.map_nil,Option.getD_some]
theorem prunK_all {l:List Nod} (h:orderedB l=true):prunK l (usedL l).length=pruneL l:=by unfold prunK pruneL;rw [List.take_length,if_pos h]
theorem used_len (l:List Nod):(usedL l).length≤l.length:=by
 unfold usedL;have:=List.length_filter_le (usedB l) (List.range l.length);rw [List.length_range] at this;exact this
theorem usI_at {us:List Nat} {k:Nat} (hk:k<us.length):(usI us).getD k 0=((us.getD k 0:Nat):Int):=by
 unfold usI;rw [List.getD_eq_getElem?_getD,List.getElem?_map,List.getElem?_eq_getElem hk,List.getD_eq_getElem?_getD,List.getElem?_eq_getElem hk];rfl
def plF (i:Nat):Int:=(i:Int)-128
def oneT (n:Nod) (i:Nat):Int:=oneN ((i:Int)-128) n
def tabR (f:Nat→Int) (k:Nat):List (List AV):=(List.range 256).map fun i=>[i8 (if i<k then f i else 0)]
theorem tabR_set (f:Nat→Int) (k:Nat):(tabR f k).set k [i8 (f k)]=tabR f (k+1):=by
 unfold tabR
 apply List.ext_getElem?
 intro i
 rw [List.getElem?_set]
 simp only [List.getElem?_map,List.length_map,List.length_range]
 by_cases hi:i<256
 ·rw [List.getElem?_range hi]
  by_cases hk:k=i
  ·subst hk;simp [hi]
  ·rw [if_neg hk]
   have:(i<k)=(i<k+1):=by apply propext;omega
   simp only [Option.map_some,this]
 ·rw [List.getElem?_eq_none (by simpa using hi)]
  by_cases hk:k=i
  ·subst hk;simp [hi]
  ·simp [hk]
theorem tabR_len (f:Nat→Int) (k:Nat):(tabR f k).length=256:=by simp [tabR]
noncomputable def fplain_l_I  (k:Nat):VS:=stt 13 [(0,.ptr 0 0 0),(1,.ptr 1 0 0),(3,i64 k)] [(0,.slc 151 1 (tabR plF 0)),(1,.slc 151 1 (tabR plF k))]
noncomputable def fplain_l_Z  : VS:=fplain_l_I  (256)
theorem fplain_l_s   (k:Nat) (hk:k<256):VT Tryz.prog (fnC Tryz.f78 [1,1,0,1,0,0]) (fplain_l_I  k) .normal (fplain_l_I  (k+1)):=by
 have q:=tabR_len plF k
 have q2:=tabR_set plF k
 have q3:plF k=(k:Int)-128:=rfl
 exact VT.run (W:=[.r [] [],.br true,.r [] [],.r [] [.n ((↑k:Int)-128),.n ((↑k:Int)-128),.nat 0],.r [] [.n ((↑k:Int)+1)]]) (G:=[.any (rg [(2,1),(4,8)]),.weak 3 (i64 (↑(k+1):Int)),.blk 1 (Blk.slc 151 1 ((List.range 256).map fun qi=>[i8 (if qi<k+1 then plF qi else 0)])),.sort]) (by kernel_rfl) (.c (decide_eq_true (p:=((↑k:Int)<256)) (by omega))<|.c (i6n ((↑k:Int)-128) (by omega))<|.c (IntWalk.i8_in ((↑k:Int)-128) (by omega))<|.c (show 0≤(↑k:Int) by omega)<|.c (show (↑k:Int)<(↑256:Int) by omega)<|.c (show (↑k:Int).toNat<256 by omega)<|.c (i6n ((↑k:Int)+1) (by omega))<|.c (Weak.int (k:=.i64) (show (((↑k:Int)+1):Int)=((↑(k+1):Int)) from (by omega)))<|.c (show BlkW (Blk.slc 151 1 (((List.range 256).map fun qi=>[i8 (if qi<k then plF qi else 0)]).set (↑k:Int).toNat [i8 ((↑k:Int)-128)])) (Blk.slc 151 1 ((List.range 256).map fun qi=>[i8 (if qi<k+1 then plF qi else 0)])) from (BlkW.rows (show (((List.range 256).map fun qi=>[i8 (if qi<k then plF qi else 0)]).set (↑k:Int).toNat [i8 ((↑k:Int)-128)])=(((List.range 256).map fun qi=>[i8 (if qi<k+1 then plF qi else 0)])) from (by (exact q2)))))<|.n)
theorem fplain_l_e   : VT Tryz.prog (fnC Tryz.f78 [1,1,0,1,0,0]) (fplain_l_I  (256)) (.exit 0) (fplain_l_Z ):=by
 exact VT.run (W:=[.r [] [],.br false]) (G:=[.any [4],.sort]) (by kernel_rfl) (.c (show false=false by with_reducible rfl)<|.n)
theorem fplain_l   : VT Tryz.prog (fnC Tryz.f78 [1,1,0,1,0]) (fplain_l_I  0) (.exit 0) (fplain_l_Z ) :=
 VT.loop (fun k=>fplain_l_I  k) (256) (fun k hk=>fplain_l_s   k hk) (fplain_l_e  ) (by intro h;cases h)
theorem zeroR (f:Nat→Int):List.replicate 256 [i8 0]=tabR f 0:=by
 unfold tabR
 apply List.ext_getElem?
 intro i
 rw [List.getElem?_replicate,List.getElem?_map]
 by_cases hi:i<256
 ·rw [List.getElem?_range hi,if_pos hi];rfl
 ·rw [List.getElem?_eq_none (by simpa using hi),if_neg hi];rfl
theorem fplain_w   : VC Tryz.prog 78 ([]) (.agg (tabR plF 256).flatten):=by
 have oz1:=(show BlkW (Blk.slc (151:Nat) (1:Nat) (List.replicate 256 [i8 (0:Int)])) (Blk.slc (151:Nat) (1:Nat) ((List.range 256).map fun qi=>[i8 (if (qi:Nat)<(0:Nat) then plF (qi:Nat) else (0:Int))])) from (BlkW.rows (show ((List.replicate 256 [i8 0]))=(((List.range 256).map fun qi=>[i8 (if qi<0 then plF qi else 0)])) from (by (exact zeroR _)))))
 have oz3 := @fplain_l
 exact VC.run (fn:=Tryz.f78) (W:=[.r [] [],.r [] [],.r [] [],.code [.weak 3 (i64 (↑0:Int)),.blk 0 (Blk.slc 151 1 ((List.range 256).map fun qi=>[i8 (if qi<0 then plF qi else 0)])),.blk 1 (Blk.slc 151 1 ((List.range 256).map fun qi=>[i8 (if qi<0 then plF qi else 0)])),.sort] (Exit.exit 0) (zO oz3),.r [] []]) Tryz.func78 (by kernel_rfl) (.c (Weak.int (k:=.i64) (show ((0):Int)=((↑0:Int)) from (by omega)))<|.c oz1<|.c oz1<|.c oz3<|.n)
noncomputable def ftab_l_I (n:Nod) (k:Nat):VS:=stt 23 [(1,.ptr 1 0 0),(2,.ptr 2 0 0),(4,.ptr 4 0 0),(11,i64 k)] [(1,.var (nodC n)),(2,.slc 151 1 (tabR (oneT n) 0)),(4,.slc 151 1 (tabR (oneT n) k))]
noncomputable def ftab_l_Z (n:Nod):VS:=ftab_l_I n (256)
theorem ftab_l_s (n:Nod) (ok:n.Ok) (k:Nat) (hk:k<256):VT Tryz.prog (fnC Tryz.f77 [1,1,1,0,1,0,0]) (ftab_l_I n k) .normal (ftab_l_I n (k+1)):=by
 have q:=tabR_len (oneT n) k
 have q2:=tabR_set (oneT n) k
 have oz3 := @actOne_w ((↑k:Int)-128) (n) ok (by omega)
 exact VT.run (W:=[.r [] [],.br true,.r [] [],.r [] [.n ((↑k:Int)-128),.n ((↑k:Int)-128),.callr (rO oz3),.nat 0],.r [] [.n ((↑k:Int)+1)]]) (G:=[.any (rg [(5,1),(12,10)]),.weak 11 (i64 (↑(k+1):Int)),.blk 4 (Blk.slc 151 1 ((List.range 256).map fun qi=>[i8 (if qi<k+1 then oneT n qi else 0)])),.sort]) (by kernel_rfl) (.c (decide_eq_true (p:=((↑k:Int)<256)) (by omega))<|.c (i6n ((↑k:Int)-128) (by omega))<|.c (IntWalk.i8_in ((↑k:Int)-128) (by omega))<|.c oz3<|.c (show 0≤(↑k:Int) by omega)<|.c (show (↑k:Int)<(↑256:Int) by omega)<|.c (show (↑k:Int).toNat<256 by omega)<|.c (i6n ((↑k:Int)+1) (by omega))<|.c (Weak.int (k:=.i64) (show (((↑k:Int)+1):Int)=((↑(k+1):Int)) from (by omega)))<|.c (show BlkW (Blk.slc 151 1 (((List.range 256).map fun qi=>[i8 (if qi<k then oneT n qi else 0)]).set (↑k:Int).toNat [i8 (oneN ((↑k:Int)-128) n)])) (Blk.slc 151 1 ((List.range 256).map fun qi=>[i8 (if qi<k+1 then oneT n qi else 0)])) from (BlkW.rows (show (((List.range 256).map fun qi=>[i8 (if qi<k then oneT n qi else 0)]).set (↑k:Int).toNat [i8 (oneN ((↑k:Int)-128) n)])=(((List.range 256).map fun qi=>[i8 (if qi<k+1 then oneT n qi else 0)])) from (by (exact q2)))))<|.n)
theorem ftab_l_e (n:Nod) (ok:n.Ok):VT Tryz.prog (fnC Tryz.f77 [1,1,1,0,1,0,0]) (ftab_l_I n (256)) (.exit 0) (ftab_l_Z n):=by
 exact VT.run (W:=[.r [] [],.br false]) (G:=[.any [12],.sort]) (by kernel_rfl) (.c (show false=false by with_reducible rfl)<|.n)
theorem ftab_l (n:Nod) (ok:n.Ok):VT Tryz.prog (fnC Tryz.f77 [1,1,1,0,1,0]) (ftab_l_I n 0) (.exit 0) (ftab_l_Z n) :=
 VT.loop (fun k=>ftab_l_I n k) (256) (fun k hk=>ftab_l_s n ok k hk) (ftab_l_e n ok) (by intro h;cases h)
theorem ftab_w (n:Nod) (ok:n.Ok) (hq:rightQ n.qm n.qs=true):VC Tryz.prog 77 ([nod n]) (.tup [.agg (tabR (oneT n) 256).flatten,i64 0]):=by
 have oz0 := @right_v (n.qm) (n.qs) (n.qz)
 have oz3:=(show BlkW (Blk.slc 151 1 (List.replicate 256 [i8 0])) (Blk.slc 151 1 ((List.range 256).map fun qi=>[i8 (if qi<0 then oneT n qi else 0)])) from (BlkW.rows (show ((List.replicate 256 [i8 0]))=(((List.range 256).map fun qi=>[i8 (if qi<0 then oneT (Nod.mk n.kd n.na n.nb n.nk n.ns n.np n.no n.za n.zb n.w n.b n.qm n.qs n.qz n.rm n.rs n.rz n.lo n.hi) qi else 0)])) from (by (exact zeroR _)))))
 have oz5 := @ftab_l (n) ok
 exact VC.run (fn:=Tryz.f77) (W:=[.r [] [],.r [] [],.r [] [.callr (rO oz0)],.br false,.r [] [],.code [.any [0,3,6,7,8,9],.weak 11 (i64 (↑0:Int)),.blk 2 (Blk.slc 151 1 ((List.range 256).map fun qi=>[i8 (if qi<0 then oneT n qi else 0)])),.blk 4 (Blk.slc 151 1 ((List.range 256).map fun qi=>[i8 (if qi<0 then oneT n qi else 0)])),.sort] (Exit.exit 0) (zO oz5),.r [] []]) Tryz.func77 (by kernel_rfl) (.c oz0<|.c (show (!rightQ n.qm n.qs)=false by (simp;omega))<|.c (Weak.int (k:=.i64) (show ((0):Int)=((↑0:Int)) from (by omega)))<|.c oz3<|.c oz3<|.c oz5<|.n)
theorem same_q {n:Nod} (h7:n.kd=7) (hc:checkE n=0):rightQ n.qm n.qs=true:=by
 unfold checkE at hc
 rw [if_neg (by omega)] at hc
 split at hc
 ·exact absurd hc (by decide)
 ·split at hc
  ·exact absurd hc (by decide)
  ·rename_i c
   have:scaledB n.kd=true:=by unfold scaledB;simp [h7]
   rw [this] at c
   cases e:rightQ n.qm n.qs with
   | true=>rfl
   | false=>rw [e] at c;simp at c
theorem same_no {n:Nod} (h:n.kd≠7∨checkE n≠0):false=sameN n:=by
 cases e:sameN n with
 | false=>rfl
 | true=>have:=same_iff.1 e;omega
theorem eqNums_all:∀ (l:List Nat) (f g:Nat→Int),eqNums (l.map fun i=>(IntKind.i8,f i,g i))=l.all fun i=>decide (f i=g i)
 | [],_,_=>rfl
 | a::l,f,g=>by
  rw [List.map_cons,eqNums,eqNums_all l f g,List.all_cons]
  congr 1
theorem tab_same {n:Nod} (h7:n.kd=7) (hc:checkE n=0):eqNums ((List.range 256).map fun i=>(IntKind.i8,(if i<256 then oneT n i else 0),(if i<256 then plF i else 0)))=sameN n:=by
 rw [eqNums_all]
 unfold sameN
 rw [decide_eq_true h7,decide_eq_true hc,Bool.true_and,Bool.true_and]
 apply Bool.eq_iff_iff.2
 simp only [List.all_eq_true,List.mem_range,decide_eq_true_eq]
 constructor
 ·intro h i hi
  have:=h i hi
  rw [if_pos hi,if_pos hi] at this;exact this
 ·intro h i hi
  rw [if_pos hi,if_pos hi];exact h i hi
theorem tab_bin (x y:Operand) {n:Nod} (h7:n.kd=7) (hc:checkE n=0):BinTo Tryz.prog .eql 151 x y (numsA ((List.range 256).map fun i=>(IntKind.i8,(if i<256 then oneT n i else 0),(if i<256 then plF i else 0)))) (numsB ((List.range 256).map fun i=>(IntKind.i8,(if i<256 then oneT n i else 0),(if i<256 then plF i else 0)))) (.bool (sameN n)):=by
 rw [←tab_same h7 hc]
 exact (bin_arr (by kernel_rfl) (by rw [List.map_map];kernel_rfl) x y).1
theorem fsame_v (n:Nod) (ok:n.Ok) (wl:n.w.length≤100000) (bl:n.b.length≤100000):VC Tryz.prog 34 ([nod n]) (bv (sameN n)):=by
 have q := @same_q n
 have q2:=ok.kd
 have oz0 := @check_v (n) wl bl q2
 rcases bft (n.kd != 7 || checkE n != 0) with hc0 | hc0
 ·have gc0:¬n.kd=7∨¬checkE n=0:=by first | (simp only [Bool.or_eq_true,Bool.or_eq_false_iff,Bool.and_eq_true,Bool.and_eq_false_iff,Bool.not_eq_true',Bool.not_eq_false',decide_eq_true_eq,decide_eq_false_iff_not,beq_iff_eq,bne_iff_ne,ne_eq,beq_eq_false_iff_ne,bne_eq_false_iff_eq,eqNums,Bool.and_true] at hc0;first | exact hc0 | omega) | simpa using hc0 | (simp at hc0 ⊢;omega) | (apply cbc;intro hn;simp_all [eqNums];done) | (apply cbc;intro hn;simp [eqNums] at hc0 hn;omega)
  exact (VC.run (fn:=Tryz.f34) (W:=[.r [] [],.r [] [.op false,.op false,.callr (rO oz0),.op false,.sel 1],.br true,.r [] []]) (r:=bv false) Tryz.func34 (by kernel_rfl) (.c oz0<|.c hc0<|.n)).weak (WeakL.refl _) (Weak.bool (show ((false):Bool)=(sameN n) from (by (exact same_no (by omega)))))
 ·have gc0:n.kd=7∧checkE n=0:=by first | (simp only [Bool.or_eq_true,Bool.or_eq_false_iff,Bool.and_eq_true,Bool.and_eq_false_iff,Bool.not_eq_true',Bool.not_eq_false',decide_eq_true_eq,decide_eq_false_iff_not,beq_iff_eq,bne_iff_ne,ne_eq,beq_eq_false_iff_ne,bne_eq_false_iff_eq,eqNums,Bool.and_true] at hc0;first | exact hc0 | omega) | simpa using hc0 | (simp at hc0 ⊢;omega) | (apply cbc;intro hn;simp_all [eqNums];done) | (apply cbc;intro hn;simp [eqNums] at hc0 hn;omega)
  have oz2 := @ftab_w (n) ok (by (exact q (by omega) (by omega)))
  have oz3:=(show true=true by with_reducible rfl)
  have oz5 := @fplain_w
  exact VC.run (fn:=Tryz.f34) (W:=[.r [] [],.r [] [.op false,.op false,.callr (rO oz0),.op false,.sel 1],.br false,.r [] [.callr (rO oz2)],.r [] [.br true,.br true,.callr (rO oz5),.br true,.v (Value.bool (sameN n)),.br true]]) Tryz.func34 (by kernel_rfl) (.c oz0<|.c hc0<|.c oz2<|.c oz3<|.c oz3<|.c oz5<|.c oz3<|.c (show BinTo Tryz.prog BinOp.eql 151 (Operand.tmp 21) (Operand.tmp 22) (Value.agg (((List.range 256).map fun qi=>Value.int IntKind.i8 (if qi<256 then oneT n qi else 0)).toArray)) (Value.agg (((List.range 256).map fun qi=>Value.int IntKind.i8 (if qi<256 then plF qi else 0)).toArray)) (Value.bool (sameN n)) by (exact tab_bin _ _ (by omega) (by omega)))<|.c oz3<|.n)
theorem fits_no {p c:Nod} (h:¬ (p.kd=8∧(c.kd=1∨c.kd=2)∧checkE p=0∧checkE c=0∧p.za=c.za∧0≤p.np∧0≤c.np∧p.np+c.np≤4∧p.np+c.np<c.nk)):false=fitsN p c:=by
 cases e:fitsN p c with
 | false=>rfl
 | true=>exact absurd (fits_iff.1 e) h
theorem wrapI64 {x:Int} (h:In64 x):IntKind.i64.wrap x=x:=i6n _ h
theorem fits_yes {p c:Nod} (h8:p.kd=8) (hk:c.kd=1∨c.kd=2) (c1:checkE p=0) (c2:checkE c=0) (hz:p.za=c.za):(decide (p.np≥0)&&decide (c.np≥0)&&decide (p.np≤4)&&decide (c.np≤IntKind.i64.wrap (4-p.np))&&decide (IntKind.i64.wrap (p.np+c.np)<c.nk))=fitsN p c:=by
 rw [Bool.eq_iff_iff,fits_iff]
 simp only [Bool.and_eq_true,decide_eq_true_eq]
 constructor
 ·rintro ⟨⟨⟨⟨a,b⟩,d⟩,e⟩,f⟩
  rw [wrapI64 (by unfold In64;omega)] at e
  rw [wrapI64 (by unfold In64;omega)] at f
  exact ⟨h8,hk,c1,c2,hz,by omega,by omega,by omega,by omega⟩
 ·rintro ⟨_,_,_,_,_,a,b,d,e⟩
  rw [wrapI64 (by unfold In64;omega),wrapI64 (by unfold In64;omega)]
  omega
theorem fits_v (p c:Nod) (okp:p.Ok) (okc:c.Ok) (wp:p.w.length≤100000) (bp:p.b.length≤100000) (wc:c.w.length≤100000) (bc:c.b.length≤100000):VC Tryz.prog 92 ([nod p,nod c]) (bv (fitsN p c)):=by
 have q1:=okp.kd
 have q2:=okc.kd
 have q3:=okp.np
 have q4:=okc.np
 rcases bft (p.kd != 8 || c.kd != 1&&c.kd != 2) with hc0 | hc0
 ·have gc0:¬p.kd=8∨¬c.kd=1∧¬c.kd=2:=by first | (simp only [Bool.or_eq_true,Bool.or_eq_false_iff,Bool.and_eq_true,Bool.and_eq_false_iff,Bool.not_eq_true',Bool.not_eq_false',decide_eq_true_eq,decide_eq_false_iff_not,beq_iff_eq,bne_iff_ne,ne_eq,beq_eq_false_iff_ne,bne_eq_false_iff_eq,eqNums,Bool.and_true] at hc0;first | exact hc0 | omega) | simpa using hc0 | (simp at hc0 ⊢;omega) | (apply cbc;intro hn;simp_all [eqNums];done) | (apply cbc;intro hn;simp [eqNums] at hc0 hn;omega)
  exact (VC.run (fn:=Tryz.f92) (W:=[.r [] [],.r [] [.op false,.op false,.op false,.op false,.op false,.op false,.op false,.op false,.sel 2,.sel 1],.br true,.r [] []]) (r:=bv false) Tryz.func92 (by kernel_rfl) (.c hc0<|.n)).weak (WeakL.refl _) (Weak.bool (show ((false):Bool)=(fitsN p c) from (by (exact fits_no (by simp_all;omega)))))
 ·have gc0:p.kd=8∧(c.kd=1∨c.kd=2):=by first | (simp only [Bool.or_eq_true,Bool.or_eq_false_iff,Bool.and_eq_true,Bool.and_eq_false_iff,Bool.not_eq_true',Bool.not_eq_false',decide_eq_true_eq,decide_eq_false_iff_not,beq_iff_eq,bne_iff_ne,ne_eq,beq_eq_false_iff_ne,bne_eq_false_iff_eq,eqNums,Bool.and_true] at hc0;first | exact hc0 | omega) | simpa using hc0 | (simp at hc0 ⊢;omega) | (apply cbc;intro hn;simp_all [eqNums];done) | (apply cbc;intro hn;simp [eqNums] at hc0 hn;omega)
  have oz1 := @check_v (p) wp bp q1
  have oz2 := @check_v (c) wc bc q2
  rcases bft (checkE p != 0 || checkE c != 0 || p.za != c.za) with hc1 | hc1
  ·have gc1:(¬checkE p=0∨¬checkE c=0)∨¬p.za=c.za:=by first | (simp only [Bool.or_eq_true,Bool.or_eq_false_iff,Bool.and_eq_true,Bool.and_eq_false_iff,Bool.not_eq_true',Bool.not_eq_false',decide_eq_true_eq,decide_eq_false_iff_not,beq_iff_eq,bne_iff_ne,ne_eq,beq_eq_false_iff_ne,bne_eq_false_iff_eq,eqNums,Bool.and_true] at hc1;first | exact hc1 | omega) | simpa using hc1 | (simp at hc1 ⊢;omega) | (apply cbc;intro hn;simp_all [eqNums];done) | (apply cbc;intro hn;simp [eqNums] at hc1 hn;omega)
   exact (VC.run (fn:=Tryz.f92) (W:=[.r [] [],.r [] [.op false,.op false,.op false,.op false,.op false,.op false,.op false,.op false,.sel 2,.sel 1],.br false,.r [] [.callr (rO oz1),.op false,.op false,.callr (rO oz2),.op false,.sel 1,.op false,.op false,.op false,.op false,.op false,.sel 1],.br true,.r [] []]) (r:=bv false) Tryz.func92 (by kernel_rfl) (.c hc0<|.c oz1<|.c oz2<|.c hc1<|.n)).weak (WeakL.refl _) (Weak.bool (show ((false):Bool)=(fitsN p c) from (by (exact fits_no (by simp_all;omega)))))
  ·have gc1:(checkE p=0∧checkE c=0)∧p.za=c.za:=by first | (simp only [Bool.or_eq_true,Bool.or_eq_false_iff,Bool.and_eq_true,Bool.and_eq_false_iff,Bool.not_eq_true',Bool.not_eq_false',decide_eq_true_eq,decide_eq_false_iff_not,beq_iff_eq,bne_iff_ne,ne_eq,beq_eq_false_iff_ne,bne_eq_false_iff_eq,eqNums,Bool.and_true] at hc1;first | exact hc1 | omega) | simpa using hc1 | (simp at hc1 ⊢;omega) | (apply cbc;intro hn;simp_all [eqNums];done) | (apply cbc;intro hn;simp [eqNums] at hc1 hn;omega)
   exact (VC.run (fn:=Tryz.f92) (W:=[.r [] [],.r [] [.op false,.op false,.op false,.op false,.op false,.op false,.op false,.op false,.sel 2,.sel 1],.br false,.r [] [.callr (rO oz1),.op false,.op false,.callr (rO oz2),.op false,.sel 1,.op false,.op false,.op false,.op false,.op false,.sel 1],.br false,.r [] [.op false,.op false,.op false,.sel 2,.op false,.op false,.op false,.sel 2,.op false,.op false,.op false,.op false,.op false,.w,.op false,.sel 2,.op false,.op false,.op false,.op false,.op false,.w,.op false,.op false,.op false,.sel 2]]) (r:=bv (decide (p.np≥0)&&decide (c.np≥0)&&decide (p.np≤4)&&decide (c.np≤IntKind.i64.wrap (4-p.np))&&decide (IntKind.i64.wrap (p.np+c.np)<c.nk))) Tryz.func92 (by kernel_rfl) (.c hc0<|.c oz1<|.c oz2<|.c hc1<|.n)).weak (WeakL.refl _) (Weak.bool (show ((decide (p.np≥0)&&decide (c.np≥0)&&decide (p.np≤4)&&decide (c.np≤IntKind.i64.wrap (4-p.np))&&decide (IntKind.i64.wrap (p.np+c.np)<c.nk)):Bool)=(fitsN p c) from (by (exact fits_yes (by omega) (by omega) (by omega) (by omega) (by omega)))))
theorem fcopied_v (n:Nod) (hw:n.w.length≤100000) (hb:n.b.length≤100000):VC Tryz.prog 39 ([nod n]) (nod n):=by
 have oz0 := @clone8_v (n.w) (by omega)
 have oz1 := @clone32_v (n.b) (by omega)
 exact VC.run (fn:=Tryz.f39) (W:=[.r [] [],.r [] [.callr (rO oz0),.callr (rO oz1)],.r [] []]) Tryz.func39 (by kernel_rfl) (.c oz0<|.c oz1<|.n)
theorem fpadded_v (p c:Nod) (okp:p.Ok) (okc:c.Ok) (wp:p.w.length≤100000) (bp:p.b.length≤100000) (wc:c.w.length≤100000) (bc:c.b.length≤100000) (h:fitsN p c=true):VC Tryz.prog 93 ([nod p,nod c]) (nod (tookN p c)):=by
 have q:=fits_iff.1 h
 obtain ⟨q1,q2,q3,q4,q5,q6,q7,q8,q9⟩:=q
 have oz0 := @fits_v (p) (c) okp okc wp bp wc bc
 have oz2 := @fcopied_v (c) wc bc
 exact VC.run (fn:=Tryz.f93) (W:=[.r [] [],.r [] [.callr (rO oz0)],.br false,.r [] [.callr (rO oz2)],.r [] [.n (p.np+c.np)],.r [] []]) Tryz.func93 (by kernel_rfl) (.c oz0<|.c (show (!fitsN p c)=false by (simp;omega))<|.c oz2<|.c (i6n (p.np+c.np) (by omega))<|.n)
def revS (L:List Int):Nat→List Int
 | 0=>L
 | k+1=>((revS L k).set k ((revS L k).getD (L.length-1-k) 0)).set (L.length-1-k) ((revS L k).getD k 0)
theorem revS_len (L:List Int):∀ k,(revS L k).length=L.length
 | 0=>rfl
 | k+1=>by rw [revS,List.length_set,List.length_set,revS_len L k]
theorem getD_set (L:List Int) (i j:Nat) (x:Int) (hi:i<L.length):(L.set i x).getD j 0=if i=j then x else L.getD j 0:=by
 rw [List.getD_eq_getElem?_getD,List.getElem?_set,List.getD_eq_getElem?_getD]
 by_cases e:i=j
 ·subst e;simp [hi]
 ·simp [e]
theorem revS_get (L:List Int):∀ k,k≤L.length / 2→∀ i,i<L.length→(revS L k).getD i 0=if i<k∨L.length-k≤i then L.getD (L.length-1-i) 0 else L.getD i 0
 | 0,_,i,hi=>by rw [revS,if_neg (by omega)]
 | k+1,hk,i,hi=>by
  have ih:=revS_get L k (by omega)
  rw [revS,getD_set _ _ _ _ (by rw [List.length_set,revS_len];omega),getD_set _ _ _ _ (by rw [revS_len];omega)]
  by_cases e1:L.length-1-k=i
  ·rw [if_pos e1,ih k (by omega),if_neg (by omega),if_pos (by omega)];congr 1;omega
  ·rw [if_neg e1]
   by_cases e2:k=i
   ·rw [if_pos e2,ih (L.length-1-k) (by omega),if_neg (by omega),if_pos (by omega)];congr 1;omega
   ·rw [if_neg e2,ih i hi]
    by_cases e3:i<k∨L.length-k≤i
    ·rw [if_pos e3,if_pos (by omega)]
    ·rw [if_neg e3,if_neg (by omega)]
theorem revS_all (L:List Int):revS L (L.length / 2)=L.reverse:=by
 apply List.ext_getElem?
 intro i
 by_cases hi:i<L.length
 ·have h1:=revS_get L (L.length / 2) (Nat.le_refl _) i hi
  have h2:(revS L (L.length / 2))[i]? = some ((revS L (L.length / 2)).getD i 0):=by
   rw [List.getD_eq_getElem?_getD,List.getElem?_eq_getElem (by rw [revS_len];exact hi)];rfl
  rw [h2,h1,List.getElem?_reverse hi]
  have h3:∀ j,j<L.length→L[j]? = some (L.getD j 0):=fun j hj=>by rw [List.getD_eq_getElem?_getD,List.getElem?_eq_getElem hj];rfl
  rw [h3 _ (by omega)]
  split
  ·rfl
  ·congr 2;omega
 ·rw [List.getElem?_eq_none (by rw [revS_len];omega),List.getElem?_eq_none (by rw [List.length_reverse];omega)]
noncomputable def reverse_l_I (L:List Int) (k:Nat):VS:=stt 28 [(0,.own 100000),(2,i64 k),(3,i64 ((L.length:Int)-1-k))] [(100000,.slc 3 1 ((revS L k).map (row1 .i64)))]
noncomputable def reverse_l_Z (L:List Int):VS:=reverse_l_I L (L.length / 2)
theorem reverse_l_s (L:List Int) (hl:L.length≤1000) (k:Nat) (hk:k<L.length / 2):VT Tryz.prog (fnC Tryz.f103 [1,0,0]) (reverse_l_I L k) .normal (reverse_l_I L (k+1)):=by
 have q0:(List.map (row1 .i64) L).length=L.length:=List.length_map _
 have q:=revS_len L k
 have q9:L.length=(L.length:Nat):=rfl
 have q2:(List.map (row1 .i64) (revS L k)).length=(revS L k).length:=List.length_map _
 have q3:((L.length:Int)-1-k).toNat=L.length-1-k:=by omega
 have oz1:=(show 0≤(↑L.length:Int)-1-(↑k:Int) by omega)
 have oz3:=(map_at (row1 IntKind.i64) (0) (l:=revS L k) (i:=((↑L.length:Int)-1-(↑k:Int)).toNat) (by omega))
 have oz4:=(show 0≤(↑k:Int) by omega)
 have oz5:=(show (↑k:Int)<(↑(List.map (row1 IntKind.i64) (revS L k)).length:Int) by omega)
 have oz6:=(map_at (row1 IntKind.i64) (0) (l:=revS L k) (i:=k) (by omega))
 have oz14:=(i6n ((↑L.length:Int)-1-(↑k:Int)-1) (by omega))
 have oz16:=(Weak.int (k:=.i64) (show (((↑L.length:Int)-1-(↑k:Int)-1):Int)=((↑L.length:Int)-1-(↑(k+1):Int)) from (by omega)))
 exact VT.run (W:=[.r [] [],.br true,.r [] [.row (sO oz3),.row (sO oz6),.nat 0,.nat 0],.r [] [.n ((↑k:Int)+1),.n (nO oz14)]]) (G:=[.any (rg [(7,21)]),.weak 2 (i64 (↑(k+1):Int)),.weak 3 (wO oz16),.blk 100000 (Blk.slc 3 1 (List.map (row1 IntKind.i64) (revS L (k+1)))),.sort]) (by kernel_rfl) (.c (decide_eq_true (p:=((↑k:Int)<(↑L.length:Int)-1-(↑k:Int))) (by omega))<|.c oz1<|.c (show (↑L.length:Int)-1-(↑k:Int)<(↑(List.map (row1 IntKind.i64) (revS L k)).length:Int) by omega)<|.c oz3<|.c oz4<|.c oz5<|.c oz6<|.c oz4<|.c oz5<|.c (show (↑k:Int).toNat<(List.map (row1 IntKind.i64) (revS L k)).length by omega)<|.c oz1<|.c (show (↑L.length:Int)-1-(↑k:Int)<(↑((List.map (row1 IntKind.i64) (revS L k)).set (↑k:Int).toNat [i64 ((revS L k).getD ((↑L.length:Int)-1-(↑k:Int)).toNat 0)]).length:Int) by (simp;omega))<|.c (show ((↑L.length:Int)-1-(↑k:Int)).toNat<((List.map (row1 IntKind.i64) (revS L k)).set (↑k:Int).toNat [i64 ((revS L k).getD ((↑L.length:Int)-1-(↑k:Int)).toNat 0)]).length by (simp;omega))<|.c (i6n ((↑k:Int)+1) (by omega))<|.c oz14<|.c (Weak.int (k:=.i64) (show (((↑k:Int)+1):Int)=((↑(k+1):Int)) from (by omega)))<|.c oz16<|.c (show BlkW (Blk.slc 3 1 (((List.map (row1 IntKind.i64) (revS L k)).set (↑k:Int).toNat [i64 ((revS L k).getD ((↑L.length:Int)-1-(↑k:Int)).toNat 0)]).set ((↑L.length:Int)-1-(↑k:Int)).toNat [i64 ((revS L k).getD k 0)])) (Blk.slc 3 1 (List.map (row1 IntKind.i64) (revS L (k+1)))) from (BlkW.rows (rows_to (row1 IntKind.i64) (r:=((List.map (row1 IntKind.i64) (revS L k)).set (↑k:Int).toNat [i64 ((revS L k).getD ((↑L.length:Int)-1-(↑k:Int)).toNat 0)]).set ((↑L.length:Int)-1-(↑k:Int)).toNat [i64 ((revS L k).getD k 0)]) (l:=((revS L k).set (↑k:Int).toNat ((revS L k).getD ((↑L.length:Int)-1-(↑k:Int)).toNat 0)).set ((↑L.length:Int)-1-(↑k:Int)).toNat ((revS L k).getD k 0)) (m:=revS L (k+1)) (by first | (simp only [List.map_append,List.map_cons,List.map_nil,List.map_set,List.map_replicate,List.map_take,List.map_drop];done) | rfl | (simp only [List.map_append,List.map_cons,List.map_nil,List.map_set,List.map_replicate,List.map_take,List.map_drop];rfl)) (show (((revS L k).set (↑k:Int).toNat ((revS L k).getD ((↑L.length:Int)-1-(↑k:Int)).toNat 0)).set ((↑L.length:Int)-1-(↑k:Int)).toNat ((revS L k).getD k 0))=(revS L (k+1)) from (by (rw [revS,q3,Int.toNat_natCast]))))))<|.n)
theorem reverse_l_e (L:List Int) (hl:L.length≤1000):VT Tryz.prog (fnC Tryz.f103 [1,0,0]) (reverse_l_I L (L.length / 2)) (.exit 0) (reverse_l_Z L):=by
 have q:=revS_len L (L.length / 2)
 have q2:(List.map (row1 .i64) (revS L (L.length / 2))).length=(revS L (L.length / 2)).length:=List.length_map _
 exact VT.run (W:=[.r [] [],.br false]) (G:=[.any [7,8,9],.sort]) (by kernel_rfl) (.c (decide_eq_false (p:=((↑(L.length / 2):Int)<(↑L.length:Int)-1-(↑(L.length / 2):Int))) (by omega))<|.n)
theorem reverse_l (L:List Int) (hl:L.length≤1000):VT Tryz.prog (fnC Tryz.f103 [1,0]) (reverse_l_I L 0) (.exit 0) (reverse_l_Z L) :=
 VT.loop (fun k=>reverse_l_I L k) (L.length / 2) (fun k hk=>reverse_l_s L hl k hk) (reverse_l_e L hl) (by intro h;cases h)
theorem reverse_v (L:List Int) (hl:L.length≤1000):VM Tryz.prog 103 ([.own 100000]) ([(100000,.slc 3 1 (L.map (row1 .i64)))]) (.tup []) ([(100000,.slc 3 1 (L.reverse.map (row1 .i64)))]):=by
 have q0:(List.map (row1 .i64) L).length=L.length:=List.length_map _
 have oz0:=(i6n ((↑(List.map (row1 IntKind.i64) L).length:Int)-1) (by omega))
 have oz2:=(Weak.int (k:=.i64) (show (((↑(List.map (row1 IntKind.i64) L).length:Int)-1):Int)=((↑L.length:Int)-1-(↑0:Int)) from (by omega)))
 have oz4 := @reverse_l (L) hl
 exact VM.run (fn:=Tryz.f103) (W:=[.r [] [.n (nO oz0)],.code [.any [4,5,6],.weak 2 (i64 (↑0:Int)),.weak 3 (wO oz2),.blk 100000 (Blk.slc 3 1 (List.map (row1 IntKind.i64) (revS L 0))),.sort] (Exit.exit 0) (zO oz4)]) (G:=[.blk 100000 (Blk.slc 3 1 (List.map (row1 IntKind.i64) L.reverse)),.sort]) Tryz.func103 (by kernel_rfl) (.c oz0<|.c (Weak.int (k:=.i64) (show ((0):Int)=((↑0:Int)) from (by omega)))<|.c oz2<|.c (show BlkW (Blk.slc 3 1 (List.map (row1 IntKind.i64) L)) (Blk.slc 3 1 (List.map (row1 IntKind.i64) (revS L 0))) from (BlkW.rows (rows_to (row1 IntKind.i64) (r:=List.map (row1 IntKind.i64) L) (l:=L) (m:=revS L 0) rfl (show (L)=(revS L 0) from (by rfl)))))<|.c oz4<|.c (show BlkW (Blk.slc 3 1 (List.map (row1 IntKind.i64) (revS L (L.length / 2)))) (Blk.slc 3 1 (List.map (row1 IntKind.i64) L.reverse)) from (BlkW.rows (rows_to (row1 IntKind.i64) (r:=List.map (row1 IntKind.i64) (revS L (L.length / 2))) (l:=revS L (L.length / 2)) (m:=L.reverse) rfl (show (revS L (L.length / 2))=(L.reverse) from (by (rw [←revS_all]))))))<|.n)
abbrev rowB (b:Bool):List AV:=[bv b]
def setW (w:List Bool) (L:List Int):Nat→List Bool
 | 0=>w
 | k+1=>(setW w L k).set (L.getD k 0).toNat true
theorem setW_len (w:List Bool) (L:List Int):∀ k,(setW w L k).length=w.length
 | 0=>rfl
 | k+1=>by rw [setW,List.length_set,setW_len w L k]
theorem getD_setB (L:List Bool) (i j:Nat) (x:Bool) (hi:i<L.length):(L.set i x).getD j false=if i=j then x else L.getD j false:=by
 rw [List.getD_eq_getElem?_getD,List.getElem?_set,List.getD_eq_getElem?_getD]
 by_cases e:i=j
 ·subst e;simp [hi]
 ·simp [e]
def wL (l:List Nod) (k:Nat):List Bool:=(List.range (l.length+1)).map fun v:Nat=>wt l k (v:Int)
theorem wL_len (l:List Nod) (k:Nat):(wL l k).length=l.length+1:=by unfold wL;rw [List.length_map,List.length_range]
theorem wL_at (l:List Nod) (k:Nat) {v:Nat} (hv:v<l.length+1):(wL l k).getD v false=wt l k (v:Int):=by
 unfold wL;rw [List.getD_eq_getElem?_getD,List.getElem?_map,List.getElem?_range hv];rfl
theorem bools_ext {a b:List Bool} (h:a.length=b.length) (g:∀ v,v<b.length→a.getD v false=b.getD v false):a=b:=by
 apply List.ext_getElem?
 intro i
 by_cases hi:i<b.length
 ·have:=g i hi
  rw [List.getD_eq_getElem?_getD,List.getD_eq_getElem?_getD,List.getElem?_eq_getElem hi,List.getElem?_eq_getElem (by omega)] at this
  rw [List.getElem?_eq_getElem hi,List.getElem?_eq_getElem (by omega)];simpa using this
 ·rw [List.getElem?_eq_none (by omega),List.getElem?_eq_none (by omega)]
theorem wL_no {l:List Nod} {k:Nat} (h:wt l k ((l.length:Int)-k)=false):wL l (k+1)=wL l k:=by
 unfold wL;congr 1;funext v;rw [wt,h];simp
theorem setW_at {w:List Bool} {L:List Int} {k:Nat} (hk:k≤L.length) (h:∀ j,j<L.length→0≤L.getD j 0∧(L.getD j 0).toNat<w.length) (v:Nat):(setW w L k).getD v false=(w.getD v false || (List.range k).any fun j=>decide (L.getD j 0=(v:Int))):=by
 induction k with
 | zero=>simp [setW]
 | succ k ih =>
  rw [setW,getD_setB _ _ _ _ (by rw [setW_len];exact (h k (by omega)).2),ih (by omega),List.range_succ,List.any_append]
  simp only [List.any_cons,List.any_nil,Bool.or_false]
  have:=h k (by omega)
  by_cases e:(L.getD k 0).toNat=v
  ·have e2:L.getD k 0=(v:Int):=by omega
   rw [if_pos e,e2];simp
  ·have e2:¬ L.getD k 0=(v:Int):=by omega
   rw [if_neg e];simp only [decide_eq_false e2,Bool.or_false]
theorem takes_any (n:Nod) (v:Int):((List.range (takesL n).length).any fun j=>decide ((takesL n).getD j 0=v))=takesB n v:=by
 unfold takesL takesB
 by_cases h:n.kd=6
 ·rw [if_pos h];simp [h,List.range_succ]
 ·rw [if_neg h];simp [h,List.range_succ]
theorem wL_yes {l:List Nod} {k:Nat} (hk:k<l.length) (ho:orderedB l=true) (h:wt l k ((l.length:Int)-k)=true):setW (wL l k) (takesL (l.getD (l.length-1-k) default)) (takesL (l.getD (l.length-1-k) default)).length=wL l (k+1):=by
 have ht:=(takes_in _ _).2 ((ordered_iff l).1 ho (l.length-1-k) (by omega))
 refine bools_ext (by rw [setW_len,wL_len,wL_len]) fun v hv=>?_
 rw [wL_len] at hv
 rw [setW_at (Nat.le_refl _) (fun j hj=>by have:=ht j hj;rw [wL_len];omega),takes_any,wL_at l k hv,wL_at l (k+1) hv,wt,h];simp
theorem wL_0 (l:List Nod):((List.replicate (l.length+1) false).set l.length true)=wL l 0:=by
 refine bools_ext (by rw [List.length_set,List.length_replicate,wL_len]) fun v hv=>?_
 rw [wL_len] at hv
 rw [getD_setB _ _ _ _ (by simp),wL_at l 0 hv,wt]
 by_cases e:l.length=v
 ·subst e;simp
 ·rw [if_neg e,List.getD_eq_getElem?_getD,List.getElem?_replicate,if_pos hv]
  simp;omega
def revK (l:List Nod):Nat→List Int
 | 0=>[]
 | k+1=>if usedB l (l.length-1-k)=true then revK l k++[((l.length-1-k:Nat):Int)] else revK l k
theorem revK_len (l:List Nod):∀ k,(revK l k).length≤k
 | 0=>Nat.le_refl _
 | k+1=>by have:=revK_len l k;rw [revK];split<;>simp<;>omega
theorem revK_eq (l:List Nod):∀ k,k≤l.length→(revK l k).reverse=usI (((List.range l.length).drop (l.length-k)).filter (usedB l))
 | 0,_=>by rw [Nat.sub_zero,List.drop_of_length_le (by simp)];rfl
 | k+1,hk=>by
  have hd:(List.range l.length).drop (l.length-(k+1))=(l.length-1-k)::(List.range l.length).drop (l.length-k):=by
   rw [List.drop_eq_getElem_cons (by simp;omega),List.getElem_range,show l.length-(k+1)+1=l.length-k by omega,show l.length-(k+1)=l.length-1-k by omega]
  rw [hd,revK,List.filter_cons]
  split
  ·rw [List.reverse_append,revK_eq l k (by omega)];rfl
  ·exact revK_eq l k (by omega)
theorem revK_all (l:List Nod):(revK l l.length).reverse=usI (usedL l):=by
 rw [revK_eq l l.length (Nat.le_refl _)];simp [usedL]
theorem revK_yes {l:List Nod} {k:Nat} (h:usedB l (l.length-1-k)=true):revK l (k+1)=revK l k++[((l.length-1-k:Nat):Int)]:=by rw [revK,if_pos h]
theorem revK_no {l:List Nod} {k:Nat} (h:usedB l (l.length-1-k)=false):revK l (k+1)=revK l k:=by rw [revK,if_neg (by simp [h])]
theorem wt_used {l:List Nod} {k:Nat} (hk:k<l.length):wt l k ((l.length:Int)-k)=usedB l (l.length-1-k):=by
 unfold usedB
 rw [show l.length-1-(l.length-1-k)=k by omega,show (((l.length-1-k:Nat):Int))+1=(l.length:Int)-k by omega]
noncomputable def pused_i_I (l:List Nod) (u:Int) (O L:List Int) (w:List Bool) (k:Nat):VS:=stt 58 [(0,.sl 19 (l.map nodC)),(3,.own 901),(4,.own 900),(5,i64 u),(45,ints .i64 L),(46,i64 L.length),(47,i64 k)] [(900,.slc 3 1 (O.map (row1 .i64))),(901,.slc 4 1 ((setW w L k).map rowB))]
noncomputable def pused_i_Z (l:List Nod) (u:Int) (O L:List Int) (w:List Bool):VS:=pused_i_I l u O L w (L.length)
theorem pused_i_s (l:List Nod) (u:Int) (O L:List Int) (w:List Bool) (hl:L.length≤2) (ho:O.length≤1000) (hw:∀ k,k<L.length→0≤L.getD k 0∧L.getD k 0<w.length) (k:Nat) (hk:k<L.length):VT Tryz.prog (fnC Tryz.f47 [1,0,1,1,1,1,1,0,1,0,0,1,0,0,1,1,1,0,0]) (pused_i_I l u O L w k) .normal (pused_i_I l u O L w (k+1)):=by
 have q:=hw k hk
 have q1:=setW_len w L k
 have q2:(List.map rowB (setW w L k)).length=(setW w L k).length:=List.length_map _
 exact VT.run (W:=[.r [] [],.br true,.r [] [.row [i64 (L.getD k 0)]],.r [] [.nat 0],.r [] [.n ((↑k:Int)+1)]]) (G:=[.any (rg [(7,1),(48,7)]),.weak 47 (i64 (↑(k+1):Int)),.blk 901 (Blk.slc 4 1 (List.map rowB (setW w L (k+1)))),.sort]) (by kernel_rfl) (.c (decide_eq_true (p:=((↑k:Int)<(↑L.length:Int))) (by omega))<|.c (show 0≤(↑k:Int) by omega)<|.c (map_at (row1 IntKind.i64) (0) (l:=L) (i:=k) hk)<|.c (show 0≤L.getD k 0 by omega)<|.c (show L.getD k 0<(↑(List.map rowB (setW w L k)).length:Int) by omega)<|.c (show (L.getD k 0).toNat<(List.map rowB (setW w L k)).length by omega)<|.c (i6n ((↑k:Int)+1) (by omega))<|.c (Weak.int (k:=.i64) (show (((↑k:Int)+1):Int)=((↑(k+1):Int)) from (by omega)))<|.c (show BlkW (Blk.slc 4 1 ((List.map rowB (setW w L k)).set (L.getD k 0).toNat [bv true])) (Blk.slc 4 1 (List.map rowB (setW w L (k+1)))) from (BlkW.rows (rows_to (rowB) (r:=(List.map rowB (setW w L k)).set (L.getD k 0).toNat [bv true]) (l:=(setW w L k).set (L.getD k 0).toNat true) (m:=setW w L (k+1)) (by first | (simp only [List.map_append,List.map_cons,List.map_nil,List.map_set,List.map_replicate,List.map_take,List.map_drop];done) | rfl | (simp only [List.map_append,List.map_cons,List.map_nil,List.map_set,List.map_replicate,List.map_take,List.map_drop];rfl) | (simp only [List.map_append,List.map_cons,List.map_nil,List.map_set,List.map_replicate,List.map_take,List.map_drop,rowB,ints];done)) (show ((setW w L k).set (L.getD k 0).toNat true)=(setW w L (k+1)) from (by rfl)))))<|.n)
theorem pused_i_e (l:List Nod) (u:Int) (O L:List Int) (w:List Bool) (hl:L.length≤2) (ho:O.length≤1000) (hw:∀ k,k<L.length→0≤L.getD k 0∧L.getD k 0<w.length):VT Tryz.prog (fnC Tryz.f47 [1,0,1,1,1,1,1,0,1,0,0,1,0,0,1,1,1,0,0]) (pused_i_I l u O L w (L.length)) (.exit 2) (pused_i_Z l u O L w):=by
 exact VT.run (W:=[.r [] [],.br false]) (G:=[.any [48],.sort]) (by kernel_rfl) (.c (decide_eq_false (p:=((↑L.length:Int)<(↑L.length:Int))) (by omega))<|.n)
theorem pused_i (l:List Nod) (u:Int) (O L:List Int) (w:List Bool) (hl:L.length≤2) (ho:O.length≤1000) (hw:∀ k,k<L.length→0≤L.getD k 0∧L.getD k 0<w.length):VT Tryz.prog (fnC Tryz.f47 [1,0,1,1,1,1,1,0,1,0,0,1,0,0,1,1,1,0]) (pused_i_I l u O L w 0) (.exit 2) (pused_i_Z l u O L w) :=
 VT.loop (fun k=>pused_i_I l u O L w k) (L.length) (fun k hk=>pused_i_s l u O L w hl ho hw k hk) (pused_i_e l u O L w hl ho hw) (by intro h;cases h)
noncomputable def pused_o_I (l:List Nod) (k:Nat):VS:=stt 58 [(0,.sl 19 (l.map nodC)),(3,.own 901),(4,.own 900),(5,i64 ((l.length:Int)-1-k))] [(900,.slc 3 1 ((revK l k).map (row1 .i64))),(901,.slc 4 1 ((wL l k).map rowB))]
noncomputable def pused_o_Z (l:List Nod):VS:=pused_o_I l (l.length)
theorem pused_o_s (l:List Nod) (hl:l.length≤1000) (ho:orderedB l=true) (k:Nat) (hk:k<l.length):VT Tryz.prog (fnC Tryz.f47 [1,0,1,1,1,1,1,0,1,0,0]) (pused_o_I l k) .normal (pused_o_I l (k+1)):=by
 have q:=revK_len l k
 have q1:=wL_len l k
 have q2:(List.map (row1 .i64) (revK l k)).length=(revK l k).length:=List.length_map _
 have q3:(List.map rowB (wL l k)).length=(wL l k).length:=List.length_map _
 have q4:=wt_used hk
 have q5 := @revK_yes l k
 have q6 := @revK_no l k
 have q7 := @wL_yes l k hk ho
 have q8 := @wL_no l k
 have q9:=takes_len (l.getD (l.length-1-k) default)
 have qa:=(takes_in _ _).2 ((ordered_iff l).1 ho (l.length-1-k) (by omega))
 have qb:((l.length:Int)-1-k).toNat=l.length-1-k:=by omega
 have qc:((l.length:Int)-1-k+1).toNat=l.length-k:=by omega
 have qd:=wL_at l k (v:=l.length-k) (by omega)
 have qe:(((l.length-k:Nat):Int))=(l.length:Int)-k:=by omega
 have qf:(!(wL l k).getD ((l.length:Int)-1-k+1).toNat default) = !usedB l (l.length-1-k):=by
  rw [qc];show (!(wL l k).getD (l.length-k) false)=_;rw [qd,qe,q4]
 have qg:(!(wL l k).getD ((l.length:Int)-1-k+1).toNat default)=false→usedB l (l.length-1-k)=true:=fun h=>by rw [qf] at h;simpa using h
 have qn:(!(wL l k).getD ((l.length:Int)-1-k+1).toNat default)=true→usedB l (l.length-1-k)=false:=fun h=>by rw [qf] at h;simpa using h
 have qh:((l.length-1-k:Nat):Int)=(l.length:Int)-1-k:=by omega
 have oz0:=(decide_eq_true (p:=((↑l.length:Int)-1-(↑k:Int)≥0)) (by omega))
 have oz1:=(i6n ((↑l.length:Int)-1-(↑k:Int)+1) (by omega))
 have oz2:=(show 0≤(↑l.length:Int)-1-(↑k:Int)+1 by omega)
 have oz3:=(show (↑l.length:Int)-1-(↑k:Int)+1<(↑(List.map rowB (wL l k)).length:Int) by omega)
 have oz4:=(map_at (rowB) (default) (l:=wL l k) (i:=((↑l.length:Int)-1-(↑k:Int)+1).toNat) (by omega))
 rcases bft (!(wL l k).getD ((↑l.length:Int)-1-(↑k:Int)+1).toNat default) with hc0 | hc0
 ·have gc0:(wL l k).getD ((↑l.length:Int)-1-(↑k:Int)+1).toNat default=false:=by first | exact hc0 | exact of_decide_eq_true hc0 | exact of_decide_eq_false hc0 | simpa [eqNums] using hc0 | (simp [eqNums] at hc0 ⊢;first | done | assumption | omega)
  have oz6:=(i6n ((↑l.length:Int)-1-(↑k:Int)-1) (by omega))
  have oz7:=(Weak.int (k:=.i64) (show (((↑l.length:Int)-1-(↑k:Int)-1):Int)=((↑l.length:Int)-1-(↑(k+1):Int)) from (by omega)))
  exact VT.run (W:=[.r [] [],.br true,.r [] [.n (nO oz1),.row (sO oz4)],.br true,.r [] [.n (nO oz6)]]) (G:=[.any (rg [(27,10)]),.weak 5 (wO oz7),.blk 900 (Blk.slc 3 1 (List.map (row1 IntKind.i64) (revK l (k+1)))),.blk 901 (Blk.slc 4 1 (List.map rowB (wL l (k+1)))),.sort]) (by kernel_rfl) (.c oz0<|.c oz1<|.c oz2<|.c oz3<|.c oz4<|.c hc0<|.c oz6<|.c oz7<|.c (show BlkW (Blk.slc 3 1 (List.map (row1 IntKind.i64) (revK l k))) (Blk.slc 3 1 (List.map (row1 IntKind.i64) (revK l (k+1)))) from (BlkW.rows (rows_to (row1 IntKind.i64) (r:=List.map (row1 IntKind.i64) (revK l k)) (l:=revK l k) (m:=revK l (k+1)) rfl (show (revK l k)=(revK l (k+1)) from (by (rw [q6 (qn (by assumption))]))))))<|.c (show BlkW (Blk.slc 4 1 (List.map rowB (wL l k))) (Blk.slc 4 1 (List.map rowB (wL l (k+1)))) from (BlkW.rows (rows_to (rowB) (r:=List.map rowB (wL l k)) (l:=wL l k) (m:=wL l (k+1)) rfl (show (wL l k)=(wL l (k+1)) from (by (rw [q8 (by rw [q4];exact qn (by assumption))]))))))<|.n)
 ·have gc0:(wL l k).getD ((↑l.length:Int)-1-(↑k:Int)+1).toNat default=true:=by first | exact hc0 | exact of_decide_eq_true hc0 | exact of_decide_eq_false hc0 | simpa [eqNums] using hc0 | (simp [eqNums] at hc0 ⊢;first | done | assumption | omega)
  have oz9:=(map_at (nodC) (default) (l:=l) (i:=((↑l.length:Int)-1-(↑k:Int)).toNat) (by omega))
  have oz10 := @pvalues_v (l.getD ((↑l.length:Int)-1-(↑k:Int)).toNat default)
  have oz11:=(Weak.int (k:=.i64) (show (((↑(List.map (row1 IntKind.i64) (takesL (l.getD ((↑l.length:Int)-1-(↑k:Int)).toNat default))).length:Int)):Int)=((↑(takesL (l.getD ((↑l.length:Int)-1-(↑k:Int)).toNat default)).length:Int)) from (by (simp;done))))
  have oz15 := @pused_i (l) ((↑l.length:Int)-1-(↑k:Int)) (revK l k++[(↑l.length:Int)-1-(↑k:Int)]) (takesL (l.getD ((↑l.length:Int)-1-(↑k:Int)).toNat default)) (List.map (fun (v:Nat)=>wt l k (↑v:Int)) (List.range (l.length+1))) (by (simp at *;omega)) (by (simp;omega)) (by (rw [qb];intro j hj;have:=qa j hj;simp only [List.length_map,List.length_range];omega))
  have oz16:=(i6n ((↑l.length:Int)-1-(↑k:Int)-1) (by omega))
  have oz17:=(Weak.int (k:=.i64) (show (((↑l.length:Int)-1-(↑k:Int)-1):Int)=((↑l.length:Int)-1-(↑(k+1):Int)) from (by omega)))
  exact VT.run (W:=[.r [] [],.br true,.r [] [.n (nO oz1),.row (sO oz4)],.br false,.r [] [],.r [] [.row (sO oz9),.callr (rO oz10)],.code [.any (rg [(27,2),(31,14)]),.drop [39],.ren 40 900,.weak 46 (wO oz11),.weak 47 (i64 (↑0:Int)),.blk 900 (Blk.slc 3 1 (List.map (row1 IntKind.i64) (revK l k++[(↑l.length:Int)-1-(↑k:Int)]))),.blk 901 (Blk.slc 4 1 (List.map rowB (setW (List.map (fun (v:Nat)=>wt l k (↑v:Int)) (List.range (l.length+1))) (takesL (l.getD ((↑l.length:Int)-1-(↑k:Int)).toNat default)) 0))),.sort] (Exit.exit 2) (zO oz15),.r [] [.n (nO oz16)]]) (G:=[.any [29,30,45,46,47],.weak 5 (wO oz17),.blk 900 (Blk.slc 3 1 (List.map (row1 IntKind.i64) (revK l (k+1)))),.blk 901 (Blk.slc 4 1 (List.map rowB (wL l (k+1)))),.sort]) (by kernel_rfl) (.c oz0<|.c oz1<|.c oz2<|.c oz3<|.c oz4<|.c hc0<|.c (show ((List.map (row1 IntKind.i64) (revK l k)).length+1)*8≤140737488355328 by omega)<|.c (show (List.map (row1 IntKind.i64) (revK l k)).length+1≤9223372036854775807 by omega)<|.c (show 0≤(↑l.length:Int)-1-(↑k:Int) by omega)<|.c oz9<|.c oz10<|.c oz11<|.c (Weak.int (k:=.i64) (show ((0):Int)=((↑0:Int)) from (by omega)))<|.c (show BlkW (Blk.slc 3 1 (List.map (row1 IntKind.i64) (revK l k)++[[i64 ((↑l.length:Int)-1-(↑k:Int))]])) (Blk.slc 3 1 (List.map (row1 IntKind.i64) (revK l k++[(↑l.length:Int)-1-(↑k:Int)]))) from (BlkW.rows (rows_to (row1 IntKind.i64) (r:=List.map (row1 IntKind.i64) (revK l k)++[[i64 ((↑l.length:Int)-1-(↑k:Int))]]) (l:=revK l k++[(↑l.length:Int)-1-(↑k:Int)]) (m:=revK l k++[(↑l.length:Int)-1-(↑k:Int)]) (by first | (simp only [List.map_append,List.map_cons,List.map_nil,List.map_set,List.map_replicate,List.map_take,List.map_drop];done) | rfl | (simp only [List.map_append,List.map_cons,List.map_nil,List.map_set,List.map_replicate,List.map_take,List.map_drop];rfl)) rfl)))<|.c (show BlkW (Blk.slc 4 1 (List.map rowB (wL l k))) (Blk.slc 4 1 (List.map rowB (setW (List.map (fun (v:Nat)=>wt l k (↑v:Int)) (List.range (l.length+1))) (takesL (l.getD ((↑l.length:Int)-1-(↑k:Int)).toNat default)) 0))) from (BlkW.rows (rows_to (rowB) (r:=List.map rowB (wL l k)) (l:=wL l k) (m:=setW (List.map (fun (v:Nat)=>wt l k (↑v:Int)) (List.range (l.length+1))) (takesL (l.getD ((↑l.length:Int)-1-(↑k:Int)).toNat default)) 0) rfl (show (wL l k)=(setW (List.map (fun (v:Nat)=>wt l k (↑v:Int)) (List.range (l.length+1))) (takesL (l.getD ((↑l.length:Int)-1-(↑k:Int)).toNat default)) 0) from (by rfl)))))<|.c oz15<|.c oz16<|.c oz17<|.c (show BlkW (Blk.slc 3 1 (List.map (row1 IntKind.i64) (revK l k++[(↑l.length:Int)-1-(↑k:Int)]))) (Blk.slc 3 1 (List.map (row1 IntKind.i64) (revK l (k+1)))) from (BlkW.rows (rows_to (row1 IntKind.i64) (r:=List.map (row1 IntKind.i64) (revK l k++[(↑l.length:Int)-1-(↑k:Int)])) (l:=revK l k++[(↑l.length:Int)-1-(↑k:Int)]) (m:=revK l (k+1)) rfl (show (revK l k++[(↑l.length:Int)-1-(↑k:Int)])=(revK l (k+1)) from (by (rw [q5 (qg (by assumption)),qh]))))))<|.c (show BlkW (Blk.slc 4 1 (List.map rowB (setW (List.map (fun (v:Nat)=>wt l k (↑v:Int)) (List.range (l.length+1))) (takesL (l.getD ((↑l.length:Int)-1-(↑k:Int)).toNat default)) (takesL (l.getD ((↑l.length:Int)-1-(↑k:Int)).toNat default)).length))) (Blk.slc 4 1 (List.map rowB (wL l (k+1)))) from (BlkW.rows (rows_to (rowB) (r:=List.map rowB (setW (List.map (fun (v:Nat)=>wt l k (↑v:Int)) (List.range (l.length+1))) (takesL (l.getD ((↑l.length:Int)-1-(↑k:Int)).toNat default)) (takesL (l.getD ((↑l.length:Int)-1-(↑k:Int)).toNat default)).length)) (l:=setW (List.map (fun (v:Nat)=>wt l k (↑v:Int)) (List.range (l.length+1))) (takesL (l.getD ((↑l.length:Int)-1-(↑k:Int)).toNat default)) (takesL (l.getD ((↑l.length:Int)-1-(↑k:Int)).toNat default)).length) (m:=wL l (k+1)) rfl (show (setW (List.map (fun (v:Nat)=>wt l k (↑v:Int)) (List.range (l.length+1))) (takesL (l.getD ((↑l.length:Int)-1-(↑k:Int)).toNat default)) (takesL (l.getD ((↑l.length:Int)-1-(↑k:Int)).toNat default)).length)=(wL l (k+1)) from (by (rw [qb];exact q7 (by rw [q4];exact qg (by assumption))))))))<|.n)
theorem pused_o_e (l:List Nod) (hl:l.length≤1000) (ho:orderedB l=true):VT Tryz.prog (fnC Tryz.f47 [1,0,1,1,1,1,1,0,1,0,0]) (pused_o_I l (l.length)) (.exit 0) (pused_o_Z l):=by
 exact VT.run (W:=[.r [] [],.br false]) (G:=[.any [27,28],.sort]) (by kernel_rfl) (.c (decide_eq_false (p:=((↑l.length:Int)-1-(↑l.length:Int)≥0)) (by omega))<|.n)
theorem pused_o (l:List Nod) (hl:l.length≤1000) (ho:orderedB l=true):VT Tryz.prog (fnC Tryz.f47 [1,0,1,1,1,1,1,0,1,0]) (pused_o_I l 0) (.exit 0) (pused_o_Z l) :=
 VT.loop (fun k=>pused_o_I l k) (l.length) (fun k hk=>pused_o_s l hl ho k hk) (pused_o_e l hl ho) (by intro h;cases h)
theorem pused_y (l:List Nod) (hl:l.length≤1000) (h0:l.length≠0) (ho:orderedB l=true):VC Tryz.prog 47 ([.sl 19 (l.map nodC)]) (ints .i64 (usI (usedL l))):=by
 have q0:(List.map nodC l).length=l.length:=List.length_map _
 have q1:=revK_len l l.length
 have q2:=wL_len l 0
 have oz0:=(show ((↑(List.map nodC l).length:Int)==0)=false by (refine decide_eq_false ?_;omega))
 have oz2 := @pord_v (l) hl
 have oz6:=(i6n ((↑(List.map nodC l).length:Int)+1) (by omega))
 have oz7:=(show (↑(List.map nodC l).length:Int)+1=(↑(wL l 0).length:Int) by omega)
 have oz15:=(i6n ((↑(List.map nodC l).length:Int)-1) (by omega))
 have oz16:=(Weak.int (k:=.i64) (show (((↑(List.map nodC l).length:Int)-1):Int)=((↑l.length:Int)-1-(↑0:Int)) from (by omega)))
 have oz18 := @pused_o (l) hl ho
 have oz19 := @reverse_v (revK l l.length) (by omega)
 exact (VC.run (fn:=Tryz.f47) (W:=[.r [] [],.sc,.r [] [.br true,.br true,.callr (rO oz2),.br true,.br false],.br false,.r [] [.n (nO oz6),.nats (wL l 0).length (wL l 0).length],.r [] [.nat 0],.r [] [],.r [] [.n (nO oz15)],.code [.any (rg [(2,1),(8,19)]),.ren 19 901,.weak 5 (wO oz16),.nils 4 900 3 1,.blk 901 (Blk.slc 4 1 (List.map rowB (wL l 0))),.sort] (Exit.exit 0) (zO oz18),.r [] [.callm [(900,100000)] [] (rM oz19) (oM oz19)],.r [] []]) (r:=AV.sl 1 (List.map (row1 IntKind.i64) (revK l l.length).reverse)) Tryz.func47 (by kernel_rfl) (.c oz0<|.c oz0<|.c oz2<|.c oz0<|.c oz0<|.c (show (!orderedB l)=false by (simp;omega))<|.c oz6<|.c oz7<|.c oz7<|.c (show (wL l 0).length≤(wL l 0).length by omega)<|.c (show 1*(wL l 0).length≤281474976710656 by omega)<|.c (show (wL l 0).length≤9223372036854775807 by omega)<|.c (show 0≤(↑(List.map nodC l).length:Int) by omega)<|.c (show (↑(List.map nodC l).length:Int)<(↑(List.replicate (wL l 0).length [bv false]).length:Int) by (simp;omega))<|.c (show (↑(List.map nodC l).length:Int).toNat<(List.replicate (wL l 0).length [bv false]).length by (simp;omega))<|.c oz15<|.c oz16<|.c (show BlkW (Blk.slc 4 1 ((List.replicate (wL l 0).length [bv false]).set (↑(List.map nodC l).length:Int).toNat [bv true])) (Blk.slc 4 1 (List.map rowB (wL l 0))) from (BlkW.rows (rows_to (rowB) (r:=(List.replicate (wL l 0).length [bv false]).set (↑(List.map nodC l).length:Int).toNat [bv true]) (l:=(List.replicate (wL l 0).length false).set (↑(List.map nodC l).length:Int).toNat true) (m:=wL l 0) (by first | (simp only [List.map_append,List.map_cons,List.map_nil,List.map_set,List.map_replicate,List.map_take,List.map_drop];done) | rfl | (simp only [List.map_append,List.map_cons,List.map_nil,List.map_set,List.map_replicate,List.map_take,List.map_drop];rfl) | (simp only [List.map_append,List.map_cons,List.map_nil,List.map_set,List.map_replicate,List.map_take,List.map_drop,rowB,ints];done)) (show ((List.replicate (wL l 0).length false).set (↑(List.map nodC l).length:Int).toNat true)=(wL l 0) from (by (rw [wL_len,List.length_map,Int.toNat_natCast,wL_0]))))))<|.c oz18<|.c oz19<|.n)).weak (WeakL.refl _) (Weak.rows (rows_to (row1 IntKind.i64) (r:=List.map (row1 IntKind.i64) (revK l l.length).reverse) (l:=(revK l l.length).reverse) (m:=usI (usedL l)) rfl (show ((revK l l.length).reverse)=(usI (usedL l)) from (by (rw [←revK_all])))))
theorem pused_n (l:List Nod) (hl:l.length≤1000) (h0:l.length=0∨orderedB l=false):VC Tryz.prog 47 ([.sl 19 (l.map nodC)]) (ints .i64 []):=by
 have q0:(List.map nodC l).length=l.length:=List.length_map _
 have oz0 := @pord_v (l) hl
 exact (VC.run (fn:=Tryz.f47) (W:=[.r [] [],.sc,.r [] [.op false,.op false,.callr (rO oz0),.op false,.sel 1],.br true,.r [] []]) (r:=AV.lit (Value.slice none 0 0)) Tryz.func47 (by kernel_rfl) (.c oz0<|.c (show ((↑(List.map nodC l).length:Int)==0 || !orderedB l)=true by (rcases h0 with h0 | h0<;>simp [h0]))<|.n)).weak (WeakL.refl _) (Weak.nil _)
theorem look_snoc (a b n:Int):∀ A:List (Int×Int),lookI (A++[(a,b)]) n=if (A.any fun p=>n==p.1)=true then lookI A n else if n=a then b else 0
 | []=>by simp only [List.nil_append,lookI,findI,List.any_nil,Bool.false_eq_true,if_false];by_cases h:n=a<;>simp [h]
 | (k,v)::A=>by
  have ih:=look_snoc a b n A
  simp only [List.cons_append,lookI,findI,List.any_cons,Bool.or_eq_true]
  by_cases h:(n==k)=true
  ·simp [h]
  ·simp only [h,if_false,Bool.false_eq_true,false_or]
   unfold lookI at ih
   cases h1:findI (A++[(a,b)]) n with
   | none =>
    rw [h1] at ih
    cases h2:findI A n with
    | none=>rw [h2] at ih;exact ih
    | some q=>obtain ⟨j,u⟩:=q;rw [h2] at ih;exact ih
   | some p =>
    obtain ⟨j',u'⟩:=p
    rw [h1] at ih
    cases h2:findI A n with
    | none=>rw [h2] at ih;exact ih
    | some q=>obtain ⟨j,u⟩:=q;rw [h2] at ih;exact ih
theorem put_snoc (n x:Int):∀ A:List (Int×Int),(A.any fun p=>n==p.1)=false→putI A n x=A++[(n,x)]
 | [],_=>rfl
 | (k,v)::A,h=>by
  simp only [List.any_cons,Bool.or_eq_false_iff] at h
  rw [putI,h.1,if_neg (by simp),put_snoc n x A h.2];rfl
def nowL (us:List Nat):Nat→List (Int×Int)
 | 0=>[(0,0)]
 | k+1=>nowL us k++[(((us.getD k 0:Nat):Int)+1,(k:Int)+1)]
theorem now_keys (us:List Nat) (v:Int):∀ k,((nowL us k).any fun p=>v==p.1)=true↔v=0∨∃ j,j<k∧v=(us.getD j 0:Nat)+1
 | 0=>by simp [nowL]
 | k+1=>by
  rw [nowL,List.any_append,Bool.or_eq_true,now_keys us v k]
  simp only [List.any_cons,List.any_nil,Bool.or_false,beq_iff_eq]
  constructor
  ·rintro ((h | ⟨j,h1,h2⟩) | h)
   ·exact .inl h
   ·exact .inr ⟨j,by omega,h2⟩
   ·exact .inr ⟨k,by omega,h⟩
  ·rintro (h | ⟨j,h1,h2⟩)
   ·exact .inl (.inl h)
   ·by_cases e:j=k
    ·subst e;exact .inr h2
    ·exact .inl (.inr ⟨j,by omega,h2⟩)
theorem now_0 (us:List Nat):∀ k,lookI (nowL us k) 0=0
 | 0=>rfl
 | k+1=>by rw [nowL,look_snoc,if_pos ((now_keys us 0 k).2 (.inl rfl)),now_0 us k]
theorem us_lt {us:List Nat} (h:us.Pairwise (· < ·)) {i j:Nat} (hij:i<j) (hj:j<us.length):us.getD i 0<us.getD j 0:=by
 have:=List.pairwise_iff_getElem.1 h i j (by omega) hj hij
 rw [List.getD_eq_getElem?_getD,List.getElem?_eq_getElem (by omega),List.getD_eq_getElem?_getD,List.getElem?_eq_getElem hj];exact this
theorem now_at {us:List Nat} (h:us.Pairwise (· < ·)):∀ {k},k≤us.length→∀ {j},j<k→lookI (nowL us k) ((us.getD j 0:Nat)+1)=(j:Int)+1
 | k+1,hk,j,hj=>by
  rw [nowL,look_snoc]
  by_cases e:j=k
  ·subst e
   rw [if_neg,if_pos rfl]
   rw [now_keys]
   rintro (h1 | ⟨i,h1,h2⟩)
   ·omega
   ·have:=us_lt h h1 (by omega);omega
  ·rw [if_pos ((now_keys _ _ _).2 (.inr ⟨j,by omega,rfl⟩)),now_at h (by omega) (by omega)]
theorem now_put {us:List Nat} (h:us.Pairwise (· < ·)) {k:Nat} (hk:k<us.length):putI (nowL us k) ((us.getD k 0:Nat)+1) ((k:Int)+1)=nowL us (k+1):=by
 have ha:((nowL us k).any fun p=>((us.getD k 0:Nat):Int)+1==p.1)=false:=by
  cases e:(nowL us k).any fun p=>((us.getD k 0:Nat):Int)+1==p.1 with
  | false=>rfl
  | true =>
   rcases (now_keys _ _ _).1 e with h1 | ⟨j,h1,h2⟩
   ·omega
   ·have:=us_lt h h1 hk;omega
 rw [put_snoc _ _ _ ha,nowL]
theorem now_look {l:List Nod} (ho:orderedB l=true) {k:Nat} (hk:k<(usedL l).length) {v:Int} (hv:takesB (l.getD ((usedL l).getD k 0) default) v=true):lookI (nowL (usedL l) k) v=numU (usedL l) v:=by
 obtain ⟨h1,h2,h3⟩:=used_takes ho (used_at hk) hv
 rcases h3 with rfl | h3
 ·rw [now_0,numU_0 _ (Int.le_refl 0)]
 ·by_cases e:v=0
  ·subst e;rw [now_0,numU_0 _ (Int.le_refl 0)]
  ·obtain ⟨j,hj,hjv⟩:=idx_used h3
   have hv2:v=((usedL l).getD j 0:Nat)+1:=by omega
   have hjk:j<k:=by
    rcases Nat.lt_trichotomy j k with h | h | h
    ·exact h
    ·subst h;omega
    ·have:=us_lt (used_sorted l) h hj;omega
   rw [hv2,now_at (used_sorted l) (by omega) hjk,numU_up (used_sorted l) hj]
theorem pcopied_v (n:Nod) (hw:n.w.length≤100000) (hb:n.b.length≤100000):VC Tryz.prog 96 ([nod n]) (nod n):=by
 have oz0 := @clone8_v (n.w) (by omega)
 have oz1 := @clone32_v (n.b) (by omega)
 exact VC.run (fn:=Tryz.f96) (W:=[.r [] [],.r [] [.callr (rO oz0),.callr (rO oz1)],.r [] []]) Tryz.func96 (by kernel_rfl) (.c oz0<|.c oz1<|.n)
noncomputable def pblock_c_I (l:List Nod) (k:Nat):VS:=stt 64 [(3,.own 900),(13,.sl 19 (l.map nodC)),(14,i64 l.length),(15,i64 k)] [(900,.slc 82 19 ((l.take k).map nodC))]
theorem pblock_c_s (l:List Nod) (hl:l.length≤1000) (hw:∀ n∈l,n.w.length≤100000∧n.b.length≤100000) (k:Nat) (hk:k<l.length):VT Tryz.prog (fnC Tryz.f43 [1,1,0,1,0,0,1,0,0]) (pblock_c_I l k) .normal (pblock_c_I l (k+1)):=by
 have q:=getD_in hw hk
 obtain ⟨q1,q2⟩:=q
 have q3:(List.map nodC (l.take k)).length=k:=by rw [List.length_map,List.length_take];omega
 have q4:l.take (k+1)=l.take k++[l.getD k default]:=by
  rw [List.take_add_one,List.getD_eq_getElem?_getD,List.getElem?_eq_getElem hk];rfl
 have oz2:=(map_at (nodC) (default) (l:=l) (i:=k) hk)
 have oz3 := @pcopied_v (l.getD k default) q1 q2
 exact VT.run (W:=[.r [] [],.br true,.r [] [.row (sO oz2)],.r [] [.callr (rO oz3)],.r [] [.n ((↑k:Int)+1)]]) (G:=[.any (rg [(5,1),(16,9)]),.drop [5,22],.ren 23 900,.weak 15 (i64 (↑(k+1):Int)),.blk 900 (Blk.slc 82 19 (List.map nodC (List.take (k+1) l))),.sort]) (by kernel_rfl) (.c (decide_eq_true (p:=((↑k:Int)<(↑l.length:Int))) (by omega))<|.c (show 0≤(↑k:Int) by omega)<|.c oz2<|.c oz3<|.c (show ((List.map nodC (List.take k l)).length+1)*168≤140737488355328 by omega)<|.c (show (List.map nodC (List.take k l)).length+1≤9223372036854775807 by omega)<|.c (i6n ((↑k:Int)+1) (by omega))<|.c (Weak.int (k:=.i64) (show (((↑k:Int)+1):Int)=((↑(k+1):Int)) from (by omega)))<|.c (show BlkW (Blk.slc 82 19 (List.map nodC (List.take k l)++[[i64 (l.getD k default).kd,i64 (l.getD k default).na,i64 (l.getD k default).nb,i64 (l.getD k default).nk,i64 (l.getD k default).ns,i64 (l.getD k default).np,i64 (l.getD k default).no,i8 (l.getD k default).za,i8 (l.getD k default).zb,AV.sl 1 (List.map (row1 IntKind.i8) (l.getD k default).w),AV.sl 1 (List.map (row1 IntKind.i32) (l.getD k default).b),i32 (l.getD k default).qm,i64 (l.getD k default).qs,i8 (l.getD k default).qz,i32 (l.getD k default).rm,i64 (l.getD k default).rs,i8 (l.getD k default).rz,i8 (l.getD k default).lo,i8 (l.getD k default).hi]])) (Blk.slc 82 19 (List.map nodC (List.take (k+1) l))) from (BlkW.rows (rows_to (nodC) (r:=List.map nodC (List.take k l)++[[i64 (l.getD k default).kd,i64 (l.getD k default).na,i64 (l.getD k default).nb,i64 (l.getD k default).nk,i64 (l.getD k default).ns,i64 (l.getD k default).np,i64 (l.getD k default).no,i8 (l.getD k default).za,i8 (l.getD k default).zb,AV.sl 1 (List.map (row1 IntKind.i8) (l.getD k default).w),AV.sl 1 (List.map (row1 IntKind.i32) (l.getD k default).b),i32 (l.getD k default).qm,i64 (l.getD k default).qs,i8 (l.getD k default).qz,i32 (l.getD k default).rm,i64 (l.getD k default).rs,i8 (l.getD k default).rz,i8 (l.getD k default).lo,i8 (l.getD k default).hi]]) (l:=List.take k l++[Nod.mk (l.getD k default).kd (l.getD k default).na (l.getD k default).nb (l.getD k default).nk (l.getD k default).ns (l.getD k default).np (l.getD k default).no (l.getD k default).za (l.getD k default).zb (l.getD k default).w (l.getD k default).b (l.getD k default).qm (l.getD k default).qs (l.getD k default).qz (l.getD k default).rm (l.getD k default).rs (l.getD k default).rz (l.getD k default).lo (l.getD k default).hi]) (m:=List.take (k+1) l) (by first | (simp only [List.map_append,List.map_cons,List.map_nil,List.map_set,List.map_replicate,List.map_take,List.map_drop];done) | rfl | (simp only [List.map_append,List.map_cons,List.map_nil,List.map_set,List.map_replicate,List.map_take,List.map_drop];rfl) | (simp only [List.map_append,List.map_cons,List.map_nil,List.map_set,List.map_replicate,List.map_take,List.map_drop,nodC,ints];done)) (show (List.take k l++[Nod.mk (l.getD k default).kd (l.getD k default).na (l.getD k default).nb (l.getD k default).nk (l.getD k default).ns (l.getD k default).np (l.getD k default).no (l.getD k default).za (l.getD k default).zb (l.getD k default).w (l.getD k default).b (l.getD k default).qm (l.getD k default).qs (l.getD k default).qz (l.getD k default).rm (l.getD k default).rs (l.getD k default).rz (l.getD k default).lo (l.getD k default).hi])=(List.take (k+1) l) from (by (rw [q4]))))))<|.n)
noncomputable def pblock_m_I (l:List Nod) (k:Nat):VS:=stt 64 [(0,.sl 19 (l.map nodC)),(3,.own 900),(6,.mp 902),(29,ints .i64 (usI (usedL l))),(30,i64 (usedL l).length),(31,i64 k)] [(900,.slc 82 19 ((prunK l k).map nodC)),(902,.obj (mobj (nowL (usedL l) k)))]
noncomputable def pblock_m_Z (l:List Nod):VS:=pblock_m_I l ((usedL l).length)
theorem pblock_m_s (l:List Nod) (hl:l.length≤1000) (hw:∀ n∈l,n.w.length≤100000∧n.b.length≤100000) (ho:orderedB l=true) (k:Nat) (hk:k<(usedL l).length):VT Tryz.prog (fnC Tryz.f43 [1,1,1,1,0,1,0,0]) (pblock_m_I l k) .normal (pblock_m_I l (k+1)):=by
 have q:=prunK_len l k
 have q2:(List.map nodC (prunK l k)).length=(prunK l k).length:=List.length_map _
 have q3:=used_len l
 have q4:=usI_at hk
 have q5:=(mem_used.1 (used_at hk)).1
 have q6 := @prunK_step l k hk
 have q7:(usI (usedL l)).length=(usedL l).length:=List.length_map _
 have q9:(List.map (row1 .i64) (usI (usedL l))).length=(usI (usedL l)).length:=List.length_map _
 have q8:((usI (usedL l)).getD k 0).toNat=(usedL l).getD k 0:=by rw [q4];rfl
 have qw:=getD_in hw q5
 have qa:=now_look ho hk (takes_na _)
 have qb:=fun h=>now_look ho hk (takes_nb h)
 have qp:=now_put (used_sorted l) hk
 have ql:(prunK l k).length=k:=by unfold prunK;rw [List.length_map,List.length_take];omega
 rw [←q8] at q6 qw qa
 simp only [←q8] at qb
 rw [←q4] at qp
 obtain ⟨qw1,qw2⟩:=qw
 unfold pruneN at q6
 have oz0:=(decide_eq_true (p:=((↑k:Int)<(↑(usedL l).length:Int))) (by omega))
 have oz1:=(show 0≤(↑k:Int) by omega)
 have oz2:=(map_at (row1 IntKind.i64) (0) (l:=usI (usedL l)) (i:=k) (by omega))
 have oz3:=(show 0≤(usI (usedL l)).getD k 0 by omega)
 have oz4:=(map_at (nodC) (default) (l:=l) (i:=((usI (usedL l)).getD k 0).toNat) (by omega))
 have oz5 := @pcopied_v (l.getD ((usI (usedL l)).getD k 0).toNat default) qw1 qw2
 have oz6:=(show mobj (nowL (usedL l) k)=mobj (nowL (usedL l) k) from rfl)
 rcases bft ((l.getD ((usI (usedL l)).getD k 0).toNat default).kd==6) with hc0 | hc0
 ·have gc0:(l.getD ((usI (usedL l)).getD k 0).toNat default).kd=6:=bet hc0
  exact VT.run (W:=[.r [] [],.br true,.r [] [.row (sO oz2)],.r [] [.row (sO oz4),.callr (rO oz5)],.r [] [.mapl (nowL (usedL l) k)],.r [] [],.br true,.r [] [.mapl (nowL (usedL l) k)],.r [] [],.r [] [.n ((usI (usedL l)).getD k 0+1),.mapl (nowL (usedL l) k)],.r [] [.n ((↑k:Int)+1)]]) (G:=[.any (rg [(8,2),(32,31)]),.drop [9,55],.ren 56 900,.weak 31 (i64 (↑(k+1):Int)),.blk 900 (Blk.slc 82 19 (List.map nodC (prunK l (k+1)))),.blk 902 (Blk.obj (mobj (nowL (usedL l) (k+1)))),.sort]) (by kernel_rfl) (.c oz0<|.c oz1<|.c oz2<|.c oz3<|.c oz4<|.c oz5<|.c oz6<|.c hc0<|.c oz6<|.c (show ((List.map nodC (prunK l k)).length+1)*168≤140737488355328 by omega)<|.c (show (List.map nodC (prunK l k)).length+1≤9223372036854775807 by omega)<|.c (i6n ((usI (usedL l)).getD k 0+1) (by omega))<|.c oz6<|.c (i6n ((↑k:Int)+1) (by omega))<|.c (Weak.int (k:=.i64) (show (((↑k:Int)+1):Int)=((↑(k+1):Int)) from (by omega)))<|.c (show BlkW (Blk.slc 82 19 (List.map nodC (prunK l k)++[[i64 (l.getD ((usI (usedL l)).getD k 0).toNat default).kd,i64 (lookI (nowL (usedL l) k) (l.getD ((usI (usedL l)).getD k 0).toNat default).na),i64 (lookI (nowL (usedL l) k) (l.getD ((usI (usedL l)).getD k 0).toNat default).nb),i64 (l.getD ((usI (usedL l)).getD k 0).toNat default).nk,i64 (l.getD ((usI (usedL l)).getD k 0).toNat default).ns,i64 (l.getD ((usI (usedL l)).getD k 0).toNat default).np,i64 (l.getD ((usI (usedL l)).getD k 0).toNat default).no,i8 (l.getD ((usI (usedL l)).getD k 0).toNat default).za,i8 (l.getD ((usI (usedL l)).getD k 0).toNat default).zb,AV.sl 1 (List.map (row1 IntKind.i8) (l.getD ((usI (usedL l)).getD k 0).toNat default).w),AV.sl 1 (List.map (row1 IntKind.i32) (l.getD ((usI (usedL l)).getD k 0).toNat default).b),i32 (l.getD ((usI (usedL l)).getD k 0).toNat default).qm,i64 (l.getD ((usI (usedL l)).getD k 0).toNat default).qs,i8 (l.getD ((usI (usedL l)).getD k 0).toNat default).qz,i32 (l.getD ((usI (usedL l)).getD k 0).toNat default).rm,i64 (l.getD ((usI (usedL l)).getD k 0).toNat default).rs,i8 (l.getD ((usI (usedL l)).getD k 0).toNat default).rz,i8 (l.getD ((usI (usedL l)).getD k 0).toNat default).lo,i8 (l.getD ((usI (usedL l)).getD k 0).toNat default).hi]])) (Blk.slc 82 19 (List.map nodC (prunK l (k+1)))) from (BlkW.rows (rows_to (nodC) (r:=List.map nodC (prunK l k)++[[i64 (l.getD ((usI (usedL l)).getD k 0).toNat default).kd,i64 (lookI (nowL (usedL l) k) (l.getD ((usI (usedL l)).getD k 0).toNat default).na),i64 (lookI (nowL (usedL l) k) (l.getD ((usI (usedL l)).getD k 0).toNat default).nb),i64 (l.getD ((usI (usedL l)).getD k 0).toNat default).nk,i64 (l.getD ((usI (usedL l)).getD k 0).toNat default).ns,i64 (l.getD ((usI (usedL l)).getD k 0).toNat default).np,i64 (l.getD ((usI (usedL l)).getD k 0).toNat default).no,i8 (l.getD ((usI (usedL l)).getD k 0).toNat default).za,i8 (l.getD ((usI (usedL l)).getD k 0).toNat default).zb,AV.sl 1 (List.map (row1 IntKind.i8) (l.getD ((usI (usedL l)).getD k 0).toNat default).w),AV.sl 1 (List.map (row1 IntKind.i32) (l.getD ((usI (usedL l)).getD k 0).toNat default).b),i32 (l.getD ((usI (usedL l)).getD k 0).toNat default).qm,i64 (l.getD ((usI (usedL l)).getD k 0).toNat default).qs,i8 (l.getD ((usI (usedL l)).getD k 0).toNat default).qz,i32 (l.getD ((usI (usedL l)).getD k 0).toNat default).rm,i64 (l.getD ((usI (usedL l)).getD k 0).toNat default).rs,i8 (l.getD ((usI (usedL l)).getD k 0).toNat default).rz,i8 (l.getD ((usI (usedL l)).getD k 0).toNat default).lo,i8 (l.getD ((usI (usedL l)).getD k 0).toNat default).hi]]) (l:=prunK l k++[Nod.mk (l.getD ((usI (usedL l)).getD k 0).toNat default).kd (lookI (nowL (usedL l) k) (l.getD ((usI (usedL l)).getD k 0).toNat default).na) (lookI (nowL (usedL l) k) (l.getD ((usI (usedL l)).getD k 0).toNat default).nb) (l.getD ((usI (usedL l)).getD k 0).toNat default).nk (l.getD ((usI (usedL l)).getD k 0).toNat default).ns (l.getD ((usI (usedL l)).getD k 0).toNat default).np (l.getD ((usI (usedL l)).getD k 0).toNat default).no (l.getD ((usI (usedL l)).getD k 0).toNat default).za (l.getD ((usI (usedL l)).getD k 0).toNat default).zb (l.getD ((usI (usedL l)).getD k 0).toNat default).w (l.getD ((usI (usedL l)).getD k 0).toNat default).b (l.getD ((usI (usedL l)).getD k 0).toNat default).qm (l.getD ((usI (usedL l)).getD k 0).toNat default).qs (l.getD ((usI (usedL l)).getD k 0).toNat default).qz (l.getD ((usI (usedL l)).getD k 0).toNat default).rm (l.getD ((usI (usedL l)).getD k 0).toNat default).rs (l.getD ((usI (usedL l)).getD k 0).toNat default).rz (l.getD ((usI (usedL l)).getD k 0).toNat default).lo (l.getD ((usI (usedL l)).getD k 0).toNat default).hi]) (m:=prunK l (k+1)) (by first | (simp only [List.map_append,List.map_cons,List.map_nil,List.map_set,List.map_replicate,List.map_take,List.map_drop];done) | rfl | (simp only [List.map_append,List.map_cons,List.map_nil,List.map_set,List.map_replicate,List.map_take,List.map_drop];rfl) | (simp only [List.map_append,List.map_cons,List.map_nil,List.map_set,List.map_replicate,List.map_take,List.map_drop,nodC,ints];done)) (show (prunK l k++[Nod.mk (l.getD ((usI (usedL l)).getD k 0).toNat default).kd (lookI (nowL (usedL l) k) (l.getD ((usI (usedL l)).getD k 0).toNat default).na) (lookI (nowL (usedL l) k) (l.getD ((usI (usedL l)).getD k 0).toNat default).nb) (l.getD ((usI (usedL l)).getD k 0).toNat default).nk (l.getD ((usI (usedL l)).getD k 0).toNat default).ns (l.getD ((usI (usedL l)).getD k 0).toNat default).np (l.getD ((usI (usedL l)).getD k 0).toNat default).no (l.getD ((usI (usedL l)).getD k 0).toNat default).za (l.getD ((usI (usedL l)).getD k 0).toNat default).zb (l.getD ((usI (usedL l)).getD k 0).toNat default).w (l.getD ((usI (usedL l)).getD k 0).toNat default).b (l.getD ((usI (usedL l)).getD k 0).toNat default).qm (l.getD ((usI (usedL l)).getD k 0).toNat default).qs (l.getD ((usI (usedL l)).getD k 0).toNat default).qz (l.getD ((usI (usedL l)).getD k 0).toNat default).rm (l.getD ((usI (usedL l)).getD k 0).toNat default).rs (l.getD ((usI (usedL l)).getD k 0).toNat default).rz (l.getD ((usI (usedL l)).getD k 0).toNat default).lo (l.getD ((usI (usedL l)).getD k 0).toNat default).hi])=(prunK l (k+1)) from (by (rw [q6,if_pos (by assumption),qa,qb (by assumption)]))))))<|.c (show BlkW (Blk.obj (mobj (putI (nowL (usedL l) k) ((usI (usedL l)).getD k 0+1) (↑(List.map nodC (prunK l k)++[[i64 (l.getD ((usI (usedL l)).getD k 0).toNat default).kd,i64 (lookI (nowL (usedL l) k) (l.getD ((usI (usedL l)).getD k 0).toNat default).na),i64 (lookI (nowL (usedL l) k) (l.getD ((usI (usedL l)).getD k 0).toNat default).nb),i64 (l.getD ((usI (usedL l)).getD k 0).toNat default).nk,i64 (l.getD ((usI (usedL l)).getD k 0).toNat default).ns,i64 (l.getD ((usI (usedL l)).getD k 0).toNat default).np,i64 (l.getD ((usI (usedL l)).getD k 0).toNat default).no,i8 (l.getD ((usI (usedL l)).getD k 0).toNat default).za,i8 (l.getD ((usI (usedL l)).getD k 0).toNat default).zb,AV.sl 1 (List.map (row1 IntKind.i8) (l.getD ((usI (usedL l)).getD k 0).toNat default).w),AV.sl 1 (List.map (row1 IntKind.i32) (l.getD ((usI (usedL l)).getD k 0).toNat default).b),i32 (l.getD ((usI (usedL l)).getD k 0).toNat default).qm,i64 (l.getD ((usI (usedL l)).getD k 0).toNat default).qs,i8 (l.getD ((usI (usedL l)).getD k 0).toNat default).qz,i32 (l.getD ((usI (usedL l)).getD k 0).toNat default).rm,i64 (l.getD ((usI (usedL l)).getD k 0).toNat default).rs,i8 (l.getD ((usI (usedL l)).getD k 0).toNat default).rz,i8 (l.getD ((usI (usedL l)).getD k 0).toNat default).lo,i8 (l.getD ((usI (usedL l)).getD k 0).toNat default).hi]]).length:Int)))) (Blk.obj (mobj (nowL (usedL l) (k+1)))) from (BlkW.map (show putI (nowL (usedL l) k) ((usI (usedL l)).getD k 0+1) (↑(List.map nodC (prunK l k)++[[i64 (l.getD ((usI (usedL l)).getD k 0).toNat default).kd,i64 (lookI (nowL (usedL l) k) (l.getD ((usI (usedL l)).getD k 0).toNat default).na),i64 (lookI (nowL (usedL l) k) (l.getD ((usI (usedL l)).getD k 0).toNat default).nb),i64 (l.getD ((usI (usedL l)).getD k 0).toNat default).nk,i64 (l.getD ((usI (usedL l)).getD k 0).toNat default).ns,i64 (l.getD ((usI (usedL l)).getD k 0).toNat default).np,i64 (l.getD ((usI (usedL l)).getD k 0).toNat default).no,i8 (l.getD ((usI (usedL l)).getD k 0).toNat default).za,i8 (l.getD ((usI (usedL l)).getD k 0).toNat default).zb,AV.sl 1 (List.map (row1 IntKind.i8) (l.getD ((usI (usedL l)).getD k 0).toNat default).w),AV.sl 1 (List.map (row1 IntKind.i32) (l.getD ((usI (usedL l)).getD k 0).toNat default).b),i32 (l.getD ((usI (usedL l)).getD k 0).toNat default).qm,i64 (l.getD ((usI (usedL l)).getD k 0).toNat default).qs,i8 (l.getD ((usI (usedL l)).getD k 0).toNat default).qz,i32 (l.getD ((usI (usedL l)).getD k 0).toNat default).rm,i64 (l.getD ((usI (usedL l)).getD k 0).toNat default).rs,i8 (l.getD ((usI (usedL l)).getD k 0).toNat default).rz,i8 (l.getD ((usI (usedL l)).getD k 0).toNat default).lo,i8 (l.getD ((usI (usedL l)).getD k 0).toNat default).hi]]).length:Int)=nowL (usedL l) (k+1) from (by (rw [←qp];congr 1;simp;omega)))))<|.n)
 ·have gc0:¬(l.getD ((usI (usedL l)).getD k 0).toNat default).kd=6:=bef hc0
  exact VT.run (W:=[.r [] [],.br true,.r [] [.row (sO oz2)],.r [] [.row (sO oz4),.callr (rO oz5)],.r [] [.mapl (nowL (usedL l) k)],.r [] [],.br false,.r [] [],.r [] [.n ((usI (usedL l)).getD k 0+1),.mapl (nowL (usedL l) k)],.r [] [.n ((↑k:Int)+1)]]) (G:=[.any (rg [(8,2),(32,16),(53,10)]),.drop [9,55],.ren 56 900,.weak 31 (i64 (↑(k+1):Int)),.blk 900 (Blk.slc 82 19 (List.map nodC (prunK l (k+1)))),.blk 902 (Blk.obj (mobj (nowL (usedL l) (k+1)))),.sort]) (by kernel_rfl) (.c oz0<|.c oz1<|.c oz2<|.c oz3<|.c oz4<|.c oz5<|.c oz6<|.c hc0<|.c (show ((List.map nodC (prunK l k)).length+1)*168≤140737488355328 by omega)<|.c (show (List.map nodC (prunK l k)).length+1≤9223372036854775807 by omega)<|.c (i6n ((usI (usedL l)).getD k 0+1) (by omega))<|.c oz6<|.c (i6n ((↑k:Int)+1) (by omega))<|.c (Weak.int (k:=.i64) (show (((↑k:Int)+1):Int)=((↑(k+1):Int)) from (by omega)))<|.c (show BlkW (Blk.slc 82 19 (List.map nodC (prunK l k)++[[i64 (l.getD ((usI (usedL l)).getD k 0).toNat default).kd,i64 (lookI (nowL (usedL l) k) (l.getD ((usI (usedL l)).getD k 0).toNat default).na),i64 (l.getD ((usI (usedL l)).getD k 0).toNat default).nb,i64 (l.getD ((usI (usedL l)).getD k 0).toNat default).nk,i64 (l.getD ((usI (usedL l)).getD k 0).toNat default).ns,i64 (l.getD ((usI (usedL l)).getD k 0).toNat default).np,i64 (l.getD ((usI (usedL l)).getD k 0).toNat default).no,i8 (l.getD ((usI (usedL l)).getD k 0).toNat default).za,i8 (l.getD ((usI (usedL l)).getD k 0).toNat default).zb,AV.sl 1 (List.map (row1 IntKind.i8) (l.getD ((usI (usedL l)).getD k 0).toNat default).w),AV.sl 1 (List.map (row1 IntKind.i32) (l.getD ((usI (usedL l)).getD k 0).toNat default).b),i32 (l.getD ((usI (usedL l)).getD k 0).toNat default).qm,i64 (l.getD ((usI (usedL l)).getD k 0).toNat default).qs,i8 (l.getD ((usI (usedL l)).getD k 0).toNat default).qz,i32 (l.getD ((usI (usedL l)).getD k 0).toNat default).rm,i64 (l.getD ((usI (usedL l)).getD k 0).toNat default).rs,i8 (l.getD ((usI (usedL l)).getD k 0).toNat default).rz,i8 (l.getD ((usI (usedL l)).getD k 0).toNat default).lo,i8 (l.getD ((usI (usedL l)).getD k 0).toNat default).hi]])) (Blk.slc 82 19 (List.map nodC (prunK l (k+1)))) from (BlkW.rows (rows_to (nodC) (r:=List.map nodC (prunK l k)++[[i64 (l.getD ((usI (usedL l)).getD k 0).toNat default).kd,i64 (lookI (nowL (usedL l) k) (l.getD ((usI (usedL l)).getD k 0).toNat default).na),i64 (l.getD ((usI (usedL l)).getD k 0).toNat default).nb,i64 (l.getD ((usI (usedL l)).getD k 0).toNat default).nk,i64 (l.getD ((usI (usedL l)).getD k 0).toNat default).ns,i64 (l.getD ((usI (usedL l)).getD k 0).toNat default).np,i64 (l.getD ((usI (usedL l)).getD k 0).toNat default).no,i8 (l.getD ((usI (usedL l)).getD k 0).toNat default).za,i8 (l.getD ((usI (usedL l)).getD k 0).toNat default).zb,AV.sl 1 (List.map (row1 IntKind.i8) (l.getD ((usI (usedL l)).getD k 0).toNat default).w),AV.sl 1 (List.map (row1 IntKind.i32) (l.getD ((usI (usedL l)).getD k 0).toNat default).b),i32 (l.getD ((usI (usedL l)).getD k 0).toNat default).qm,i64 (l.getD ((usI (usedL l)).getD k 0).toNat default).qs,i8 (l.getD ((usI (usedL l)).getD k 0).toNat default).qz,i32 (l.getD ((usI (usedL l)).getD k 0).toNat default).rm,i64 (l.getD ((usI (usedL l)).getD k 0).toNat default).rs,i8 (l.getD ((usI (usedL l)).getD k 0).toNat default).rz,i8 (l.getD ((usI (usedL l)).getD k 0).toNat default).lo,i8 (l.getD ((usI (usedL l)).getD k 0).toNat default).hi]]) (l:=prunK l k++[Nod.mk (l.getD ((usI (usedL l)).getD k 0).toNat default).kd (lookI (nowL (usedL l) k) (l.getD ((usI (usedL l)).getD k 0).toNat default).na) (l.getD ((usI (usedL l)).getD k 0).toNat default).nb (l.getD ((usI (usedL l)).getD k 0).toNat default).nk (l.getD ((usI (usedL l)).getD k 0).toNat default).ns (l.getD ((usI (usedL l)).getD k 0).toNat default).np (l.getD ((usI (usedL l)).getD k 0).toNat default).no (l.getD ((usI (usedL l)).getD k 0).toNat default).za (l.getD ((usI (usedL l)).getD k 0).toNat default).zb (l.getD ((usI (usedL l)).getD k 0).toNat default).w (l.getD ((usI (usedL l)).getD k 0).toNat default).b (l.getD ((usI (usedL l)).getD k 0).toNat default).qm (l.getD ((usI (usedL l)).getD k 0).toNat default).qs (l.getD ((usI (usedL l)).getD k 0).toNat default).qz (l.getD ((usI (usedL l)).getD k 0).toNat default).rm (l.getD ((usI (usedL l)).getD k 0).toNat default).rs (l.getD ((usI (usedL l)).getD k 0).toNat default).rz (l.getD ((usI (usedL l)).getD k 0).toNat default).lo (l.getD ((usI (usedL l)).getD k 0).toNat default).hi]) (m:=prunK l (k+1)) (by first | (simp only [List.map_append,List.map_cons,List.map_nil,List.map_set,List.map_replicate,List.map_take,List.map_drop];done) | rfl | (simp only [List.map_append,List.map_cons,List.map_nil,List.map_set,List.map_replicate,List.map_take,List.map_drop];rfl) | (simp only [List.map_append,List.map_cons,List.map_nil,List.map_set,List.map_replicate,List.map_take,List.map_drop,nodC,ints];done)) (show (prunK l k++[Nod.mk (l.getD ((usI (usedL l)).getD k 0).toNat default).kd (lookI (nowL (usedL l) k) (l.getD ((usI (usedL l)).getD k 0).toNat default).na) (l.getD ((usI (usedL l)).getD k 0).toNat default).nb (l.getD ((usI (usedL l)).getD k 0).toNat default).nk (l.getD ((usI (usedL l)).getD k 0).toNat default).ns (l.getD ((usI (usedL l)).getD k 0).toNat default).np (l.getD ((usI (usedL l)).getD k 0).toNat default).no (l.getD ((usI (usedL l)).getD k 0).toNat default).za (l.getD ((usI (usedL l)).getD k 0).toNat default).zb (l.getD ((usI (usedL l)).getD k 0).toNat default).w (l.getD ((usI (usedL l)).getD k 0).toNat default).b (l.getD ((usI (usedL l)).getD k 0).toNat default).qm (l.getD ((usI (usedL l)).getD k 0).toNat default).qs (l.getD ((usI (usedL l)).getD k 0).toNat default).qz (l.getD ((usI (usedL l)).getD k 0).toNat default).rm (l.getD ((usI (usedL l)).getD k 0).toNat default).rs (l.getD ((usI (usedL l)).getD k 0).toNat default).rz (l.getD ((usI (usedL l)).getD k 0).toNat default).lo (l.getD ((usI (usedL l)).getD k 0).toNat default).hi])=(prunK l (k+1)) from (by (rw [q6,if_neg (by assumption),qa]))))))<|.c (show BlkW (Blk.obj (mobj (putI (nowL (usedL l) k) ((usI (usedL l)).getD k 0+1) (↑(List.map nodC (prunK l k)++[[i64 (l.getD ((usI (usedL l)).getD k 0).toNat default).kd,i64 (lookI (nowL (usedL l) k) (l.getD ((usI (usedL l)).getD k 0).toNat default).na),i64 (l.getD ((usI (usedL l)).getD k 0).toNat default).nb,i64 (l.getD ((usI (usedL l)).getD k 0).toNat default).nk,i64 (l.getD ((usI (usedL l)).getD k 0).toNat default).ns,i64 (l.getD ((usI (usedL l)).getD k 0).toNat default).np,i64 (l.getD ((usI (usedL l)).getD k 0).toNat default).no,i8 (l.getD ((usI (usedL l)).getD k 0).toNat default).za,i8 (l.getD ((usI (usedL l)).getD k 0).toNat default).zb,AV.sl 1 (List.map (row1 IntKind.i8) (l.getD ((usI (usedL l)).getD k 0).toNat default).w),AV.sl 1 (List.map (row1 IntKind.i32) (l.getD ((usI (usedL l)).getD k 0).toNat default).b),i32 (l.getD ((usI (usedL l)).getD k 0).toNat default).qm,i64 (l.getD ((usI (usedL l)).getD k 0).toNat default).qs,i8 (l.getD ((usI (usedL l)).getD k 0).toNat default).qz,i32 (l.getD ((usI (usedL l)).getD k 0).toNat default).rm,i64 (l.getD ((usI (usedL l)).getD k 0).toNat default).rs,i8 (l.getD ((usI (usedL l)).getD k 0).toNat default).rz,i8 (l.getD ((usI (usedL l)).getD k 0).toNat default).lo,i8 (l.getD ((usI (usedL l)).getD k 0).toNat default).hi]]).length:Int)))) (Blk.obj (mobj (nowL (usedL l) (k+1)))) from (BlkW.map (show putI (nowL (usedL l) k) ((usI (usedL l)).getD k 0+1) (↑(List.map nodC (prunK l k)++[[i64 (l.getD ((usI (usedL l)).getD k 0).toNat default).kd,i64 (lookI (nowL (usedL l) k) (l.getD ((usI (usedL l)).getD k 0).toNat default).na),i64 (l.getD ((usI (usedL l)).getD k 0).toNat default).nb,i64 (l.getD ((usI (usedL l)).getD k 0).toNat default).nk,i64 (l.getD ((usI (usedL l)).getD k 0).toNat default).ns,i64 (l.getD ((usI (usedL l)).getD k 0).toNat default).np,i64 (l.getD ((usI (usedL l)).getD k 0).toNat default).no,i8 (l.getD ((usI (usedL l)).getD k 0).toNat default).za,i8 (l.getD ((usI (usedL l)).getD k 0).toNat default).zb,AV.sl 1 (List.map (row1 IntKind.i8) (l.getD ((usI (usedL l)).getD k 0).toNat default).w),AV.sl 1 (List.map (row1 IntKind.i32) (l.getD ((usI (usedL l)).getD k 0).toNat default).b),i32 (l.getD ((usI (usedL l)).getD k 0).toNat default).qm,i64 (l.getD ((usI (usedL l)).getD k 0).toNat default).qs,i8 (l.getD ((usI (usedL l)).getD k 0).toNat default).qz,i32 (l.getD ((usI (usedL l)).getD k 0).toNat default).rm,i64 (l.getD ((usI (usedL l)).getD k 0).toNat default).rs,i8 (l.getD ((usI (usedL l)).getD k 0).toNat default).rz,i8 (l.getD ((usI (usedL l)).getD k 0).toNat default).lo,i8 (l.getD ((usI (usedL l)).getD k 0).toNat default).hi]]).length:Int)=nowL (usedL l) (k+1) from (by (rw [←qp];congr 1;simp;omega)))))<|.n)
theorem pblock_m_e (l:List Nod) (hl:l.length≤1000) (hw:∀ n∈l,n.w.length≤100000∧n.b.length≤100000) (ho:orderedB l=true):VT Tryz.prog (fnC Tryz.f43 [1,1,1,1,0,1,0,0]) (pblock_m_I l ((usedL l).length)) (.exit 2) (pblock_m_Z l):=by
 exact VT.run (W:=[.r [] [],.br false]) (G:=[.any [32],.sort]) (by kernel_rfl) (.c (decide_eq_false (p:=((↑(usedL l).length:Int)<(↑(usedL l).length:Int))) (by omega))<|.n)
theorem pblock_m (l:List Nod) (hl:l.length≤1000) (hw:∀ n∈l,n.w.length≤100000∧n.b.length≤100000) (ho:orderedB l=true):VT Tryz.prog (fnC Tryz.f43 [1,1,1,1,0,1,0]) (pblock_m_I l 0) (.exit 2) (pblock_m_Z l) :=
 VT.loop (fun k=>pblock_m_I l k) ((usedL l).length) (fun k hk=>pblock_m_s l hl hw ho k hk) (pblock_m_e l hl hw ho) (by intro h;cases h)
def itV (L:List Nod) (v:Int):Nat→Int
 | 0=>v
 | k+1=>(L.getD (itV L v k-1).toNat default).na
theorem itV_up (L:List Nod) (v:Int):∀ k,itV L (L.getD (v-1).toNat default).na k=itV L v (k+1)
 | 0=>rfl
 | k+1=>by rw [itV,itV_up L v k];rfl
structure PastRun (L:List Nod) (v:Int) (m:Nat):Prop where
 y:∀ k,k<m→(decide (itV L v k > 0)&&sameN (L.getD (itV L v k-1).toNat default))=true
 n:(decide (itV L v m > 0)&&sameN (L.getD (itV L v m-1).toNat default))=false
 b:∀ k,k≤m→0≤itV L v k∧itV L v k≤v
 e:itV L v m=pastV L v
 h:hitT L v=decide (0<m)
theorem pastK_run {L:List Nod} {K:Nat} (d:Desc L K):∀ (f:Nat) (v:Int),v.toNat≤f→0≤v→v≤K→∃ m,(∀ k,k<m→hitT L (itV L v k)=true)∧hitT L (itV L v m)=false∧(∀ k,k≤m→0≤itV L v k∧itV L v k≤v)∧itV L v m=pastK L f v∧hitT L v=decide (0<m)
 | 0,v,hf,h0,_=>by
  have hn:hitT L v=false:=by unfold hitT;rw [decide_eq_false (by omega),Bool.false_and]
  exact ⟨0,fun k hk=>by omega,hn,fun k hk=>by
     have:k=0:=by omega
     subst this;exact ⟨h0,Int.le_refl _⟩,rfl,by rw [hn];rfl⟩
 | f+1,v,hf,h0,h1=>by
  by_cases q:0<v∧sameN (L.getD (v-1).toNat default)=true
  ·have hh:hitT L v=true:=by unfold hitT;rw [decide_eq_true q.1,q.2];rfl
   have dv:=d (v-1).toNat (by omega)
   obtain ⟨m,a1,a2,a3,a4,a5⟩:=pastK_run d f (L.getD (v-1).toNat default).na (by omega) (by omega) (by omega)
   refine ⟨m+1,fun k hk=>?_,by rw [←itV_up];exact a2,fun k hk=>?_,by rw [←itV_up,a4,pastK,if_pos q],by rw [hh];simp⟩
   ·cases k with
    | zero=>exact hh
    | succ k=>rw [←itV_up];exact a1 k (by omega)
   ·cases k with
    | zero=>exact ⟨h0,Int.le_refl _⟩
    | succ k=>rw [←itV_up];have:=a3 k (by omega);omega
  ·have hn:hitT L v=false:=by
    cases e:hitT L v with
    | false=>rfl
    | true=>unfold hitT at e;simp only [Bool.and_eq_true,decide_eq_true_eq] at e;exact absurd e q
   exact ⟨0,fun k hk=>by omega,hn,fun k hk=>by
      have:k=0:=by omega
      subst this;exact ⟨h0,Int.le_refl _⟩,by rw [pastK,if_neg q];rfl,by rw [hn];rfl⟩
theorem past_run {L:List Nod} {K:Nat} (d:Desc L K) {v:Int} (h0:0≤v) (h1:v≤K):∃ m,PastRun L v m:=by
 obtain ⟨m,a1,a2,a3,a4,a5⟩:=pastK_run d v.toNat v (Nat.le_refl _) h0 h1
 exact ⟨m,a1,a2,a3,a4,a5⟩
def smallB (n:Nod):Bool:=decide (n.w.length≤1000)&&decide (n.b.length≤100)
def fewB (l:List Nod) (d:Nat):Bool:=decide (l.length≤12)&&decide (d≤300)&&l.all smallB
noncomputable def few_ly_I (l:List Nod) (k:Nat):VS:=stt 37 [(0,.sl 19 (l.map nodC)),(5,i64 k)] []
noncomputable def few_ly_Z (l:List Nod):VS:=few_ly_I l (l.length)
theorem few_ly_s (l:List Nod) (hl:l.length≤12) (h:∀ k,k<l.length→smallB (l.getD k default)=true) (k:Nat) (hk:k<l.length):VT Tryz.prog (fnC Tryz.f10 [1,1,0,1,0,0]) (few_ly_I l k) .normal (few_ly_I l (k+1)):=by
 have q:=h k hk
 simp only [smallB,Bool.and_eq_true,decide_eq_true_eq] at q
 obtain ⟨q1,q2⟩:=q
 have oz1:=(show 0≤(↑k:Int) by omega)
 have oz2:=(map_at (nodC) (default) (l:=l) (i:=k) hk)
 exact VT.run (W:=[.r [] [],.br true,.r [] [.row (sO oz2),.op false,.op false,.op false,.row (sO oz2),.op false,.op false,.op false,.op false,.sel 1],.br false,.r [] [.n ((↑k:Int)+1)]]) (G:=[.any (rg [(15,14),(36,1)]),.weak 5 (i64 (↑(k+1):Int)),.sort]) (by kernel_rfl) (.c (show decide ((↑k:Int)<(↑(List.map nodC l).length:Int))=true by (simp;omega))<|.c oz1<|.c oz2<|.c oz1<|.c oz2<|.c (show (decide ((↑(List.map (row1 IntKind.i8) (l.getD k default).w).length:Int) > 1000) || decide ((↑(List.map (row1 IntKind.i32) (l.getD k default).b).length:Int) > 100))=false by (simp at *;omega))<|.c (i6n ((↑k:Int)+1) (by omega))<|.c (Weak.int (k:=.i64) (show (((↑k:Int)+1):Int)=((↑(k+1):Int)) from (by omega)))<|.n)
theorem few_ly_e (l:List Nod) (hl:l.length≤12) (h:∀ k,k<l.length→smallB (l.getD k default)=true):VT Tryz.prog (fnC Tryz.f10 [1,1,0,1,0,0]) (few_ly_I l (l.length)) (.exit 0) (few_ly_Z l):=by
 exact VT.run (W:=[.r [] [],.br false]) (G:=[.any (rg [(15,4)]),.sort]) (by kernel_rfl) (.c (show decide ((↑l.length:Int)<(↑(List.map nodC l).length:Int))=false by (simp;done))<|.n)
theorem few_ly (l:List Nod) (hl:l.length≤12) (h:∀ k,k<l.length→smallB (l.getD k default)=true):VT Tryz.prog (fnC Tryz.f10 [1,1,0,1,0]) (few_ly_I l 0) (.exit 0) (few_ly_Z l) :=
 VT.loop (fun k=>few_ly_I l k) (l.length) (fun k hk=>few_ly_s l hl h k hk) (few_ly_e l hl h) (by intro h;cases h)
noncomputable def few_ln_I (l:List Nod) (m:Nat) (k:Nat):VS:=stt 37 [(0,.sl 19 (l.map nodC)),(5,i64 k)] []
noncomputable def few_ln_Z (l:List Nod) (m:Nat):VS:=stt 37 [(4,bv false)] []
theorem few_ln_s (l:List Nod) (m:Nat) (hl:l.length≤12) (hm:m<l.length) (hf:smallB (l.getD m default)=false) (h:∀ k,k<m→smallB (l.getD k default)=true) (k:Nat) (hk:k<m):VT Tryz.prog (fnC Tryz.f10 [1,1,0,1,0,0]) (few_ln_I l m k) .normal (few_ln_I l m (k+1)):=by
 have q:=h k hk
 simp only [smallB,Bool.and_eq_true,decide_eq_true_eq] at q
 obtain ⟨q1,q2⟩:=q
 have oz1:=(show 0≤(↑k:Int) by omega)
 have oz2:=(map_at (nodC) (default) (l:=l) (i:=k) (by omega))
 exact VT.run (W:=[.r [] [],.br true,.r [] [.row (sO oz2),.op false,.op false,.op false,.row (sO oz2),.op false,.op false,.op false,.op false,.sel 1],.br false,.r [] [.n ((↑k:Int)+1)]]) (G:=[.any (rg [(15,14),(36,1)]),.weak 5 (i64 (↑(k+1):Int)),.sort]) (by kernel_rfl) (.c (show decide ((↑k:Int)<(↑(List.map nodC l).length:Int))=true by (simp;omega))<|.c oz1<|.c oz2<|.c oz1<|.c oz2<|.c (show (decide ((↑(List.map (row1 IntKind.i8) (l.getD k default).w).length:Int) > 1000) || decide ((↑(List.map (row1 IntKind.i32) (l.getD k default).b).length:Int) > 100))=false by (simp at *;omega))<|.c (i6n ((↑k:Int)+1) (by omega))<|.c (Weak.int (k:=.i64) (show (((↑k:Int)+1):Int)=((↑(k+1):Int)) from (by omega)))<|.n)
theorem few_ln_e (l:List Nod) (m:Nat) (hl:l.length≤12) (hm:m<l.length) (hf:smallB (l.getD m default)=false) (h:∀ k,k<m→smallB (l.getD k default)=true):VT Tryz.prog (fnC Tryz.f10 [1,1,0,1,0,0]) (few_ln_I l m (m)) (.ret) (few_ln_Z l m):=by
 simp only [smallB,Bool.and_eq_false_iff,decide_eq_false_iff_not] at hf
 have oz1:=(show 0≤(↑m:Int) by omega)
 have oz2:=(map_at (nodC) (default) (l:=l) (i:=m) hm)
 exact VT.run (W:=[.r [] [],.br true,.r [] [.row (sO oz2),.op false,.op false,.op false,.row (sO oz2),.op false,.op false,.op false,.op false,.sel 1],.br true,.r [] []]) (G:=[.any (rg [(0,1),(5,1),(15,4),(21,8),(36,1)]),.sort]) (by kernel_rfl) (.c (show decide ((↑m:Int)<(↑(List.map nodC l).length:Int))=true by (simp;omega))<|.c oz1<|.c oz2<|.c oz1<|.c oz2<|.c (show (decide ((↑(List.map (row1 IntKind.i8) (l.getD m default).w).length:Int) > 1000) || decide ((↑(List.map (row1 IntKind.i32) (l.getD m default).b).length:Int) > 100))=true by (simp at *;omega))<|.n)
theorem few_ln (l:List Nod) (m:Nat) (hl:l.length≤12) (hm:m<l.length) (hf:smallB (l.getD m default)=false) (h:∀ k,k<m→smallB (l.getD k default)=true):VT Tryz.prog (fnC Tryz.f10 [1,1,0,1,0]) (few_ln_I l m 0) (.ret) (few_ln_Z l m) :=
 VT.loop (fun k=>few_ln_I l m k) (m) (fun k hk=>few_ln_s l m hl hm hf h k hk) (few_ln_e l m hl hm hf h) (by intro h;cases h)
theorem few_a (l:List Nod) (T:Ten) (h:12<l.length∨300<T.d.length):VC Tryz.prog 10 ([.sl 19 (l.map nodC),ten .i8 T]) (bv false):=by
 exact VC.run (fn:=Tryz.f10) (W:=[.r [] [],.r [] [.op false,.op false,.op false,.op false,.sel 1],.br true,.r [] []]) Tryz.func10 (by kernel_rfl) (.c (show (decide ((↑(List.map nodC l).length:Int) > 12) || decide ((↑(List.map (row1 IntKind.i8) T.d).length:Int) > 300))=true by (simp;omega))<|.n)
theorem few_y (l:List Nod) (T:Ten) (hl:l.length≤12) (hd:T.d.length≤300) (h:∀ k,k<l.length→smallB (l.getD k default)=true):VC Tryz.prog 10 ([.sl 19 (l.map nodC),ten .i8 T]) (bv true):=by
 have oz2 := @few_ly (l) hl h
 exact VC.run (fn:=Tryz.f10) (W:=[.r [] [],.r [] [.op false,.op false,.op false,.op false,.sel 1],.br false,.r [] [],.code [.any [1,3,4,6,7,8,9,14],.drop [3],.weak 5 (i64 (↑0:Int)),.sort] (Exit.exit 0) (zO oz2),.r [] []]) Tryz.func10 (by kernel_rfl) (.c (show (decide ((↑(List.map nodC l).length:Int) > 12) || decide ((↑(List.map (row1 IntKind.i8) T.d).length:Int) > 300))=false by (simp;omega))<|.c (Weak.int (k:=.i64) (show ((0):Int)=((↑0:Int)) from (by omega)))<|.c oz2<|.n)
theorem few_n (l:List Nod) (T:Ten) (m:Nat) (hl:l.length≤12) (hd:T.d.length≤300) (hm:m<l.length) (hf:smallB (l.getD m default)=false) (h:∀ k,k<m→smallB (l.getD k default)=true):VC Tryz.prog 10 ([.sl 19 (l.map nodC),ten .i8 T]) (bv false):=by
 have oz2 := @few_ln (l) (m) hl hm hf h
 exact VC.run (fn:=Tryz.f10) (W:=[.r [] [],.r [] [.op false,.op false,.op false,.op false,.sel 1],.br false,.r [] [],.code [.any [1,3,4,6,7,8,9,14],.drop [3],.weak 5 (i64 (↑0:Int)),.sort] (Exit.ret) (zO oz2)]) Tryz.func10 (by kernel_rfl) (.c (show (decide ((↑(List.map nodC l).length:Int) > 12) || decide ((↑(List.map (row1 IntKind.i8) T.d).length:Int) > 300))=false by (simp;omega))<|.c (Weak.int (k:=.i64) (show ((0):Int)=((↑0:Int)) from (by omega)))<|.c oz2<|.n)
theorem few_v (l:List Nod) (T:Ten):VC Tryz.prog 10 [.sl 19 (l.map nodC),ten .i8 T] (bv (fewB l T.d.length)):=by
 unfold fewB
 by_cases h1:l.length≤12
 ·by_cases h2:T.d.length≤300
  ·rw [decide_eq_true h1,decide_eq_true h2]
   rcases all_or (fun k=>smallB (l.getD k default)) l.length with h | ⟨m,g1,g2,g3⟩
   ·rw [all_getD.2 h];exact few_y l T h1 h2 h
   ·have:l.all smallB=false:=by
     cases e:l.all smallB with
     | false=>rfl
     | true=>have:=all_getD.1 e m g1;exact absurd (this.symm.trans g2) (by simp)
    rw [this];exact few_n l T m h1 h2 g1 g2 g3
  ·rw [decide_eq_false h2,Bool.and_false,Bool.false_and];exact few_a l T (.inr (by omega))
 ·rw [decide_eq_false h1,Bool.false_and,Bool.false_and];exact few_a l T (.inl (by omega))
theorem few_facts {l:List Nod} {d:Nat} (h:fewB l d=true):l.length≤12∧d≤300∧∀ n∈l,n.w.length≤1000∧n.b.length≤100:=by
 simp only [fewB,Bool.and_eq_true,decide_eq_true_eq,List.all_eq_true,smallB] at h
 exact ⟨h.1.1,h.1.2,fun n hn=>h.2 n hn⟩
theorem few_wide {l:List Nod} {d:Nat} (h:fewB l d=true):∀ n∈l,n.w.length≤100000∧n.b.length≤100000:=fun n hn=>by
 have:=(few_facts h).2.2 n hn;omega
def usedE (l:List Nod):List Int:=if orderedB l=true then usI (usedL l) else []
theorem pused_v (l:List Nod) (hl:l.length≤1000):VC Tryz.prog 47 [.sl 19 (l.map nodC)] (ints .i64 (usedE l)):=by
 unfold usedE
 by_cases h0:l.length=0
 ·have:l=[]:=List.eq_nil_of_length_eq_zero h0
  subst this
  exact pused_n [] hl (.inl rfl)
 ·cases e:orderedB l with
  | true=>rw [if_pos rfl];exact pused_y l hl h0 e
  | false=>rw [if_neg (by simp)];exact pused_n l hl (.inr e)
def Shp.Rt (s:Shp):Prop:=0<elems s.h s.x s.c
abbrev zsh:Shp:=⟨0,0,0⟩
theorem zsh_ok:zsh.Ok:=by constructor<;>exact ⟨by decide,by decide⟩
theorem Shp.Rt.ok {s:Shp} (h:s.Rt):s.Ok:=by
 have:=elems_ok h
 exact ⟨⟨by omega,by omega⟩,⟨by omega,by omega⟩,⟨by omega,by omega⟩⟩
def Told (r:Shp×Int):Prop:=(r.2=0∧r.1.Rt)∨(r.2≠0∧r.1=zsh)
theorem slideE_told (t:Shp) (k s p o:Int):Told (slideE t k s p o):=by
 unfold slideE
 split
 ·exact .inr ⟨by dsimp only;decide,rfl⟩
 ·split
  ·exact .inr ⟨by assumption,rfl⟩
  ·split
   ·exact .inr ⟨by assumption,rfl⟩
   ·split
    ·exact .inr ⟨by dsimp only;decide,rfl⟩
    ·rename_i h;exact .inl ⟨rfl,Classical.not_not.1 h⟩
theorem convE_told (t:Shp) (n:Nod):Told (convE t n):=by
 have q:=slideE_told t n.nk n.ns n.np n.no
 unfold convE
 split
 ·exact .inr ⟨by assumption,rfl⟩
 ·split
  ·exact .inr ⟨by dsimp only;decide,rfl⟩
  ·rcases q with q | q
   ·exact .inl ⟨rfl,q.2⟩
   ·exact absurd q.1 (by assumption)
theorem depthE_told (t:Shp) (n:Nod):Told (depthE t n):=by
 have q:=slideE_told t n.nk n.ns n.np t.c
 unfold depthE
 split
 ·exact .inr ⟨by assumption,rfl⟩
 ·split
  ·exact .inr ⟨by dsimp only;decide,rfl⟩
  ·rcases q with q | q
   ·exact .inl ⟨rfl,q.2⟩
   ·exact absurd q.1 (by assumption)
theorem denseE_told (t:Shp) (n:Nod):Told (denseE t n):=by
 unfold denseE
 split
 ·exact .inr ⟨by dsimp only;decide,rfl⟩
 ·split
  ·exact .inr ⟨by dsimp only;decide,rfl⟩
  ·rename_i h _
   have:=elems_in 1 1 n.no
   exact .inl ⟨rfl,by unfold Shp.Rt;dsimp only;omega⟩
theorem aroundE_told (a:Shp) (p:Int):Told (aroundE a p):=by
 unfold aroundE
 split
 ·exact .inr ⟨by dsimp only;decide,rfl⟩
 ·split
  ·exact .inr ⟨by dsimp only;decide,rfl⟩
  ·have:=elems_in (a.h+2*p) (a.x+2*p) a.c
   exact .inl ⟨rfl,by unfold Shp.Rt;dsimp only;omega⟩
theorem flat_rt {n:Int} (h0:0<n) (h:n≤1024):0<elems 1 1 n:=by
 unfold elems;rw [if_pos (by omega)];omega
theorem shapeE_told (n:Nod) (a b:Shp):Told (shapeE n a b):=by
 unfold shapeE
 split
 ·exact convE_told a n
 ·split
  ·exact depthE_told a n
  ·split
   ·exact denseE_told a n
   ·split
    ·exact slideE_told a n.nk n.ns n.np a.c
    ·split
     ·exact .inr ⟨by dsimp only;decide,rfl⟩
     ·split
      ·exact .inr ⟨by dsimp only;decide,rfl⟩
      ·rename_i h
       have q:=elems_in a.h a.x a.c
       split
       ·exact (.inl ⟨rfl,show 0<elems 1 1 (elems a.h a.x a.c) from flat_rt (by omega) q.2⟩)
       ·split
        ·exact aroundE_told a n.np
        ·exact .inl ⟨rfl,by unfold Shp.Rt;dsimp only;omega⟩
theorem nextE_told (n:Nod) (L:List Shp):Told (nextE n L):=by
 unfold nextE
 split
 ·exact .inr ⟨by assumption,rfl⟩
 ·split
  ·exact shapeE_told _ _ _
  ·exact .inr ⟨by dsimp only;decide,rfl⟩
theorem Told.ok {r:Shp×Int} (h:Told r):r.1.Ok:=by
 rcases h with h | h
 ·exact h.2.ok
 ·rw [h.2];exact zsh_ok
structure SOK (l:List Nod) (a:Shp):Prop where
 i:a.Rt
 e:0<l.length
 f:l.length≤8
 k:∀ k,k<l.length→errL nextE l a k=0
def shapesB (l:List Nod) (a:Shp):Nat→Bool:=fun k=>errL nextE l a k==0
def shapesE (l:List Nod) (a:Shp):Int×Int :=
 if ¬ 0<elems a.h a.x a.c then (-1,5) else if l.length=0 then (-1,12) else if 8<l.length then (-1,4)
 else if firstBad (shapesB l a) l.length<l.length then (firstBad (shapesB l a) l.length,errL nextE l a (firstBad (shapesB l a) l.length)) else (l.length,0)
theorem shapesE_at {l:List Nod} {a:Shp} {m:Nat} (i:a.Rt) (e:0<l.length) (f:l.length≤8) (hm:m<l.length) (hf:errL nextE l a m≠0) (h:∀ k,k<m→errL nextE l a k=0):shapesE l a=((m:Int),errL nextE l a m):=by
 unfold Shp.Rt at i
 have:=firstBad_at (p:=shapesB l a) (m:=m) (by simpa [shapesB] using hf) (fun k hk=>by simpa [shapesB] using h k hk) hm
 unfold shapesE
 rw [if_neg (by omega),if_neg (by omega),if_neg (by omega),this,if_pos hm]
theorem SOK.cases (l:List Nod) (a:Shp):SOK l a∨¬ a.Rt∨l.length=0∨8<l.length∨(a.Rt∧0<l.length∧l.length≤8∧∃ m,m<l.length∧errL nextE l a m≠0∧∀ k,k<m→errL nextE l a k=0):=by
 by_cases i:a.Rt
 ·by_cases e:0<l.length
  ·by_cases f:l.length≤8
   ·rcases all_or (shapesB l a) l.length with h | ⟨m,h1,h2,h3⟩
    ·exact .inl ⟨i,e,f,fun k hk=>by simpa [shapesB] using h k hk⟩
    ·exact .inr (.inr (.inr (.inr ⟨i,e,f,m,h1,by simpa [shapesB] using h2,fun k hk=>by simpa [shapesB] using h3 k hk⟩)))
   ·exact .inr (.inr (.inr (.inl (by omega))))
  ·exact .inr (.inr (.inl (by omega)))
 ·exact .inr (.inl i)
theorem grow_ok {l:List Nod} {a:Shp} (i:a.Ok) (k:Nat):∀ s∈growL nextE l a k,s.Ok :=
 growL_all (n:=k) i (fun j _ _=>(nextE_told _ _).ok) k (Nat.le_refl _)
noncomputable def shapes_ly_I (l:List Nod) (a:Shp) (k:Nat):VS:=stt 51 [(0,.sl 19 (l.map nodC)),(7,.own 900),(26,.sl 19 (l.map nodC)),(27,i64 l.length),(28,i64 k)] [(900,.slc 24 3 ((growL nextE l a k).map shpC))]
noncomputable def shapes_ly_Z (l:List Nod) (a:Shp):VS:=shapes_ly_I l a (l.length)
theorem shapes_ly_s (l:List Nod) (a:Shp) (okl:∀ n∈l,n.Ok) (wl:∀ n∈l,n.w.length≤100000∧n.b.length≤100000) (i:a.Ok) (f8:l.length≤8) (h:∀ k,k<l.length→errL nextE l a k=0) (k:Nat) (hk:k<l.length):VT Tryz.prog (fnC Tryz.f40 [1,1,1,0,1,0,0]) (shapes_ly_I l a k) .normal (shapes_ly_I l a (k+1)):=by
 have q:=h k hk
 have q1:=growL_len nextE l a k
 have q2:=grow_ok (l:=l) i k
 have q3:=getD_in okl hk
 have q4:=getD_in wl hk
 obtain ⟨q5,q6⟩:=q4
 unfold errL at q
 have oz2:=(map_at (nodC) (default) (l:=l) (i:=k) hk)
 have oz3 := @next_v (l.getD k default) (growL nextE l a k) q3 q2 (by omega) q5 q6
 exact VT.run (W:=[.r [] [],.br true,.r [] [.row (sO oz2)],.r [] [.callr (rO oz3)],.r [] [],.br false,.r [] [],.r [] [.n ((↑k:Int)+1)]]) (G:=[.any (rg [(8,4),(29,12),(43,5)]),.drop [9,10,45],.ren 46 900,.weak 28 (i64 (↑(k+1):Int)),.blk 900 (Blk.slc 24 3 (List.map shpC (growL nextE l a (k+1)))),.sort]) (by kernel_rfl) (.c (decide_eq_true (p:=((↑k:Int)<(↑l.length:Int))) (by omega))<|.c (show 0≤(↑k:Int) by omega)<|.c oz2<|.c oz3<|.c (show ((nextE (l.getD k default) (growL nextE l a k)).snd != 0)=false by (simp at *;omega))<|.c (show ((List.map shpC (growL nextE l a k)).length+1)*24≤140737488355328 by (simp;omega))<|.c (show (List.map shpC (growL nextE l a k)).length+1≤9223372036854775807 by (simp;omega))<|.c (i6n ((↑k:Int)+1) (by omega))<|.c (Weak.int (k:=.i64) (show (((↑k:Int)+1):Int)=((↑(k+1):Int)) from (by omega)))<|.c (show BlkW (Blk.slc 24 3 (List.map shpC (growL nextE l a k)++[[i64 (nextE (l.getD k default) (growL nextE l a k)).fst.h,i64 (nextE (l.getD k default) (growL nextE l a k)).fst.x,i64 (nextE (l.getD k default) (growL nextE l a k)).fst.c]])) (Blk.slc 24 3 (List.map shpC (growL nextE l a (k+1)))) from (BlkW.rows (rows_to (shpC) (r:=List.map shpC (growL nextE l a k)++[[i64 (nextE (l.getD k default) (growL nextE l a k)).fst.h,i64 (nextE (l.getD k default) (growL nextE l a k)).fst.x,i64 (nextE (l.getD k default) (growL nextE l a k)).fst.c]]) (l:=growL nextE l a k++[Shp.mk (nextE (l.getD k default) (growL nextE l a k)).fst.h (nextE (l.getD k default) (growL nextE l a k)).fst.x (nextE (l.getD k default) (growL nextE l a k)).fst.c]) (m:=growL nextE l a (k+1)) (by first | (simp only [List.map_append,List.map_cons,List.map_nil,List.map_set,List.map_replicate,List.map_take,List.map_drop];done) | rfl | (simp only [List.map_append,List.map_cons,List.map_nil,List.map_set,List.map_replicate,List.map_take,List.map_drop];rfl) | (simp only [List.map_append,List.map_cons,List.map_nil,List.map_set,List.map_replicate,List.map_take,List.map_drop,shpC,ints];done)) (show (growL nextE l a k++[Shp.mk (nextE (l.getD k default) (growL nextE l a k)).fst.h (nextE (l.getD k default) (growL nextE l a k)).fst.x (nextE (l.getD k default) (growL nextE l a k)).fst.c])=(growL nextE l a (k+1)) from (by rfl)))))<|.n)
theorem shapes_ly_e (l:List Nod) (a:Shp) (okl:∀ n∈l,n.Ok) (wl:∀ n∈l,n.w.length≤100000∧n.b.length≤100000) (i:a.Ok) (f8:l.length≤8) (h:∀ k,k<l.length→errL nextE l a k=0):VT Tryz.prog (fnC Tryz.f40 [1,1,1,0,1,0,0]) (shapes_ly_I l a (l.length)) (.exit 1) (shapes_ly_Z l a):=by
 exact VT.run (W:=[.r [] [],.br false]) (G:=[.any [29],.sort]) (by kernel_rfl) (.c (decide_eq_false (p:=((↑l.length:Int)<(↑l.length:Int))) (by omega))<|.n)
theorem shapes_ly (l:List Nod) (a:Shp) (okl:∀ n∈l,n.Ok) (wl:∀ n∈l,n.w.length≤100000∧n.b.length≤100000) (i:a.Ok) (f8:l.length≤8) (h:∀ k,k<l.length→errL nextE l a k=0):VT Tryz.prog (fnC Tryz.f40 [1,1,1,0,1,0]) (shapes_ly_I l a 0) (.exit 1) (shapes_ly_Z l a) :=
 VT.loop (fun k=>shapes_ly_I l a k) (l.length) (fun k hk=>shapes_ly_s l a okl wl i f8 h k hk) (shapes_ly_e l a okl wl i f8 h) (by intro h;cases h)
theorem shapes_y (l:List Nod) (a:Shp) (okl:∀ n∈l,n.Ok) (wl:∀ n∈l,n.w.length≤100000∧n.b.length≤100000) (h:SOK l a):VC Tryz.prog 40 ([.sl 19 (l.map nodC),shp a]) (.tup [.sl 3 ((growL nextE l a l.length).map shpC),i64 l.length,i64 0]):=by
 have q1:=h.i
 have q2:=h.e
 have q3:=h.f
 have q4:=h.k
 have q5:=q1.ok
 unfold Shp.Rt at q1
 have oz0 := @sRight_v (a) q5
 have oz6 := @shapes_ly (l) (a) okl wl q5 q3 q4
 exact (VC.run (fn:=Tryz.f40) (W:=[.r [] [],.r [] [.callr (rO oz0)],.br false,.r [] [],.br false,.r [] [],.br false,.r [] [],.r [] [],.code [.any (rg [(1,1),(3,4),(12,14)]),.drop [3],.ren 25 900,.weak 27 (i64 (↑l.length:Int)),.weak 28 (i64 (↑0:Int)),.sort] (Exit.exit 1) (zO oz6),.r [] []]) (r:=AV.tup [AV.sl 3 (List.map shpC (growL nextE l a l.length)),i64 (↑(List.map nodC l).length:Int),i64 0]) Tryz.func40 (by kernel_rfl) (.c oz0<|.c (show (!decide (0<elems a.h a.x a.c))=false by (simp;omega))<|.c (show ((↑(List.map nodC l).length:Int)==0)=false by (simp only [decide_eq_true_eq,decide_eq_false_iff_not,beq_iff_eq,bne_iff_ne,ne_eq,beq_eq_false_iff_ne,bne_eq_false_iff_eq,Bool.not_eq_true',Bool.not_eq_false',Bool.not_eq_eq_eq_not,Bool.not_true,Bool.not_false,Classical.not_not,Int.not_lt,Int.not_le,Bool.and_eq_true,Bool.and_eq_false_iff,Bool.or_eq_true,Bool.or_eq_false_iff,Bool.and_true,Bool.true_and,Bool.and_false,Bool.false_and,Bool.or_false,Bool.false_or,eqNums,List.length_map,List.length_append,List.length_cons,List.length_nil,List.length_set,List.length_replicate,List.length_take,List.length_drop,List.length_range,Int.toNat_natCast,Nat.zero_add,List.map_eq_nil_iff];(first | done | with_reducible assumption | omega | contradiction)))<|.c (show decide ((↑(List.map nodC l).length:Int) > 8)=false by (simp;omega))<|.c (Weak.int (k:=.i64) (show (((↑(List.map nodC l).length:Int)):Int)=((↑l.length:Int)) from (by (simp;done))))<|.c (Weak.int (k:=.i64) (show ((0):Int)=((↑0:Int)) from (by omega)))<|.c oz6<|.n)).weak (WeakL.refl _) (Weak.tup (.cons (.refl _) (.cons (Weak.int (show (((↑(List.map nodC l).length:Int)):Int)=((↑l.length:Int)) from (by (simp;done)))) (.cons (.refl _) .nil))))
theorem nextE_c {n:Nod} {L:List Shp} (h:checkE n≠0):nextE n L=(⟨0,0,0⟩,checkE n):=if_pos h
theorem nextE_0 {n:Nod} {L:List Shp} (h:checkE n=0) (g:thereB n ((List.map shpC L).length:Int)=false):nextE n L=(⟨0,0,0⟩,8):=by
 rw [List.length_map] at g;unfold nextE;rw [if_neg (by simp [h]),if_neg (by simp [g])]
theorem nextE_6 {n:Nod} {L:List Shp} (h:checkE n=0) (g:thereB n ((List.map shpC L).length:Int)=true):nextE n L=shapeE n (L.getD n.na.toNat default) (L.getD (secN n).toNat default):=by
 rw [List.length_map] at g;unfold nextE;rw [if_neg (by simp [h]),if_pos g]
theorem nextE_ok {n:Nod} {L:List Shp} (q:(nextE n L).2=0):checkE n=0∧thereB n ((List.map shpC L).length:Int)=true∧nextE n L=shapeE n (L.getD n.na.toNat default) (L.getD (secN n).toNat default):=by
 by_cases h:checkE n=0
 ·cases g:thereB n ((List.map shpC L).length:Int) with
  | false=>rw [nextE_0 h g] at q;cases q
  | true=>exact ⟨h,rfl,nextE_6 h g⟩
 ·rw [nextE_c h] at q;exact absurd q h
theorem there_at {n:Nod} {L:List Shp} (okL:∀ r∈L,r.Ok) (h:thereB n ((List.map shpC L).length:Int)=true):(0≤n.na∧n.na<L.length∧n.na.toNat<L.length∧0≤secN n∧secN n<L.length∧(secN n).toNat<L.length)∧(L.getD n.na.toNat default).Ok∧(L.getD (secN n).toNat default).Ok:=by
 rw [List.length_map] at h
 have h:=there_iff.1 h
 exact ⟨⟨by omega,by omega,by omega,by omega,by omega,by omega⟩,getD_in okL (by omega),getD_in okL (by omega)⟩
noncomputable def rshapes_ly_I (l:List Nod) (a:Shp) (k:Nat):VS:=stt 72 [(0,.sl 19 (l.map nodC)),(7,.own 900),(8,i64 k)] [(900,.slc 24 3 ((growL nextE l a k).map shpC))]
noncomputable def rshapes_ly_Z (l:List Nod) (a:Shp):VS:=rshapes_ly_I l a (l.length)
theorem rshapes_ly_s (l:List Nod) (a:Shp) (okl:∀ n∈l,n.Ok) (wl:∀ n∈l,n.w.length≤100000∧n.b.length≤100000) (i:a.Ok) (f8:l.length≤8) (h:∀ k,k<l.length→errL nextE l a k=0) (k:Nat) (hk:k<l.length):VT Tryz.prog (fnC Tryz.f36 [1,1,1,1,1,0,1,0,0]) (rshapes_ly_I l a k) .normal (rshapes_ly_I l a (k+1)):=by
 have q:=h k hk
 have q1:=growL_len nextE l a k
 have q2:=grow_ok (l:=l) i k
 have q3:=getD_in okl hk
 have qz:=q3.kd
 have q4:=getD_in wl hk
 obtain ⟨q5,q6⟩:=q4
 have q8:(List.map shpC (growL nextE l a k)).length=(growL nextE l a k).length:=List.length_map _
 unfold errL at q
 obtain ⟨c1,c2,c3⟩:=nextE_ok q
 obtain ⟨c4,c5,c6⟩:=there_at q2 c2
 rw [c3] at q
 have oz2:=(map_at (nodC) (default) (l:=l) (i:=k) hk)
 have oz3 := @refCheck_v (l.getD k default) q5 q6 qz
 have oz5 := @refThere_v (l.getD k default) ((↑(List.map shpC (growL nextE l a k)).length:Int))
 have oz9:=(map_at (shpC) (default) (l:=growL nextE l a k) (i:=(l.getD k default).na.toNat) (by omega))
 have oz10 := @refSecond_v (l.getD k default)
 have oz13:=(map_at (shpC) (default) (l:=growL nextE l a k) (i:=(secN (l.getD k default)).toNat) (by omega))
 have oz14 := @refKshape_v (l.getD k default) ((growL nextE l a k).getD (l.getD k default).na.toNat default) ((growL nextE l a k).getD (secN (l.getD k default)).toNat default) c5 c6 q3
 exact VT.run (W:=[.r [] [],.br true,.r [] [.row (sO oz2)],.r [] [.callr (rO oz3)],.r [] [],.br false,.r [] [.callr (rO oz5)],.br false,.r [] [.row (sO oz9),.callr (rO oz10),.row (sO oz13),.callr (rO oz14)],.r [] [],.br false,.r [] [],.r [] [.n ((↑k:Int)+1)]]) (G:=[.any (rg [(9,4),(24,14),(40,5),(46,17),(65,4)]),.drop [9,11,67],.ren 68 900,.weak 8 (i64 (↑(k+1):Int)),.blk 900 (Blk.slc 24 3 (List.map shpC (growL nextE l a (k+1)))),.sort]) (by kernel_rfl) (.c (show decide ((↑k:Int)<(↑(List.map nodC l).length:Int))=true by (simp;omega))<|.c (show 0≤(↑k:Int) by omega)<|.c oz2<|.c oz3<|.c (show (checkE (l.getD k default) != 0)=false by (rw [c1];rfl))<|.c oz5<|.c (show (!thereB (l.getD k default) (↑(List.map shpC (growL nextE l a k)).length:Int))=false by (rw [c2];rfl))<|.c (show 0≤(l.getD k default).na by omega)<|.c (show (l.getD k default).na<(↑(List.map shpC (growL nextE l a k)).length:Int) by omega)<|.c oz9<|.c oz10<|.c (show 0≤secN (l.getD k default) by omega)<|.c (show secN (l.getD k default)<(↑(List.map shpC (growL nextE l a k)).length:Int) by omega)<|.c oz13<|.c oz14<|.c (show ((shapeE (l.getD k default) ((growL nextE l a k).getD (l.getD k default).na.toNat default) ((growL nextE l a k).getD (secN (l.getD k default)).toNat default)).snd != 0)=false by (rw [q];rfl))<|.c (show ((List.map shpC (growL nextE l a k)).length+1)*24≤140737488355328 by omega)<|.c (show (List.map shpC (growL nextE l a k)).length+1≤9223372036854775807 by omega)<|.c (i6n ((↑k:Int)+1) (by omega))<|.c (Weak.int (k:=.i64) (show (((↑k:Int)+1):Int)=((↑(k+1):Int)) from (by omega)))<|.c (show BlkW (Blk.slc 24 3 (List.map shpC (growL nextE l a k)++[[i64 (shapeE (l.getD k default) ((growL nextE l a k).getD (l.getD k default).na.toNat default) ((growL nextE l a k).getD (secN (l.getD k default)).toNat default)).fst.h,i64 (shapeE (l.getD k default) ((growL nextE l a k).getD (l.getD k default).na.toNat default) ((growL nextE l a k).getD (secN (l.getD k default)).toNat default)).fst.x,i64 (shapeE (l.getD k default) ((growL nextE l a k).getD (l.getD k default).na.toNat default) ((growL nextE l a k).getD (secN (l.getD k default)).toNat default)).fst.c]])) (Blk.slc 24 3 (List.map shpC (growL nextE l a (k+1)))) from (BlkW.rows (rows_to (shpC) (r:=List.map shpC (growL nextE l a k)++[[i64 (shapeE (l.getD k default) ((growL nextE l a k).getD (l.getD k default).na.toNat default) ((growL nextE l a k).getD (secN (l.getD k default)).toNat default)).fst.h,i64 (shapeE (l.getD k default) ((growL nextE l a k).getD (l.getD k default).na.toNat default) ((growL nextE l a k).getD (secN (l.getD k default)).toNat default)).fst.x,i64 (shapeE (l.getD k default) ((growL nextE l a k).getD (l.getD k default).na.toNat default) ((growL nextE l a k).getD (secN (l.getD k default)).toNat default)).fst.c]]) (l:=growL nextE l a k++[Shp.mk (shapeE (l.getD k default) ((growL nextE l a k).getD (l.getD k default).na.toNat default) ((growL nextE l a k).getD (secN (l.getD k default)).toNat default)).fst.h (shapeE (l.getD k default) ((growL nextE l a k).getD (l.getD k default).na.toNat default) ((growL nextE l a k).getD (secN (l.getD k default)).toNat default)).fst.x (shapeE (l.getD k default) ((growL nextE l a k).getD (l.getD k default).na.toNat default) ((growL nextE l a k).getD (secN (l.getD k default)).toNat default)).fst.c]) (m:=growL nextE l a (k+1)) (by first | (simp only [List.map_append,List.map_cons,List.map_nil,List.map_set,List.map_replicate,List.map_take,List.map_drop];done) | rfl | (simp only [List.map_append,List.map_cons,List.map_nil,List.map_set,List.map_replicate,List.map_take,List.map_drop];rfl) | (simp only [List.map_append,List.map_cons,List.map_nil,List.map_set,List.map_replicate,List.map_take,List.map_drop,shpC,ints];done)) (show (growL nextE l a k++[Shp.mk (shapeE (l.getD k default) ((growL nextE l a k).getD (l.getD k default).na.toNat default) ((growL nextE l a k).getD (secN (l.getD k default)).toNat default)).fst.h (shapeE (l.getD k default) ((growL nextE l a k).getD (l.getD k default).na.toNat default) ((growL nextE l a k).getD (secN (l.getD k default)).toNat default)).fst.x (shapeE (l.getD k default) ((growL nextE l a k).getD (l.getD k default).na.toNat default) ((growL nextE l a k).getD (secN (l.getD k default)).toNat default)).fst.c])=(growL nextE l a (k+1)) from (by (rw [growL,c3]))))))<|.n)
theorem rshapes_ly_e (l:List Nod) (a:Shp) (okl:∀ n∈l,n.Ok) (wl:∀ n∈l,n.w.length≤100000∧n.b.length≤100000) (i:a.Ok) (f8:l.length≤8) (h:∀ k,k<l.length→errL nextE l a k=0):VT Tryz.prog (fnC Tryz.f36 [1,1,1,1,1,0,1,0,0]) (rshapes_ly_I l a (l.length)) (.exit 0) (rshapes_ly_Z l a):=by
 exact VT.run (W:=[.r [] [],.br false]) (G:=[.any (rg [(24,4)]),.sort]) (by kernel_rfl) (.c (show decide ((↑l.length:Int)<(↑(List.map nodC l).length:Int))=false by (simp;done))<|.n)
theorem rshapes_ly (l:List Nod) (a:Shp) (okl:∀ n∈l,n.Ok) (wl:∀ n∈l,n.w.length≤100000∧n.b.length≤100000) (i:a.Ok) (f8:l.length≤8) (h:∀ k,k<l.length→errL nextE l a k=0):VT Tryz.prog (fnC Tryz.f36 [1,1,1,1,1,0,1,0]) (rshapes_ly_I l a 0) (.exit 0) (rshapes_ly_Z l a) :=
 VT.loop (fun k=>rshapes_ly_I l a k) (l.length) (fun k hk=>rshapes_ly_s l a okl wl i f8 h k hk) (rshapes_ly_e l a okl wl i f8 h) (by intro h;cases h)
noncomputable def rshapes_ln_I (l:List Nod) (a:Shp) (m:Nat) (k:Nat):VS:=stt 72 [(0,.sl 19 (l.map nodC)),(7,.own 900),(8,i64 k)] [(900,.slc 24 3 ((growL nextE l a k).map shpC))]
noncomputable def rshapes_ln_Z (l:List Nod) (a:Shp) (m:Nat):VS:=stt 72 [(4,nilv),(5,i64 m),(6,i64 (errL nextE l a m))] []
theorem rshapes_ln_s (l:List Nod) (a:Shp) (m:Nat) (okl:∀ n∈l,n.Ok) (wl:∀ n∈l,n.w.length≤100000∧n.b.length≤100000) (i:a.Ok) (f8:l.length≤8) (hm:m<l.length) (hf:errL nextE l a m≠0) (h:∀ k,k<m→errL nextE l a k=0) (k:Nat) (hk:k<m):VT Tryz.prog (fnC Tryz.f36 [1,1,1,1,1,0,1,0,0]) (rshapes_ln_I l a m k) .normal (rshapes_ln_I l a m (k+1)):=by
 have q:=h k hk
 have q1:=growL_len nextE l a k
 have q2:=grow_ok (l:=l) i k
 have q3:=getD_in okl (show k<l.length by omega)
 have qz:=q3.kd
 have q4:=getD_in wl (show k<l.length by omega)
 obtain ⟨q5,q6⟩:=q4
 have q8:(List.map shpC (growL nextE l a k)).length=(growL nextE l a k).length:=List.length_map _
 unfold errL at q
 obtain ⟨c1,c2,c3⟩:=nextE_ok q
 obtain ⟨c4,c5,c6⟩:=there_at q2 c2
 rw [c3] at q
 have oz2:=(map_at (nodC) (default) (l:=l) (i:=k) (by omega))
 have oz3 := @refCheck_v (l.getD k default) q5 q6 qz
 have oz5 := @refThere_v (l.getD k default) ((↑(List.map shpC (growL nextE l a k)).length:Int))
 have oz9:=(map_at (shpC) (default) (l:=growL nextE l a k) (i:=(l.getD k default).na.toNat) (by omega))
 have oz10 := @refSecond_v (l.getD k default)
 have oz13:=(map_at (shpC) (default) (l:=growL nextE l a k) (i:=(secN (l.getD k default)).toNat) (by omega))
 have oz14 := @refKshape_v (l.getD k default) ((growL nextE l a k).getD (l.getD k default).na.toNat default) ((growL nextE l a k).getD (secN (l.getD k default)).toNat default) c5 c6 q3
 exact VT.run (W:=[.r [] [],.br true,.r [] [.row (sO oz2)],.r [] [.callr (rO oz3)],.r [] [],.br false,.r [] [.callr (rO oz5)],.br false,.r [] [.row (sO oz9),.callr (rO oz10),.row (sO oz13),.callr (rO oz14)],.r [] [],.br false,.r [] [],.r [] [.n ((↑k:Int)+1)]]) (G:=[.any (rg [(9,4),(24,14),(40,5),(46,17),(65,4)]),.drop [9,11,67],.ren 68 900,.weak 8 (i64 (↑(k+1):Int)),.blk 900 (Blk.slc 24 3 (List.map shpC (growL nextE l a (k+1)))),.sort]) (by kernel_rfl) (.c (show decide ((↑k:Int)<(↑(List.map nodC l).length:Int))=true by (simp;omega))<|.c (show 0≤(↑k:Int) by omega)<|.c oz2<|.c oz3<|.c (show (checkE (l.getD k default) != 0)=false by (rw [c1];rfl))<|.c oz5<|.c (show (!thereB (l.getD k default) (↑(List.map shpC (growL nextE l a k)).length:Int))=false by (rw [c2];rfl))<|.c (show 0≤(l.getD k default).na by omega)<|.c (show (l.getD k default).na<(↑(List.map shpC (growL nextE l a k)).length:Int) by omega)<|.c oz9<|.c oz10<|.c (show 0≤secN (l.getD k default) by omega)<|.c (show secN (l.getD k default)<(↑(List.map shpC (growL nextE l a k)).length:Int) by omega)<|.c oz13<|.c oz14<|.c (show ((shapeE (l.getD k default) ((growL nextE l a k).getD (l.getD k default).na.toNat default) ((growL nextE l a k).getD (secN (l.getD k default)).toNat default)).snd != 0)=false by (rw [q];rfl))<|.c (show ((List.map shpC (growL nextE l a k)).length+1)*24≤140737488355328 by omega)<|.c (show (List.map shpC (growL nextE l a k)).length+1≤9223372036854775807 by omega)<|.c (i6n ((↑k:Int)+1) (by omega))<|.c (Weak.int (k:=.i64) (show (((↑k:Int)+1):Int)=((↑(k+1):Int)) from (by omega)))<|.c (show BlkW (Blk.slc 24 3 (List.map shpC (growL nextE l a k)++[[i64 (shapeE (l.getD k default) ((growL nextE l a k).getD (l.getD k default).na.toNat default) ((growL nextE l a k).getD (secN (l.getD k default)).toNat default)).fst.h,i64 (shapeE (l.getD k default) ((growL nextE l a k).getD (l.getD k default).na.toNat default) ((growL nextE l a k).getD (secN (l.getD k default)).toNat default)).fst.x,i64 (shapeE (l.getD k default) ((growL nextE l a k).getD (l.getD k default).na.toNat default) ((growL nextE l a k).getD (secN (l.getD k default)).toNat default)).fst.c]])) (Blk.slc 24 3 (List.map shpC (growL nextE l a (k+1)))) from (BlkW.rows (rows_to (shpC) (r:=List.map shpC (growL nextE l a k)++[[i64 (shapeE (l.getD k default) ((growL nextE l a k).getD (l.getD k default).na.toNat default) ((growL nextE l a k).getD (secN (l.getD k default)).toNat default)).fst.h,i64 (shapeE (l.getD k default) ((growL nextE l a k).getD (l.getD k default).na.toNat default) ((growL nextE l a k).getD (secN (l.getD k default)).toNat default)).fst.x,i64 (shapeE (l.getD k default) ((growL nextE l a k).getD (l.getD k default).na.toNat default) ((growL nextE l a k).getD (secN (l.getD k default)).toNat default)).fst.c]]) (l:=growL nextE l a k++[Shp.mk (shapeE (l.getD k default) ((growL nextE l a k).getD (l.getD k default).na.toNat default) ((growL nextE l a k).getD (secN (l.getD k default)).toNat default)).fst.h (shapeE (l.getD k default) ((growL nextE l a k).getD (l.getD k default).na.toNat default) ((growL nextE l a k).getD (secN (l.getD k default)).toNat default)).fst.x (shapeE (l.getD k default) ((growL nextE l a k).getD (l.getD k default).na.toNat default) ((growL nextE l a k).getD (secN (l.getD k default)).toNat default)).fst.c]) (m:=growL nextE l a (k+1)) (by first | (simp only [List.map_append,List.map_cons,List.map_nil,List.map_set,List.map_replicate,List.map_take,List.map_drop];done) | rfl | (simp only [List.map_append,List.map_cons,List.map_nil,List.map_set,List.map_replicate,List.map_take,List.map_drop];rfl) | (simp only [List.map_append,List.map_cons,List.map_nil,List.map_set,List.map_replicate,List.map_take,List.map_drop,shpC,ints];done)) (show (growL nextE l a k++[Shp.mk (shapeE (l.getD k default) ((growL nextE l a k).getD (l.getD k default).na.toNat default) ((growL nextE l a k).getD (secN (l.getD k default)).toNat default)).fst.h (shapeE (l.getD k default) ((growL nextE l a k).getD (l.getD k default).na.toNat default) ((growL nextE l a k).getD (secN (l.getD k default)).toNat default)).fst.x (shapeE (l.getD k default) ((growL nextE l a k).getD (l.getD k default).na.toNat default) ((growL nextE l a k).getD (secN (l.getD k default)).toNat default)).fst.c])=(growL nextE l a (k+1)) from (by (rw [growL,c3]))))))<|.n)
theorem rshapes_ln_e (l:List Nod) (a:Shp) (m:Nat) (okl:∀ n∈l,n.Ok) (wl:∀ n∈l,n.w.length≤100000∧n.b.length≤100000) (i:a.Ok) (f8:l.length≤8) (hm:m<l.length) (hf:errL nextE l a m≠0) (h:∀ k,k<m→errL nextE l a k=0):VT Tryz.prog (fnC Tryz.f36 [1,1,1,1,1,0,1,0,0]) (rshapes_ln_I l a m (m)) (.ret) (rshapes_ln_Z l a m):=by
 have q1:=growL_len nextE l a m
 have q2:=grow_ok (l:=l) i m
 have q3:=getD_in okl hm
 have qz:=q3.kd
 have q4:=getD_in wl hm
 obtain ⟨q5,q6⟩:=q4
 have q8:(List.map shpC (growL nextE l a m)).length=(growL nextE l a m).length:=List.length_map _
 have qa:=fun h=>there_at (n:=l.getD m default) q2 h
 have e0 := @nextE_c (l.getD m default) (growL nextE l a m)
 have e1 := @nextE_0 (l.getD m default) (growL nextE l a m)
 have e2 := @nextE_6 (l.getD m default) (growL nextE l a m)
 have q:errL nextE l a m=(nextE (l.getD m default) (growL nextE l a m)).2:=rfl
 unfold errL at hf
 have oz0:=(show decide ((↑m:Int)<(↑(List.map nodC l).length:Int))=true by (simp;omega))
 have oz1:=(show 0≤(↑m:Int) by omega)
 have oz2:=(map_at (nodC) (default) (l:=l) (i:=m) hm)
 have oz3 := @refCheck_v (l.getD m default) q5 q6 qz
 rcases bft (checkE (l.getD m default) != 0) with hc0 | hc0
 ·have gc0:¬checkE (l.getD m default)=0:=bdt hc0
  exact VT.run (W:=[.r [] [],.br true,.r [] [.row (sO oz2)],.r [] [.callr (rO oz3)],.r [] [],.br true,.r [] []]) (G:=[.any (rg [(0,1),(7,4),(24,4),(30,10)]),.drop [900,9],.weak 6 (i64 (errL nextE l a m)),.sort]) (by kernel_rfl) (.c oz0<|.c oz1<|.c oz2<|.c oz3<|.c hc0<|.c (Weak.int (k:=.i64) (show ((checkE (l.getD m default)):Int)=(errL nextE l a m) from (by (rw [q,e0 (by omega)]))))<|.n)
 ·have gc0:checkE (l.getD m default)=0:=bdf hc0
  have oz5 := @refThere_v (l.getD m default) ((↑(List.map shpC (growL nextE l a m)).length:Int))
  rcases bft (!thereB (l.getD m default) (↑(List.map shpC (growL nextE l a m)).length:Int)) with hc1 | hc1
  ·have gc1:thereB (l.getD m default) (↑(List.map shpC (growL nextE l a m)).length:Int)=false:=by first | exact hc1 | exact of_decide_eq_true hc1 | exact of_decide_eq_false hc1 | simpa [eqNums] using hc1 | (simp [eqNums] at hc1 ⊢;first | done | assumption | omega)
   exact VT.run (W:=[.r [] [],.br true,.r [] [.row (sO oz2)],.r [] [.callr (rO oz3)],.r [] [],.br false,.r [] [.callr (rO oz5)],.br true,.r [] []]) (G:=[.any (rg [(0,1),(7,4),(24,4),(30,8),(40,6)]),.drop [900,9],.weak 6 (i64 (errL nextE l a m)),.sort]) (by kernel_rfl) (.c oz0<|.c oz1<|.c oz2<|.c oz3<|.c hc0<|.c oz5<|.c hc1<|.c (Weak.int (k:=.i64) (show ((8):Int)=(errL nextE l a m) from (by (rw [q,e1 (by omega) (by simp_all)]))))<|.n)
  ·have gc1:thereB (l.getD m default) (↑(List.map shpC (growL nextE l a m)).length:Int)=true:=by first | exact hc1 | exact of_decide_eq_true hc1 | exact of_decide_eq_false hc1 | simpa [eqNums] using hc1 | (simp [eqNums] at hc1 ⊢;first | done | assumption | omega)
   have oz9:=(map_at (shpC) (default) (l:=growL nextE l a m) (i:=(l.getD m default).na.toNat) (by (have:=qa (by assumption);omega)))
   have oz10 := @refSecond_v (l.getD m default)
   have oz13:=(map_at (shpC) (default) (l:=growL nextE l a m) (i:=(secN (l.getD m default)).toNat) (by (have:=qa (by assumption);omega)))
   have oz14 := @refKshape_v (l.getD m default) ((growL nextE l a m).getD (l.getD m default).na.toNat default) ((growL nextE l a m).getD (secN (l.getD m default)).toNat default) (by (have:=qa (by assumption);exact this.2.1)) (by (have:=qa (by assumption);exact this.2.2)) q3
   have oz16:=(Weak.int (k:=.i64) (show (((shapeE (l.getD m default) ((growL nextE l a m).getD (l.getD m default).na.toNat default) ((growL nextE l a m).getD (secN (l.getD m default)).toNat default)).snd):Int)=(errL nextE l a m) from (by (rw [q,e2 (by omega) (by assumption)]))))
   exact VT.run (W:=[.r [] [],.br true,.r [] [.row (sO oz2)],.r [] [.callr (rO oz3)],.r [] [],.br false,.r [] [.callr (rO oz5)],.br false,.r [] [.row (sO oz9),.callr (rO oz10),.row (sO oz13),.callr (rO oz14)],.r [] [],.br true,.r [] []]) (G:=[.any (rg [(0,1),(7,6),(24,4),(30,8),(40,5),(46,19)]),.drop [900,9,11],.weak 6 (wO oz16),.sort]) (by kernel_rfl) (.c oz0<|.c oz1<|.c oz2<|.c oz3<|.c hc0<|.c oz5<|.c hc1<|.c (show 0≤(l.getD m default).na by (have:=qa (by assumption);omega))<|.c (show (l.getD m default).na<(↑(List.map shpC (growL nextE l a m)).length:Int) by (have:=qa (by assumption);omega))<|.c oz9<|.c oz10<|.c (show 0≤secN (l.getD m default) by (have:=qa (by assumption);omega))<|.c (show secN (l.getD m default)<(↑(List.map shpC (growL nextE l a m)).length:Int) by (have:=qa (by assumption);omega))<|.c oz13<|.c oz14<|.c (show ((shapeE (l.getD m default) ((growL nextE l a m).getD (l.getD m default).na.toNat default) ((growL nextE l a m).getD (secN (l.getD m default)).toNat default)).snd != 0)=true by (rw [e2 (by omega) (by assumption)] at hf;rw [bne_iff_ne];exact hf))<|.c oz16<|.n)
theorem rshapes_ln (l:List Nod) (a:Shp) (m:Nat) (okl:∀ n∈l,n.Ok) (wl:∀ n∈l,n.w.length≤100000∧n.b.length≤100000) (i:a.Ok) (f8:l.length≤8) (hm:m<l.length) (hf:errL nextE l a m≠0) (h:∀ k,k<m→errL nextE l a k=0):VT Tryz.prog (fnC Tryz.f36 [1,1,1,1,1,0,1,0]) (rshapes_ln_I l a m 0) (.ret) (rshapes_ln_Z l a m) :=
 VT.loop (fun k=>rshapes_ln_I l a m k) (m) (fun k hk=>rshapes_ln_s l a m okl wl i f8 hm hf h k hk) (rshapes_ln_e l a m okl wl i f8 hm hf h) (by intro h;cases h)
theorem rshapes_y (l:List Nod) (a:Shp) (okl:∀ n∈l,n.Ok) (wl:∀ n∈l,n.w.length≤100000∧n.b.length≤100000) (h:SOK l a):VC Tryz.prog 36 ([.sl 19 (l.map nodC),shp a]) (.tup [.sl 3 ((growL nextE l a l.length).map shpC),i64 l.length,i64 0]):=by
 have q1:=h.i
 have q2:=h.e
 have q3:=h.f
 have q4:=h.k
 have q5:=q1.ok
 obtain ⟨p1,p2,p3⟩:=id q5
 unfold Shp.Rt at q1
 have oz0 := @refElems_v (a.h) (a.x) (a.c) p1 p2 p3
 have oz5 := @rshapes_ly (l) (a) okl wl q5 q3 q4
 exact (VC.run (fn:=Tryz.f36) (W:=[.r [] [],.r [] [.callr (rO oz0)],.br false,.r [] [],.br false,.r [] [],.br false,.r [] [],.r [] [],.code [.any (rg [(1,1),(3,4),(13,11)]),.drop [3],.ren 23 900,.weak 8 (i64 (↑0:Int)),.sort] (Exit.exit 0) (zO oz5),.r [] []]) (r:=AV.tup [AV.sl 3 (List.map shpC (growL nextE l a l.length)),i64 (↑(List.map nodC l).length:Int),i64 0]) Tryz.func36 (by kernel_rfl) (.c oz0<|.c (show (elems a.h a.x a.c==0)=false by (refine decide_eq_false ?_;omega))<|.c (show ((↑(List.map nodC l).length:Int)==0)=false by (simp only [decide_eq_true_eq,decide_eq_false_iff_not,beq_iff_eq,bne_iff_ne,ne_eq,beq_eq_false_iff_ne,bne_eq_false_iff_eq,Bool.not_eq_true',Bool.not_eq_false',Bool.not_eq_eq_eq_not,Bool.not_true,Bool.not_false,Classical.not_not,Int.not_lt,Int.not_le,Bool.and_eq_true,Bool.and_eq_false_iff,Bool.or_eq_true,Bool.or_eq_false_iff,Bool.and_true,Bool.true_and,Bool.and_false,Bool.false_and,Bool.or_false,Bool.false_or,eqNums,List.length_map,List.length_append,List.length_cons,List.length_nil,List.length_set,List.length_replicate,List.length_take,List.length_drop,List.length_range,Int.toNat_natCast,Nat.zero_add,List.map_eq_nil_iff];(first | done | with_reducible assumption | omega | contradiction)))<|.c (show decide ((↑(List.map nodC l).length:Int) > 8)=false by (simp;omega))<|.c (Weak.int (k:=.i64) (show ((0):Int)=((↑0:Int)) from (by omega)))<|.c oz5<|.n)).weak (WeakL.refl _) (Weak.tup (.cons (.refl _) (.cons (Weak.int (show (((↑(List.map nodC l).length:Int)):Int)=((↑l.length:Int)) from (by (simp;done)))) (.cons (.refl _) .nil))))
theorem rshapes_a (l:List Nod) (a:Shp) (i:a.Ok) (hl:l.length≤1000) (h:¬ 0<elems a.h a.x a.c∨l.length=0∨8<l.length):VC Tryz.prog 36 ([.sl 19 (l.map nodC),shp a]) (.tup [nilv,i64 (shapesE l a).1,i64 (shapesE l a).2]):=by
 have q:=elems_in a.h a.x a.c
 obtain ⟨p1,p2,p3⟩:=id i
 have oz0 := @refElems_v (a.h) (a.x) (a.c) p1 p2 p3
 rcases bft (elems a.h a.x a.c==0) with hc0 | hc0
 ·have gc0:elems a.h a.x a.c=0:=bet hc0
  exact (VC.run (fn:=Tryz.f36) (W:=[.r [] [],.r [] [.callr (rO oz0)],.br true,.r [] []]) (r:=AV.tup [AV.lit (Value.slice none 0 0),i64 (-1),i64 5]) Tryz.func36 (by kernel_rfl) (.c oz0<|.c hc0<|.n)).weak (WeakL.refl _) (Weak.tup (.cons (.refl _) (.cons (Weak.int (show ((-1):Int)=((shapesE l a).fst) from (by (unfold shapesE;(try simp only [List.length_map] at *);(repeat first | rw [if_pos (by omega)] | rw [if_neg (by omega)]))))) (.cons (Weak.int (show ((5):Int)=((shapesE l a).snd) from (by (unfold shapesE;(try simp only [List.length_map] at *);(repeat first | rw [if_pos (by omega)] | rw [if_neg (by omega)]))))) .nil))))
 ·have gc0:¬elems a.h a.x a.c=0:=bef hc0
  rcases bft ((↑(List.map nodC l).length:Int)==0) with hc1 | hc1
  ·have gc1:(↑(List.map nodC l).length:Int)=0:=bet hc1
   exact (VC.run (fn:=Tryz.f36) (W:=[.r [] [],.r [] [.callr (rO oz0)],.br false,.r [] [],.br true,.r [] []]) (r:=AV.tup [AV.lit (Value.slice none 0 0),i64 (-1),i64 12]) Tryz.func36 (by kernel_rfl) (.c oz0<|.c hc0<|.c hc1<|.n)).weak (WeakL.refl _) (Weak.tup (.cons (.refl _) (.cons (Weak.int (show ((-1):Int)=((shapesE l a).fst) from (by (unfold shapesE;(try simp only [List.length_map] at *);(repeat first | rw [if_pos (by omega)] | rw [if_neg (by omega)]))))) (.cons (Weak.int (show ((12):Int)=((shapesE l a).snd) from (by (unfold shapesE;(try simp only [List.length_map] at *);(repeat first | rw [if_pos (by omega)] | rw [if_neg (by omega)]))))) .nil))))
  ·have gc1:¬(↑(List.map nodC l).length:Int)=0:=bef hc1
   exact (VC.run (fn:=Tryz.f36) (W:=[.r [] [],.r [] [.callr (rO oz0)],.br false,.r [] [],.br false,.r [] [],.br true,.r [] []]) (r:=AV.tup [AV.lit (Value.slice none 0 0),i64 (-1),i64 4]) Tryz.func36 (by kernel_rfl) (.c oz0<|.c hc0<|.c hc1<|.c (show decide ((↑(List.map nodC l).length:Int) > 8)=true by (simp only [decide_eq_true_eq,decide_eq_false_iff_not,beq_iff_eq,bne_iff_ne,ne_eq,beq_eq_false_iff_ne,bne_eq_false_iff_eq,Bool.not_eq_true',Bool.not_eq_false',Bool.not_eq_eq_eq_not,Bool.not_true,Bool.not_false,Classical.not_not,Int.not_lt,Int.not_le,Bool.and_eq_true,Bool.and_eq_false_iff,Bool.or_eq_true,Bool.or_eq_false_iff,Bool.and_true,Bool.true_and,Bool.and_false,Bool.false_and,Bool.or_false,Bool.false_or,eqNums,List.length_map,List.length_append,List.length_cons,List.length_nil,List.length_set,List.length_replicate,List.length_take,List.length_drop,List.length_range,Int.toNat_natCast,Nat.zero_add,List.map_eq_nil_iff] at *;(first | done | with_reducible assumption | omega | contradiction)))<|.n)).weak (WeakL.refl _) (Weak.tup (.cons (.refl _) (.cons (Weak.int (show ((-1):Int)=((shapesE l a).fst) from (by (unfold shapesE;(try simp only [List.length_map] at *);(repeat first | rw [if_pos (by omega)] | rw [if_neg (by omega)]))))) (.cons (Weak.int (show ((4):Int)=((shapesE l a).snd) from (by (unfold shapesE;(try simp only [List.length_map] at *);(repeat first | rw [if_pos (by omega)] | rw [if_neg (by omega)]))))) .nil))))
theorem rshapes_m (l:List Nod) (a:Shp) (m:Nat) (okl:∀ n∈l,n.Ok) (wl:∀ n∈l,n.w.length≤100000∧n.b.length≤100000) (i:0<elems a.h a.x a.c) (f8:l.length≤8) (hm:m<l.length) (hf:errL nextE l a m≠0) (h:∀ k,k<m→errL nextE l a k=0):VC Tryz.prog 36 ([.sl 19 (l.map nodC),shp a]) (.tup [nilv,i64 m,i64 (errL nextE l a m)]):=by
 have q:=Shp.Rt.ok i
 obtain ⟨p1,p2,p3⟩:=id q
 have oz0 := @refElems_v (a.h) (a.x) (a.c) p1 p2 p3
 have oz5 := @rshapes_ln (l) (a) (m) okl wl q f8 hm hf h
 exact VC.run (fn:=Tryz.f36) (W:=[.r [] [],.r [] [.callr (rO oz0)],.br false,.r [] [],.br false,.r [] [],.br false,.r [] [],.r [] [],.code [.any (rg [(1,1),(3,4),(13,11)]),.drop [3],.ren 23 900,.weak 8 (i64 (↑0:Int)),.sort] (Exit.ret) (zO oz5)]) Tryz.func36 (by kernel_rfl) (.c oz0<|.c (show (elems a.h a.x a.c==0)=false by (refine decide_eq_false ?_;omega))<|.c (show ((↑(List.map nodC l).length:Int)==0)=false by (simp only [decide_eq_true_eq,decide_eq_false_iff_not,beq_iff_eq,bne_iff_ne,ne_eq,beq_eq_false_iff_ne,bne_eq_false_iff_eq,Bool.not_eq_true',Bool.not_eq_false',Bool.not_eq_eq_eq_not,Bool.not_true,Bool.not_false,Classical.not_not,Int.not_lt,Int.not_le,Bool.and_eq_true,Bool.and_eq_false_iff,Bool.or_eq_true,Bool.or_eq_false_iff,Bool.and_true,Bool.true_and,Bool.and_false,Bool.false_and,Bool.or_false,Bool.false_or,eqNums,List.length_map,List.length_append,List.length_cons,List.length_nil,List.length_set,List.length_replicate,List.length_take,List.length_drop,List.length_range,Int.toNat_natCast,Nat.zero_add,List.map_eq_nil_iff];(first | done | with_reducible assumption | omega | contradiction)))<|.c (show decide ((↑(List.map nodC l).length:Int) > 8)=false by (simp;omega))<|.c (Weak.int (k:=.i64) (show ((0):Int)=((↑0:Int)) from (by omega)))<|.c oz5<|.n)
theorem rshapes_n (l:List Nod) (a:Shp) (okl:∀ n∈l,n.Ok) (wl:∀ n∈l,n.w.length≤100000∧n.b.length≤100000) (i:a.Ok) (hl:l.length≤1000) (h:¬ SOK l a):VC Tryz.prog 36 [.sl 19 (l.map nodC),shp a] (.tup [nilv,i64 (shapesE l a).1,i64 (shapesE l a).2]):=by
 rcases SOK.cases l a with q | q | q | q | ⟨i',e,f,m,h1,h2,h3⟩
 ·exact absurd q h
 ·exact rshapes_a l a i hl (.inl q)
 ·exact rshapes_a l a i hl (.inr (.inl q))
 ·exact rshapes_a l a i hl (.inr (.inr q))
 ·rw [shapesE_at i' e f h1 h2 h3];exact rshapes_m l a m okl wl i' f h1 h2 h3
theorem padK_mem {l:List Nod} (o:orderedB l=true) {p:Nod→Prop} (h:∀ n∈l,p n) (ht:∀ a c,p a→p c→fitsN a c=true→p (tookN a c)) (k:Nat) (hk:k≤l.length):∀ n∈padK l k,p n:=by
 intro n hn
 obtain ⟨i,hi,rfl⟩:=List.mem_iff_getElem.1 hn
 rw [padK_len] at hi
 have e:(padK l k)[i]'(by rw [padK_len];exact hi)=(padK l k).getD i default:=by rw [List.getD_eq_getElem?_getD,List.getElem?_eq_getElem (by rw [padK_len];exact hi)];rfl
 rw [e,padK_get o k hk i hi]
 split
 ·unfold padN
  split
  ·rename_i q
   have oi:=(ord_iff.1 o) i hi
   exact ht _ _ (getD_in h (by omega)) (getD_in h hi) q.2
  ·exact getD_in h hi
 ·exact getD_in h hi
theorem Nod.Ok.thr {l:List Nod} (o:orderedB l=true) (hl:l.length≤1000) {i:Nat} (hi:i<l.length) (h:(l.getD i default).Ok):(thrN (thrK l i) (l.getD i default)).Ok:=by
 obtain ⟨a,b,c⟩:=thrN_le o hi
 have oi:=(ord_iff.1 o) i hi
 refine (OkN.ren h.n (pastV (thrK l i) (l.getD i default).na) (if (l.getD i default).kd=6 then pastV (thrK l i) (l.getD i default).nb else (l.getD i default).nb) (by
  by_cases h6:(l.getD i default).kd=6
  ·exact .inl h6
  ·exact .inr (if_neg h6))).ok ?_ fun h6=>?_
 ·show In64 (pastV (thrK l i) (l.getD i default).na)
  have:0≤pastV (thrK l i) (l.getD i default).na∧pastV (thrK l i) (l.getD i default).na≤(l.getD i default).na:=a
  unfold In64;omega
 ·have q:=b h6
  have q2:=oi.2.2 h6
  have:(thrN (thrK l i) (l.getD i default)).nb≤1000∧0≤(thrN (thrK l i) (l.getD i default)).nb:=by omega
  show In64 (thrN (thrK l i) (l.getD i default)).nb
  unfold In64;omega
theorem thrK_ok {l:List Nod} (o:orderedB l=true) (hl:l.length≤1000) (h:∀ n∈l,n.Ok) (wl:∀ n∈l,n.w.length≤100000∧n.b.length≤100000) (k:Nat) (hk:k≤l.length):(∀ n∈thrK l k,n.Ok)∧∀ n∈thrK l k,n.w.length≤100000∧n.b.length≤100000:=by
 have key:∀ n∈thrK l k,n.Ok∧n.w.length≤100000∧n.b.length≤100000:=by
  intro n hn
  obtain ⟨i,hi,rfl⟩:=List.mem_iff_getElem.1 hn
  rw [thrK_len] at hi
  have e:(thrK l k)[i]'(by rw [thrK_len];exact hi)=(thrK l k).getD i default:=by rw [List.getD_eq_getElem?_getD,List.getElem?_eq_getElem (by rw [thrK_len];exact hi)];rfl
  rw [e,thrK_get k hk i hi]
  split
  ·exact ⟨Nod.Ok.thr o hl hi (getD_in h hi),(getD_in wl hi)⟩
  ·exact ⟨getD_in h hi,getD_in wl hi⟩
 exact ⟨fun n hn=>(key n hn).1,fun n hn=>(key n hn).2⟩
structure CvOk (T:Ten) (n:Nod):Prop where
 ok:T.Ok
 okn:n.Ok
 r:tenRight T=true
 e:(convE ⟨T.h,T.x,T.c⟩ n).2=0
theorem convE_ok {t:Shp} {n:Nod} (h:(convE t n).2=0):(slideE t n.nk n.ns n.np n.no).2=0∧(n.w.length:Int)=n.no*n.nk*n.nk*t.c∧n.w.length≤16384∧(n.b.length:Int)=n.no∧(convE t n).1=(slideE t n.nk n.ns n.np n.no).1:=by
 unfold convE at h ⊢
 split at h
 ·rename_i h1;exact absurd h h1
 ·split at h
  ·simp at h
  ·rename_i h1 h2
   rw [if_neg h1,if_neg h2]
   exact ⟨by omega,by omega,by omega,by omega,rfl⟩
structure CvN (T:Ten) (n:Nod):Prop where
 h1:1≤T.h
 h16:T.h≤16
 x1:1≤T.x
 x16:T.x≤16
 c1:1≤T.c
 k1:1≤n.nk
 k5:n.nk≤5
 s1:1≤n.ns
 s4:n.ns≤4
 p0:0≤n.np
 p4:n.np≤4
 o1:1≤n.no
 o2:n.no≤1024
 wl:(n.w.length:Int)=n.no*n.nk*n.nk*T.c
 w2:n.w.length≤16384
 bl:(n.b.length:Int)=n.no
 dl:(T.d.length:Int)=T.h*T.x*T.c
 d2:T.d.length≤1024
 sh:(convE ⟨T.h,T.x,T.c⟩ n).1.h=(T.h+2*n.np-n.nk) / n.ns+1
 sx:(convE ⟨T.h,T.x,T.c⟩ n).1.x=(T.x+2*n.np-n.nk) / n.ns+1
 sc:(convE ⟨T.h,T.x,T.c⟩ n).1.c=n.no
 he:1≤(convE ⟨T.h,T.x,T.c⟩ n).1.h∧(convE ⟨T.h,T.x,T.c⟩ n).1.h≤16
 xe:1≤(convE ⟨T.h,T.x,T.c⟩ n).1.x∧(convE ⟨T.h,T.x,T.c⟩ n).1.x≤16
 el:(convE ⟨T.h,T.x,T.c⟩ n).1.h*(convE ⟨T.h,T.x,T.c⟩ n).1.x*n.no≤1024
 en:elems (convE ⟨T.h,T.x,T.c⟩ n).1.h (convE ⟨T.h,T.x,T.c⟩ n).1.x (convE ⟨T.h,T.x,T.c⟩ n).1.c=(convE ⟨T.h,T.x,T.c⟩ n).1.h*(convE ⟨T.h,T.x,T.c⟩ n).1.x*n.no
theorem CvOk.n {T:Ten} {n:Nod} (h:CvOk T n):CvN T n:=by
 obtain ⟨ok,okn,r,e⟩:=h
 obtain ⟨e1,e2,e3,e4,e5⟩:=convE_ok e
 obtain ⟨a1,a2,a3,a4,a5,a6,a7,a8,a9,a10,a11,a12⟩:=slideE_ok e1
 have c:=elems_ok a12
 unfold tenRight at r
 rw [Bool.and_eq_true,decide_eq_true_eq,decide_eq_true_eq] at r
 have b':=elems_ok r.1
 have e5':(convE ⟨T.h,T.x,T.c⟩ n).1=⟨(T.h+2*n.np-n.nk) / n.ns+1,(T.x+2*n.np-n.nk) / n.ns+1,n.no⟩:=e5.trans a11
 have e2':(n.w.length:Int)=n.no*n.nk*n.nk*T.c:=e2
 clear e5 a11 e2 a9 a10
 have c':1≤(T.h+2*n.np-n.nk) / n.ns+1∧(T.h+2*n.np-n.nk) / n.ns+1≤16∧1≤(T.x+2*n.np-n.nk) / n.ns+1∧(T.x+2*n.np-n.nk) / n.ns+1≤16∧1≤n.no∧n.no≤1024∧((T.h+2*n.np-n.nk) / n.ns+1)*((T.x+2*n.np-n.nk) / n.ns+1)*n.no≤1024 ∧
  elems ((T.h+2*n.np-n.nk) / n.ns+1) ((T.x+2*n.np-n.nk) / n.ns+1) n.no=((T.h+2*n.np-n.nk) / n.ns+1)*((T.x+2*n.np-n.nk) / n.ns+1)*n.no:=c
 clear c
 refine ⟨by omega,by omega,by omega,by omega,by omega,by omega,by omega,by omega,by omega,by omega,by omega,by omega,by omega,e2',e3,e4,by omega,by omega,by rw [e5'],by rw [e5'],by rw [e5'],?_,?_,?_,?_⟩<;>rw [e5']<;>simp only<;>omega
theorem wat {T:Ten} {n:Nod} (h:CvN T n) {o i:Int} (o0:0≤o) (o1:o<n.no) (i0:0≤i) (i1:i<n.nk) :
  (0≤o*n.nk∧o*n.nk≤16384)∧(0≤(o*n.nk+i)*n.nk∧(o*n.nk+i)*n.nk≤16384)∧0≤(o*n.nk+i)*n.nk*T.c∧(o*n.nk+i)*n.nk*T.c+n.nk*T.c≤n.w.length:=by
 obtain ⟨h1,h16,x1,x16,c1,k1,k5,s1,s4,p0,p4,n1,n2,wl,w2,bl,dl,d2,sh,sx,sc,he,xe,el,en⟩:=h
 have a:=idx_bd (a:=o) (m:=n.no) (b:=i) (n:=n.nk) o0 o1 i0 i1
 have a0:0≤o*n.nk:=Int.mul_nonneg o0 (by omega)
 have b:=idx_bd (a:=o*n.nk+i) (m:=n.no*n.nk) (b:=n.nk-1) (n:=n.nk) (by omega) (by omega) (by omega) (by omega)
 have b0:0≤(o*n.nk+i)*n.nk:=Int.mul_nonneg (by omega) (by omega)
 have c:((o*n.nk+i)*n.nk+n.nk)*T.c≤n.no*n.nk*n.nk*T.c:=Int.mul_le_mul_of_nonneg_right (by omega) (by omega)
 have c0:0≤(o*n.nk+i)*n.nk*T.c:=Int.mul_nonneg b0 (by omega)
 have d:=mul_bd (a:=n.no) (A:=1024) (b:=n.nk) (B:=5) (by omega) (by omega) (by omega) (by omega)
 have e:n.no*n.nk*n.nk*1≤n.no*n.nk*n.nk*T.c:=Int.mul_le_mul_of_nonneg_left (by omega) (Int.mul_nonneg (by omega) (by omega))
 have g:n.no*n.nk*1≤n.no*n.nk*n.nk:=Int.mul_le_mul_of_nonneg_left (by omega) (by omega)
 rw [Int.add_mul] at c
 omega
theorem dat {T:Ten} {n:Nod} (h:CvN T n) {y:Int} (y0:0≤y) (y1:y<T.h):0≤y*T.x∧(y*T.x+T.x)*T.c≤T.d.length:=by
 obtain ⟨h1,h16,x1,x16,c1,k1,k5,s1,s4,p0,p4,n1,n2,wl,w2,bl,dl,d2,sh,sx,sc,he,xe,el,en⟩:=h
 have a:=idx_bd (a:=y) (m:=T.h) (b:=T.x-1) (n:=T.x) y0 y1 (by omega) (by omega)
 have a0:0≤y*T.x:=Int.mul_nonneg y0 (by omega)
 have c:(y*T.x+T.x)*T.c≤T.h*T.x*T.c:=Int.mul_le_mul_of_nonneg_right (by omega) (by omega)
 omega
def sumAcc (T:Ten) (n:Nod) (h w o:Int):Nat→Int
 | 0=>gt n.b o
 | i+1=>if 0≤h*n.ns+(i:Int)-n.np∧h*n.ns+(i:Int)-n.np<T.h then IntKind.i32.wrap (sumAcc T n h w o i+rowAcc T n ((o*n.nk+(i:Int))*n.nk*T.c) (h*n.ns+(i:Int)-n.np) (w*n.ns-n.np) n.nk.toNat) else sumAcc T n h w o i
abbrev cvS (T:Ten) (n:Nod) (h w o:Int):Int:=sumAcc T n h w o n.nk.toNat
def outL (T:Ten) (n:Nod):Nat→List Int
 | 0=>[]
 | i+1=>outL T n i++(List.range n.no.toNat).map fun (o:Nat)=>cvS T n ((i:Int) / (convE ⟨T.h,T.x,T.c⟩ n).1.x) ((i:Int) % (convE ⟨T.h,T.x,T.c⟩ n).1.x) (o:Int)
def convOf (T:Ten) (n:Nod):Ten×Int:=if tenRight T=false then (⟨0,0,0,[]⟩,5) else if (convE ⟨T.h,T.x,T.c⟩ n).2≠0 then (⟨0,0,0,[]⟩,(convE ⟨T.h,T.x,T.c⟩ n).2) else (⟨(convE ⟨T.h,T.x,T.c⟩ n).1.h,(convE ⟨T.h,T.x,T.c⟩ n).1.x,(convE ⟨T.h,T.x,T.c⟩ n).1.c,outL T n ((convE ⟨T.h,T.x,T.c⟩ n).1.h*(convE ⟨T.h,T.x,T.c⟩ n).1.x).toNat⟩,0)
theorem ifn_lt {p:Prop} [Decidable p] {a k:Nat} (h:k<if p then a else 0):p∧k<a:=by
 by_cases hp:p
 ·rw [if_pos hp] at h;exact ⟨hp,h⟩
 ·rw [if_neg hp] at h;omega
def accN (v:Int) (f:Nat→Int):Nat→Int
 | 0=>v
 | k+1=>accN v f k+f k
theorem accN_eq (v:Int) (f:Nat→Int):∀ k,accN v f k=v+sumN f k
 | 0=>by simp [accN,sumN]
 | k+1=>by rw [accN,sumN,accN_eq v f k];omega
theorem get_v (T:Ten) (h w c:Int) (h0:0≤h*T.x) (h1:h*T.x≤1024) (w0:0≤w) (w1:w≤1024) (g0:0≤(h*T.x+w)*T.c) (c0:0≤c) (g1:(h*T.x+w)*T.c+c<T.d.length) (dl:T.d.length≤1024):VC Tryz.prog 193 ([ten .i8 T,i64 h,i64 w,i64 c]) (i8 (T.d.getD ((h*T.x+w)*T.c+c).toNat 0)):=by
 have oz5:=(map_at (row1 IntKind.i8) (0) (l:=T.d) (i:=((h*T.x+w)*T.c+c).toNat) (by omega))
 exact VC.run (fn:=Tryz.f193) (W:=[.r [] [],.r [] [.n (h*T.x),.n (h*T.x+w),.n ((h*T.x+w)*T.c),.n ((h*T.x+w)*T.c+c),.row (sO oz5)]]) Tryz.func193 (by kernel_rfl) (.c (i6n (h*T.x) (by omega))<|.c (i6n (h*T.x+w) (by omega))<|.c (i6n ((h*T.x+w)*T.c) (by omega))<|.c (i6n ((h*T.x+w)*T.c+c) (by omega))<|.c (show 0≤(h*T.x+w)*T.c+c by omega)<|.c oz5<|.n)
abbrev inT (T:Ten) (y x:Int):Prop:=0≤y∧y<T.h∧0≤x∧x<T.x
noncomputable def rcSum_c_I (T:Ten) (n:Nod) (h w o i j y x v:Int) (k:Nat):VS:=stt 118 [(2,i64 h),(3,i64 w),(4,i64 o),(5,.ptr 5 0 0),(6,.ptr 6 0 0),(11,i64 (accN v (cterm T n (((o*n.nk+i)*n.nk+j)*T.c) ((y*T.x+x)*T.c)) k)),(12,i64 i),(13,i64 j),(14,i64 y),(15,i64 x),(16,i64 k)] [(5,.var [i64 T.h,i64 T.x,i64 T.c,ints .i8 T.d]),(6,.var (nodC n))]
noncomputable def rcSum_c_Z (T:Ten) (n:Nod) (h w o i j y x v:Int):VS:=rcSum_c_I T n h w o i j y x v (if inT T y x then T.c.toNat else 0)
theorem rcSum_c_s (T:Ten) (n:Nod) (h w o i j y x v:Int) (ok:CvOk T n) (o0:0≤o) (o1:o<n.no) (i0:0≤i) (i1:i<n.nk) (j0:0≤j) (j1:j<n.nk) (v0 : -1000000000000≤v) (v1:v≤1000000000000) (k:Nat) (hk:k<if inT T y x then T.c.toNat else 0):VT Tryz.prog (fnC Tryz.f196 [1,1,0,1,0,0,1,0,0,1,0,0,1,0,0,1,1,0,0]) (rcSum_c_I T n h w o i j y x v k) .normal (rcSum_c_I T n h w o i j y x v (k+1)):=by
 have nn:=ok.n
 obtain ⟨⟨y0,y1,x0,x1⟩,hk'⟩:=ifn_lt hk
 have g1:=wat nn o0 o1 i0 i1
 have g2:=dat nn y0 y1
 have c1:=nn.c1
 have k5:=nn.k5
 have g3:=nn.w2
 have g4:=nn.d2
 have g5:((o*n.nk+i)*n.nk+j)*T.c+T.c≤(o*n.nk+i)*n.nk*T.c+n.nk*T.c:=by
  rw [←Int.add_mul]
  have:=Int.mul_le_mul_of_nonneg_right (show (o*n.nk+i)*n.nk+j+1≤(o*n.nk+i)*n.nk+n.nk by omega) (show 0≤T.c by omega)
  rw [Int.add_mul _ 1,Int.one_mul] at this;exact this
 have g6:0≤((o*n.nk+i)*n.nk+j)*T.c:=Int.mul_nonneg (by omega) (by omega)
 have g7:=idx_bd (a:=y*T.x+x) (m:=y*T.x+T.x) (b:=T.c-1) (n:=T.c) (by omega) (by omega) (by omega) (by omega)
 have g8:0≤(y*T.x+x)*T.c:=Int.mul_nonneg (by omega) (by omega)
 have g11:(y*T.x+T.x)*1≤(y*T.x+T.x)*T.c:=Int.mul_le_mul_of_nonneg_left (by omega) (by omega)
 have h1:=gt8 ok.okn.w (((o*n.nk+i)*n.nk+j)*T.c+(k:Int)).toNat
 have h2:=gt8 ok.ok.d ((y*T.x+x)*T.c+(k:Int)).toNat
 have h3 : -128≤n.za∧n.za≤127:=ok.okn.za
 have h4:=prod_bd h1 (b:=T.d.getD ((y*T.x+x)*T.c+(k:Int)).toNat 0-n.za) (by omega)
 have g9:=sumN_bd (B:=32640) (f:=cterm T n (((o*n.nk+i)*n.nk+j)*T.c) ((y*T.x+x)*T.c)) k fun c _=>cterm_bd ok.ok ok.okn _ _ c
 have g10:(T.c:Int)≤1024:=by omega
 have g12:=accN_eq v (cterm T n (((o*n.nk+i)*n.nk+j)*T.c) ((y*T.x+x)*T.c)) k
 have oz0:=(decide_eq_true (p:=((↑k:Int)<T.c)) (by omega))
 have oz3:=(decide_eq_true (p:=(y≥0)) (by omega))
 have oz9:=(decide_eq_true (p:=(y<T.h)) (by omega))
 have oz12:=(decide_eq_true (p:=(x≥0)) (by omega))
 have oz23:=(i6n (((o*n.nk+i)*n.nk+j)*T.c) (by omega))
 have oz24:=(i6n (((o*n.nk+i)*n.nk+j)*T.c+(↑k:Int)) (by omega))
 have oz26:=(map_at (row1 IntKind.i8) (0) (l:=n.w) (i:=(((o*n.nk+i)*n.nk+j)*T.c+(↑k:Int)).toNat) (by omega))
 have oz27:=(i6n (n.w.getD (((o*n.nk+i)*n.nk+j)*T.c+(↑k:Int)).toNat 0) (by omega))
 have oz28 := @get_v (T) (y) (x) ((↑k:Int)) (by omega) (by omega) x0 (by omega) g8 (by omega) (by omega) g4
 have oz29:=(i6n (T.d.getD ((y*T.x+x)*T.c+(↑k:Int)).toNat 0) (by omega))
 have oz31:=(i6n (T.d.getD ((y*T.x+x)*T.c+(↑k:Int)).toNat 0-n.za) (by omega))
 have oz32:=(i6n (n.w.getD (((o*n.nk+i)*n.nk+j)*T.c+(↑k:Int)).toNat 0*(T.d.getD ((y*T.x+x)*T.c+(↑k:Int)).toNat 0-n.za)) (by omega))
 have oz33:=(i6n (accN v (cterm T n (((o*n.nk+i)*n.nk+j)*T.c) ((y*T.x+x)*T.c)) k+n.w.getD (((o*n.nk+i)*n.nk+j)*T.c+(↑k:Int)).toNat 0*(T.d.getD ((y*T.x+x)*T.c+(↑k:Int)).toNat 0-n.za)) (by omega))
 have oz35:=(Weak.int (k:=.i64) (show ((accN v (cterm T n (((o*n.nk+i)*n.nk+j)*T.c) ((y*T.x+x)*T.c)) k+n.w.getD (((o*n.nk+i)*n.nk+j)*T.c+(↑k:Int)).toNat 0*(T.d.getD ((y*T.x+x)*T.c+(↑k:Int)).toNat 0-n.za)):Int)=(accN v (cterm T n (((o*n.nk+i)*n.nk+j)*T.c) ((y*T.x+x)*T.c)) (k+1)) from (by rfl)))
 exact VT.run (W:=[.r [] [.br true,.br true,.br true,.br true,.br true,.br true,.br true,.br true,.br true,.br true,.br true,.br true,.br true,.br true,.br true,.br true,.br true,.br true],.br true,.r [] [.n (o*n.nk),.n (o*n.nk+i),.n ((o*n.nk+i)*n.nk),.n ((o*n.nk+i)*n.nk+j),.n (nO oz23),.n (nO oz24),.row (sO oz26),.n (nO oz27),.callr (rO oz28),.n (nO oz29),.n n.za,.n (nO oz31),.n (nO oz32),.n (nO oz33)],.r [] [.n ((↑k:Int)+1)]]) (G:=[.any (rg [(53,64)]),.weak 11 (wO oz35),.weak 16 (i64 (↑(k+1):Int)),.sort]) (by kernel_rfl) (.c oz0<|.c oz0<|.c oz0<|.c oz3<|.c oz3<|.c oz3<|.c oz3<|.c oz3<|.c oz3<|.c oz9<|.c oz9<|.c oz9<|.c oz12<|.c oz12<|.c oz12<|.c oz12<|.c oz12<|.c oz12<|.c (decide_eq_true (p:=(x<T.x)) (by omega))<|.c (i6n (o*n.nk) (by omega))<|.c (i6n (o*n.nk+i) (by omega))<|.c (i6n ((o*n.nk+i)*n.nk) (by omega))<|.c (i6n ((o*n.nk+i)*n.nk+j) (by omega))<|.c oz23<|.c oz24<|.c (show 0≤((o*n.nk+i)*n.nk+j)*T.c+(↑k:Int) by omega)<|.c oz26<|.c oz27<|.c oz28<|.c oz29<|.c (i6n n.za (by omega))<|.c oz31<|.c oz32<|.c oz33<|.c (i6n ((↑k:Int)+1) (by omega))<|.c oz35<|.c (Weak.int (k:=.i64) (show (((↑k:Int)+1):Int)=((↑(k+1):Int)) from (by omega)))<|.n)
theorem rcSum_c_e (T:Ten) (n:Nod) (h w o i j y x v:Int) (ok:CvOk T n) (o0:0≤o) (o1:o<n.no) (i0:0≤i) (i1:i<n.nk) (j0:0≤j) (j1:j<n.nk) (v0 : -1000000000000≤v) (v1:v≤1000000000000):VT Tryz.prog (fnC Tryz.f196 [1,1,0,1,0,0,1,0,0,1,0,0,1,0,0,1,1,0,0]) (rcSum_c_I T n h w o i j y x v (if inT T y x then T.c.toNat else 0)) (.exit 4) (rcSum_c_Z T n h w o i j y x v):=by
 have hin:(0≤y∧y<T.h∧0≤x∧x<T.x)→(if inT T y x then T.c.toNat else 0)=T.c.toNat:=fun h=>if_pos h
 exact VT.run (W:=[.r [] [.op false,.op false,.sel 2,.op false,.op false,.op false,.op false,.op false,.sel 2,.op false,.op false,.sel 2,.op false,.op false,.op false,.op false,.op false,.sel 2],.br false]) (G:=[.any (rg [(53,27)]),.sort]) (by kernel_rfl) (.c (show (decide ((↑(if inT T y x then T.c.toNat else 0):Int)<T.c)&&decide (y≥0)&&decide (y<T.h)&&decide (x≥0)&&decide (x<T.x))=false by (simp;omega))<|.n)
theorem rcSum_c (T:Ten) (n:Nod) (h w o i j y x v:Int) (ok:CvOk T n) (o0:0≤o) (o1:o<n.no) (i0:0≤i) (i1:i<n.nk) (j0:0≤j) (j1:j<n.nk) (v0 : -1000000000000≤v) (v1:v≤1000000000000):VT Tryz.prog (fnC Tryz.f196 [1,1,0,1,0,0,1,0,0,1,0,0,1,0,0,1,1,0]) (rcSum_c_I T n h w o i j y x v 0) (.exit 4) (rcSum_c_Z T n h w o i j y x v) :=
 VT.loop (fun k=>rcSum_c_I T n h w o i j y x v k) (if inT T y x then T.c.toNat else 0) (fun k hk=>rcSum_c_s T n h w o i j y x v ok o0 o1 i0 i1 j0 j1 v0 v1 k hk) (rcSum_c_e T n h w o i j y x v ok o0 o1 i0 i1 j0 j1 v0 v1) (by intro h;cases h)
def colE (T:Ten) (n:Nod) (o i y x:Int) (j:Nat):Int:=sumN (cterm T n (((o*n.nk+i)*n.nk+(j:Int))*T.c) ((y*T.x+(x+(j:Int)))*T.c)) (if inT T y (x+(j:Int)) then T.c.toNat else 0)
theorem colE_bd {T:Ten} {n:Nod} (ok:CvOk T n) (o i y x:Int) (j:Nat) : -33423360≤colE T n o i y x j∧colE T n o i y x j≤33423360:=by
 have nn:=ok.n
 have g9:=sumN_bd (B:=32640) (f:=cterm T n (((o*n.nk+i)*n.nk+(j:Int))*T.c) ((y*T.x+(x+(j:Int)))*T.c)) (if inT T y (x+(j:Int)) then T.c.toNat else 0) fun c _=>cterm_bd ok.ok ok.okn _ _ c
 have g10:=nn.c1
 have g11:=nn.dl
 have g12:=nn.d2
 have a:=mul_bd (a:=1) (A:=T.h*T.x) (b:=T.c) (B:=T.c) (by omega) (by have:=nn.h1;have:=nn.x1;exact Int.mul_le_mul (a:=1) (b:=1) (by omega) (by omega) (by omega) (by omega)) (by omega) (by omega)
 unfold colE
 split at g9
 ·rename_i h;rw [if_pos h];omega
 ·rename_i h;rw [if_neg h];omega
noncomputable def rcSum_j_I (T:Ten) (n:Nod) (h w o i v:Int) (k:Nat):VS:=stt 118 [(2,i64 h),(3,i64 w),(4,i64 o),(5,.ptr 5 0 0),(6,.ptr 6 0 0),(11,i64 (accN v (colE T n o i (h*n.ns+i-n.np) (w*n.ns-n.np)) k)),(12,i64 i),(13,i64 k)] [(5,.var [i64 T.h,i64 T.x,i64 T.c,ints .i8 T.d]),(6,.var (nodC n))]
noncomputable def rcSum_j_Z (T:Ten) (n:Nod) (h w o i v:Int):VS:=rcSum_j_I T n h w o i v (n.nk.toNat)
theorem rcSum_j_s (T:Ten) (n:Nod) (h w o i v:Int) (ok:CvOk T n) (o0:0≤o) (o1:o<n.no) (h0:0≤h) (h1:h≤1000) (w0:0≤w) (w1:w≤1000) (i0:0≤i) (i1:i<n.nk) (v0 : -100000000000≤v) (v1:v≤100000000000) (k:Nat) (hk:k<n.nk.toNat):VT Tryz.prog (fnC Tryz.f196 [1,1,0,1,0,0,1,0,0,1,0,0]) (rcSum_j_I T n h w o i v k) .normal (rcSum_j_I T n h w o i v (k+1)):=by
 have nn:=ok.n
 have g1:=nn.k1
 have g2:=nn.k5
 have g8:=nn.s1
 have g9:=nn.s4
 have g10:=nn.p0
 have g11:=nn.p4
 have g13:=mul_bd (A:=1000) (B:=4) h0 h1 (show 0≤n.ns by omega) g9
 have g14:=mul_bd (A:=1000) (B:=4) w0 w1 (show 0≤n.ns by omega) g9
 have g15:=sumN_bd (B:=33423360) (f:=colE T n o i (h*n.ns+i-n.np) (w*n.ns-n.np)) k fun j _=>colE_bd ok _ _ _ _ j
 have g17:=accN_eq v (colE T n o i (h*n.ns+i-n.np) (w*n.ns-n.np)) k
 have g16:w*n.ns+(k:Int)-n.np=w*n.ns-n.np+(k:Int):=by omega
 have oz8 := @rcSum_c (T) (n) (h) (w) (o) (i) ((↑k:Int)) (h*n.ns+i-n.np) (w*n.ns+(↑k:Int)-n.np) (accN v (colE T n o i (h*n.ns+i-n.np) (w*n.ns-n.np)) k) ok o0 o1 i0 i1 (by omega) (by omega) (by omega) (by omega)
 have oz10:=(Weak.int (k:=.i64) (show ((accN (accN v (colE T n o i (h*n.ns+i-n.np) (w*n.ns-n.np)) k) (cterm T n (((o*n.nk+i)*n.nk+(↑k:Int))*T.c) (((h*n.ns+i-n.np)*T.x+(w*n.ns+(↑k:Int)-n.np))*T.c)) (if inT T (h*n.ns+i-n.np) (w*n.ns+(↑k:Int)-n.np) then T.c.toNat else 0)):Int)=(accN v (colE T n o i (h*n.ns+i-n.np) (w*n.ns-n.np)) (k+1)) from (by (rw [accN,colE,←g16,accN_eq]))))
 exact VT.run (W:=[.r [] [],.br true,.r [] [.n (h*n.ns),.n (h*n.ns+i),.n (h*n.ns+i-n.np),.n (w*n.ns),.n (w*n.ns+(↑k:Int)),.n (w*n.ns+(↑k:Int)-n.np)],.r [] [],.code [.any (rg [(29,4),(35,18)]),.weak 16 (i64 (↑0:Int)),.sort] (Exit.exit 4) (zO oz8),.r [] [.n ((↑k:Int)+1)]]) (G:=[.any [14,15,16,33,34],.weak 11 (wO oz10),.weak 13 (i64 (↑(k+1):Int)),.sort]) (by kernel_rfl) (.c (decide_eq_true (p:=((↑k:Int)<n.nk)) (by omega))<|.c (i6n (h*n.ns) (by omega))<|.c (i6n (h*n.ns+i) (by omega))<|.c (i6n (h*n.ns+i-n.np) (by omega))<|.c (i6n (w*n.ns) (by omega))<|.c (i6n (w*n.ns+(↑k:Int)) (by omega))<|.c (i6n (w*n.ns+(↑k:Int)-n.np) (by omega))<|.c (Weak.int (k:=.i64) (show ((0):Int)=((↑0:Int)) from (by omega)))<|.c oz8<|.c (i6n ((↑k:Int)+1) (by omega))<|.c oz10<|.c (Weak.int (k:=.i64) (show (((↑k:Int)+1):Int)=((↑(k+1):Int)) from (by omega)))<|.n)
theorem rcSum_j_e (T:Ten) (n:Nod) (h w o i v:Int) (ok:CvOk T n) (o0:0≤o) (o1:o<n.no) (h0:0≤h) (h1:h≤1000) (w0:0≤w) (w1:w≤1000) (i0:0≤i) (i1:i<n.nk) (v0 : -100000000000≤v) (v1:v≤100000000000):VT Tryz.prog (fnC Tryz.f196 [1,1,0,1,0,0,1,0,0,1,0,0]) (rcSum_j_I T n h w o i v (n.nk.toNat)) (.exit 2) (rcSum_j_Z T n h w o i v):=by
 have nn:=ok.n
 have g1:=nn.k1
 exact VT.run (W:=[.r [] [],.br false]) (G:=[.any (rg [(29,4)]),.sort]) (by kernel_rfl) (.c (decide_eq_false (p:=((↑n.nk.toNat:Int)<n.nk)) (by omega))<|.n)
theorem rcSum_j (T:Ten) (n:Nod) (h w o i v:Int) (ok:CvOk T n) (o0:0≤o) (o1:o<n.no) (h0:0≤h) (h1:h≤1000) (w0:0≤w) (w1:w≤1000) (i0:0≤i) (i1:i<n.nk) (v0 : -100000000000≤v) (v1:v≤100000000000):VT Tryz.prog (fnC Tryz.f196 [1,1,0,1,0,0,1,0,0,1,0]) (rcSum_j_I T n h w o i v 0) (.exit 2) (rcSum_j_Z T n h w o i v) :=
 VT.loop (fun k=>rcSum_j_I T n h w o i v k) (n.nk.toNat) (fun k hk=>rcSum_j_s T n h w o i v ok o0 o1 h0 h1 w0 w1 i0 i1 v0 v1 k hk) (rcSum_j_e T n h w o i v ok o0 o1 h0 h1 w0 w1 i0 i1 v0 v1) (by intro h;cases h)
end Go.Proofs.YtgecmooedhnenaaGreat
