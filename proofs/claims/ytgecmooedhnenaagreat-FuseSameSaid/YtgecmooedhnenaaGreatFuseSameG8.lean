/- A part of this claim. No condition. -/
import Derived.Test.YtgecmooedhnenaaGreatFuseSameG7
set_option maxRecDepth 100000
set_option maxHeartbeats 2000000
set_option linter.unusedVariables false
set_option linter.unusedSimpArgs false
set_option linter.unnecessarySimpa false
namespace Go.Proofs.YtgecmooedhnenaaGreat
open Go.RowKit
theorem heldQ_up {a b m s z lo hi:Int} (h:a≤b) (hl:lo≤hi):heldQ a m s z lo hi≤heldQ b m s z lo hi:=by
 unfold heldQ
 by_cases c:rightQ m s=true
 ·rw [if_pos c,if_pos c]
  have hm:0<m:=by unfold rightQ at c;simp at c;omega
  have:=rnd_mono (a*m) (b*m) s (Int.mul_le_mul_of_nonneg_right h (by omega))
  exact clampI_mono _ _ _ _ (by omega) hl
 ·rw [if_neg c,if_neg c];exact Int.le_refl _
theorem joinE_up {x x' y y':Int} {n:Nod} (hx:x≤x') (hy:y≤y') (hl:n.lo≤n.hi):joinE x y n≤joinE x' y' n:=by
 unfold joinE
 by_cases c:(rightQ n.qm n.qs&&rightQ n.rm n.rs)=true
 ·rw [if_pos c,if_pos c]
  rw [Bool.and_eq_true] at c
  have hm:0<n.qm:=by have:=c.1;unfold rightQ at this;simp at this;omega
  have hm2:0<n.rm:=by have:=c.2;unfold rightQ at this;simp at this;omega
  have h1:=rnd_mono ((x-n.za)*n.qm) ((x'-n.za)*n.qm) n.qs (Int.mul_le_mul_of_nonneg_right (by omega) (by omega))
  have h2:=rnd_mono ((y-n.zb)*n.rm) ((y'-n.zb)*n.rm) n.rs (Int.mul_le_mul_of_nonneg_right (by omega) (by omega))
  exact clampI_mono _ _ _ _ (by omega) hl
 ·rw [if_neg c,if_neg c];exact Int.le_refl _
theorem check_lim {n:Nod} (h:checkE n=0) (k:n.kd=1∨n.kd=2∨n.kd=3∨n.kd=6∨n.kd=7):n.lo≤n.hi:=by
 unfold checkE at h
 rw [if_neg (by omega)] at h
 split at h
 ·exact absurd h (by decide)
 ·split at h
  ·exact absurd h (by decide)
  ·split at h
   ·exact absurd h (by decide)
   ·rename_i c
    have:scaledB n.kd=true:=by unfold scaledB;rcases k with k | k | k | k | k<;>simp [k]
    rw [this] at c
    simp at c;omega
theorem nodeR_up {n:Nod} {a b:Rng} (ha:a.lo≤a.hi) (hb:n.kd=6→b.lo≤b.hi) (he:(nodeR n a b).2=0):(nodeR n a b).1.lo≤(nodeR n a b).1.hi:=by
 unfold nodeR at he ⊢
 split
 ·rename_i c;rw [if_pos c] at he;exact absurd he c
 ·rename_i c;rw [if_neg c] at he
  have hc:checkE n=0:=by omega
  split
  ·rename_i c;rw [if_pos c] at he;exact absurd he (by decide)
  ·rename_i c;rw [if_neg c] at he
   split
   ·rename_i k;rw [if_pos k] at he
    unfold sumG at he ⊢
    split
    ·unfold afterE;dsimp only;omega
    ·rename_i q;rw [if_neg q] at he;exact absurd he (by decide)
   ·split
    ·exact joinE_up ha (hb (by assumption)) (check_lim hc (by omega))
    ·split
     ·unfold oneN;exact heldQ_up (by omega) (check_lim hc (by omega))
     ·split
      ·dsimp only;omega
      ·exact ha
theorem FOK.fine {l:List Nod} {a:Rng} (h:FOK l a) (okl:∀ n∈l,n.Ok) (o:orderedB l=true) (ha:a.In8):Fine stepR (fun r=>r.In8∧r.lo≤r.hi) l a:=by
 obtain ⟨e,f,i,k⟩:=h
 have r8:∀ k,k≤l.length→(gv stepR l a k).In8:=fun k hk=>getD_in (flow_in (l:=l) okl ha hk) (i:=k) (by rw [growL_len];omega)
 refine ⟨o,List.length_pos_iff.1 e,by omega,okl,fun v hv=>⟨r8 v hv,?_⟩,k⟩
 have go:∀ d v,v=d→v≤l.length→(gv stepR l a v).lo≤(gv stepR l a v).hi:=by
  intro d
  induction d using Nat.strongRecOn with
  | _ d ih =>
   intro v hd hv
   subst hd
   cases v with
   | zero=>exact i
   | succ j =>
    have t:=there_iff.1 (ordered_there o (k:=j) hv)
    have ej:=k j hv
    rw [errL_step stepR_loc (ordered_there o hv)] at ej
    rw [gv_succ stepR_loc (ordered_there o hv)]
    exact nodeR_up (ih _ (by omega) _ rfl (by omega)) (fun _=>ih _ (by omega) _ rfl (by omega)) ej
 exact go v v rfl hv
theorem FOK.fuse {l:List Nod} {a:Rng} (h:FOK l a) (okl:∀ n∈l,n.Ok) (o:orderedB l=true) (ha:a.In8):FOK (fuseL l) a∧(growL stepR (fuseL l) a (fuseL l).length).getD (fuseL l).length default=(growL stepR l a l.length).getD l.length default:=by
 have f:=(h.fine okl o ha).fuse stepR_floc
 obtain ⟨_,f8,i,_⟩:=h
 have hl:(fuseL l).length≤l.length:=itL_le l _
 exact ⟨⟨List.length_pos_iff.2 f.1.ne,by omega,i,f.1.e⟩,f.2⟩
theorem SOK.fuse {l:List Nod} {a:Shp} (h:SOK l a) (okl:∀ n∈l,n.Ok):SOK (fuseL l) a∧(∀ n∈fuseL l,n.Ok):=by
 have f:=(h.fine okl).fuse nextE_floc
 have hl:(fuseL l).length≤l.length:=itL_le l _
 exact ⟨⟨h.i,List.length_pos_iff.2 f.1.ne,Nat.le_trans hl h.f,f.1.e⟩,f.1.ok⟩
theorem itL_w' {l:List Nod} {a b:Nat} (wl:∀ n∈l,n.w.length≤a∧n.b.length≤b) (k:Nat):∀ n∈itL l k,n.w.length≤a∧n.b.length≤b:=itL_mem wl (fun n u v _ h=>h) (fun a c _ hc _=>hc) k
theorem Vals.fuse {l:List Nod} {x:Ten} (h:Vals l x):Vals (fuseL l) x∧(growL valE (fuseL l) x (fuseL l).length).getD (fuseL l).length default=(growL valE l x l.length).getD l.length default:=by
 have f:=h.fine.fuse valE_floc
 have s:=h.v.s.fuse h.v.okl
 exact ⟨⟨⟨s.2,itL_w' h.v.wl _,h.v.ok,s.1⟩,h.r,f.1.e⟩,f.2⟩
theorem rowsR_both (f:Nat→Rng) (n:Nat):∀ k,k<n→rowsR f (k+1)=bothR ((List.range n).map f) (k+1):=by
 have g:∀ k,k<n→((List.range n).map f).getD k default=f k:=fun k hk=>by
  rw [List.getD_eq_getElem?_getD,List.getElem?_map,List.getElem?_range hk];rfl
 intro k
 induction k with
 | zero=>intro h;rw [rowsR,if_pos rfl,bothR,bothR,g 0 h]
 | succ k ih=>intro h;rw [rowsR,if_neg (by omega),ih (by omega),bothR.eq_2 _ (k+1),g _ h]
theorem rowsR_spans {n:Nod} {a:Rng} (b0:0<n.b.length) (h:sharedB n.w n.b=true):rowsR (spRow n.w n.b a.lo a.hi n.za (decide (n.np > 0))) n.b.length=bothR (spansN n a) (spansN n a).length:=by
 have e:spansN n a=(List.range n.b.length).map (spRow n.w n.b a.lo a.hi n.za (decide (n.np > 0))):=by unfold spansN allR;rw [if_pos h]
 rw [e,List.length_map,List.length_range]
 obtain ⟨m,hm⟩:∃ m,n.b.length=m+1:=⟨n.b.length-1,by omega⟩
 rw [hm];exact rowsR_both _ _ _ (by omega)
theorem sumE_s {n:Nod} {a:Rng} (h:sharedB n.w n.b=true) (hh:((allR n.w n.b a.lo a.hi n.za (decide (n.np > 0)) n.b.length).all holdB)=true):sumG n a=(afterE ⟨(rowsR (spRow n.w n.b a.lo a.hi n.za (decide (n.np > 0))) n.b.length).lo,(rowsR (spRow n.w n.b a.lo a.hi n.za (decide (n.np > 0))) n.b.length).hi⟩ n,0):=by
 rw [sumG_y (by rw [if_pos h];exact hh),←rowsR_spans (hd_pos h) h]
theorem sumE_o {n:Nod} {a:Rng} (h:sharedB n.w n.b=true) (hh:((allR n.w n.b a.lo a.hi n.za (decide (n.np > 0)) n.b.length).all holdB)=false):sumG n a=(⟨0,0⟩,10):=by
 unfold sumG spansN;rw [if_pos h,if_neg (by rw [hh];decide)]
theorem sumE_0 {n:Nod} {a:Rng} (h:sharedB n.w n.b=false):sumG n a=(afterE ⟨0,0⟩ n,0):=by
 unfold sumG spansN;rw [h];rfl
theorem nodeR_pad {n:Nod} {a b:Rng} (h1:¬ checkE n≠0) (h2:¬ (a.lo > a.hi∨(n.kd=6∧b.lo > b.hi))) (h3:n.kd=8∧n.np > 0):nodeR n a b=(⟨min a.lo n.za,max a.hi n.za⟩,0):=by
 unfold nodeR
 rw [if_neg h1,if_neg h2,if_neg (by omega),if_neg (by omega),if_neg (by omega),if_pos h3]
theorem refGNode_v (n:Nod) (a b:Rng) (ok:n.Ok) (ha:a.In8) (hb:b.In8) (wl:n.w.length≤100000) (bl:n.b.length≤100000):VC Tryz.prog 45 ([nod n,rch a,rch b]) (.tup [rch (nodeR n a b).1,i64 (nodeR n a b).2]):=by
 have ok_kd:=ok.kd
 have ok_za:=ok.za
 have ok_w:=ok.w
 have ok_b:=ok.b
 obtain ⟨p1,p2⟩:=id ha
 obtain ⟨p3,p4⟩:=id hb
 have q1 := @hd_pos n.w n.b
 have q2 := @rows_all n.w n.b a.lo a.hi n.za (decide (n.np > 0))
 have oz0 := @refCheck_v (n) wl bl ok_kd
 rcases bft (checkE n != 0) with hc0 | hc0
 ·have gc0:¬checkE n=0:=bdt hc0
  exact (VC.run (fn:=Tryz.f45) (W:=[.r [] [],.r [] [.callr (rO oz0)],.r [] [],.br true,.r [] []]) (r:=AV.tup [AV.agg [i8 0,i8 0],i64 (checkE n)]) Tryz.func45 (by kernel_rfl) (.c oz0<|.c hc0<|.n)).weak (WeakL.refl _) (Weak.tup (.cons (Weak.agg (.cons (Weak.int (show ((0):Int)=((nodeR n a b).fst.lo) from (by (unfold nodeR;(repeat first | rw [if_pos (by omega)] | rw [if_neg (by omega)]))))) (.cons (Weak.int (show ((0):Int)=((nodeR n a b).fst.hi) from (by (unfold nodeR;(repeat first | rw [if_pos (by omega)] | rw [if_neg (by omega)]))))) .nil))) (.cons (Weak.int (show ((checkE n):Int)=((nodeR n a b).snd) from (by (unfold nodeR;(repeat first | rw [if_pos (by omega)] | rw [if_neg (by omega)]))))) .nil)))
 ·have gc0:checkE n=0:=bdf hc0
  rcases bft (decide (a.lo > a.hi) || n.kd==6&&decide (b.lo > b.hi)) with hc1 | hc1
  ·have gc1:a.lo > a.hi∨n.kd=6∧b.lo > b.hi:=by first | (simp only [Bool.or_eq_true,Bool.or_eq_false_iff,Bool.and_eq_true,Bool.and_eq_false_iff,Bool.not_eq_true',Bool.not_eq_false',decide_eq_true_eq,decide_eq_false_iff_not,beq_iff_eq,bne_iff_ne,ne_eq,beq_eq_false_iff_ne,bne_eq_false_iff_eq,eqNums,Bool.and_true] at hc1;first | exact hc1 | omega) | simpa using hc1 | (simp at hc1 ⊢;omega) | (apply cbc;intro hn;simp_all [eqNums];done) | (apply cbc;intro hn;simp [eqNums] at hc1 hn;omega)
   exact (VC.run (fn:=Tryz.f45) (W:=[.r [] [],.r [] [.callr (rO oz0)],.r [] [],.br false,.r [] [.op false,.op false,.op false,.op false,.op false,.op false,.op false,.op false,.op false,.op false,.sel 2,.sel 1],.br true,.r [] []]) (r:=AV.tup [AV.agg [i8 0,i8 0],i64 2]) Tryz.func45 (by kernel_rfl) (.c oz0<|.c hc0<|.c hc1<|.n)).weak (WeakL.refl _) (Weak.tup (.cons (Weak.agg (.cons (Weak.int (show ((0):Int)=((nodeR n a b).fst.lo) from (by (unfold nodeR;(repeat first | rw [if_pos (by omega)] | rw [if_neg (by omega)]))))) (.cons (Weak.int (show ((0):Int)=((nodeR n a b).fst.hi) from (by (unfold nodeR;(repeat first | rw [if_pos (by omega)] | rw [if_neg (by omega)]))))) .nil))) (.cons (Weak.int (show ((2):Int)=((nodeR n a b).snd) from (by (unfold nodeR;(repeat first | rw [if_pos (by omega)] | rw [if_neg (by omega)]))))) .nil)))
  ·have gc1:¬a.lo > a.hi∧(¬n.kd=6∨¬b.lo > b.hi):=by first | (simp only [Bool.or_eq_true,Bool.or_eq_false_iff,Bool.and_eq_true,Bool.and_eq_false_iff,Bool.not_eq_true',Bool.not_eq_false',decide_eq_true_eq,decide_eq_false_iff_not,beq_iff_eq,bne_iff_ne,ne_eq,beq_eq_false_iff_ne,bne_eq_false_iff_eq,eqNums,Bool.and_true] at hc1;first | exact hc1 | omega) | simpa using hc1 | (simp at hc1 ⊢;omega) | (apply cbc;intro hn;simp_all [eqNums];done) | (apply cbc;intro hn;simp [eqNums] at hc1 hn;omega)
   rcases bft (n.kd==1 || n.kd==2 || n.kd==3) with hc2 | hc2
   ·have gc2:(n.kd=1∨n.kd=2)∨n.kd=3:=by first | (simp only [Bool.or_eq_true,Bool.or_eq_false_iff,Bool.and_eq_true,Bool.and_eq_false_iff,Bool.not_eq_true',Bool.not_eq_false',decide_eq_true_eq,decide_eq_false_iff_not,beq_iff_eq,bne_iff_ne,ne_eq,beq_eq_false_iff_ne,bne_eq_false_iff_eq,eqNums,Bool.and_true] at hc2;first | exact hc2 | omega) | simpa using hc2 | (simp at hc2 ⊢;omega) | (apply cbc;intro hn;simp_all [eqNums];done) | (apply cbc;intro hn;simp [eqNums] at hc2 hn;omega)
    have oz4 := @shared_v (n.w) (n.b) wl bl
    rcases bft (sharedB n.w n.b) with hc3 | hc3
    ·have gc3:sharedB n.w n.b=true:=by first | exact hc3 | exact of_decide_eq_true hc3 | exact of_decide_eq_false hc3 | simpa [eqNums] using hc3 | (simp [eqNums] at hc3 ⊢;first | done | assumption | omega)
     have oz6 := @rows_v (n.w) (n.b) (a.lo) (a.hi) (n.za) (decide (n.np > 0)) ok_w ok_b wl bl (by (exact q1 (by assumption))) p1 p2 ok_za
     rcases bft (!(decide ((rowsR (spRow n.w n.b a.lo a.hi n.za (decide (n.np > 0))) n.b.length).lo ≥ -2147483648)&&decide ((rowsR (spRow n.w n.b a.lo a.hi n.za (decide (n.np > 0))) n.b.length).hi≤2147483647))) with hc4 | hc4
     ·have gc4:¬(rowsR (spRow n.w n.b a.lo a.hi n.za (decide (n.np > 0))) n.b.length).lo ≥ -2147483648∨¬(rowsR (spRow n.w n.b a.lo a.hi n.za (decide (n.np > 0))) n.b.length).hi≤2147483647:=by first | (simp only [Bool.or_eq_true,Bool.or_eq_false_iff,Bool.and_eq_true,Bool.and_eq_false_iff,Bool.not_eq_true',Bool.not_eq_false',decide_eq_true_eq,decide_eq_false_iff_not,beq_iff_eq,bne_iff_ne,ne_eq,beq_eq_false_iff_ne,bne_eq_false_iff_eq,eqNums,Bool.and_true] at hc4;first | exact hc4 | omega) | simpa using hc4 | (simp at hc4 ⊢;omega) | (apply cbc;intro hn;simp_all [eqNums];done) | (apply cbc;intro hn;simp [eqNums] at hc4 hn;omega)
      exact (VC.run (fn:=Tryz.f45) (W:=[.r [] [],.r [] [.callr (rO oz0)],.r [] [],.br false,.r [] [.op false,.op false,.op false,.op false,.op false,.op false,.op false,.op false,.op false,.op false,.sel 2,.sel 1],.br false,.r [] [.op false,.op false,.op false,.sel 1,.op false,.op false,.op false,.sel 1],.br true,.r [] [],.r [] [.callr (rO oz4)],.br true,.r [] [.callr (rO oz6)],.r [] [],.br true,.r [] []]) (r:=AV.tup [AV.agg [i8 0,i8 0],i64 10]) Tryz.func45 (by kernel_rfl) (.c oz0<|.c hc0<|.c hc1<|.c hc2<|.c oz4<|.c hc3<|.c oz6<|.c hc4<|.n)).weak (WeakL.refl _) (Weak.tup (.cons (Weak.agg (.cons (Weak.int (show ((0):Int)=((nodeR n a b).fst.lo) from (by (unfold nodeR;(repeat first | rw [if_pos (by omega)] | rw [if_neg (by omega)]);rw [sumE_o (by assumption) (by rw [←q2 (q1 (by assumption))];simp_all)]<;>rfl)))) (.cons (Weak.int (show ((0):Int)=((nodeR n a b).fst.hi) from (by (unfold nodeR;(repeat first | rw [if_pos (by omega)] | rw [if_neg (by omega)]);rw [sumE_o (by assumption) (by rw [←q2 (q1 (by assumption))];simp_all)]<;>rfl)))) .nil))) (.cons (Weak.int (show ((10):Int)=((nodeR n a b).snd) from (by (unfold nodeR;(repeat first | rw [if_pos (by omega)] | rw [if_neg (by omega)]);rw [sumE_o (by assumption) (by rw [←q2 (q1 (by assumption))];simp_all)]<;>rfl)))) .nil)))
     ·have gc4:(rowsR (spRow n.w n.b a.lo a.hi n.za (decide (n.np > 0))) n.b.length).lo ≥ -2147483648∧(rowsR (spRow n.w n.b a.lo a.hi n.za (decide (n.np > 0))) n.b.length).hi≤2147483647:=by first | (simp only [Bool.or_eq_true,Bool.or_eq_false_iff,Bool.and_eq_true,Bool.and_eq_false_iff,Bool.not_eq_true',Bool.not_eq_false',decide_eq_true_eq,decide_eq_false_iff_not,beq_iff_eq,bne_iff_ne,ne_eq,beq_eq_false_iff_ne,bne_eq_false_iff_eq,eqNums,Bool.and_true] at hc4;first | exact hc4 | omega) | simpa using hc4 | (simp at hc4 ⊢;omega) | (apply cbc;intro hn;simp_all [eqNums];done) | (apply cbc;intro hn;simp [eqNums] at hc4 hn;omega)
      have oz8 := @refAfter_v (rowsR (spRow n.w n.b a.lo a.hi n.za (decide (n.np > 0))) n.b.length) (n) ok
      exact (VC.run (fn:=Tryz.f45) (W:=[.r [] [],.r [] [.callr (rO oz0)],.r [] [],.br false,.r [] [.op false,.op false,.op false,.op false,.op false,.op false,.op false,.op false,.op false,.op false,.sel 2,.sel 1],.br false,.r [] [.op false,.op false,.op false,.sel 1,.op false,.op false,.op false,.sel 1],.br true,.r [] [],.r [] [.callr (rO oz4)],.br true,.r [] [.callr (rO oz6)],.r [] [],.br false,.r [] [.callr (rO oz8)],.r [] []]) (r:=AV.tup [AV.agg [i8 (afterE (rowsR (spRow n.w n.b a.lo a.hi n.za (decide (n.np > 0))) n.b.length) n).lo,i8 (afterE (rowsR (spRow n.w n.b a.lo a.hi n.za (decide (n.np > 0))) n.b.length) n).hi],i64 0]) Tryz.func45 (by kernel_rfl) (.c oz0<|.c hc0<|.c hc1<|.c hc2<|.c oz4<|.c hc3<|.c oz6<|.c hc4<|.c oz8<|.n)).weak (WeakL.refl _) (Weak.tup (.cons (Weak.agg (.cons (Weak.int (show (((afterE (rowsR (spRow n.w n.b a.lo a.hi n.za (decide (n.np > 0))) n.b.length) n).lo):Int)=((nodeR n a b).fst.lo) from (by (unfold nodeR;(repeat first | rw [if_pos (by omega)] | rw [if_neg (by omega)]);rw [sumE_s (by assumption) (by rw [←q2 (q1 (by assumption))];simp_all)]<;>rfl)))) (.cons (Weak.int (show (((afterE (rowsR (spRow n.w n.b a.lo a.hi n.za (decide (n.np > 0))) n.b.length) n).hi):Int)=((nodeR n a b).fst.hi) from (by (unfold nodeR;(repeat first | rw [if_pos (by omega)] | rw [if_neg (by omega)]);rw [sumE_s (by assumption) (by rw [←q2 (q1 (by assumption))];simp_all)]<;>rfl)))) .nil))) (.cons (Weak.int (show ((0):Int)=((nodeR n a b).snd) from (by (unfold nodeR;(repeat first | rw [if_pos (by omega)] | rw [if_neg (by omega)]);rw [sumE_s (by assumption) (by rw [←q2 (q1 (by assumption))];simp_all)]<;>rfl)))) .nil)))
    ·have gc3:sharedB n.w n.b=false:=by first | exact hc3 | exact of_decide_eq_true hc3 | exact of_decide_eq_false hc3 | simpa [eqNums] using hc3 | (simp [eqNums] at hc3 ⊢;first | done | assumption | omega)
     have oz7 := @refAfter_v (Rng.mk 0 0) (n) ok
     exact (VC.run (fn:=Tryz.f45) (W:=[.r [] [],.r [] [.callr (rO oz0)],.r [] [],.br false,.r [] [.op false,.op false,.op false,.op false,.op false,.op false,.op false,.op false,.op false,.op false,.sel 2,.sel 1],.br false,.r [] [.op false,.op false,.op false,.sel 1,.op false,.op false,.op false,.sel 1],.br true,.r [] [],.r [] [.callr (rO oz4)],.br false,.r [] [],.br false,.r [] [.callr (rO oz7)],.r [] []]) (r:=AV.tup [AV.agg [i8 (afterE (Rng.mk 0 0) n).lo,i8 (afterE (Rng.mk 0 0) n).hi],i64 0]) Tryz.func45 (by kernel_rfl) (.c oz0<|.c hc0<|.c hc1<|.c hc2<|.c oz4<|.c hc3<|.c (show false=false by with_reducible rfl)<|.c oz7<|.n)).weak (WeakL.refl _) (Weak.tup (.cons (Weak.agg (.cons (Weak.int (show (((afterE (Rng.mk 0 0) n).lo):Int)=((nodeR n a b).fst.lo) from (by (unfold nodeR;(repeat first | rw [if_pos (by omega)] | rw [if_neg (by omega)]);rw [sumE_0 (by assumption)]<;>rfl)))) (.cons (Weak.int (show (((afterE (Rng.mk 0 0) n).hi):Int)=((nodeR n a b).fst.hi) from (by (unfold nodeR;(repeat first | rw [if_pos (by omega)] | rw [if_neg (by omega)]);rw [sumE_0 (by assumption)]<;>rfl)))) .nil))) (.cons (Weak.int (show ((0):Int)=((nodeR n a b).snd) from (by (unfold nodeR;(repeat first | rw [if_pos (by omega)] | rw [if_neg (by omega)]);rw [sumE_0 (by assumption)]<;>rfl)))) .nil)))
   ·have gc2:(¬n.kd=1∧¬n.kd=2)∧¬n.kd=3:=by first | (simp only [Bool.or_eq_true,Bool.or_eq_false_iff,Bool.and_eq_true,Bool.and_eq_false_iff,Bool.not_eq_true',Bool.not_eq_false',decide_eq_true_eq,decide_eq_false_iff_not,beq_iff_eq,bne_iff_ne,ne_eq,beq_eq_false_iff_ne,bne_eq_false_iff_eq,eqNums,Bool.and_true] at hc2;first | exact hc2 | omega) | simpa using hc2 | (simp at hc2 ⊢;omega) | (apply cbc;intro hn;simp_all [eqNums];done) | (apply cbc;intro hn;simp [eqNums] at hc2 hn;omega)
    rcases bft (n.kd==6) with hc3 | hc3
    ·have gc3:n.kd=6:=bet hc3
     have oz5 := @refJoinOne_v (a.lo) (b.lo) (n) ok p1 p3
     have oz6 := @refJoinOne_v (a.hi) (b.hi) (n) ok p2 p4
     exact (VC.run (fn:=Tryz.f45) (W:=[.r [] [],.r [] [.callr (rO oz0)],.r [] [],.br false,.r [] [.op false,.op false,.op false,.op false,.op false,.op false,.op false,.op false,.op false,.op false,.sel 2,.sel 1],.br false,.r [] [.op false,.op false,.op false,.sel 1,.op false,.op false,.op false,.sel 1],.br false,.r [] [],.br true,.r [] [.callr (rO oz5),.callr (rO oz6)]]) (r:=AV.tup [AV.agg [i8 (joinE a.lo b.lo n),i8 (joinE a.hi b.hi n)],i64 0]) Tryz.func45 (by kernel_rfl) (.c oz0<|.c hc0<|.c hc1<|.c hc2<|.c hc3<|.c oz5<|.c oz6<|.n)).weak (WeakL.refl _) (Weak.tup (.cons (Weak.agg (.cons (Weak.int (show ((joinE a.lo b.lo n):Int)=((nodeR n a b).fst.lo) from (by (unfold nodeR;(repeat first | rw [if_pos (by omega)] | rw [if_neg (by omega)]))))) (.cons (Weak.int (show ((joinE a.hi b.hi n):Int)=((nodeR n a b).fst.hi) from (by (unfold nodeR;(repeat first | rw [if_pos (by omega)] | rw [if_neg (by omega)]))))) .nil))) (.cons (Weak.int (show ((0):Int)=((nodeR n a b).snd) from (by (unfold nodeR;(repeat first | rw [if_pos (by omega)] | rw [if_neg (by omega)]))))) .nil)))
    ·have gc3:¬n.kd=6:=bef hc3
     rcases bft (n.kd==7) with hc4 | hc4
     ·have gc4:n.kd=7:=bet hc4
      have oz6 := @refActOne_v (a.lo) (n) ok p1
      have oz7 := @refActOne_v (a.hi) (n) ok p2
      exact (VC.run (fn:=Tryz.f45) (W:=[.r [] [],.r [] [.callr (rO oz0)],.r [] [],.br false,.r [] [.op false,.op false,.op false,.op false,.op false,.op false,.op false,.op false,.op false,.op false,.sel 2,.sel 1],.br false,.r [] [.op false,.op false,.op false,.sel 1,.op false,.op false,.op false,.sel 1],.br false,.r [] [],.br false,.r [] [],.br true,.r [] [.callr (rO oz6),.callr (rO oz7)]]) (r:=AV.tup [AV.agg [i8 (oneN a.lo n),i8 (oneN a.hi n)],i64 0]) Tryz.func45 (by kernel_rfl) (.c oz0<|.c hc0<|.c hc1<|.c hc2<|.c hc3<|.c hc4<|.c oz6<|.c oz7<|.n)).weak (WeakL.refl _) (Weak.tup (.cons (Weak.agg (.cons (Weak.int (show ((oneN a.lo n):Int)=((nodeR n a b).fst.lo) from (by (unfold nodeR;(repeat first | rw [if_pos (by omega)] | rw [if_neg (by omega)]))))) (.cons (Weak.int (show ((oneN a.hi n):Int)=((nodeR n a b).fst.hi) from (by (unfold nodeR;(repeat first | rw [if_pos (by omega)] | rw [if_neg (by omega)]))))) .nil))) (.cons (Weak.int (show ((0):Int)=((nodeR n a b).snd) from (by (unfold nodeR;(repeat first | rw [if_pos (by omega)] | rw [if_neg (by omega)]))))) .nil)))
     ·have gc4:¬n.kd=7:=bef hc4
      rcases bft (n.kd==8&&decide (n.np > 0)) with hc5 | hc5
      ·have gc5:n.kd=8∧n.np > 0:=by first | (simp only [Bool.or_eq_true,Bool.or_eq_false_iff,Bool.and_eq_true,Bool.and_eq_false_iff,Bool.not_eq_true',Bool.not_eq_false',decide_eq_true_eq,decide_eq_false_iff_not,beq_iff_eq,bne_iff_ne,ne_eq,beq_eq_false_iff_ne,bne_eq_false_iff_eq,eqNums,Bool.and_true] at hc5;first | exact hc5 | omega) | simpa using hc5 | (simp at hc5 ⊢;omega) | (apply cbc;intro hn;simp_all [eqNums];done) | (apply cbc;intro hn;simp [eqNums] at hc5 hn;omega)
       exact (VC.run (fn:=Tryz.f45) (W:=[.r [] [],.r [] [.callr (rO oz0)],.r [] [],.br false,.r [] [.op false,.op false,.op false,.op false,.op false,.op false,.op false,.op false,.op false,.op false,.sel 2,.sel 1],.br false,.r [] [.op false,.op false,.op false,.sel 1,.op false,.op false,.op false,.sel 1],.br false,.r [] [],.br false,.r [] [],.br false,.r [] [.op false,.op false,.op false,.sel 2],.br true,.r [] []]) (r:=AV.tup [AV.agg [i8 (if n.za<a.lo then n.za else a.lo),i8 (if n.za > a.hi then n.za else a.hi)],i64 0]) Tryz.func45 (by kernel_rfl) (.c oz0<|.c hc0<|.c hc1<|.c hc2<|.c hc3<|.c hc4<|.c hc5<|.n)).weak (WeakL.refl _) (Weak.tup (.cons (Weak.agg (.cons (Weak.int (show ((if n.za<a.lo then n.za else a.lo):Int)=((nodeR n a b).fst.lo) from (by (rw [nodeR_pad (by omega) (by omega) (by omega)];dsimp only;omega)))) (.cons (Weak.int (show ((if n.za > a.hi then n.za else a.hi):Int)=((nodeR n a b).fst.hi) from (by (rw [nodeR_pad (by omega) (by omega) (by omega)];dsimp only;omega)))) .nil))) (.cons (Weak.int (show ((0):Int)=((nodeR n a b).snd) from (by (unfold nodeR;(repeat first | rw [if_pos (by omega)] | rw [if_neg (by omega)]))))) .nil)))
      ·have gc5:¬n.kd=8∨¬n.np > 0:=by first | (simp only [Bool.or_eq_true,Bool.or_eq_false_iff,Bool.and_eq_true,Bool.and_eq_false_iff,Bool.not_eq_true',Bool.not_eq_false',decide_eq_true_eq,decide_eq_false_iff_not,beq_iff_eq,bne_iff_ne,ne_eq,beq_eq_false_iff_ne,bne_eq_false_iff_eq,eqNums,Bool.and_true] at hc5;first | exact hc5 | omega) | simpa using hc5 | (simp at hc5 ⊢;omega) | (apply cbc;intro hn;simp_all [eqNums];done) | (apply cbc;intro hn;simp [eqNums] at hc5 hn;omega)
       exact (VC.run (fn:=Tryz.f45) (W:=[.r [] [],.r [] [.callr (rO oz0)],.r [] [],.br false,.r [] [.op false,.op false,.op false,.op false,.op false,.op false,.op false,.op false,.op false,.op false,.sel 2,.sel 1],.br false,.r [] [.op false,.op false,.op false,.sel 1,.op false,.op false,.op false,.sel 1],.br false,.r [] [],.br false,.r [] [],.br false,.r [] [.op false,.op false,.op false,.sel 2],.br false,.r [] []]) (r:=AV.tup [AV.agg [i8 a.lo,i8 a.hi],i64 0]) Tryz.func45 (by kernel_rfl) (.c oz0<|.c hc0<|.c hc1<|.c hc2<|.c hc3<|.c hc4<|.c hc5<|.n)).weak (WeakL.refl _) (Weak.tup (.cons (Weak.agg (.cons (Weak.int (show ((a.lo):Int)=((nodeR n a b).fst.lo) from (by (unfold nodeR;(repeat first | rw [if_pos (by omega)] | rw [if_neg (by omega)]))))) (.cons (Weak.int (show ((a.hi):Int)=((nodeR n a b).fst.hi) from (by (unfold nodeR;(repeat first | rw [if_pos (by omega)] | rw [if_neg (by omega)]))))) .nil))) (.cons (Weak.int (show ((0):Int)=((nodeR n a b).snd) from (by (unfold nodeR;(repeat first | rw [if_pos (by omega)] | rw [if_neg (by omega)]))))) .nil)))
theorem stepR_6 {n:Nod} {L:List Rng} (h:thereB n ((List.map rchC L).length:Int)=true) (h6:n.kd=6):stepR n L=nodeR n (L.getD n.na.toNat default) (L.getD n.nb.toNat default):=by
 rw [List.length_map] at h
 unfold stepR;rw [if_pos h];unfold secN;rw [if_pos h6]
theorem stepR_1 {n:Nod} {L:List Rng} (h:thereB n ((List.map rchC L).length:Int)=true) (h6:¬ n.kd=6):stepR n L=nodeR n (L.getD n.na.toNat default) (L.getD n.na.toNat default):=by
 rw [List.length_map] at h
 unfold stepR;rw [if_pos h];unfold secN;rw [if_neg h6]
theorem stepR_0 {n:Nod} {L:List Rng} (h:thereB n ((List.map rchC L).length:Int)=false):stepR n L=(⟨0,0⟩,8):=by
 rw [List.length_map] at h
 unfold stepR;rw [h];rfl
theorem stepR_ok {n:Nod} {L:List Rng} (h:(stepR n L).2=0):thereB n ((List.map rchC L).length:Int)=true:=by
 cases e:thereB n ((List.map rchC L).length:Int) with
 | true=>rfl
 | false=>rw [stepR_0 e] at h;cases h
theorem stepR_at {n:Nod} {L:List Rng} (okL:∀ r∈L,r.In8) (h:thereB n ((List.map rchC L).length:Int)=true):(0≤n.na∧n.na<L.length∧n.na.toNat<L.length∧(n.kd=6→0≤n.nb∧n.nb<L.length∧n.nb.toNat<L.length))∧(L.getD n.na.toNat default).In8∧(n.kd=6→(L.getD n.nb.toNat default).In8):=by
 rw [List.length_map] at h
 have h:=there_iff.1 h
 have h6:n.kd=6→secN n=n.nb:=fun h=>if_pos h
 refine ⟨⟨by omega,by omega,by omega,fun e=>by have:=h6 e;omega⟩,getD_in okL (by omega),fun e=>getD_in okL (by have:=h6 e;omega)⟩
noncomputable def rflow_ly_I (l:List Nod) (a:Rng) (k:Nat):VS:=stt 77 [(0,.sl 19 (l.map nodC)),(7,.own 900),(8,i64 k)] [(900,.slc 40 2 ((growL stepR l a k).map rchC))]
noncomputable def rflow_ly_Z (l:List Nod) (a:Rng):VS:=rflow_ly_I l a (l.length)
theorem rflow_ly_s (l:List Nod) (a:Rng) (okl:∀ n∈l,n.Ok) (wl:∀ n∈l,n.w.length≤100000∧n.b.length≤100000) (ha:a.In8) (f8:l.length≤8) (h:∀ k,k<l.length→errL stepR l a k=0) (k:Nat) (hk:k<l.length):VT Tryz.prog (fnC Tryz.f15 [1,1,1,1,1,0,1,0,0]) (rflow_ly_I l a k) .normal (rflow_ly_I l a (k+1)):=by
 have q:=h k hk
 have q1:=growL_len stepR l a k
 have q2:=flow_in okl ha (Nat.le_of_lt hk)
 have q3:=getD_in okl hk
 have q4:=getD_in wl hk
 obtain ⟨q5,q6⟩:=q4
 have q8:(List.map rchC (growL stepR l a k)).length=(growL stepR l a k).length:=List.length_map _
 unfold errL at q
 have qt:=stepR_ok q
 obtain ⟨qa,qb,qc⟩:=stepR_at (n:=l.getD k default) q2 qt
 have s6:=stepR_6 qt
 have s1:=stepR_1 qt
 have oz0:=(show decide ((↑k:Int)<(↑(List.map nodC l).length:Int))=true by (simp;omega))
 have oz1:=(show 0≤(↑k:Int) by omega)
 have oz2:=(map_at (nodC) (default) (l:=l) (i:=k) hk)
 have oz3 := @refThere_v (l.getD k default) ((↑(List.map rchC (growL stepR l a k)).length:Int))
 have oz4:=(show (!thereB (l.getD k default) (↑(List.map rchC (growL stepR l a k)).length:Int))=false by (rw [qt];rfl))
 have oz5:=(show 0≤(l.getD k default).na by omega)
 have oz6:=(show (l.getD k default).na<(↑(List.map rchC (growL stepR l a k)).length:Int) by omega)
 have oz7:=(map_at (rchC) (default) (l:=growL stepR l a k) (i:=(l.getD k default).na.toNat) (by omega))
 rcases bft ((l.getD k default).kd==6) with hc0 | hc0
 ·have gc0:(l.getD k default).kd=6:=bet hc0
  have oz11:=(map_at (rchC) (default) (l:=growL stepR l a k) (i:=(l.getD k default).nb.toNat) (by omega))
  have oz15 := @refGNode_v (l.getD k default) ((growL stepR l a k).getD (l.getD k default).na.toNat default) ((growL stepR l a k).getD (l.getD k default).nb.toNat default) q3 qb (by (exact qc (by omega))) q5 q6
  exact VT.run (W:=[.r [] [],.br true,.r [] [.row (sO oz2)],.r [] [.callr (rO oz3)],.br false,.r [] [.row (sO oz7)],.r [] [],.br true,.r [] [.row (sO oz11)],.r [] [.row (sO oz7),.callr (rO oz15)],.r [] [],.br false,.r [] [],.r [] [.n ((↑k:Int)+1)]]) (G:=[.any (rg [(9,4),(26,15),(42,26),(70,4)]),.drop [9,10,11,72],.ren 73 900,.weak 8 (i64 (↑(k+1):Int)),.blk 900 (Blk.slc 40 2 (List.map rchC (growL stepR l a (k+1)))),.sort]) (by kernel_rfl) (.c oz0<|.c oz1<|.c oz2<|.c oz3<|.c oz4<|.c oz5<|.c oz6<|.c oz7<|.c hc0<|.c (show 0≤(l.getD k default).nb by omega)<|.c (show (l.getD k default).nb<(↑(List.map rchC (growL stepR l a k)).length:Int) by omega)<|.c oz11<|.c oz5<|.c oz6<|.c oz7<|.c oz15<|.c (show ((nodeR (l.getD k default) ((growL stepR l a k).getD (l.getD k default).na.toNat default) ((growL stepR l a k).getD (l.getD k default).nb.toNat default)).snd != 0)=false by (rw [s6 (by omega)] at q;rw [q];rfl))<|.c (show ((List.map rchC (growL stepR l a k)).length+1)*2≤140737488355328 by omega)<|.c (show (List.map rchC (growL stepR l a k)).length+1≤9223372036854775807 by omega)<|.c (i6n ((↑k:Int)+1) (by omega))<|.c (Weak.int (k:=.i64) (show (((↑k:Int)+1):Int)=((↑(k+1):Int)) from (by omega)))<|.c (show BlkW (Blk.slc 40 2 (List.map rchC (growL stepR l a k)++[[i8 (nodeR (l.getD k default) ((growL stepR l a k).getD (l.getD k default).na.toNat default) ((growL stepR l a k).getD (l.getD k default).nb.toNat default)).fst.lo,i8 (nodeR (l.getD k default) ((growL stepR l a k).getD (l.getD k default).na.toNat default) ((growL stepR l a k).getD (l.getD k default).nb.toNat default)).fst.hi]])) (Blk.slc 40 2 (List.map rchC (growL stepR l a (k+1)))) from (BlkW.rows (rows_to (rchC) (r:=List.map rchC (growL stepR l a k)++[[i8 (nodeR (l.getD k default) ((growL stepR l a k).getD (l.getD k default).na.toNat default) ((growL stepR l a k).getD (l.getD k default).nb.toNat default)).fst.lo,i8 (nodeR (l.getD k default) ((growL stepR l a k).getD (l.getD k default).na.toNat default) ((growL stepR l a k).getD (l.getD k default).nb.toNat default)).fst.hi]]) (l:=growL stepR l a k++[Rng.mk (nodeR (l.getD k default) ((growL stepR l a k).getD (l.getD k default).na.toNat default) ((growL stepR l a k).getD (l.getD k default).nb.toNat default)).fst.lo (nodeR (l.getD k default) ((growL stepR l a k).getD (l.getD k default).na.toNat default) ((growL stepR l a k).getD (l.getD k default).nb.toNat default)).fst.hi]) (m:=growL stepR l a (k+1)) (by first | (simp only [List.map_append,List.map_cons,List.map_nil,List.map_set,List.map_replicate,List.map_take,List.map_drop];done) | rfl | (simp only [List.map_append,List.map_cons,List.map_nil,List.map_set,List.map_replicate,List.map_take,List.map_drop];rfl) | (simp only [List.map_append,List.map_cons,List.map_nil,List.map_set,List.map_replicate,List.map_take,List.map_drop,rchC,ints];done)) (show (growL stepR l a k++[Rng.mk (nodeR (l.getD k default) ((growL stepR l a k).getD (l.getD k default).na.toNat default) ((growL stepR l a k).getD (l.getD k default).nb.toNat default)).fst.lo (nodeR (l.getD k default) ((growL stepR l a k).getD (l.getD k default).na.toNat default) ((growL stepR l a k).getD (l.getD k default).nb.toNat default)).fst.hi])=(growL stepR l a (k+1)) from (by (rw [growL,s6 (by omega)]))))))<|.n)
 ·have gc0:¬(l.getD k default).kd=6:=bef hc0
  have oz12 := @refGNode_v (l.getD k default) ((growL stepR l a k).getD (l.getD k default).na.toNat default) ((growL stepR l a k).getD (l.getD k default).na.toNat default) q3 qb qb q5 q6
  exact VT.run (W:=[.r [] [],.br true,.r [] [.row (sO oz2)],.r [] [.callr (rO oz3)],.br false,.r [] [.row (sO oz7)],.r [] [],.br false,.r [] [.row (sO oz7),.callr (rO oz12)],.r [] [],.br false,.r [] [],.r [] [.n ((↑k:Int)+1)]]) (G:=[.any (rg [(9,4),(26,15),(42,8),(55,13),(70,4)]),.drop [9,10,11,72],.ren 73 900,.weak 8 (i64 (↑(k+1):Int)),.blk 900 (Blk.slc 40 2 (List.map rchC (growL stepR l a (k+1)))),.sort]) (by kernel_rfl) (.c oz0<|.c oz1<|.c oz2<|.c oz3<|.c oz4<|.c oz5<|.c oz6<|.c oz7<|.c hc0<|.c oz5<|.c oz6<|.c oz7<|.c oz12<|.c (show ((nodeR (l.getD k default) ((growL stepR l a k).getD (l.getD k default).na.toNat default) ((growL stepR l a k).getD (l.getD k default).na.toNat default)).snd != 0)=false by (rw [s1 (by omega)] at q;rw [q];rfl))<|.c (show ((List.map rchC (growL stepR l a k)).length+1)*2≤140737488355328 by omega)<|.c (show (List.map rchC (growL stepR l a k)).length+1≤9223372036854775807 by omega)<|.c (i6n ((↑k:Int)+1) (by omega))<|.c (Weak.int (k:=.i64) (show (((↑k:Int)+1):Int)=((↑(k+1):Int)) from (by omega)))<|.c (show BlkW (Blk.slc 40 2 (List.map rchC (growL stepR l a k)++[[i8 (nodeR (l.getD k default) ((growL stepR l a k).getD (l.getD k default).na.toNat default) ((growL stepR l a k).getD (l.getD k default).na.toNat default)).fst.lo,i8 (nodeR (l.getD k default) ((growL stepR l a k).getD (l.getD k default).na.toNat default) ((growL stepR l a k).getD (l.getD k default).na.toNat default)).fst.hi]])) (Blk.slc 40 2 (List.map rchC (growL stepR l a (k+1)))) from (BlkW.rows (rows_to (rchC) (r:=List.map rchC (growL stepR l a k)++[[i8 (nodeR (l.getD k default) ((growL stepR l a k).getD (l.getD k default).na.toNat default) ((growL stepR l a k).getD (l.getD k default).na.toNat default)).fst.lo,i8 (nodeR (l.getD k default) ((growL stepR l a k).getD (l.getD k default).na.toNat default) ((growL stepR l a k).getD (l.getD k default).na.toNat default)).fst.hi]]) (l:=growL stepR l a k++[Rng.mk (nodeR (l.getD k default) ((growL stepR l a k).getD (l.getD k default).na.toNat default) ((growL stepR l a k).getD (l.getD k default).na.toNat default)).fst.lo (nodeR (l.getD k default) ((growL stepR l a k).getD (l.getD k default).na.toNat default) ((growL stepR l a k).getD (l.getD k default).na.toNat default)).fst.hi]) (m:=growL stepR l a (k+1)) (by first | (simp only [List.map_append,List.map_cons,List.map_nil,List.map_set,List.map_replicate,List.map_take,List.map_drop];done) | rfl | (simp only [List.map_append,List.map_cons,List.map_nil,List.map_set,List.map_replicate,List.map_take,List.map_drop];rfl) | (simp only [List.map_append,List.map_cons,List.map_nil,List.map_set,List.map_replicate,List.map_take,List.map_drop,rchC,ints];done)) (show (growL stepR l a k++[Rng.mk (nodeR (l.getD k default) ((growL stepR l a k).getD (l.getD k default).na.toNat default) ((growL stepR l a k).getD (l.getD k default).na.toNat default)).fst.lo (nodeR (l.getD k default) ((growL stepR l a k).getD (l.getD k default).na.toNat default) ((growL stepR l a k).getD (l.getD k default).na.toNat default)).fst.hi])=(growL stepR l a (k+1)) from (by (rw [growL,s1 (by omega)]))))))<|.n)
theorem rflow_ly_e (l:List Nod) (a:Rng) (okl:∀ n∈l,n.Ok) (wl:∀ n∈l,n.w.length≤100000∧n.b.length≤100000) (ha:a.In8) (f8:l.length≤8) (h:∀ k,k<l.length→errL stepR l a k=0):VT Tryz.prog (fnC Tryz.f15 [1,1,1,1,1,0,1,0,0]) (rflow_ly_I l a (l.length)) (.exit 0) (rflow_ly_Z l a):=by
 exact VT.run (W:=[.r [] [],.br false]) (G:=[.any (rg [(26,4)]),.sort]) (by kernel_rfl) (.c (show decide ((↑l.length:Int)<(↑(List.map nodC l).length:Int))=false by (simp;done))<|.n)
theorem rflow_ly (l:List Nod) (a:Rng) (okl:∀ n∈l,n.Ok) (wl:∀ n∈l,n.w.length≤100000∧n.b.length≤100000) (ha:a.In8) (f8:l.length≤8) (h:∀ k,k<l.length→errL stepR l a k=0):VT Tryz.prog (fnC Tryz.f15 [1,1,1,1,1,0,1,0]) (rflow_ly_I l a 0) (.exit 0) (rflow_ly_Z l a) :=
 VT.loop (fun k=>rflow_ly_I l a k) (l.length) (fun k hk=>rflow_ly_s l a okl wl ha f8 h k hk) (rflow_ly_e l a okl wl ha f8 h) (by intro h;cases h)
noncomputable def rflow_ln_I (l:List Nod) (a:Rng) (m:Nat) (k:Nat):VS:=stt 77 [(0,.sl 19 (l.map nodC)),(7,.own 900),(8,i64 k)] [(900,.slc 40 2 ((growL stepR l a k).map rchC))]
noncomputable def rflow_ln_Z (l:List Nod) (a:Rng) (m:Nat):VS:=stt 77 [(4,nilv),(5,i64 m),(6,i64 (errL stepR l a m))] []
theorem rflow_ln_s (l:List Nod) (a:Rng) (m:Nat) (okl:∀ n∈l,n.Ok) (wl:∀ n∈l,n.w.length≤100000∧n.b.length≤100000) (ha:a.In8) (f8:l.length≤8) (hm:m<l.length) (hf:errL stepR l a m≠0) (h:∀ k,k<m→errL stepR l a k=0) (k:Nat) (hk:k<m):VT Tryz.prog (fnC Tryz.f15 [1,1,1,1,1,0,1,0,0]) (rflow_ln_I l a m k) .normal (rflow_ln_I l a m (k+1)):=by
 have q:=h k hk
 have q1:=growL_len stepR l a k
 have q2:=flow_in okl ha (show k≤l.length by omega)
 have q3:=getD_in okl (show k<l.length by omega)
 have q4:=getD_in wl (show k<l.length by omega)
 obtain ⟨q5,q6⟩:=q4
 have q8:(List.map rchC (growL stepR l a k)).length=(growL stepR l a k).length:=List.length_map _
 unfold errL at q
 have qt:=stepR_ok q
 obtain ⟨qa,qb,qc⟩:=stepR_at (n:=l.getD k default) q2 qt
 have s6:=stepR_6 qt
 have s1:=stepR_1 qt
 have oz0:=(show decide ((↑k:Int)<(↑(List.map nodC l).length:Int))=true by (simp;omega))
 have oz1:=(show 0≤(↑k:Int) by omega)
 have oz2:=(map_at (nodC) (default) (l:=l) (i:=k) (by omega))
 have oz3 := @refThere_v (l.getD k default) ((↑(List.map rchC (growL stepR l a k)).length:Int))
 have oz4:=(show (!thereB (l.getD k default) (↑(List.map rchC (growL stepR l a k)).length:Int))=false by (rw [qt];rfl))
 have oz5:=(show 0≤(l.getD k default).na by omega)
 have oz6:=(show (l.getD k default).na<(↑(List.map rchC (growL stepR l a k)).length:Int) by omega)
 have oz7:=(map_at (rchC) (default) (l:=growL stepR l a k) (i:=(l.getD k default).na.toNat) (by omega))
 rcases bft ((l.getD k default).kd==6) with hc0 | hc0
 ·have gc0:(l.getD k default).kd=6:=bet hc0
  have oz11:=(map_at (rchC) (default) (l:=growL stepR l a k) (i:=(l.getD k default).nb.toNat) (by omega))
  have oz15 := @refGNode_v (l.getD k default) ((growL stepR l a k).getD (l.getD k default).na.toNat default) ((growL stepR l a k).getD (l.getD k default).nb.toNat default) q3 qb (by (exact qc (by omega))) q5 q6
  exact VT.run (W:=[.r [] [],.br true,.r [] [.row (sO oz2)],.r [] [.callr (rO oz3)],.br false,.r [] [.row (sO oz7)],.r [] [],.br true,.r [] [.row (sO oz11)],.r [] [.row (sO oz7),.callr (rO oz15)],.r [] [],.br false,.r [] [],.r [] [.n ((↑k:Int)+1)]]) (G:=[.any (rg [(9,4),(26,15),(42,26),(70,4)]),.drop [9,10,11,72],.ren 73 900,.weak 8 (i64 (↑(k+1):Int)),.blk 900 (Blk.slc 40 2 (List.map rchC (growL stepR l a (k+1)))),.sort]) (by kernel_rfl) (.c oz0<|.c oz1<|.c oz2<|.c oz3<|.c oz4<|.c oz5<|.c oz6<|.c oz7<|.c hc0<|.c (show 0≤(l.getD k default).nb by omega)<|.c (show (l.getD k default).nb<(↑(List.map rchC (growL stepR l a k)).length:Int) by omega)<|.c oz11<|.c oz5<|.c oz6<|.c oz7<|.c oz15<|.c (show ((nodeR (l.getD k default) ((growL stepR l a k).getD (l.getD k default).na.toNat default) ((growL stepR l a k).getD (l.getD k default).nb.toNat default)).snd != 0)=false by (rw [s6 (by omega)] at q;rw [q];rfl))<|.c (show ((List.map rchC (growL stepR l a k)).length+1)*2≤140737488355328 by omega)<|.c (show (List.map rchC (growL stepR l a k)).length+1≤9223372036854775807 by omega)<|.c (i6n ((↑k:Int)+1) (by omega))<|.c (Weak.int (k:=.i64) (show (((↑k:Int)+1):Int)=((↑(k+1):Int)) from (by omega)))<|.c (show BlkW (Blk.slc 40 2 (List.map rchC (growL stepR l a k)++[[i8 (nodeR (l.getD k default) ((growL stepR l a k).getD (l.getD k default).na.toNat default) ((growL stepR l a k).getD (l.getD k default).nb.toNat default)).fst.lo,i8 (nodeR (l.getD k default) ((growL stepR l a k).getD (l.getD k default).na.toNat default) ((growL stepR l a k).getD (l.getD k default).nb.toNat default)).fst.hi]])) (Blk.slc 40 2 (List.map rchC (growL stepR l a (k+1)))) from (BlkW.rows (rows_to (rchC) (r:=List.map rchC (growL stepR l a k)++[[i8 (nodeR (l.getD k default) ((growL stepR l a k).getD (l.getD k default).na.toNat default) ((growL stepR l a k).getD (l.getD k default).nb.toNat default)).fst.lo,i8 (nodeR (l.getD k default) ((growL stepR l a k).getD (l.getD k default).na.toNat default) ((growL stepR l a k).getD (l.getD k default).nb.toNat default)).fst.hi]]) (l:=growL stepR l a k++[Rng.mk (nodeR (l.getD k default) ((growL stepR l a k).getD (l.getD k default).na.toNat default) ((growL stepR l a k).getD (l.getD k default).nb.toNat default)).fst.lo (nodeR (l.getD k default) ((growL stepR l a k).getD (l.getD k default).na.toNat default) ((growL stepR l a k).getD (l.getD k default).nb.toNat default)).fst.hi]) (m:=growL stepR l a (k+1)) (by first | (simp only [List.map_append,List.map_cons,List.map_nil,List.map_set,List.map_replicate,List.map_take,List.map_drop];done) | rfl | (simp only [List.map_append,List.map_cons,List.map_nil,List.map_set,List.map_replicate,List.map_take,List.map_drop];rfl) | (simp only [List.map_append,List.map_cons,List.map_nil,List.map_set,List.map_replicate,List.map_take,List.map_drop,rchC,ints];done)) (show (growL stepR l a k++[Rng.mk (nodeR (l.getD k default) ((growL stepR l a k).getD (l.getD k default).na.toNat default) ((growL stepR l a k).getD (l.getD k default).nb.toNat default)).fst.lo (nodeR (l.getD k default) ((growL stepR l a k).getD (l.getD k default).na.toNat default) ((growL stepR l a k).getD (l.getD k default).nb.toNat default)).fst.hi])=(growL stepR l a (k+1)) from (by (rw [growL,s6 (by omega)]))))))<|.n)
 ·have gc0:¬(l.getD k default).kd=6:=bef hc0
  have oz12 := @refGNode_v (l.getD k default) ((growL stepR l a k).getD (l.getD k default).na.toNat default) ((growL stepR l a k).getD (l.getD k default).na.toNat default) q3 qb qb q5 q6
  exact VT.run (W:=[.r [] [],.br true,.r [] [.row (sO oz2)],.r [] [.callr (rO oz3)],.br false,.r [] [.row (sO oz7)],.r [] [],.br false,.r [] [.row (sO oz7),.callr (rO oz12)],.r [] [],.br false,.r [] [],.r [] [.n ((↑k:Int)+1)]]) (G:=[.any (rg [(9,4),(26,15),(42,8),(55,13),(70,4)]),.drop [9,10,11,72],.ren 73 900,.weak 8 (i64 (↑(k+1):Int)),.blk 900 (Blk.slc 40 2 (List.map rchC (growL stepR l a (k+1)))),.sort]) (by kernel_rfl) (.c oz0<|.c oz1<|.c oz2<|.c oz3<|.c oz4<|.c oz5<|.c oz6<|.c oz7<|.c hc0<|.c oz5<|.c oz6<|.c oz7<|.c oz12<|.c (show ((nodeR (l.getD k default) ((growL stepR l a k).getD (l.getD k default).na.toNat default) ((growL stepR l a k).getD (l.getD k default).na.toNat default)).snd != 0)=false by (rw [s1 (by omega)] at q;rw [q];rfl))<|.c (show ((List.map rchC (growL stepR l a k)).length+1)*2≤140737488355328 by omega)<|.c (show (List.map rchC (growL stepR l a k)).length+1≤9223372036854775807 by omega)<|.c (i6n ((↑k:Int)+1) (by omega))<|.c (Weak.int (k:=.i64) (show (((↑k:Int)+1):Int)=((↑(k+1):Int)) from (by omega)))<|.c (show BlkW (Blk.slc 40 2 (List.map rchC (growL stepR l a k)++[[i8 (nodeR (l.getD k default) ((growL stepR l a k).getD (l.getD k default).na.toNat default) ((growL stepR l a k).getD (l.getD k default).na.toNat default)).fst.lo,i8 (nodeR (l.getD k default) ((growL stepR l a k).getD (l.getD k default).na.toNat default) ((growL stepR l a k).getD (l.getD k default).na.toNat default)).fst.hi]])) (Blk.slc 40 2 (List.map rchC (growL stepR l a (k+1)))) from (BlkW.rows (rows_to (rchC) (r:=List.map rchC (growL stepR l a k)++[[i8 (nodeR (l.getD k default) ((growL stepR l a k).getD (l.getD k default).na.toNat default) ((growL stepR l a k).getD (l.getD k default).na.toNat default)).fst.lo,i8 (nodeR (l.getD k default) ((growL stepR l a k).getD (l.getD k default).na.toNat default) ((growL stepR l a k).getD (l.getD k default).na.toNat default)).fst.hi]]) (l:=growL stepR l a k++[Rng.mk (nodeR (l.getD k default) ((growL stepR l a k).getD (l.getD k default).na.toNat default) ((growL stepR l a k).getD (l.getD k default).na.toNat default)).fst.lo (nodeR (l.getD k default) ((growL stepR l a k).getD (l.getD k default).na.toNat default) ((growL stepR l a k).getD (l.getD k default).na.toNat default)).fst.hi]) (m:=growL stepR l a (k+1)) (by first | (simp only [List.map_append,List.map_cons,List.map_nil,List.map_set,List.map_replicate,List.map_take,List.map_drop];done) | rfl | (simp only [List.map_append,List.map_cons,List.map_nil,List.map_set,List.map_replicate,List.map_take,List.map_drop];rfl) | (simp only [List.map_append,List.map_cons,List.map_nil,List.map_set,List.map_replicate,List.map_take,List.map_drop,rchC,ints];done)) (show (growL stepR l a k++[Rng.mk (nodeR (l.getD k default) ((growL stepR l a k).getD (l.getD k default).na.toNat default) ((growL stepR l a k).getD (l.getD k default).na.toNat default)).fst.lo (nodeR (l.getD k default) ((growL stepR l a k).getD (l.getD k default).na.toNat default) ((growL stepR l a k).getD (l.getD k default).na.toNat default)).fst.hi])=(growL stepR l a (k+1)) from (by (rw [growL,s1 (by omega)]))))))<|.n)
theorem rflow_ln_e (l:List Nod) (a:Rng) (m:Nat) (okl:∀ n∈l,n.Ok) (wl:∀ n∈l,n.w.length≤100000∧n.b.length≤100000) (ha:a.In8) (f8:l.length≤8) (hm:m<l.length) (hf:errL stepR l a m≠0) (h:∀ k,k<m→errL stepR l a k=0):VT Tryz.prog (fnC Tryz.f15 [1,1,1,1,1,0,1,0,0]) (rflow_ln_I l a m (m)) (.ret) (rflow_ln_Z l a m):=by
 have q1:=growL_len stepR l a m
 have q2:=flow_in okl ha (Nat.le_of_lt hm)
 have q3:=getD_in okl hm
 have q4:=getD_in wl hm
 obtain ⟨q5,q6⟩:=q4
 have q8:(List.map rchC (growL stepR l a m)).length=(growL stepR l a m).length:=List.length_map _
 have qa:=fun h=>stepR_at (n:=l.getD m default) q2 h
 have s6 := @stepR_6 (l.getD m default) (growL stepR l a m)
 have s1 := @stepR_1 (l.getD m default) (growL stepR l a m)
 have s0 := @stepR_0 (l.getD m default) (growL stepR l a m)
 have q:errL stepR l a m=(stepR (l.getD m default) (growL stepR l a m)).2:=rfl
 unfold errL at hf
 have oz0:=(show decide ((↑m:Int)<(↑(List.map nodC l).length:Int))=true by (simp;omega))
 have oz1:=(show 0≤(↑m:Int) by omega)
 have oz2:=(map_at (nodC) (default) (l:=l) (i:=m) hm)
 have oz3 := @refThere_v (l.getD m default) ((↑(List.map rchC (growL stepR l a m)).length:Int))
 rcases bft (!thereB (l.getD m default) (↑(List.map rchC (growL stepR l a m)).length:Int)) with hc0 | hc0
 ·have gc0:thereB (l.getD m default) (↑(List.map rchC (growL stepR l a m)).length:Int)=false:=by first | exact hc0 | exact of_decide_eq_true hc0 | exact of_decide_eq_false hc0 | simpa [eqNums] using hc0 | (simp [eqNums] at hc0 ⊢;first | done | assumption | omega)
  exact VT.run (W:=[.r [] [],.br true,.r [] [.row (sO oz2)],.r [] [.callr (rO oz3)],.br true,.r [] []]) (G:=[.any (rg [(0,1),(7,3),(26,4),(32,10)]),.drop [900,9],.weak 6 (i64 (errL stepR l a m)),.sort]) (by kernel_rfl) (.c oz0<|.c oz1<|.c oz2<|.c oz3<|.c hc0<|.c (Weak.int (k:=.i64) (show ((8):Int)=(errL stepR l a m) from (by (rw [q,s0 (by simp_all)]))))<|.n)
 ·have gc0:thereB (l.getD m default) (↑(List.map rchC (growL stepR l a m)).length:Int)=true:=by first | exact hc0 | exact of_decide_eq_true hc0 | exact of_decide_eq_false hc0 | simpa [eqNums] using hc0 | (simp [eqNums] at hc0 ⊢;first | done | assumption | omega)
  have oz5:=(show 0≤(l.getD m default).na by (have:=qa (by assumption);omega))
  have oz6:=(show (l.getD m default).na<(↑(List.map rchC (growL stepR l a m)).length:Int) by (have:=qa (by assumption);omega))
  have oz7:=(map_at (rchC) (default) (l:=growL stepR l a m) (i:=(l.getD m default).na.toNat) (by (have:=qa (by assumption);omega)))
  rcases bft ((l.getD m default).kd==6) with hc1 | hc1
  ·have gc1:(l.getD m default).kd=6:=bet hc1
   have oz11:=(map_at (rchC) (default) (l:=growL stepR l a m) (i:=(l.getD m default).nb.toNat) (by (have:=qa (by assumption);omega)))
   have oz15 := @refGNode_v (l.getD m default) ((growL stepR l a m).getD (l.getD m default).na.toNat default) ((growL stepR l a m).getD (l.getD m default).nb.toNat default) q3 (by (have:=qa (by assumption);exact this.2.1)) (by (have:=qa (by assumption);exact this.2.2 (by omega))) q5 q6
   have oz17:=(Weak.int (k:=.i64) (show (((nodeR (l.getD m default) ((growL stepR l a m).getD (l.getD m default).na.toNat default) ((growL stepR l a m).getD (l.getD m default).nb.toNat default)).snd):Int)=(errL stepR l a m) from (by (rw [q,s6 (by assumption) (by omega)]))))
   exact VT.run (W:=[.r [] [],.br true,.r [] [.row (sO oz2)],.r [] [.callr (rO oz3)],.br false,.r [] [.row (sO oz7)],.r [] [],.br true,.r [] [.row (sO oz11)],.r [] [.row (sO oz7),.callr (rO oz15)],.r [] [],.br true,.r [] []]) (G:=[.any (rg [(0,1),(7,6),(26,4),(32,9),(42,28)]),.drop [900,9,10,11],.weak 6 (wO oz17),.sort]) (by kernel_rfl) (.c oz0<|.c oz1<|.c oz2<|.c oz3<|.c hc0<|.c oz5<|.c oz6<|.c oz7<|.c hc1<|.c (show 0≤(l.getD m default).nb by (have:=qa (by assumption);omega))<|.c (show (l.getD m default).nb<(↑(List.map rchC (growL stepR l a m)).length:Int) by (have:=qa (by assumption);omega))<|.c oz11<|.c oz5<|.c oz6<|.c oz7<|.c oz15<|.c (show ((nodeR (l.getD m default) ((growL stepR l a m).getD (l.getD m default).na.toNat default) ((growL stepR l a m).getD (l.getD m default).nb.toNat default)).snd != 0)=true by (rw [s6 (by assumption) (by omega)] at hf;rw [bne_iff_ne];exact hf))<|.c oz17<|.n)
  ·have gc1:¬(l.getD m default).kd=6:=bef hc1
   have oz12 := @refGNode_v (l.getD m default) ((growL stepR l a m).getD (l.getD m default).na.toNat default) ((growL stepR l a m).getD (l.getD m default).na.toNat default) q3 (by (have:=qa (by assumption);exact this.2.1)) (by (have:=qa (by assumption);exact this.2.1)) q5 q6
   have oz14:=(Weak.int (k:=.i64) (show (((nodeR (l.getD m default) ((growL stepR l a m).getD (l.getD m default).na.toNat default) ((growL stepR l a m).getD (l.getD m default).na.toNat default)).snd):Int)=(errL stepR l a m) from (by (rw [q,s1 (by assumption) (by omega)]))))
   exact VT.run (W:=[.r [] [],.br true,.r [] [.row (sO oz2)],.r [] [.callr (rO oz3)],.br false,.r [] [.row (sO oz7)],.r [] [],.br false,.r [] [.row (sO oz7),.callr (rO oz12)],.r [] [],.br true,.r [] []]) (G:=[.any (rg [(0,1),(7,6),(26,4),(32,9),(42,8),(55,15)]),.drop [900,9,10,11],.weak 6 (wO oz14),.sort]) (by kernel_rfl) (.c oz0<|.c oz1<|.c oz2<|.c oz3<|.c hc0<|.c oz5<|.c oz6<|.c oz7<|.c hc1<|.c oz5<|.c oz6<|.c oz7<|.c oz12<|.c (show ((nodeR (l.getD m default) ((growL stepR l a m).getD (l.getD m default).na.toNat default) ((growL stepR l a m).getD (l.getD m default).na.toNat default)).snd != 0)=true by (rw [s1 (by assumption) (by omega)] at hf;rw [bne_iff_ne];exact hf))<|.c oz14<|.n)
theorem rflow_ln (l:List Nod) (a:Rng) (m:Nat) (okl:∀ n∈l,n.Ok) (wl:∀ n∈l,n.w.length≤100000∧n.b.length≤100000) (ha:a.In8) (f8:l.length≤8) (hm:m<l.length) (hf:errL stepR l a m≠0) (h:∀ k,k<m→errL stepR l a k=0):VT Tryz.prog (fnC Tryz.f15 [1,1,1,1,1,0,1,0]) (rflow_ln_I l a m 0) (.ret) (rflow_ln_Z l a m) :=
 VT.loop (fun k=>rflow_ln_I l a m k) (m) (fun k hk=>rflow_ln_s l a m okl wl ha f8 hm hf h k hk) (rflow_ln_e l a m okl wl ha f8 hm hf h) (by intro h;cases h)
theorem rflow_y (l:List Nod) (a:Rng) (okl:∀ n∈l,n.Ok) (wl:∀ n∈l,n.w.length≤100000∧n.b.length≤100000) (ha:a.In8) (h:FOK l a):VC Tryz.prog 15 ([.sl 19 (l.map nodC),rch a]) (.tup [.sl 2 ((growL stepR l a l.length).map rchC),i64 l.length,i64 0]):=by
 obtain ⟨q2,q3,q1,q4⟩:=id h
 have oz4 := @rflow_ly (l) (a) okl wl ha q3 q4
 exact (VC.run (fn:=Tryz.f15) (W:=[.r [] [],.r [] [],.br false,.r [] [],.br false,.r [] [],.br false,.r [] [],.r [] [],.code [.any (rg [(1,1),(3,4),(13,13)]),.drop [3],.ren 25 900,.weak 8 (i64 (↑0:Int)),.sort] (Exit.exit 0) (zO oz4),.r [] []]) (r:=AV.tup [AV.sl 2 (List.map rchC (growL stepR l a l.length)),i64 (↑(List.map nodC l).length:Int),i64 0]) Tryz.func15 (by kernel_rfl) (.c (show ((↑(List.map nodC l).length:Int)==0)=false by (simp only [decide_eq_true_eq,decide_eq_false_iff_not,beq_iff_eq,bne_iff_ne,ne_eq,beq_eq_false_iff_ne,bne_eq_false_iff_eq,Bool.not_eq_true',Bool.not_eq_false',Bool.not_eq_eq_eq_not,Bool.not_true,Bool.not_false,Classical.not_not,Int.not_lt,Int.not_le,Bool.and_eq_true,Bool.and_eq_false_iff,Bool.or_eq_true,Bool.or_eq_false_iff,Bool.and_true,Bool.true_and,Bool.and_false,Bool.false_and,Bool.or_false,Bool.false_or,eqNums,List.length_map,List.length_append,List.length_cons,List.length_nil,List.length_set,List.length_replicate,List.length_take,List.length_drop,List.length_range,Int.toNat_natCast,Nat.zero_add,List.map_eq_nil_iff];(first | done | with_reducible assumption | omega | contradiction)))<|.c (show decide ((↑(List.map nodC l).length:Int) > 8)=false by (simp;omega))<|.c (decide_eq_false (p:=(a.lo > a.hi)) (by omega))<|.c (Weak.int (k:=.i64) (show ((0):Int)=((↑0:Int)) from (by omega)))<|.c oz4<|.n)).weak (WeakL.refl _) (Weak.tup (.cons (.refl _) (.cons (Weak.int (show (((↑(List.map nodC l).length:Int)):Int)=((↑l.length:Int)) from (by (simp;done)))) (.cons (.refl _) .nil))))
theorem rflow_m (l:List Nod) (a:Rng) (m:Nat) (okl:∀ n∈l,n.Ok) (wl:∀ n∈l,n.w.length≤100000∧n.b.length≤100000) (ha:a.In8) (i:a.lo≤a.hi) (f8:l.length≤8) (hm:m<l.length) (hf:errL stepR l a m≠0) (h:∀ k,k<m→errL stepR l a k=0):VC Tryz.prog 15 ([.sl 19 (l.map nodC),rch a]) (.tup [nilv,i64 m,i64 (errL stepR l a m)]):=by
 have oz4 := @rflow_ln (l) (a) (m) okl wl ha f8 hm hf h
 exact VC.run (fn:=Tryz.f15) (W:=[.r [] [],.r [] [],.br false,.r [] [],.br false,.r [] [],.br false,.r [] [],.r [] [],.code [.any (rg [(1,1),(3,4),(13,13)]),.drop [3],.ren 25 900,.weak 8 (i64 (↑0:Int)),.sort] (Exit.ret) (zO oz4)]) Tryz.func15 (by kernel_rfl) (.c (show ((↑(List.map nodC l).length:Int)==0)=false by (simp only [decide_eq_true_eq,decide_eq_false_iff_not,beq_iff_eq,bne_iff_ne,ne_eq,beq_eq_false_iff_ne,bne_eq_false_iff_eq,Bool.not_eq_true',Bool.not_eq_false',Bool.not_eq_eq_eq_not,Bool.not_true,Bool.not_false,Classical.not_not,Int.not_lt,Int.not_le,Bool.and_eq_true,Bool.and_eq_false_iff,Bool.or_eq_true,Bool.or_eq_false_iff,Bool.and_true,Bool.true_and,Bool.and_false,Bool.false_and,Bool.or_false,Bool.false_or,eqNums,List.length_map,List.length_append,List.length_cons,List.length_nil,List.length_set,List.length_replicate,List.length_take,List.length_drop,List.length_range,Int.toNat_natCast,Nat.zero_add,List.map_eq_nil_iff];(first | done | with_reducible assumption | omega | contradiction)))<|.c (show decide ((↑(List.map nodC l).length:Int) > 8)=false by (simp;omega))<|.c (decide_eq_false (p:=(a.lo > a.hi)) (by omega))<|.c (Weak.int (k:=.i64) (show ((0):Int)=((↑0:Int)) from (by omega)))<|.c oz4<|.n)
theorem rflow_a (l:List Nod) (a:Rng) (hl:l.length≤1000) (h:l.length=0∨8<l.length∨a.lo > a.hi):VC Tryz.prog 15 ([.sl 19 (l.map nodC),rch a]) (.tup [nilv,i64 (flowE l a).1,i64 (flowE l a).2]):=by
 rcases bft ((↑(List.map nodC l).length:Int)==0) with hc0 | hc0
 ·have gc0:(↑(List.map nodC l).length:Int)=0:=bet hc0
  exact (VC.run (fn:=Tryz.f15) (W:=[.r [] [],.r [] [],.br true,.r [] []]) (r:=AV.tup [AV.lit (Value.slice none 0 0),i64 (-1),i64 12]) Tryz.func15 (by kernel_rfl) (.c hc0<|.n)).weak (WeakL.refl _) (Weak.tup (.cons (.refl _) (.cons (Weak.int (show ((-1):Int)=((flowE l a).fst) from (by (unfold flowE;(try simp only [List.length_map] at *);(repeat first | rw [if_pos (by omega)] | rw [if_neg (by omega)]))))) (.cons (Weak.int (show ((12):Int)=((flowE l a).snd) from (by (unfold flowE;(try simp only [List.length_map] at *);(repeat first | rw [if_pos (by omega)] | rw [if_neg (by omega)]))))) .nil))))
 ·have gc0:¬(↑(List.map nodC l).length:Int)=0:=bef hc0
  rcases bft (decide ((↑(List.map nodC l).length:Int) > 8)) with hc1 | hc1
  ·have gc1:=of_decide_eq_true hc1
   exact (VC.run (fn:=Tryz.f15) (W:=[.r [] [],.r [] [],.br false,.r [] [],.br true,.r [] []]) (r:=AV.tup [AV.lit (Value.slice none 0 0),i64 (-1),i64 4]) Tryz.func15 (by kernel_rfl) (.c hc0<|.c hc1<|.n)).weak (WeakL.refl _) (Weak.tup (.cons (.refl _) (.cons (Weak.int (show ((-1):Int)=((flowE l a).fst) from (by (unfold flowE;(try simp only [List.length_map] at *);(repeat first | rw [if_pos (by omega)] | rw [if_neg (by omega)]))))) (.cons (Weak.int (show ((4):Int)=((flowE l a).snd) from (by (unfold flowE;(try simp only [List.length_map] at *);(repeat first | rw [if_pos (by omega)] | rw [if_neg (by omega)]))))) .nil))))
  ·have gc1:=of_decide_eq_false hc1
   exact (VC.run (fn:=Tryz.f15) (W:=[.r [] [],.r [] [],.br false,.r [] [],.br false,.r [] [],.br true,.r [] []]) (r:=AV.tup [AV.lit (Value.slice none 0 0),i64 (-1),i64 2]) Tryz.func15 (by kernel_rfl) (.c hc0<|.c hc1<|.c (show decide (a.lo > a.hi)=true by (simp only [decide_eq_true_eq,decide_eq_false_iff_not,beq_iff_eq,bne_iff_ne,ne_eq,beq_eq_false_iff_ne,bne_eq_false_iff_eq,Bool.not_eq_true',Bool.not_eq_false',Bool.not_eq_eq_eq_not,Bool.not_true,Bool.not_false,Classical.not_not,Int.not_lt,Int.not_le,Bool.and_eq_true,Bool.and_eq_false_iff,Bool.or_eq_true,Bool.or_eq_false_iff,Bool.and_true,Bool.true_and,Bool.and_false,Bool.false_and,Bool.or_false,Bool.false_or,eqNums,List.length_map,List.length_append,List.length_cons,List.length_nil,List.length_set,List.length_replicate,List.length_take,List.length_drop,List.length_range,Int.toNat_natCast,Nat.zero_add,List.map_eq_nil_iff] at *;(first | done | with_reducible assumption | omega | contradiction)))<|.n)).weak (WeakL.refl _) (Weak.tup (.cons (.refl _) (.cons (Weak.int (show ((-1):Int)=((flowE l a).fst) from (by (unfold flowE;(try simp only [List.length_map] at *);(repeat first | rw [if_pos (by omega)] | rw [if_neg (by omega)]))))) (.cons (Weak.int (show ((2):Int)=((flowE l a).snd) from (by (unfold flowE;(try simp only [List.length_map] at *);(repeat first | rw [if_pos (by omega)] | rw [if_neg (by omega)]))))) .nil))))
theorem rflow_n (l:List Nod) (a:Rng) (okl:∀ n∈l,n.Ok) (wl:∀ n∈l,n.w.length≤100000∧n.b.length≤100000) (ha:a.In8) (hl:l.length≤1000) (h:¬ FOK l a):VC Tryz.prog 15 [.sl 19 (l.map nodC),rch a] (.tup [nilv,i64 (flowE l a).1,i64 (flowE l a).2]):=by
 rcases FOK.cases l a with q | q | ⟨i,e,f,m,h1,h2,h3⟩
 ·exact absurd q h
 ·exact rflow_a l a hl q
 ·rw [flowE_at i e f h1 h2 h3];exact rflow_m l a m okl wl ha i f h1 h2 h3
theorem fuseSame_y (l F:List Nod) (x:Ten) (h:fewB l x.d.length=true) (v:Vals l x) (vF:Vals F x) (h1:VC Tryz.prog 13 [.sl 19 (l.map nodC),shp ⟨x.h,x.x,x.c⟩] (.sl 19 (F.map nodC))) (eF:(growL valE F x F.length).getD F.length default=(growL valE l x l.length).getD l.length default) (hk:FOK l ⟨-128,127⟩) (hF:FOK F ⟨-128,127⟩) (eR:(growL stepR F ⟨-128,127⟩ F.length).getD F.length default=(growL stepR l ⟨-128,127⟩ l.length).getD l.length default):VC Tryz.prog 3 ([.sl 19 (l.map nodC),ten .i8 x]) (bv true):=by
 have q:=few_facts h
 obtain ⟨q1,q2,q3⟩:=q
 have v1:=v.v.okl
 have v2:=v.v.wl
 have v3:=v.v.ok
 have v5:=v.v
 have v6:=v.r
 have v7:=v.e
 have u1:=vF.v.okl
 have u2:=vF.v.wl
 have u5:=vF.v
 have u7:=vF.e
 have u8:=vF.v.s.f
 have rr:Rng.In8 ⟨-128,127⟩:=⟨by exact ⟨by decide,by decide⟩,by exact ⟨by decide,by decide⟩⟩
 have q8:=growL_len valE l x l.length
 have q9:=growL_len valE F x F.length
 have r8:=growL_len stepR l ⟨-128,127⟩ l.length
 have r9:=growL_len stepR F ⟨-128,127⟩ F.length
 have qa:(List.map tnC (growL valE l x l.length)).length=l.length+1:=by rw [List.length_map,q8]
 have qb:(List.map tnC (growL valE F x F.length)).length=F.length+1:=by rw [List.length_map,q9]
 have ra:(List.map rchC (growL stepR l ⟨-128,127⟩ l.length)).length=l.length+1:=by rw [List.length_map,r8]
 have rb:(List.map rchC (growL stepR F ⟨-128,127⟩ F.length)).length=F.length+1:=by rw [List.length_map,r9]
 have qc:((((List.map tnC (growL valE F x F.length)).length:Nat):Int)-1).toNat=F.length:=by omega
 have qd:((((List.map tnC (growL valE l x l.length)).length:Nat):Int)-1).toNat=l.length:=by omega
 have rc:((((List.map rchC (growL stepR F ⟨-128,127⟩ F.length)).length:Nat):Int)-1).toNat=F.length:=by omega
 have rd:((((List.map rchC (growL stepR l ⟨-128,127⟩ l.length)).length:Nat):Int)-1).toNat=l.length:=by omega
 have qe:((growL valE l x l.length).getD l.length default).d.length≤1000000:=by
  have h1:=(tenRight.rt (v.d (Nat.le_refl _)).2).dl
  have h2:=(tenRight.rt (v.d (Nat.le_refl _)).2).el
  unfold gv at h1 h2;omega
 have oz0 := @few_v (l) (x)
 have oz2 := @rvals_y (l) (x) v5 v6 v7
 have oz3:=(show false=false by with_reducible rfl)
 have oz4 := @h1
 have oz5 := @rvals_y (F) (x) u5 v6 u7
 have oz10:=(show ((↑(List.map tnC (growL valE F x F.length)).length:Int)==0)=false by (refine decide_eq_false ?_;omega))
 have oz14:=(i6n ((↑(List.map tnC (growL valE F x F.length)).length:Int)-1) (by omega))
 have oz17:=(map_at (tnC) (default) (l:=growL valE F x F.length) (i:=((↑(List.map tnC (growL valE F x F.length)).length:Int)-1).toNat) (by omega))
 have oz23:=(i6n ((↑(List.map tnC (growL valE l x l.length)).length:Int)-1) (by omega))
 have oz26:=(map_at (tnC) (default) (l:=growL valE l x l.length) (i:=((↑(List.map tnC (growL valE l x l.length)).length:Int)-1).toNat) (by omega))
 have oz30 := @rtsame_v ((growL valE F x F.length).getD ((↑(List.map tnC (growL valE F x F.length)).length:Int)-1).toNat default) (by (rw [qc,eF];exact qe))
 have oz34 := @rflow_y (l) (Rng.mk (-128) 127) v1 v2 rr hk
 have oz35 := @rflow_y (F) (Rng.mk (-128) 127) u1 u2 rr hF
 have oz39:=(show true=true by with_reducible rfl)
 have oz45:=(decide_eq_true (p:=((↑(List.map rchC (growL stepR F (Rng.mk (-128) 127) F.length)).length:Int) > 0)) (by omega))
 have oz49:=(i6n ((↑(List.map rchC (growL stepR F (Rng.mk (-128) 127) F.length)).length:Int)-1) (by omega))
 have oz52:=(map_at (rchC) (default) (l:=growL stepR F (Rng.mk (-128) 127) F.length) (i:=((↑(List.map rchC (growL stepR F (Rng.mk (-128) 127) F.length)).length:Int)-1).toNat) (by omega))
 have oz58:=(i6n ((↑(List.map rchC (growL stepR l (Rng.mk (-128) 127) l.length)).length:Int)-1) (by omega))
 have oz61:=(map_at (rchC) (default) (l:=growL stepR l (Rng.mk (-128) 127) l.length) (i:=((↑(List.map rchC (growL stepR l (Rng.mk (-128) 127) l.length)).length:Int)-1).toNat) (by omega))
 have oz68 := @known52_v
 exact (VC.run (fn:=Tryz.f3) (W:=[.r [] [],.r [] [.callr (rO oz0)],.br false,.r [] [.callr (rO oz2)],.r [] [],.br false,.r [] [.callr (rO oz4)],.r [] [.callr (rO oz5)],.r [] [.br true,.br true,.br true,.br false,.br true,.br true,.br true,.br true,.n (nO oz14),.br true,.row (sO oz17),.br true,.br true,.br true,.br true,.br true,.n (nO oz23),.br true,.row (sO oz26),.br true,.br true,.call (aO oz30) (rO oz30),.br true,.br false],.br false,.r [] [.callr (rO oz34)],.r [] [.callr (rO oz35)],.r [] [.br true,.br true,.br true,.br true,.br true,.br true,.br true,.br true,.br true,.br true,.br true,.br true,.br true,.n (nO oz49),.br true,.row (sO oz52),.br true,.br true,.br true,.br true,.br true,.n (nO oz58),.br true,.row (sO oz61),.br true,.br true,.v (Value.bool (eqNums [(IntKind.i8,((growL stepR F (Rng.mk (-128) 127) F.length).getD ((↑(List.map rchC (growL stepR F (Rng.mk (-128) 127) F.length)).length:Int)-1).toNat default).lo,((growL stepR l (Rng.mk (-128) 127) l.length).getD ((↑(List.map rchC (growL stepR l (Rng.mk (-128) 127) l.length)).length:Int)-1).toNat default).lo),(IntKind.i8,((growL stepR F (Rng.mk (-128) 127) F.length).getD ((↑(List.map rchC (growL stepR F (Rng.mk (-128) 127) F.length)).length:Int)-1).toNat default).hi,((growL stepR l (Rng.mk (-128) 127) l.length).getD ((↑(List.map rchC (growL stepR l (Rng.mk (-128) 127) l.length)).length:Int)-1).toNat default).hi)])),.br true,.br true,.br false,.op false,.callr (rO oz68),.sel 1]]) (r:=bv (eqNums [(IntKind.i8,((growL stepR F (Rng.mk (-128) 127) F.length).getD ((↑(List.map rchC (growL stepR F (Rng.mk (-128) 127) F.length)).length:Int)-1).toNat default).lo,((growL stepR l (Rng.mk (-128) 127) l.length).getD ((↑(List.map rchC (growL stepR l (Rng.mk (-128) 127) l.length)).length:Int)-1).toNat default).lo),(IntKind.i8,((growL stepR F (Rng.mk (-128) 127) F.length).getD ((↑(List.map rchC (growL stepR F (Rng.mk (-128) 127) F.length)).length:Int)-1).toNat default).hi,((growL stepR l (Rng.mk (-128) 127) l.length).getD ((↑(List.map rchC (growL stepR l (Rng.mk (-128) 127) l.length)).length:Int)-1).toNat default).hi)] || false)) Tryz.func3 (by kernel_rfl) (.c oz0<|.c (show (!fewB l x.d.length)=false by (simp;omega))<|.c oz2<|.c oz3<|.c oz4<|.c oz5<|.c oz3<|.c oz3<|.c oz3<|.c oz3<|.c oz10<|.c oz10<|.c oz10<|.c oz10<|.c oz14<|.c oz10<|.c (show 0≤(↑(List.map tnC (growL valE F x F.length)).length:Int)-1 by omega)<|.c oz17<|.c oz10<|.c oz10<|.c oz10<|.c oz10<|.c oz10<|.c oz23<|.c oz10<|.c (show 0≤(↑(List.map tnC (growL valE l x l.length)).length:Int)-1 by omega)<|.c oz26<|.c oz10<|.c oz10<|.c (show WeakL [AV.agg [i64 ((growL valE F x F.length).getD ((↑(List.map tnC (growL valE F x F.length)).length:Int)-1).toNat default).h,i64 ((growL valE F x F.length).getD ((↑(List.map tnC (growL valE F x F.length)).length:Int)-1).toNat default).x,i64 ((growL valE F x F.length).getD ((↑(List.map tnC (growL valE F x F.length)).length:Int)-1).toNat default).c,AV.sl 1 (List.map (row1 IntKind.i8) ((growL valE F x F.length).getD ((↑(List.map tnC (growL valE F x F.length)).length:Int)-1).toNat default).d)],AV.agg [i64 ((growL valE l x l.length).getD ((↑(List.map tnC (growL valE l x l.length)).length:Int)-1).toNat default).h,i64 ((growL valE l x l.length).getD ((↑(List.map tnC (growL valE l x l.length)).length:Int)-1).toNat default).x,i64 ((growL valE l x l.length).getD ((↑(List.map tnC (growL valE l x l.length)).length:Int)-1).toNat default).c,AV.sl 1 (List.map (row1 IntKind.i8) ((growL valE l x l.length).getD ((↑(List.map tnC (growL valE l x l.length)).length:Int)-1).toNat default).d)]] [AV.agg [i64 ((growL valE F x F.length).getD ((↑(List.map tnC (growL valE F x F.length)).length:Int)-1).toNat default).h,i64 ((growL valE F x F.length).getD ((↑(List.map tnC (growL valE F x F.length)).length:Int)-1).toNat default).x,i64 ((growL valE F x F.length).getD ((↑(List.map tnC (growL valE F x F.length)).length:Int)-1).toNat default).c,AV.sl 1 (List.map (row1 IntKind.i8) ((growL valE F x F.length).getD ((↑(List.map tnC (growL valE F x F.length)).length:Int)-1).toNat default).d)],AV.agg [i64 ((growL valE F x F.length).getD ((↑(List.map tnC (growL valE F x F.length)).length:Int)-1).toNat default).h,i64 ((growL valE F x F.length).getD ((↑(List.map tnC (growL valE F x F.length)).length:Int)-1).toNat default).x,i64 ((growL valE F x F.length).getD ((↑(List.map tnC (growL valE F x F.length)).length:Int)-1).toNat default).c,AV.sl 1 (List.map (row1 IntKind.i8) ((growL valE F x F.length).getD ((↑(List.map tnC (growL valE F x F.length)).length:Int)-1).toNat default).d)]] from (.cons (.refl _) (.cons (Weak.agg (.cons (Weak.int (show ((((growL valE l x l.length).getD ((↑(List.map tnC (growL valE l x l.length)).length:Int)-1).toNat default).h):Int)=(((growL valE F x F.length).getD ((↑(List.map tnC (growL valE F x F.length)).length:Int)-1).toNat default).h) from (by (rw [qc,qd,eF])))) (.cons (Weak.int (show ((((growL valE l x l.length).getD ((↑(List.map tnC (growL valE l x l.length)).length:Int)-1).toNat default).x):Int)=(((growL valE F x F.length).getD ((↑(List.map tnC (growL valE F x F.length)).length:Int)-1).toNat default).x) from (by (rw [qc,qd,eF])))) (.cons (Weak.int (show ((((growL valE l x l.length).getD ((↑(List.map tnC (growL valE l x l.length)).length:Int)-1).toNat default).c):Int)=(((growL valE F x F.length).getD ((↑(List.map tnC (growL valE F x F.length)).length:Int)-1).toNat default).c) from (by (rw [qc,qd,eF])))) (.cons (Weak.rows (rows_to (row1 IntKind.i8) (r:=List.map (row1 IntKind.i8) ((growL valE l x l.length).getD ((↑(List.map tnC (growL valE l x l.length)).length:Int)-1).toNat default).d) (l:=((growL valE l x l.length).getD ((↑(List.map tnC (growL valE l x l.length)).length:Int)-1).toNat default).d) (m:=((growL valE F x F.length).getD ((↑(List.map tnC (growL valE F x F.length)).length:Int)-1).toNat default).d) rfl (show (((growL valE l x l.length).getD ((↑(List.map tnC (growL valE l x l.length)).length:Int)-1).toNat default).d)=(((growL valE F x F.length).getD ((↑(List.map tnC (growL valE F x F.length)).length:Int)-1).toNat default).d) from (by (rw [qc,qd,eF]))))) .nil))))) .nil)))<|.c oz30<|.c oz10<|.c oz10<|.c oz3<|.c oz34<|.c oz35<|.c oz3<|.c oz3<|.c oz3<|.c oz39<|.c oz39<|.c oz39<|.c oz3<|.c oz39<|.c oz3<|.c oz45<|.c oz45<|.c oz45<|.c oz45<|.c oz49<|.c oz45<|.c (show 0≤(↑(List.map rchC (growL stepR F (Rng.mk (-128) 127) F.length)).length:Int)-1 by omega)<|.c oz52<|.c oz45<|.c oz45<|.c oz45<|.c oz45<|.c oz45<|.c oz58<|.c oz45<|.c (show 0≤(↑(List.map rchC (growL stepR l (Rng.mk (-128) 127) l.length)).length:Int)-1 by omega)<|.c oz61<|.c oz45<|.c oz45<|.c (show BinTo Tryz.prog BinOp.eql 40 (Operand.tmp 97) (Operand.tmp 103) (Value.agg #[Value.int IntKind.i8 ((growL stepR F (Rng.mk (-128) 127) F.length).getD ((↑(List.map rchC (growL stepR F (Rng.mk (-128) 127) F.length)).length:Int)-1).toNat default).lo,Value.int IntKind.i8 ((growL stepR F (Rng.mk (-128) 127) F.length).getD ((↑(List.map rchC (growL stepR F (Rng.mk (-128) 127) F.length)).length:Int)-1).toNat default).hi]) (Value.agg #[Value.int IntKind.i8 ((growL stepR l (Rng.mk (-128) 127) l.length).getD ((↑(List.map rchC (growL stepR l (Rng.mk (-128) 127) l.length)).length:Int)-1).toNat default).lo,Value.int IntKind.i8 ((growL stepR l (Rng.mk (-128) 127) l.length).getD ((↑(List.map rchC (growL stepR l (Rng.mk (-128) 127) l.length)).length:Int)-1).toNat default).hi]) (Value.bool (eqNums [(IntKind.i8,((growL stepR F (Rng.mk (-128) 127) F.length).getD ((↑(List.map rchC (growL stepR F (Rng.mk (-128) 127) F.length)).length:Int)-1).toNat default).lo,((growL stepR l (Rng.mk (-128) 127) l.length).getD ((↑(List.map rchC (growL stepR l (Rng.mk (-128) 127) l.length)).length:Int)-1).toNat default).lo),(IntKind.i8,((growL stepR F (Rng.mk (-128) 127) F.length).getD ((↑(List.map rchC (growL stepR F (Rng.mk (-128) 127) F.length)).length:Int)-1).toNat default).hi,((growL stepR l (Rng.mk (-128) 127) l.length).getD ((↑(List.map rchC (growL stepR l (Rng.mk (-128) 127) l.length)).length:Int)-1).toNat default).hi)])) from ((bin_nums (l:=[(IntKind.i8,((growL stepR F (Rng.mk (-128) 127) F.length).getD ((↑(List.map rchC (growL stepR F (Rng.mk (-128) 127) F.length)).length:Int)-1).toNat default).lo,((growL stepR l (Rng.mk (-128) 127) l.length).getD ((↑(List.map rchC (growL stepR l (Rng.mk (-128) 127) l.length)).length:Int)-1).toNat default).lo),(IntKind.i8,((growL stepR F (Rng.mk (-128) 127) F.length).getD ((↑(List.map rchC (growL stepR F (Rng.mk (-128) 127) F.length)).length:Int)-1).toNat default).hi,((growL stepR l (Rng.mk (-128) 127) l.length).getD ((↑(List.map rchC (growL stepR l (Rng.mk (-128) 127) l.length)).length:Int)-1).toNat default).hi)]) (by kernel_rfl) (by kernel_rfl) (by kernel_rfl) (by kernel_rfl) _ _).1))<|.c oz3<|.c oz45<|.c oz3<|.c oz68<|.n)).weak (WeakL.refl _) (Weak.bool (show ((eqNums [(IntKind.i8,((growL stepR F (Rng.mk (-128) 127) F.length).getD ((↑(List.map rchC (growL stepR F (Rng.mk (-128) 127) F.length)).length:Int)-1).toNat default).lo,((growL stepR l (Rng.mk (-128) 127) l.length).getD ((↑(List.map rchC (growL stepR l (Rng.mk (-128) 127) l.length)).length:Int)-1).toNat default).lo),(IntKind.i8,((growL stepR F (Rng.mk (-128) 127) F.length).getD ((↑(List.map rchC (growL stepR F (Rng.mk (-128) 127) F.length)).length:Int)-1).toNat default).hi,((growL stepR l (Rng.mk (-128) 127) l.length).getD ((↑(List.map rchC (growL stepR l (Rng.mk (-128) 127) l.length)).length:Int)-1).toNat default).hi)] || false):Bool)=(true) from (by (rw [rc,rd,eR];simp [eqNums]))))
theorem fuseSame_k (l F:List Nod) (x:Ten) (h:fewB l x.d.length=true) (v:Vals l x) (vF:Vals F x) (h1:VC Tryz.prog 13 [.sl 19 (l.map nodC),shp ⟨x.h,x.x,x.c⟩] (.sl 19 (F.map nodC))) (eF:(growL valE F x F.length).getD F.length default=(growL valE l x l.length).getD l.length default) (hk:¬ FOK l ⟨-128,127⟩) (hF:FOK F ⟨-128,127⟩) (hz:((flowE l ⟨-128,127⟩).2 != 0)=true):VC Tryz.prog 3 ([.sl 19 (l.map nodC),ten .i8 x]) (bv true):=by
 have q:=few_facts h
 obtain ⟨q1,q2,q3⟩:=q
 have v1:=v.v.okl
 have v2:=v.v.wl
 have v3:=v.v.ok
 have v5:=v.v
 have v6:=v.r
 have v7:=v.e
 have u1:=vF.v.okl
 have u2:=vF.v.wl
 have u5:=vF.v
 have u7:=vF.e
 have u8:=vF.v.s.f
 have rr:Rng.In8 ⟨-128,127⟩:=⟨by exact ⟨by decide,by decide⟩,by exact ⟨by decide,by decide⟩⟩
 have q8:=growL_len valE l x l.length
 have q9:=growL_len valE F x F.length
 have r9:=growL_len stepR F ⟨-128,127⟩ F.length
 have qa:(List.map tnC (growL valE l x l.length)).length=l.length+1:=by rw [List.length_map,q8]
 have qb:(List.map tnC (growL valE F x F.length)).length=F.length+1:=by rw [List.length_map,q9]
 have qc:((((List.map tnC (growL valE F x F.length)).length:Nat):Int)-1).toNat=F.length:=by omega
 have qd:((((List.map tnC (growL valE l x l.length)).length:Nat):Int)-1).toNat=l.length:=by omega
 have qe:((growL valE l x l.length).getD l.length default).d.length≤1000000:=by
  have h1:=(tenRight.rt (v.d (Nat.le_refl _)).2).dl
  have h2:=(tenRight.rt (v.d (Nat.le_refl _)).2).el
  unfold gv at h1 h2;omega
 have oz0 := @few_v (l) (x)
 have oz2 := @rvals_y (l) (x) v5 v6 v7
 have oz3:=(show false=false by with_reducible rfl)
 have oz4 := @h1
 have oz5 := @rvals_y (F) (x) u5 v6 u7
 have oz10:=(show ((↑(List.map tnC (growL valE F x F.length)).length:Int)==0)=false by (refine decide_eq_false ?_;omega))
 have oz14:=(i6n ((↑(List.map tnC (growL valE F x F.length)).length:Int)-1) (by omega))
 have oz17:=(map_at (tnC) (default) (l:=growL valE F x F.length) (i:=((↑(List.map tnC (growL valE F x F.length)).length:Int)-1).toNat) (by omega))
 have oz23:=(i6n ((↑(List.map tnC (growL valE l x l.length)).length:Int)-1) (by omega))
 have oz26:=(map_at (tnC) (default) (l:=growL valE l x l.length) (i:=((↑(List.map tnC (growL valE l x l.length)).length:Int)-1).toNat) (by omega))
 have oz30 := @rtsame_v ((growL valE F x F.length).getD ((↑(List.map tnC (growL valE F x F.length)).length:Int)-1).toNat default) (by (rw [qc,eF];exact qe))
 have oz34 := @rflow_n (l) (Rng.mk (-128) 127) v1 v2 rr (by omega) hk
 have oz35 := @rflow_y (F) (Rng.mk (-128) 127) u1 u2 rr hF
 have oz36:=(show ((flowE l (Rng.mk (-128) 127)).snd != 0) = !false by (simp at *;omega))
 have oz43:=(show true=true by with_reducible rfl)
 have oz44 := @known52_v
 exact VC.run (fn:=Tryz.f3) (W:=[.r [] [],.r [] [.callr (rO oz0)],.br false,.r [] [.callr (rO oz2)],.r [] [],.br false,.r [] [.callr (rO oz4)],.r [] [.callr (rO oz5)],.r [] [.br true,.br true,.br true,.br false,.br true,.br true,.br true,.br true,.n (nO oz14),.br true,.row (sO oz17),.br true,.br true,.br true,.br true,.br true,.n (nO oz23),.br true,.row (sO oz26),.br true,.br true,.call (aO oz30) (rO oz30),.br true,.br false],.br false,.r [] [.callr (rO oz34)],.r [] [.callr (rO oz35)],.r [] [.br false,.br false,.br false,.br false,.br false,.br false,.br false,.br false,.br false,.br false,.br false,.br false,.br false,.br false,.br false,.br false,.br false,.br false,.br false,.br false,.br false,.br false,.br true,.br true,.callr (rO oz44),.br true]]) Tryz.func3 (by kernel_rfl) (.c oz0<|.c (show (!fewB l x.d.length)=false by (simp;omega))<|.c oz2<|.c oz3<|.c oz4<|.c oz5<|.c oz3<|.c oz3<|.c oz3<|.c oz3<|.c oz10<|.c oz10<|.c oz10<|.c oz10<|.c oz14<|.c oz10<|.c (show 0≤(↑(List.map tnC (growL valE F x F.length)).length:Int)-1 by omega)<|.c oz17<|.c oz10<|.c oz10<|.c oz10<|.c oz10<|.c oz10<|.c oz23<|.c oz10<|.c (show 0≤(↑(List.map tnC (growL valE l x l.length)).length:Int)-1 by omega)<|.c oz26<|.c oz10<|.c oz10<|.c (show WeakL [AV.agg [i64 ((growL valE F x F.length).getD ((↑(List.map tnC (growL valE F x F.length)).length:Int)-1).toNat default).h,i64 ((growL valE F x F.length).getD ((↑(List.map tnC (growL valE F x F.length)).length:Int)-1).toNat default).x,i64 ((growL valE F x F.length).getD ((↑(List.map tnC (growL valE F x F.length)).length:Int)-1).toNat default).c,AV.sl 1 (List.map (row1 IntKind.i8) ((growL valE F x F.length).getD ((↑(List.map tnC (growL valE F x F.length)).length:Int)-1).toNat default).d)],AV.agg [i64 ((growL valE l x l.length).getD ((↑(List.map tnC (growL valE l x l.length)).length:Int)-1).toNat default).h,i64 ((growL valE l x l.length).getD ((↑(List.map tnC (growL valE l x l.length)).length:Int)-1).toNat default).x,i64 ((growL valE l x l.length).getD ((↑(List.map tnC (growL valE l x l.length)).length:Int)-1).toNat default).c,AV.sl 1 (List.map (row1 IntKind.i8) ((growL valE l x l.length).getD ((↑(List.map tnC (growL valE l x l.length)).length:Int)-1).toNat default).d)]] [AV.agg [i64 ((growL valE F x F.length).getD ((↑(List.map tnC (growL valE F x F.length)).length:Int)-1).toNat default).h,i64 ((growL valE F x F.length).getD ((↑(List.map tnC (growL valE F x F.length)).length:Int)-1).toNat default).x,i64 ((growL valE F x F.length).getD ((↑(List.map tnC (growL valE F x F.length)).length:Int)-1).toNat default).c,AV.sl 1 (List.map (row1 IntKind.i8) ((growL valE F x F.length).getD ((↑(List.map tnC (growL valE F x F.length)).length:Int)-1).toNat default).d)],AV.agg [i64 ((growL valE F x F.length).getD ((↑(List.map tnC (growL valE F x F.length)).length:Int)-1).toNat default).h,i64 ((growL valE F x F.length).getD ((↑(List.map tnC (growL valE F x F.length)).length:Int)-1).toNat default).x,i64 ((growL valE F x F.length).getD ((↑(List.map tnC (growL valE F x F.length)).length:Int)-1).toNat default).c,AV.sl 1 (List.map (row1 IntKind.i8) ((growL valE F x F.length).getD ((↑(List.map tnC (growL valE F x F.length)).length:Int)-1).toNat default).d)]] from (.cons (.refl _) (.cons (Weak.agg (.cons (Weak.int (show ((((growL valE l x l.length).getD ((↑(List.map tnC (growL valE l x l.length)).length:Int)-1).toNat default).h):Int)=(((growL valE F x F.length).getD ((↑(List.map tnC (growL valE F x F.length)).length:Int)-1).toNat default).h) from (by (rw [qc,qd,eF])))) (.cons (Weak.int (show ((((growL valE l x l.length).getD ((↑(List.map tnC (growL valE l x l.length)).length:Int)-1).toNat default).x):Int)=(((growL valE F x F.length).getD ((↑(List.map tnC (growL valE F x F.length)).length:Int)-1).toNat default).x) from (by (rw [qc,qd,eF])))) (.cons (Weak.int (show ((((growL valE l x l.length).getD ((↑(List.map tnC (growL valE l x l.length)).length:Int)-1).toNat default).c):Int)=(((growL valE F x F.length).getD ((↑(List.map tnC (growL valE F x F.length)).length:Int)-1).toNat default).c) from (by (rw [qc,qd,eF])))) (.cons (Weak.rows (rows_to (row1 IntKind.i8) (r:=List.map (row1 IntKind.i8) ((growL valE l x l.length).getD ((↑(List.map tnC (growL valE l x l.length)).length:Int)-1).toNat default).d) (l:=((growL valE l x l.length).getD ((↑(List.map tnC (growL valE l x l.length)).length:Int)-1).toNat default).d) (m:=((growL valE F x F.length).getD ((↑(List.map tnC (growL valE F x F.length)).length:Int)-1).toNat default).d) rfl (show (((growL valE l x l.length).getD ((↑(List.map tnC (growL valE l x l.length)).length:Int)-1).toNat default).d)=(((growL valE F x F.length).getD ((↑(List.map tnC (growL valE F x F.length)).length:Int)-1).toNat default).d) from (by (rw [qc,qd,eF]))))) .nil))))) .nil)))<|.c oz30<|.c oz10<|.c oz10<|.c oz3<|.c oz34<|.c oz35<|.c oz36<|.c oz36<|.c oz36<|.c oz36<|.c oz36<|.c oz36<|.c hz<|.c oz43<|.c oz44<|.c oz43<|.n)
theorem fuseSame_o (l F:List Nod) (x:Ten) (h:fewB l x.d.length=true) (v:Vals l x) (vF:Vals F x) (h1:VC Tryz.prog 13 [.sl 19 (l.map nodC),shp ⟨x.h,x.x,x.c⟩] (.sl 19 (F.map nodC))) (eF:(growL valE F x F.length).getD F.length default=(growL valE l x l.length).getD l.length default) (hk:¬ FOK l ⟨-128,127⟩) (hF:¬ FOK F ⟨-128,127⟩) (hz:((flowE l ⟨-128,127⟩).2 != 0)=true):VC Tryz.prog 3 ([.sl 19 (l.map nodC),ten .i8 x]) (bv true):=by
 have q:=few_facts h
 obtain ⟨q1,q2,q3⟩:=q
 have v1:=v.v.okl
 have v2:=v.v.wl
 have v3:=v.v.ok
 have v5:=v.v
 have v6:=v.r
 have v7:=v.e
 have u1:=vF.v.okl
 have u2:=vF.v.wl
 have u5:=vF.v
 have u7:=vF.e
 have u8:=vF.v.s.f
 have rr:Rng.In8 ⟨-128,127⟩:=⟨by exact ⟨by decide,by decide⟩,by exact ⟨by decide,by decide⟩⟩
 have q8:=growL_len valE l x l.length
 have q9:=growL_len valE F x F.length
 have qa:(List.map tnC (growL valE l x l.length)).length=l.length+1:=by rw [List.length_map,q8]
 have qb:(List.map tnC (growL valE F x F.length)).length=F.length+1:=by rw [List.length_map,q9]
 have qc:((((List.map tnC (growL valE F x F.length)).length:Nat):Int)-1).toNat=F.length:=by omega
 have qd:((((List.map tnC (growL valE l x l.length)).length:Nat):Int)-1).toNat=l.length:=by omega
 have qe:((growL valE l x l.length).getD l.length default).d.length≤1000000:=by
  have h1:=(tenRight.rt (v.d (Nat.le_refl _)).2).dl
  have h2:=(tenRight.rt (v.d (Nat.le_refl _)).2).el
  unfold gv at h1 h2;omega
 have oz0 := @few_v (l) (x)
 have oz2 := @rvals_y (l) (x) v5 v6 v7
 have oz3:=(show false=false by with_reducible rfl)
 have oz4 := @h1
 have oz5 := @rvals_y (F) (x) u5 v6 u7
 have oz10:=(show ((↑(List.map tnC (growL valE F x F.length)).length:Int)==0)=false by (refine decide_eq_false ?_;omega))
 have oz14:=(i6n ((↑(List.map tnC (growL valE F x F.length)).length:Int)-1) (by omega))
 have oz17:=(map_at (tnC) (default) (l:=growL valE F x F.length) (i:=((↑(List.map tnC (growL valE F x F.length)).length:Int)-1).toNat) (by omega))
 have oz23:=(i6n ((↑(List.map tnC (growL valE l x l.length)).length:Int)-1) (by omega))
 have oz26:=(map_at (tnC) (default) (l:=growL valE l x l.length) (i:=((↑(List.map tnC (growL valE l x l.length)).length:Int)-1).toNat) (by omega))
 have oz30 := @rtsame_v ((growL valE F x F.length).getD ((↑(List.map tnC (growL valE F x F.length)).length:Int)-1).toNat default) (by (rw [qc,eF];exact qe))
 have oz34 := @rflow_n (l) (Rng.mk (-128) 127) v1 v2 rr (by omega) hk
 have oz35 := @rflow_n (F) (Rng.mk (-128) 127) u1 u2 rr (by omega) hF
 have oz36:=(show ((flowE l (Rng.mk (-128) 127)).snd != 0) = !false by (simp at *;omega))
 have oz43:=(show true=true by with_reducible rfl)
 have oz44 := @known52_v
 exact VC.run (fn:=Tryz.f3) (W:=[.r [] [],.r [] [.callr (rO oz0)],.br false,.r [] [.callr (rO oz2)],.r [] [],.br false,.r [] [.callr (rO oz4)],.r [] [.callr (rO oz5)],.r [] [.br true,.br true,.br true,.br false,.br true,.br true,.br true,.br true,.n (nO oz14),.br true,.row (sO oz17),.br true,.br true,.br true,.br true,.br true,.n (nO oz23),.br true,.row (sO oz26),.br true,.br true,.call (aO oz30) (rO oz30),.br true,.br false],.br false,.r [] [.callr (rO oz34)],.r [] [.callr (rO oz35)],.r [] [.br false,.br false,.br false,.br false,.br false,.br false,.br false,.br false,.br false,.br false,.br false,.br false,.br false,.br false,.br false,.br false,.br false,.br false,.br false,.br false,.br false,.br false,.br true,.br true,.callr (rO oz44),.br true]]) Tryz.func3 (by kernel_rfl) (.c oz0<|.c (show (!fewB l x.d.length)=false by (simp;omega))<|.c oz2<|.c oz3<|.c oz4<|.c oz5<|.c oz3<|.c oz3<|.c oz3<|.c oz3<|.c oz10<|.c oz10<|.c oz10<|.c oz10<|.c oz14<|.c oz10<|.c (show 0≤(↑(List.map tnC (growL valE F x F.length)).length:Int)-1 by omega)<|.c oz17<|.c oz10<|.c oz10<|.c oz10<|.c oz10<|.c oz10<|.c oz23<|.c oz10<|.c (show 0≤(↑(List.map tnC (growL valE l x l.length)).length:Int)-1 by omega)<|.c oz26<|.c oz10<|.c oz10<|.c (show WeakL [AV.agg [i64 ((growL valE F x F.length).getD ((↑(List.map tnC (growL valE F x F.length)).length:Int)-1).toNat default).h,i64 ((growL valE F x F.length).getD ((↑(List.map tnC (growL valE F x F.length)).length:Int)-1).toNat default).x,i64 ((growL valE F x F.length).getD ((↑(List.map tnC (growL valE F x F.length)).length:Int)-1).toNat default).c,AV.sl 1 (List.map (row1 IntKind.i8) ((growL valE F x F.length).getD ((↑(List.map tnC (growL valE F x F.length)).length:Int)-1).toNat default).d)],AV.agg [i64 ((growL valE l x l.length).getD ((↑(List.map tnC (growL valE l x l.length)).length:Int)-1).toNat default).h,i64 ((growL valE l x l.length).getD ((↑(List.map tnC (growL valE l x l.length)).length:Int)-1).toNat default).x,i64 ((growL valE l x l.length).getD ((↑(List.map tnC (growL valE l x l.length)).length:Int)-1).toNat default).c,AV.sl 1 (List.map (row1 IntKind.i8) ((growL valE l x l.length).getD ((↑(List.map tnC (growL valE l x l.length)).length:Int)-1).toNat default).d)]] [AV.agg [i64 ((growL valE F x F.length).getD ((↑(List.map tnC (growL valE F x F.length)).length:Int)-1).toNat default).h,i64 ((growL valE F x F.length).getD ((↑(List.map tnC (growL valE F x F.length)).length:Int)-1).toNat default).x,i64 ((growL valE F x F.length).getD ((↑(List.map tnC (growL valE F x F.length)).length:Int)-1).toNat default).c,AV.sl 1 (List.map (row1 IntKind.i8) ((growL valE F x F.length).getD ((↑(List.map tnC (growL valE F x F.length)).length:Int)-1).toNat default).d)],AV.agg [i64 ((growL valE F x F.length).getD ((↑(List.map tnC (growL valE F x F.length)).length:Int)-1).toNat default).h,i64 ((growL valE F x F.length).getD ((↑(List.map tnC (growL valE F x F.length)).length:Int)-1).toNat default).x,i64 ((growL valE F x F.length).getD ((↑(List.map tnC (growL valE F x F.length)).length:Int)-1).toNat default).c,AV.sl 1 (List.map (row1 IntKind.i8) ((growL valE F x F.length).getD ((↑(List.map tnC (growL valE F x F.length)).length:Int)-1).toNat default).d)]] from (.cons (.refl _) (.cons (Weak.agg (.cons (Weak.int (show ((((growL valE l x l.length).getD ((↑(List.map tnC (growL valE l x l.length)).length:Int)-1).toNat default).h):Int)=(((growL valE F x F.length).getD ((↑(List.map tnC (growL valE F x F.length)).length:Int)-1).toNat default).h) from (by (rw [qc,qd,eF])))) (.cons (Weak.int (show ((((growL valE l x l.length).getD ((↑(List.map tnC (growL valE l x l.length)).length:Int)-1).toNat default).x):Int)=(((growL valE F x F.length).getD ((↑(List.map tnC (growL valE F x F.length)).length:Int)-1).toNat default).x) from (by (rw [qc,qd,eF])))) (.cons (Weak.int (show ((((growL valE l x l.length).getD ((↑(List.map tnC (growL valE l x l.length)).length:Int)-1).toNat default).c):Int)=(((growL valE F x F.length).getD ((↑(List.map tnC (growL valE F x F.length)).length:Int)-1).toNat default).c) from (by (rw [qc,qd,eF])))) (.cons (Weak.rows (rows_to (row1 IntKind.i8) (r:=List.map (row1 IntKind.i8) ((growL valE l x l.length).getD ((↑(List.map tnC (growL valE l x l.length)).length:Int)-1).toNat default).d) (l:=((growL valE l x l.length).getD ((↑(List.map tnC (growL valE l x l.length)).length:Int)-1).toNat default).d) (m:=((growL valE F x F.length).getD ((↑(List.map tnC (growL valE F x F.length)).length:Int)-1).toNat default).d) rfl (show (((growL valE l x l.length).getD ((↑(List.map tnC (growL valE l x l.length)).length:Int)-1).toNat default).d)=(((growL valE F x F.length).getD ((↑(List.map tnC (growL valE F x F.length)).length:Int)-1).toNat default).d) from (by (rw [qc,qd,eF]))))) .nil))))) .nil)))<|.c oz30<|.c oz10<|.c oz10<|.c oz3<|.c oz34<|.c oz35<|.c oz36<|.c oz36<|.c oz36<|.c oz36<|.c oz36<|.c oz36<|.c hz<|.c oz43<|.c oz44<|.c oz43<|.n)
theorem fuseSame_e (l:List Nod) (x:Ten) (p c:Int) (h:fewB l x.d.length=true) (hc:(c != 0)=true) (hv:VC Tryz.prog 12 [.sl 19 (l.map nodC),ten .i8 x] (.tup [nilv,i64 p,i64 c])):VC Tryz.prog 3 ([.sl 19 (l.map nodC),ten .i8 x]) (bv true):=by
 have oz0 := @few_v (l) (x)
 have oz2 := @hv
 have oz4 := @known52_v
 exact VC.run (fn:=Tryz.f3) (W:=[.r [] [],.r [] [.callr (rO oz0)],.br false,.r [] [.callr (rO oz2)],.r [] [],.br true,.r [] [.callr (rO oz4)]]) Tryz.func3 (by kernel_rfl) (.c oz0<|.c (show (!fewB l x.d.length)=false by (simp;omega))<|.c oz2<|.c hc<|.c oz4<|.n)
theorem fuseSame_n (l:List Nod) (x:Ten) (h:fewB l x.d.length=false):VC Tryz.prog 3 ([.sl 19 (l.map nodC),ten .i8 x]) (bv true):=by
 have oz0 := @few_v (l) (x)
 have oz2 := @known52_v
 exact VC.run (fn:=Tryz.f3) (W:=[.r [] [],.r [] [.callr (rO oz0)],.br true,.r [] [.callr (rO oz2)]]) Tryz.func3 (by kernel_rfl) (.c oz0<|.c (show (!fewB l x.d.length)=true by (simp;omega))<|.c oz2<|.n)
theorem fuseSame_g (l F:List Nod) (x:Ten) (h:fewB l x.d.length=true) (v:Vals l x) (hF:F=fuseL l) (o:orderedB l=true):VC Tryz.prog 3 [.sl 19 (l.map nodC),ten .i8 x] (bv true):=by
 have f:=v.fuse
 have h1:=fblk_y l ⟨x.h,x.x,x.c⟩ v.v.s v.v.okl v.v.wl
 have rr:Rng.In8 ⟨-128,127⟩:=⟨by exact ⟨by decide,by decide⟩,by exact ⟨by decide,by decide⟩⟩
 have g:=fun q:FOK l ⟨-128,127⟩=>q.fuse v.v.okl o rr
 rw [←hF] at f h1 g
 by_cases q:FOK l ⟨-128,127⟩
 ·exact fuseSame_y l F x h v f.1 h1 f.2 q (g q).1 (g q).2
 ·have hz:((flowE l ⟨-128,127⟩).2 != 0)=true:=by simpa using flowE_n q
  by_cases q':FOK F ⟨-128,127⟩
  ·exact fuseSame_k l F x h v f.1 h1 f.2 q q' hz
  ·exact fuseSame_o l F x h v f.1 h1 f.2 q q' hz
theorem fuseSame_v (l:List Nod) (x:Ten) (okl:∀ n∈l,n.Ok) (ok:x.Ok):VC Tryz.prog 3 [.sl 19 (l.map nodC),ten .i8 x] (bv true):=by
 cases h:fewB l x.d.length with
 | false=>exact fuseSame_n l x h
 | true =>
  rcases rvals_cases l x okl (few_wide h) ok (by have:=(few_facts h).1;omega) with v | ⟨p,c,h1,_,h2⟩
  ·exact fuseSame_g l _ x h v rfl v.v.o
  ·exact fuseSame_e l x p c h h1 h2
end Go.Proofs.YtgecmooedhnenaaGreat
