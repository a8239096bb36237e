/- A part of this claim. No condition. -/
import Derived.Test.YtgecmooedhnenaaGreatFuseSameG6
set_option maxRecDepth 100000
set_option maxHeartbeats 2000000
set_option linter.unusedVariables false
set_option linter.unusedSimpArgs false
set_option linter.unnecessarySimpa false
namespace Go.Proofs.YtgecmooedhnenaaGreat
open Go.RowKit
def nodeOf (n:Nod) (A B:Ten):Ten×Int :=
 if checkE n≠0 then (ten0,checkE n) else if tenRight A=false then (ten0,5)
 else if n.kd=4 then poolOf A n true else if n.kd=5 then poolOf A n false else if n.kd=6 then joinOf A B n else if n.kd=7 then actOf A n
 else if n.kd=8 then (if mayE A n.np≠0 then (ten0,mayE A n.np) else padOf A n.np n.za)
 else if n.kd=9 then (⟨1,1,A.d.length,A.d⟩,0)
 else if (sumOf A n).2≠0 then (ten0,(sumOf A n).2) else putOf (sumOf A n).1 n
theorem refH_32 (T:Ten) (n:Nod):∀ h,∀ v∈refH T n h,In32 v
 | 0=>by simp [refH]
 | h+1=>by
  have gW:∀ w,∀ v∈refW T n h w,In32 v:=by
   intro w
   induction w with
   | zero=>simp [refW]
   | succ w ih =>
    intro v hv
    rw [refW,List.mem_append] at hv
    rcases hv with hv | hv
    ·exact ih v hv
    ·unfold refO at hv
     obtain ⟨c,_,rfl⟩:=List.mem_map.1 hv
     unfold In32;simp only [IntKind.wrap_i32];omega
  intro v hv
  rw [refH,List.mem_append] at hv
  rcases hv with hv | hv
  ·exact refH_32 T n h v hv
  ·exact gW _ v hv
theorem gH_32 {f:Nat→Nat→Nat→Int} (hf:∀ h w c,In32 (f h w c)) (m x:Nat):∀ y,∀ v∈gH f m x y,In32 v
 | 0=>by simp [gH]
 | y+1=>by
  have gW8:∀ w,∀ v∈gW f m y w,In32 v:=by
   intro w
   induction w with
   | zero=>simp [gW]
   | succ w ih =>
    intro v hv
    rw [gW,List.mem_append] at hv
    rcases hv with hv | hv
    ·exact ih v hv
    ·unfold gO at hv
     obtain ⟨c,_,rfl⟩:=List.mem_map.1 hv
     exact hf _ _ _
  intro v hv
  rw [gH,List.mem_append] at hv
  rcases hv with hv | hv
  ·exact gH_32 hf m x y v hv
  ·exact gW8 x v hv
theorem sumOf_ok {T:Ten} {n:Nod} (ok:T.Ok) (okn:n.Ok):(sumOf T n).1.Ok32:=by
 have z:(ten0:Ten).Ok32:=⟨by decide,by decide,by decide,by simp⟩
 unfold sumOf
 split
 ·unfold convOf
  split
  ·exact z
  ·split
   ·exact z
   ·rename_i h1 h2
    have k:CvOk T n:=⟨ok,okn,by simpa using h1,by simpa using h2⟩
    have nn:=k.n
    have h3:=nn.he;have h4:=nn.xe;have h5:=nn.sc;have h6:=nn.o1;have h7:=nn.o2
    exact ⟨by dsimp only;omega,by dsimp only;omega,by dsimp only;omega,by dsimp only;rw [outL_fin k];exact refH_32 T n _⟩
 ·split
  ·unfold depthOf
   split
   ·exact z
   ·split
    ·exact z
    ·rename_i h1 h2
     have k:DpOk T n:=⟨ok,okn,by simpa using h1,by simpa using h2⟩
     have nn:=k.n
     have h3:=nn.he;have h4:=nn.xe;have h5:=nn.sc;have h6:=nn.c1;have h7:=nn.c2
     refine ⟨by dsimp only;omega,by dsimp only;omega,by dsimp only;omega,?_⟩
     dsimp only;rw [dL_eq k]
     exact gH_32 (fun h w c=>by unfold dF In32;simp only [IntKind.wrap_i32];omega) _ _ _
  ·split
   ·unfold denseOf
    split
    ·exact z
    ·split
     ·exact z
     ·rename_i h1 h2
      obtain ⟨e1,e2,e3,e4,e5,e6,e7⟩:=denseE_ok (t:=⟨T.h,T.x,T.c⟩) (n:=n) (by simpa using h2)
      rw [e7]
      refine ⟨by dsimp only;omega,by dsimp only;omega,by dsimp only;omega,?_⟩
      intro v hv
      unfold lineL at hv
      obtain ⟨c,_,rfl⟩:=List.mem_map.1 hv
      unfold In32;simp only [IntKind.wrap_i32];omega
   ·exact z
theorem rnode_v (n:Nod) (A B:Ten) (ok:n.Ok) (hw:n.w.length≤100000) (hb:n.b.length≤100000) (okA:A.Ok) (okB:B.Ok):VC Tryz.prog 37 ([nod n,ten .i8 A,ten .i8 B]) (.tup [ten .i8 (nodeOf n A B).1,i64 (nodeOf n A B).2]):=by
 have g1:=sumOf_ok okA ok
 have g2 := @tenRight.rt A
 have q2:=ok.kd
 have q3:=ok.np
 have gk:(!tenRight A)=false→TRt A:=fun h=>g2 (by cases e:tenRight A with
   | true=>rfl
   | false=>rw [e] at h;cases h)
 have gm:(!tenRight A)=false→(mayE A n.np != 0)=false→0≤n.np∧n.np≤4:=fun h k=>by
  have h1:tenRight A=true:=by cases e:tenRight A with
   | true=>rfl
   | false=>rw [e] at h;cases h
  unfold mayE at k
  rw [if_pos h1] at k
  by_cases h3:0≤n.np∧n.np≤4
  ·exact h3
  ·rw [if_neg h3] at k;cases k
 have oz0 := @refCheck_v (n) hw hb q2
 rcases bft (checkE n != 0) with hc0 | hc0
 ·have gc0:¬checkE n=0:=bdt hc0
  exact (VC.run (fn:=Tryz.f37) (W:=[.r [] [],.r [] [.callr (rO oz0)],.r [] [],.br true,.r [] []]) (r:=AV.tup [AV.agg [i64 0,i64 0,i64 0,AV.lit (Value.slice none 0 0)],i64 (checkE n)]) Tryz.func37 (by kernel_rfl) (.c oz0<|.c hc0<|.n)).weak (WeakL.refl _) (Weak.tup (.cons (Weak.agg (.cons (Weak.int (show ((0):Int)=((nodeOf n A B).fst.h) from (by (unfold nodeOf;rw [if_pos (by omega)];first | done | rfl)))) (.cons (Weak.int (show ((0):Int)=((nodeOf n A B).fst.x) from (by (unfold nodeOf;rw [if_pos (by omega)];first | done | rfl)))) (.cons (Weak.int (show ((0):Int)=((nodeOf n A B).fst.c) from (by (unfold nodeOf;rw [if_pos (by omega)];first | done | rfl)))) (.cons (Weak.nilr (show []=(List.map (row1 IntKind.i8) (nodeOf n A B).fst.d) from (by (unfold nodeOf;rw [if_pos (by omega)];first | done | rfl)))) .nil))))) (.cons (Weak.int (show ((checkE n):Int)=((nodeOf n A B).snd) from (by (unfold nodeOf;rw [if_pos (by omega)];first | done | rfl)))) .nil)))
 ·have gc0:checkE n=0:=bdf hc0
  have oz2 := @refTRight_v (A) okA
  rcases bft (!tenRight A) with hc1 | hc1
  ·have gc1:tenRight A=false:=by first | exact hc1 | exact of_decide_eq_true hc1 | exact of_decide_eq_false hc1 | simpa [eqNums] using hc1 | (simp [eqNums] at hc1 ⊢;first | done | assumption | omega)
   exact (VC.run (fn:=Tryz.f37) (W:=[.r [] [],.r [] [.callr (rO oz0)],.r [] [],.br false,.r [] [.callr (rO oz2)],.br true,.r [] []]) (r:=AV.tup [AV.agg [i64 0,i64 0,i64 0,AV.lit (Value.slice none 0 0)],i64 5]) Tryz.func37 (by kernel_rfl) (.c oz0<|.c hc0<|.c oz2<|.c hc1<|.n)).weak (WeakL.refl _) (Weak.tup (.cons (Weak.agg (.cons (Weak.int (show ((0):Int)=((nodeOf n A B).fst.h) from (by (unfold nodeOf;rw [if_neg (by omega),if_pos (by assumption)];first | done | rfl)))) (.cons (Weak.int (show ((0):Int)=((nodeOf n A B).fst.x) from (by (unfold nodeOf;rw [if_neg (by omega),if_pos (by assumption)];first | done | rfl)))) (.cons (Weak.int (show ((0):Int)=((nodeOf n A B).fst.c) from (by (unfold nodeOf;rw [if_neg (by omega),if_pos (by assumption)];first | done | rfl)))) (.cons (Weak.nilr (show []=(List.map (row1 IntKind.i8) (nodeOf n A B).fst.d) from (by (unfold nodeOf;rw [if_neg (by omega),if_pos (by assumption)];first | done | rfl)))) .nil))))) (.cons (Weak.int (show ((5):Int)=((nodeOf n A B).snd) from (by (unfold nodeOf;rw [if_neg (by omega),if_pos (by assumption)];first | done | rfl)))) .nil)))
  ·have gc1:tenRight A=true:=by first | exact hc1 | exact of_decide_eq_true hc1 | exact of_decide_eq_false hc1 | simpa [eqNums] using hc1 | (simp [eqNums] at hc1 ⊢;first | done | assumption | omega)
   rcases bft (n.kd==4) with hc2 | hc2
   ·have gc2:n.kd=4:=bet hc2
    have oz5 := @pool_v (A) (n) (true) okA ok
    exact (VC.run (fn:=Tryz.f37) (W:=[.r [] [],.r [] [.callr (rO oz0)],.r [] [],.br false,.r [] [.callr (rO oz2)],.br false,.r [] [],.r [] [],.br true,.r [] [.callr (rO oz5)]]) (r:=AV.tup [AV.agg [i64 (poolOf A n true).fst.h,i64 (poolOf A n true).fst.x,i64 (poolOf A n true).fst.c,AV.sl 1 (List.map (row1 IntKind.i8) (poolOf A n true).fst.d)],i64 (poolOf A n true).snd]) Tryz.func37 (by kernel_rfl) (.c oz0<|.c hc0<|.c oz2<|.c hc1<|.c hc2<|.c oz5<|.n)).weak (WeakL.refl _) (Weak.tup (.cons (Weak.agg (.cons (Weak.int (show (((poolOf A n true).fst.h):Int)=((nodeOf n A B).fst.h) from (by (unfold nodeOf;rw [if_neg (by omega),if_neg (by rw [‹tenRight A=true›];simp)];(repeat first | rw [if_pos (by omega)] | rw [if_neg (by omega)]);first | done | rfl)))) (.cons (Weak.int (show (((poolOf A n true).fst.x):Int)=((nodeOf n A B).fst.x) from (by (unfold nodeOf;rw [if_neg (by omega),if_neg (by rw [‹tenRight A=true›];simp)];(repeat first | rw [if_pos (by omega)] | rw [if_neg (by omega)]);first | done | rfl)))) (.cons (Weak.int (show (((poolOf A n true).fst.c):Int)=((nodeOf n A B).fst.c) from (by (unfold nodeOf;rw [if_neg (by omega),if_neg (by rw [‹tenRight A=true›];simp)];(repeat first | rw [if_pos (by omega)] | rw [if_neg (by omega)]);first | done | rfl)))) (.cons (Weak.rows (rows_to (row1 IntKind.i8) (r:=List.map (row1 IntKind.i8) (poolOf A n true).fst.d) (l:=(poolOf A n true).fst.d) (m:=(nodeOf n A B).fst.d) rfl (show ((poolOf A n true).fst.d)=((nodeOf n A B).fst.d) from (by (unfold nodeOf;rw [if_neg (by omega),if_neg (by rw [‹tenRight A=true›];simp)];(repeat first | rw [if_pos (by omega)] | rw [if_neg (by omega)]);first | done | rfl))))) .nil))))) (.cons (Weak.int (show (((poolOf A n true).snd):Int)=((nodeOf n A B).snd) from (by (unfold nodeOf;rw [if_neg (by omega),if_neg (by rw [‹tenRight A=true›];simp)];(repeat first | rw [if_pos (by omega)] | rw [if_neg (by omega)]);first | done | rfl)))) .nil)))
   ·have gc2:¬n.kd=4:=bef hc2
    rcases bft (n.kd==5) with hc3 | hc3
    ·have gc3:n.kd=5:=bet hc3
     have oz6 := @pool_v (A) (n) (false) okA ok
     exact (VC.run (fn:=Tryz.f37) (W:=[.r [] [],.r [] [.callr (rO oz0)],.r [] [],.br false,.r [] [.callr (rO oz2)],.br false,.r [] [],.r [] [],.br false,.r [] [],.br true,.r [] [.callr (rO oz6)]]) (r:=AV.tup [AV.agg [i64 (poolOf A n false).fst.h,i64 (poolOf A n false).fst.x,i64 (poolOf A n false).fst.c,AV.sl 1 (List.map (row1 IntKind.i8) (poolOf A n false).fst.d)],i64 (poolOf A n false).snd]) Tryz.func37 (by kernel_rfl) (.c oz0<|.c hc0<|.c oz2<|.c hc1<|.c hc2<|.c hc3<|.c oz6<|.n)).weak (WeakL.refl _) (Weak.tup (.cons (Weak.agg (.cons (Weak.int (show (((poolOf A n false).fst.h):Int)=((nodeOf n A B).fst.h) from (by (unfold nodeOf;rw [if_neg (by omega),if_neg (by rw [‹tenRight A=true›];simp)];(repeat first | rw [if_pos (by omega)] | rw [if_neg (by omega)]);first | done | rfl)))) (.cons (Weak.int (show (((poolOf A n false).fst.x):Int)=((nodeOf n A B).fst.x) from (by (unfold nodeOf;rw [if_neg (by omega),if_neg (by rw [‹tenRight A=true›];simp)];(repeat first | rw [if_pos (by omega)] | rw [if_neg (by omega)]);first | done | rfl)))) (.cons (Weak.int (show (((poolOf A n false).fst.c):Int)=((nodeOf n A B).fst.c) from (by (unfold nodeOf;rw [if_neg (by omega),if_neg (by rw [‹tenRight A=true›];simp)];(repeat first | rw [if_pos (by omega)] | rw [if_neg (by omega)]);first | done | rfl)))) (.cons (Weak.rows (rows_to (row1 IntKind.i8) (r:=List.map (row1 IntKind.i8) (poolOf A n false).fst.d) (l:=(poolOf A n false).fst.d) (m:=(nodeOf n A B).fst.d) rfl (show ((poolOf A n false).fst.d)=((nodeOf n A B).fst.d) from (by (unfold nodeOf;rw [if_neg (by omega),if_neg (by rw [‹tenRight A=true›];simp)];(repeat first | rw [if_pos (by omega)] | rw [if_neg (by omega)]);first | done | rfl))))) .nil))))) (.cons (Weak.int (show (((poolOf A n false).snd):Int)=((nodeOf n A B).snd) from (by (unfold nodeOf;rw [if_neg (by omega),if_neg (by rw [‹tenRight A=true›];simp)];(repeat first | rw [if_pos (by omega)] | rw [if_neg (by omega)]);first | done | rfl)))) .nil)))
    ·have gc3:¬n.kd=5:=bef hc3
     rcases bft (n.kd==6) with hc4 | hc4
     ·have gc4:n.kd=6:=bet hc4
      have oz7 := @rjoin_v (A) (B) (n) okA okB ok
      exact (VC.run (fn:=Tryz.f37) (W:=[.r [] [],.r [] [.callr (rO oz0)],.r [] [],.br false,.r [] [.callr (rO oz2)],.br false,.r [] [],.r [] [],.br false,.r [] [],.br false,.r [] [],.br true,.r [] [.callr (rO oz7)]]) (r:=AV.tup [AV.agg [i64 (joinOf A B n).fst.h,i64 (joinOf A B n).fst.x,i64 (joinOf A B n).fst.c,AV.sl 1 (List.map (row1 IntKind.i8) (joinOf A B n).fst.d)],i64 (joinOf A B n).snd]) Tryz.func37 (by kernel_rfl) (.c oz0<|.c hc0<|.c oz2<|.c hc1<|.c hc2<|.c hc3<|.c hc4<|.c oz7<|.n)).weak (WeakL.refl _) (Weak.tup (.cons (Weak.agg (.cons (Weak.int (show (((joinOf A B n).fst.h):Int)=((nodeOf n A B).fst.h) from (by (unfold nodeOf;rw [if_neg (by omega),if_neg (by rw [‹tenRight A=true›];simp)];(repeat first | rw [if_pos (by omega)] | rw [if_neg (by omega)]);first | done | rfl)))) (.cons (Weak.int (show (((joinOf A B n).fst.x):Int)=((nodeOf n A B).fst.x) from (by (unfold nodeOf;rw [if_neg (by omega),if_neg (by rw [‹tenRight A=true›];simp)];(repeat first | rw [if_pos (by omega)] | rw [if_neg (by omega)]);first | done | rfl)))) (.cons (Weak.int (show (((joinOf A B n).fst.c):Int)=((nodeOf n A B).fst.c) from (by (unfold nodeOf;rw [if_neg (by omega),if_neg (by rw [‹tenRight A=true›];simp)];(repeat first | rw [if_pos (by omega)] | rw [if_neg (by omega)]);first | done | rfl)))) (.cons (Weak.rows (rows_to (row1 IntKind.i8) (r:=List.map (row1 IntKind.i8) (joinOf A B n).fst.d) (l:=(joinOf A B n).fst.d) (m:=(nodeOf n A B).fst.d) rfl (show ((joinOf A B n).fst.d)=((nodeOf n A B).fst.d) from (by (unfold nodeOf;rw [if_neg (by omega),if_neg (by rw [‹tenRight A=true›];simp)];(repeat first | rw [if_pos (by omega)] | rw [if_neg (by omega)]);first | done | rfl))))) .nil))))) (.cons (Weak.int (show (((joinOf A B n).snd):Int)=((nodeOf n A B).snd) from (by (unfold nodeOf;rw [if_neg (by omega),if_neg (by rw [‹tenRight A=true›];simp)];(repeat first | rw [if_pos (by omega)] | rw [if_neg (by omega)]);first | done | rfl)))) .nil)))
     ·have gc4:¬n.kd=6:=bef hc4
      rcases bft (n.kd==7) with hc5 | hc5
      ·have gc5:n.kd=7:=bet hc5
       have oz8 := @ract_v (A) (n) okA ok
       exact (VC.run (fn:=Tryz.f37) (W:=[.r [] [],.r [] [.callr (rO oz0)],.r [] [],.br false,.r [] [.callr (rO oz2)],.br false,.r [] [],.r [] [],.br false,.r [] [],.br false,.r [] [],.br false,.r [] [],.br true,.r [] [.callr (rO oz8)]]) (r:=AV.tup [AV.agg [i64 (actOf A n).fst.h,i64 (actOf A n).fst.x,i64 (actOf A n).fst.c,AV.sl 1 (List.map (row1 IntKind.i8) (actOf A n).fst.d)],i64 (actOf A n).snd]) Tryz.func37 (by kernel_rfl) (.c oz0<|.c hc0<|.c oz2<|.c hc1<|.c hc2<|.c hc3<|.c hc4<|.c hc5<|.c oz8<|.n)).weak (WeakL.refl _) (Weak.tup (.cons (Weak.agg (.cons (Weak.int (show (((actOf A n).fst.h):Int)=((nodeOf n A B).fst.h) from (by (unfold nodeOf;rw [if_neg (by omega),if_neg (by rw [‹tenRight A=true›];simp)];(repeat first | rw [if_pos (by omega)] | rw [if_neg (by omega)]);first | done | rfl)))) (.cons (Weak.int (show (((actOf A n).fst.x):Int)=((nodeOf n A B).fst.x) from (by (unfold nodeOf;rw [if_neg (by omega),if_neg (by rw [‹tenRight A=true›];simp)];(repeat first | rw [if_pos (by omega)] | rw [if_neg (by omega)]);first | done | rfl)))) (.cons (Weak.int (show (((actOf A n).fst.c):Int)=((nodeOf n A B).fst.c) from (by (unfold nodeOf;rw [if_neg (by omega),if_neg (by rw [‹tenRight A=true›];simp)];(repeat first | rw [if_pos (by omega)] | rw [if_neg (by omega)]);first | done | rfl)))) (.cons (Weak.rows (rows_to (row1 IntKind.i8) (r:=List.map (row1 IntKind.i8) (actOf A n).fst.d) (l:=(actOf A n).fst.d) (m:=(nodeOf n A B).fst.d) rfl (show ((actOf A n).fst.d)=((nodeOf n A B).fst.d) from (by (unfold nodeOf;rw [if_neg (by omega),if_neg (by rw [‹tenRight A=true›];simp)];(repeat first | rw [if_pos (by omega)] | rw [if_neg (by omega)]);first | done | rfl))))) .nil))))) (.cons (Weak.int (show (((actOf A n).snd):Int)=((nodeOf n A B).snd) from (by (unfold nodeOf;rw [if_neg (by omega),if_neg (by rw [‹tenRight A=true›];simp)];(repeat first | rw [if_pos (by omega)] | rw [if_neg (by omega)]);first | done | rfl)))) .nil)))
      ·have gc5:¬n.kd=7:=bef hc5
       rcases bft (n.kd==8) with hc6 | hc6
       ·have gc6:n.kd=8:=bet hc6
        have oz9 := @may_v (A) (n.np) okA
        rcases bft (mayE A n.np != 0) with hc7 | hc7
        ·have gc7:¬mayE A n.np=0:=bdt hc7
         exact (VC.run (fn:=Tryz.f37) (W:=[.r [] [],.r [] [.callr (rO oz0)],.r [] [],.br false,.r [] [.callr (rO oz2)],.br false,.r [] [],.r [] [],.br false,.r [] [],.br false,.r [] [],.br false,.r [] [],.br false,.r [] [],.br true,.r [] [.callr (rO oz9)],.r [] [],.br true,.r [] []]) (r:=AV.tup [AV.agg [i64 0,i64 0,i64 0,AV.lit (Value.slice none 0 0)],i64 (mayE A n.np)]) Tryz.func37 (by kernel_rfl) (.c oz0<|.c hc0<|.c oz2<|.c hc1<|.c hc2<|.c hc3<|.c hc4<|.c hc5<|.c hc6<|.c oz9<|.c hc7<|.n)).weak (WeakL.refl _) (Weak.tup (.cons (Weak.agg (.cons (Weak.int (show ((0):Int)=((nodeOf n A B).fst.h) from (by (unfold nodeOf;rw [if_neg (by omega),if_neg (by rw [‹tenRight A=true›];simp)];(repeat first | rw [if_pos (by omega)] | rw [if_neg (by omega)]);first | done | rfl)))) (.cons (Weak.int (show ((0):Int)=((nodeOf n A B).fst.x) from (by (unfold nodeOf;rw [if_neg (by omega),if_neg (by rw [‹tenRight A=true›];simp)];(repeat first | rw [if_pos (by omega)] | rw [if_neg (by omega)]);first | done | rfl)))) (.cons (Weak.int (show ((0):Int)=((nodeOf n A B).fst.c) from (by (unfold nodeOf;rw [if_neg (by omega),if_neg (by rw [‹tenRight A=true›];simp)];(repeat first | rw [if_pos (by omega)] | rw [if_neg (by omega)]);first | done | rfl)))) (.cons (Weak.nilr (show []=(List.map (row1 IntKind.i8) (nodeOf n A B).fst.d) from (by (unfold nodeOf;rw [if_neg (by omega),if_neg (by rw [‹tenRight A=true›];simp)];(repeat first | rw [if_pos (by omega)] | rw [if_neg (by omega)]);first | done | rfl)))) .nil))))) (.cons (Weak.int (show ((mayE A n.np):Int)=((nodeOf n A B).snd) from (by (unfold nodeOf;rw [if_neg (by omega),if_neg (by rw [‹tenRight A=true›];simp)];(repeat first | rw [if_pos (by omega)] | rw [if_neg (by omega)]);first | done | rfl)))) .nil)))
        ·have gc7:mayE A n.np=0:=bdf hc7
         have oz11 := @resize_v (A) (n.np) (n.za) (by (exact gk (by assumption))) (by (exact (gm (by assumption) (by assumption)).1)) (by (exact (gm (by assumption) (by assumption)).2))
         exact (VC.run (fn:=Tryz.f37) (W:=[.r [] [],.r [] [.callr (rO oz0)],.r [] [],.br false,.r [] [.callr (rO oz2)],.br false,.r [] [],.r [] [],.br false,.r [] [],.br false,.r [] [],.br false,.r [] [],.br false,.r [] [],.br true,.r [] [.callr (rO oz9)],.r [] [],.br false,.r [] [.callr (rO oz11)]]) (r:=AV.tup [AV.agg [i64 (padOf A n.np n.za).fst.h,i64 (padOf A n.np n.za).fst.x,i64 (padOf A n.np n.za).fst.c,AV.sl 1 (List.map (row1 IntKind.i8) (padOf A n.np n.za).fst.d)],i64 (padOf A n.np n.za).snd]) Tryz.func37 (by kernel_rfl) (.c oz0<|.c hc0<|.c oz2<|.c hc1<|.c hc2<|.c hc3<|.c hc4<|.c hc5<|.c hc6<|.c oz9<|.c hc7<|.c oz11<|.n)).weak (WeakL.refl _) (Weak.tup (.cons (Weak.agg (.cons (Weak.int (show (((padOf A n.np n.za).fst.h):Int)=((nodeOf n A B).fst.h) from (by (unfold nodeOf;rw [if_neg (by omega),if_neg (by rw [‹tenRight A=true›];simp)];(repeat first | rw [if_pos (by omega)] | rw [if_neg (by omega)]);first | done | rfl)))) (.cons (Weak.int (show (((padOf A n.np n.za).fst.x):Int)=((nodeOf n A B).fst.x) from (by (unfold nodeOf;rw [if_neg (by omega),if_neg (by rw [‹tenRight A=true›];simp)];(repeat first | rw [if_pos (by omega)] | rw [if_neg (by omega)]);first | done | rfl)))) (.cons (Weak.int (show (((padOf A n.np n.za).fst.c):Int)=((nodeOf n A B).fst.c) from (by (unfold nodeOf;rw [if_neg (by omega),if_neg (by rw [‹tenRight A=true›];simp)];(repeat first | rw [if_pos (by omega)] | rw [if_neg (by omega)]);first | done | rfl)))) (.cons (Weak.rows (rows_to (row1 IntKind.i8) (r:=List.map (row1 IntKind.i8) (padOf A n.np n.za).fst.d) (l:=(padOf A n.np n.za).fst.d) (m:=(nodeOf n A B).fst.d) rfl (show ((padOf A n.np n.za).fst.d)=((nodeOf n A B).fst.d) from (by (unfold nodeOf;rw [if_neg (by omega),if_neg (by rw [‹tenRight A=true›];simp)];(repeat first | rw [if_pos (by omega)] | rw [if_neg (by omega)]);first | done | rfl))))) .nil))))) (.cons (Weak.int (show (((padOf A n.np n.za).snd):Int)=((nodeOf n A B).snd) from (by (unfold nodeOf;rw [if_neg (by omega),if_neg (by rw [‹tenRight A=true›];simp)];(repeat first | rw [if_pos (by omega)] | rw [if_neg (by omega)]);first | done | rfl)))) .nil)))
       ·have gc6:¬n.kd=8:=bef hc6
        rcases bft (n.kd==9) with hc7 | hc7
        ·have gc7:n.kd=9:=bet hc7
         exact (VC.run (fn:=Tryz.f37) (W:=[.r [] [],.r [] [.callr (rO oz0)],.r [] [],.br false,.r [] [.callr (rO oz2)],.br false,.r [] [],.r [] [],.br false,.r [] [],.br false,.r [] [],.br false,.r [] [],.br false,.r [] [],.br false,.r [] [],.br true,.r [] []]) (r:=AV.tup [AV.agg [i64 1,i64 1,i64 (↑(List.map (row1 IntKind.i8) A.d).length:Int),AV.sl 1 (List.map (row1 IntKind.i8) A.d)],i64 0]) Tryz.func37 (by kernel_rfl) (.c oz0<|.c hc0<|.c oz2<|.c hc1<|.c hc2<|.c hc3<|.c hc4<|.c hc5<|.c hc6<|.c hc7<|.n)).weak (WeakL.refl _) (Weak.tup (.cons (Weak.agg (.cons (Weak.int (show ((1):Int)=((nodeOf n A B).fst.h) from (by (unfold nodeOf;rw [if_neg (by omega),if_neg (by rw [‹tenRight A=true›];simp)];(repeat first | rw [if_pos (by omega)] | rw [if_neg (by omega)]);first | done | rfl)))) (.cons (Weak.int (show ((1):Int)=((nodeOf n A B).fst.x) from (by (unfold nodeOf;rw [if_neg (by omega),if_neg (by rw [‹tenRight A=true›];simp)];(repeat first | rw [if_pos (by omega)] | rw [if_neg (by omega)]);first | done | rfl)))) (.cons (Weak.int (show (((↑(List.map (row1 IntKind.i8) A.d).length:Int)):Int)=((nodeOf n A B).fst.c) from (by (rw [List.length_map];unfold nodeOf;rw [if_neg (by omega),if_neg (by rw [‹tenRight A=true›];simp)];(repeat first | rw [if_pos (by omega)] | rw [if_neg (by omega)]);first | done | rfl)))) (.cons (Weak.rows (rows_to (row1 IntKind.i8) (r:=List.map (row1 IntKind.i8) A.d) (l:=A.d) (m:=(nodeOf n A B).fst.d) rfl (show (A.d)=((nodeOf n A B).fst.d) from (by (unfold nodeOf;rw [if_neg (by omega),if_neg (by rw [‹tenRight A=true›];simp)];(repeat first | rw [if_pos (by omega)] | rw [if_neg (by omega)]);first | done | rfl))))) .nil))))) (.cons (Weak.int (show ((0):Int)=((nodeOf n A B).snd) from (by (unfold nodeOf;rw [if_neg (by omega),if_neg (by rw [‹tenRight A=true›];simp)];(repeat first | rw [if_pos (by omega)] | rw [if_neg (by omega)]);first | done | rfl)))) .nil)))
        ·have gc7:¬n.kd=9:=bef hc7
         have oz10 := @rsum_v (A) (n) okA ok
         rcases bft ((sumOf A n).snd != 0) with hc8 | hc8
         ·have gc8:¬(sumOf A n).snd=0:=bdt hc8
          exact (VC.run (fn:=Tryz.f37) (W:=[.r [] [],.r [] [.callr (rO oz0)],.r [] [],.br false,.r [] [.callr (rO oz2)],.br false,.r [] [],.r [] [],.br false,.r [] [],.br false,.r [] [],.br false,.r [] [],.br false,.r [] [],.br false,.r [] [],.br false,.r [] [.callr (rO oz10)],.r [] [],.br true,.r [] []]) (r:=AV.tup [AV.agg [i64 0,i64 0,i64 0,AV.lit (Value.slice none 0 0)],i64 (sumOf A n).snd]) Tryz.func37 (by kernel_rfl) (.c oz0<|.c hc0<|.c oz2<|.c hc1<|.c hc2<|.c hc3<|.c hc4<|.c hc5<|.c hc6<|.c hc7<|.c oz10<|.c hc8<|.n)).weak (WeakL.refl _) (Weak.tup (.cons (Weak.agg (.cons (Weak.int (show ((0):Int)=((nodeOf n A B).fst.h) from (by (unfold nodeOf;rw [if_neg (by omega),if_neg (by rw [‹tenRight A=true›];simp)];(repeat first | rw [if_pos (by omega)] | rw [if_neg (by omega)]);first | done | rfl)))) (.cons (Weak.int (show ((0):Int)=((nodeOf n A B).fst.x) from (by (unfold nodeOf;rw [if_neg (by omega),if_neg (by rw [‹tenRight A=true›];simp)];(repeat first | rw [if_pos (by omega)] | rw [if_neg (by omega)]);first | done | rfl)))) (.cons (Weak.int (show ((0):Int)=((nodeOf n A B).fst.c) from (by (unfold nodeOf;rw [if_neg (by omega),if_neg (by rw [‹tenRight A=true›];simp)];(repeat first | rw [if_pos (by omega)] | rw [if_neg (by omega)]);first | done | rfl)))) (.cons (Weak.nilr (show []=(List.map (row1 IntKind.i8) (nodeOf n A B).fst.d) from (by (unfold nodeOf;rw [if_neg (by omega),if_neg (by rw [‹tenRight A=true›];simp)];(repeat first | rw [if_pos (by omega)] | rw [if_neg (by omega)]);first | done | rfl)))) .nil))))) (.cons (Weak.int (show (((sumOf A n).snd):Int)=((nodeOf n A B).snd) from (by (unfold nodeOf;rw [if_neg (by omega),if_neg (by rw [‹tenRight A=true›];simp)];(repeat first | rw [if_pos (by omega)] | rw [if_neg (by omega)]);first | done | rfl)))) .nil)))
         ·have gc8:(sumOf A n).snd=0:=bdf hc8
          have oz12 := @rput_v ((sumOf A n).fst) (n) g1 ok
          exact (VC.run (fn:=Tryz.f37) (W:=[.r [] [],.r [] [.callr (rO oz0)],.r [] [],.br false,.r [] [.callr (rO oz2)],.br false,.r [] [],.r [] [],.br false,.r [] [],.br false,.r [] [],.br false,.r [] [],.br false,.r [] [],.br false,.r [] [],.br false,.r [] [.callr (rO oz10)],.r [] [],.br false,.r [] [.callr (rO oz12)]]) (r:=AV.tup [AV.agg [i64 (putOf (sumOf A n).fst n).fst.h,i64 (putOf (sumOf A n).fst n).fst.x,i64 (putOf (sumOf A n).fst n).fst.c,AV.sl 1 (List.map (row1 IntKind.i8) (putOf (sumOf A n).fst n).fst.d)],i64 (putOf (sumOf A n).fst n).snd]) Tryz.func37 (by kernel_rfl) (.c oz0<|.c hc0<|.c oz2<|.c hc1<|.c hc2<|.c hc3<|.c hc4<|.c hc5<|.c hc6<|.c hc7<|.c oz10<|.c hc8<|.c oz12<|.n)).weak (WeakL.refl _) (Weak.tup (.cons (Weak.agg (.cons (Weak.int (show (((putOf (sumOf A n).fst n).fst.h):Int)=((nodeOf n A B).fst.h) from (by (unfold nodeOf;rw [if_neg (by omega),if_neg (by rw [‹tenRight A=true›];simp)];(repeat first | rw [if_pos (by omega)] | rw [if_neg (by omega)]);first | done | rfl)))) (.cons (Weak.int (show (((putOf (sumOf A n).fst n).fst.x):Int)=((nodeOf n A B).fst.x) from (by (unfold nodeOf;rw [if_neg (by omega),if_neg (by rw [‹tenRight A=true›];simp)];(repeat first | rw [if_pos (by omega)] | rw [if_neg (by omega)]);first | done | rfl)))) (.cons (Weak.int (show (((putOf (sumOf A n).fst n).fst.c):Int)=((nodeOf n A B).fst.c) from (by (unfold nodeOf;rw [if_neg (by omega),if_neg (by rw [‹tenRight A=true›];simp)];(repeat first | rw [if_pos (by omega)] | rw [if_neg (by omega)]);first | done | rfl)))) (.cons (Weak.rows (rows_to (row1 IntKind.i8) (r:=List.map (row1 IntKind.i8) (putOf (sumOf A n).fst n).fst.d) (l:=(putOf (sumOf A n).fst n).fst.d) (m:=(nodeOf n A B).fst.d) rfl (show ((putOf (sumOf A n).fst n).fst.d)=((nodeOf n A B).fst.d) from (by (unfold nodeOf;rw [if_neg (by omega),if_neg (by rw [‹tenRight A=true›];simp)];(repeat first | rw [if_pos (by omega)] | rw [if_neg (by omega)]);first | done | rfl))))) .nil))))) (.cons (Weak.int (show (((putOf (sumOf A n).fst n).snd):Int)=((nodeOf n A B).snd) from (by (unfold nodeOf;rw [if_neg (by omega),if_neg (by rw [‹tenRight A=true›];simp)];(repeat first | rw [if_pos (by omega)] | rw [if_neg (by omega)]);first | done | rfl)))) .nil)))
instance:Inhabited Ten:=⟨ten0⟩
abbrev tnC (T:Ten):List AV:=[i64 T.h,i64 T.x,i64 T.c,ints .i8 T.d]
theorem ten0_ok:(ten0:Ten).Ok:=⟨by decide,by decide,by decide,by simp⟩
theorem heldQ8 (v m s z:Int) {lo hi:Int} (h1:In8 lo) (h2:In8 hi):In8 (heldQ v m s z lo hi):=by
 unfold heldQ;split
 ·exact clamp_in _ h1 h2
 ·decide
theorem joinE8 (x y:Int) {n:Nod} (ok:n.Ok):In8 (joinE x y n):=by
 unfold joinE;split
 ·exact clamp_in _ ok.lo ok.hi
 ·decide
theorem map8 {α:Type} {f:α→Int} (hf:∀ a,In8 (f a)) (l:List α):∀ v∈l.map f,In8 v:=by
 intro v hv
 obtain ⟨a,_,rfl⟩:=List.mem_map.1 hv
 exact hf a
theorem meanE8 (l:List Int):In8 (meanE l):=by unfold meanE In8 IntKind.wrap;simp [IntKind.bits,IntKind.signed];omega
theorem poolF8 {T:Ten} (ok:T.Ok) (n:Nod) (s:Shp) (m:Bool) (i:Nat):In8 (poolF T n s m i):=by
 unfold poolF;split
 ·exact (reach8 (winI_8 ok _ _ _ _ _) _).2
 ·exact meanE8 _
theorem poolOf_ok {T:Ten} {n:Nod} (ok:T.Ok) (okn:n.Ok) (m:Bool):(poolOf T n m).1.Ok:=by
 unfold poolOf
 split
 ·split
  ·rename_i h1 h2
   obtain ⟨r,_,_,_,_,_,_,_,_,_,_,_,sc,h3,h4,h5,h6,_,_⟩:=PlOk.n ⟨ok,okn,h1,h2⟩
   have r1:=r.c1;have r2:=r.c2
   exact ⟨by dsimp only;omega,by dsimp only;omega,by dsimp only;omega,map8 (poolF8 ok n _ m) _⟩
  ·exact ten0_ok
 ·exact ten0_ok
theorem actOf_ok {T:Ten} {n:Nod} (ok:T.Ok) (okn:n.Ok):(actOf T n).1.Ok:=by
 unfold actOf
 split
 ·exact ten0_ok
 ·split
  ·exact ten0_ok
  ·exact ⟨ok.h,ok.x,ok.c,map8 (fun v=>heldQ8 _ _ _ _ okn.lo okn.hi) _⟩
theorem joinOf_ok {T U:Ten} {n:Nod} (ok:T.Ok) (okn:n.Ok):(joinOf T U n).1.Ok:=by
 unfold joinOf
 split
 ·exact ten0_ok
 ·split
  ·exact ten0_ok
  ·exact ⟨ok.h,ok.x,ok.c,map8 (fun i=>joinE8 _ _ okn) _⟩
theorem padOf_ok {T:Ten} (ok:T.Ok) {p z:Int} (hz:In8 z):(padOf T p z).1.Ok:=by
 unfold padOf
 split
 ·exact ten0_ok
 ·rename_i h
  have c:=elems_ok (h:=T.h+2*p) (x:=T.x+2*p) (c:=T.c) (by have:=elems_in (T.h+2*p) (T.x+2*p) T.c;omega)
  exact ⟨by dsimp only;omega,by dsimp only;omega,by dsimp only;omega,gH_in8 (fun h w c=>pix8 ok hz _ _ _) _ _ _⟩
theorem putOf_ok {A:Ten} {n:Nod} (ok:A.Ok32) (okn:n.Ok):(putOf A n).1.Ok:=by
 unfold putOf
 split
 ·exact ten0_ok
 ·split
  ·exact ten0_ok
  ·exact ⟨ok.h,ok.x,ok.c,map8 (fun v=>heldQ8 _ _ _ _ okn.lo okn.hi) _⟩
theorem nodeOf_ok {n:Nod} {A B:Ten} (okn:n.Ok) (okA:A.Ok):(nodeOf n A B).1.Ok:=by
 unfold nodeOf
 split
 ·exact ten0_ok
 ·split
  ·exact ten0_ok
  ·rename_i h1 h2
   split
   ·exact poolOf_ok okA okn true
   ·split
    ·exact poolOf_ok okA okn false
    ·split
     ·exact joinOf_ok okA okn
     ·split
      ·exact actOf_ok okA okn
      ·split
       ·split
        ·exact ten0_ok
        ·exact padOf_ok okA okn.za
       ·split
        ·have r:=tenRight.rt (T:=A) (by simpa using h2)
         have r1:=r.dl;have r2:=r.el
         exact ⟨by dsimp only;omega,by dsimp only;omega,by dsimp only;omega,okA.d⟩
        ·split
         ·exact ten0_ok
         ·exact putOf_ok (sumOf_ok okA okn) okn
def valE (n:Nod) (L:List Ten):Ten×Int:=nodeOf n (L.getD n.na.toNat default) (L.getD (secN n).toNat default)
theorem valE_eq (n:Nod) (L:List Ten):nodeOf n (L.getD n.na.toNat default) (L.getD (secN n).toNat default)=valE n L:=rfl
theorem getD_all {α:Type} [Inhabited α] {p:α→Prop} (h0:p default) {l:List α} (h:∀ y∈l,p y) (i:Nat):p (l.getD i default):=by
 rw [List.getD_eq_getElem?_getD]
 cases e:l[i]? with
 | none=>exact h0
 | some y=>exact h y (List.mem_of_getElem? e)
theorem val_ok {l:List Nod} (okl:∀ n∈l,n.Ok) {x:Ten} (ok:x.Ok) {k:Nat} (hk:k≤l.length):∀ T∈growL valE l x k,T.Ok :=
 growL_all (n:=l.length) ok (fun j hj h=>nodeOf_ok (getD_in okl hj) (getD_all (p:=Ten.Ok) ten0_ok h _)) k hk
structure VOK (l:List Nod) (x:Ten):Prop where
 okl:∀ n∈l,n.Ok
 wl:∀ n∈l,n.w.length≤100000∧n.b.length≤100000
 ok:x.Ok
 s:SOK l ⟨x.h,x.x,x.c⟩
theorem VOK.takes {l:List Nod} {x:Ten} (h:VOK l x) {k:Nat} (hk:k<l.length):0≤(l.getD k default).na∧(l.getD k default).na≤k∧0≤secN (l.getD k default)∧secN (l.getD k default)≤k:=by
 have q:=h.s.k k hk
 unfold errL at q
 have c:=(nextE_ok q).2.1
 rw [List.length_map,growL_len] at c
 have:=there_iff.1 c
 omega
noncomputable def rvals_ly_I (l:List Nod) (x:Ten) (k:Nat):VS:=stt 72 [(0,.sl 19 (l.map nodC)),(10,.own 900),(11,i64 k)] [(900,.slc 27 4 ((growL valE l x k).map tnC))]
noncomputable def rvals_ly_Z (l:List Nod) (x:Ten):VS:=rvals_ly_I l x (l.length)
theorem rvals_ly_s (l:List Nod) (x:Ten) (v:VOK l x) (h:∀ k,k<l.length→errL valE l x k=0) (k:Nat) (hk:k<l.length):VT Tryz.prog (fnC Tryz.f12 [1,1,1,1,1,0,1,0,0]) (rvals_ly_I l x k) .normal (rvals_ly_I l x (k+1)):=by
 have q:=h k hk
 have f8:=v.s.f
 have q1:=growL_len valE l x k
 have q2:=val_ok v.okl v.ok (Nat.le_of_lt hk)
 have q3:=getD_in v.okl hk
 have q4:=getD_in v.wl hk
 obtain ⟨q5,q6⟩:=q4
 obtain ⟨t1,t2,t3,t4⟩:=v.takes hk
 have q8:(List.map tnC (growL valE l x k)).length=k+1:=by rw [List.length_map,q1]
 have q9:=getD_all (p:=Ten.Ok) ten0_ok q2 (l.getD k default).na.toNat
 have qa:=getD_all (p:=Ten.Ok) ten0_ok q2 (secN (l.getD k default)).toNat
 unfold errL at q
 have oz1:=(show 0≤(↑k:Int) by omega)
 have oz2:=(map_at (nodC) (default) (l:=l) (i:=k) hk)
 have oz7:=(map_at (tnC) (default) (l:=growL valE l x k) (i:=(l.getD k default).na.toNat) (by omega))
 have oz10 := @refSecond_v (l.getD k default)
 have oz13:=(map_at (tnC) (default) (l:=growL valE l x k) (i:=(secN (l.getD k default)).toNat) (by omega))
 have oz14 := @rnode_v (l.getD k default) ((growL valE l x k).getD (l.getD k default).na.toNat default) ((growL valE l x k).getD (secN (l.getD k default)).toNat default) q3 q5 q6 q9 qa
 exact VT.run (W:=[.r [] [],.br true,.r [] [.row (sO oz2),.row (sO oz2),.row (sO oz7),.row (sO oz2),.callr (rO oz10),.row (sO oz13),.callr (rO oz14)],.r [] [],.br false,.r [] [],.r [] [.n ((↑k:Int)+1)]]) (G:=[.any (rg [(12,2),(31,32),(65,4)]),.drop [12,67],.ren 68 900,.weak 11 (i64 (↑(k+1):Int)),.blk 900 (Blk.slc 27 4 (List.map tnC (growL valE l x (k+1)))),.sort]) (by kernel_rfl) (.c (show decide ((↑k:Int)<(↑(List.map nodC l).length:Int))=true by (simp;omega))<|.c oz1<|.c oz2<|.c oz1<|.c oz2<|.c t1<|.c (show (l.getD k default).na<(↑(List.map tnC (growL valE l x k)).length:Int) by omega)<|.c oz7<|.c oz1<|.c oz2<|.c oz10<|.c t3<|.c (show secN (l.getD k default)<(↑(List.map tnC (growL valE l x k)).length:Int) by omega)<|.c oz13<|.c oz14<|.c (show ((nodeOf (l.getD k default) ((growL valE l x k).getD (l.getD k default).na.toNat default) ((growL valE l x k).getD (secN (l.getD k default)).toNat default)).snd != 0)=false by (rw [valE_eq,q];rfl))<|.c (show ((List.map tnC (growL valE l x k)).length+1)*48≤140737488355328 by omega)<|.c (show (List.map tnC (growL valE l x k)).length+1≤9223372036854775807 by omega)<|.c (i6n ((↑k:Int)+1) (by omega))<|.c (Weak.int (k:=.i64) (show (((↑k:Int)+1):Int)=((↑(k+1):Int)) from (by omega)))<|.c (show BlkW (Blk.slc 27 4 (List.map tnC (growL valE l x k)++[[i64 (nodeOf (l.getD k default) ((growL valE l x k).getD (l.getD k default).na.toNat default) ((growL valE l x k).getD (secN (l.getD k default)).toNat default)).fst.h,i64 (nodeOf (l.getD k default) ((growL valE l x k).getD (l.getD k default).na.toNat default) ((growL valE l x k).getD (secN (l.getD k default)).toNat default)).fst.x,i64 (nodeOf (l.getD k default) ((growL valE l x k).getD (l.getD k default).na.toNat default) ((growL valE l x k).getD (secN (l.getD k default)).toNat default)).fst.c,AV.sl 1 (List.map (row1 IntKind.i8) (nodeOf (l.getD k default) ((growL valE l x k).getD (l.getD k default).na.toNat default) ((growL valE l x k).getD (secN (l.getD k default)).toNat default)).fst.d)]])) (Blk.slc 27 4 (List.map tnC (growL valE l x (k+1)))) from (BlkW.rows (rows_to (tnC) (r:=List.map tnC (growL valE l x k)++[[i64 (nodeOf (l.getD k default) ((growL valE l x k).getD (l.getD k default).na.toNat default) ((growL valE l x k).getD (secN (l.getD k default)).toNat default)).fst.h,i64 (nodeOf (l.getD k default) ((growL valE l x k).getD (l.getD k default).na.toNat default) ((growL valE l x k).getD (secN (l.getD k default)).toNat default)).fst.x,i64 (nodeOf (l.getD k default) ((growL valE l x k).getD (l.getD k default).na.toNat default) ((growL valE l x k).getD (secN (l.getD k default)).toNat default)).fst.c,AV.sl 1 (List.map (row1 IntKind.i8) (nodeOf (l.getD k default) ((growL valE l x k).getD (l.getD k default).na.toNat default) ((growL valE l x k).getD (secN (l.getD k default)).toNat default)).fst.d)]]) (l:=growL valE l x k++[Ten.mk (nodeOf (l.getD k default) ((growL valE l x k).getD (l.getD k default).na.toNat default) ((growL valE l x k).getD (secN (l.getD k default)).toNat default)).fst.h (nodeOf (l.getD k default) ((growL valE l x k).getD (l.getD k default).na.toNat default) ((growL valE l x k).getD (secN (l.getD k default)).toNat default)).fst.x (nodeOf (l.getD k default) ((growL valE l x k).getD (l.getD k default).na.toNat default) ((growL valE l x k).getD (secN (l.getD k default)).toNat default)).fst.c (nodeOf (l.getD k default) ((growL valE l x k).getD (l.getD k default).na.toNat default) ((growL valE l x k).getD (secN (l.getD k default)).toNat default)).fst.d]) (m:=growL valE l x (k+1)) (by first | (simp only [List.map_append,List.map_cons,List.map_nil,List.map_set,List.map_replicate,List.map_take,List.map_drop];done) | rfl | (simp only [List.map_append,List.map_cons,List.map_nil,List.map_set,List.map_replicate,List.map_take,List.map_drop];rfl) | (simp only [List.map_append,List.map_cons,List.map_nil,List.map_set,List.map_replicate,List.map_take,List.map_drop,tnC,ints];done)) (show (growL valE l x k++[Ten.mk (nodeOf (l.getD k default) ((growL valE l x k).getD (l.getD k default).na.toNat default) ((growL valE l x k).getD (secN (l.getD k default)).toNat default)).fst.h (nodeOf (l.getD k default) ((growL valE l x k).getD (l.getD k default).na.toNat default) ((growL valE l x k).getD (secN (l.getD k default)).toNat default)).fst.x (nodeOf (l.getD k default) ((growL valE l x k).getD (l.getD k default).na.toNat default) ((growL valE l x k).getD (secN (l.getD k default)).toNat default)).fst.c (nodeOf (l.getD k default) ((growL valE l x k).getD (l.getD k default).na.toNat default) ((growL valE l x k).getD (secN (l.getD k default)).toNat default)).fst.d])=(growL valE l x (k+1)) from (by (rw [growL,valE]))))))<|.n)
theorem rvals_ly_e (l:List Nod) (x:Ten) (v:VOK l x) (h:∀ k,k<l.length→errL valE l x k=0):VT Tryz.prog (fnC Tryz.f12 [1,1,1,1,1,0,1,0,0]) (rvals_ly_I l x (l.length)) (.exit 0) (rvals_ly_Z l x):=by
 exact VT.run (W:=[.r [] [],.br false]) (G:=[.any (rg [(31,4)]),.sort]) (by kernel_rfl) (.c (show decide ((↑l.length:Int)<(↑(List.map nodC l).length:Int))=false by (simp;done))<|.n)
theorem rvals_ly (l:List Nod) (x:Ten) (v:VOK l x) (h:∀ k,k<l.length→errL valE l x k=0):VT Tryz.prog (fnC Tryz.f12 [1,1,1,1,1,0,1,0]) (rvals_ly_I l x 0) (.exit 0) (rvals_ly_Z l x) :=
 VT.loop (fun k=>rvals_ly_I l x k) (l.length) (fun k hk=>rvals_ly_s l x v h k hk) (rvals_ly_e l x v h) (by intro h;cases h)
noncomputable def rvals_ln_I (l:List Nod) (x:Ten) (m:Nat) (k:Nat):VS:=stt 72 [(0,.sl 19 (l.map nodC)),(10,.own 900),(11,i64 k)] [(900,.slc 27 4 ((growL valE l x k).map tnC))]
noncomputable def rvals_ln_Z (l:List Nod) (x:Ten) (m:Nat):VS:=stt 72 [(4,nilv),(5,i64 m),(6,i64 (errL valE l x m))] []
theorem rvals_ln_s (l:List Nod) (x:Ten) (m:Nat) (v:VOK l x) (hm:m<l.length) (hf:errL valE l x m≠0) (h:∀ k,k<m→errL valE l x k=0) (k:Nat) (hk:k<m):VT Tryz.prog (fnC Tryz.f12 [1,1,1,1,1,0,1,0,0]) (rvals_ln_I l x m k) .normal (rvals_ln_I l x m (k+1)):=by
 have q:=h k hk
 have f8:=v.s.f
 have q0:k<l.length:=by omega
 have q1:=growL_len valE l x k
 have q2:=val_ok v.okl v.ok (Nat.le_of_lt q0)
 have q3:=getD_in v.okl q0
 have q4:=getD_in v.wl q0
 obtain ⟨q5,q6⟩:=q4
 obtain ⟨t1,t2,t3,t4⟩:=v.takes q0
 have q8:(List.map tnC (growL valE l x k)).length=k+1:=by rw [List.length_map,q1]
 have q9:=getD_all (p:=Ten.Ok) ten0_ok q2 (l.getD k default).na.toNat
 have qa:=getD_all (p:=Ten.Ok) ten0_ok q2 (secN (l.getD k default)).toNat
 unfold errL at q
 have oz1:=(show 0≤(↑k:Int) by omega)
 have oz2:=(map_at (nodC) (default) (l:=l) (i:=k) q0)
 have oz7:=(map_at (tnC) (default) (l:=growL valE l x k) (i:=(l.getD k default).na.toNat) (by omega))
 have oz10 := @refSecond_v (l.getD k default)
 have oz13:=(map_at (tnC) (default) (l:=growL valE l x k) (i:=(secN (l.getD k default)).toNat) (by omega))
 have oz14 := @rnode_v (l.getD k default) ((growL valE l x k).getD (l.getD k default).na.toNat default) ((growL valE l x k).getD (secN (l.getD k default)).toNat default) q3 q5 q6 q9 qa
 exact VT.run (W:=[.r [] [],.br true,.r [] [.row (sO oz2),.row (sO oz2),.row (sO oz7),.row (sO oz2),.callr (rO oz10),.row (sO oz13),.callr (rO oz14)],.r [] [],.br false,.r [] [],.r [] [.n ((↑k:Int)+1)]]) (G:=[.any (rg [(12,2),(31,32),(65,4)]),.drop [12,67],.ren 68 900,.weak 11 (i64 (↑(k+1):Int)),.blk 900 (Blk.slc 27 4 (List.map tnC (growL valE l x (k+1)))),.sort]) (by kernel_rfl) (.c (show decide ((↑k:Int)<(↑(List.map nodC l).length:Int))=true by (simp;omega))<|.c oz1<|.c oz2<|.c oz1<|.c oz2<|.c t1<|.c (show (l.getD k default).na<(↑(List.map tnC (growL valE l x k)).length:Int) by omega)<|.c oz7<|.c oz1<|.c oz2<|.c oz10<|.c t3<|.c (show secN (l.getD k default)<(↑(List.map tnC (growL valE l x k)).length:Int) by omega)<|.c oz13<|.c oz14<|.c (show ((nodeOf (l.getD k default) ((growL valE l x k).getD (l.getD k default).na.toNat default) ((growL valE l x k).getD (secN (l.getD k default)).toNat default)).snd != 0)=false by (rw [valE_eq,q];rfl))<|.c (show ((List.map tnC (growL valE l x k)).length+1)*48≤140737488355328 by omega)<|.c (show (List.map tnC (growL valE l x k)).length+1≤9223372036854775807 by omega)<|.c (i6n ((↑k:Int)+1) (by omega))<|.c (Weak.int (k:=.i64) (show (((↑k:Int)+1):Int)=((↑(k+1):Int)) from (by omega)))<|.c (show BlkW (Blk.slc 27 4 (List.map tnC (growL valE l x k)++[[i64 (nodeOf (l.getD k default) ((growL valE l x k).getD (l.getD k default).na.toNat default) ((growL valE l x k).getD (secN (l.getD k default)).toNat default)).fst.h,i64 (nodeOf (l.getD k default) ((growL valE l x k).getD (l.getD k default).na.toNat default) ((growL valE l x k).getD (secN (l.getD k default)).toNat default)).fst.x,i64 (nodeOf (l.getD k default) ((growL valE l x k).getD (l.getD k default).na.toNat default) ((growL valE l x k).getD (secN (l.getD k default)).toNat default)).fst.c,AV.sl 1 (List.map (row1 IntKind.i8) (nodeOf (l.getD k default) ((growL valE l x k).getD (l.getD k default).na.toNat default) ((growL valE l x k).getD (secN (l.getD k default)).toNat default)).fst.d)]])) (Blk.slc 27 4 (List.map tnC (growL valE l x (k+1)))) from (BlkW.rows (rows_to (tnC) (r:=List.map tnC (growL valE l x k)++[[i64 (nodeOf (l.getD k default) ((growL valE l x k).getD (l.getD k default).na.toNat default) ((growL valE l x k).getD (secN (l.getD k default)).toNat default)).fst.h,i64 (nodeOf (l.getD k default) ((growL valE l x k).getD (l.getD k default).na.toNat default) ((growL valE l x k).getD (secN (l.getD k default)).toNat default)).fst.x,i64 (nodeOf (l.getD k default) ((growL valE l x k).getD (l.getD k default).na.toNat default) ((growL valE l x k).getD (secN (l.getD k default)).toNat default)).fst.c,AV.sl 1 (List.map (row1 IntKind.i8) (nodeOf (l.getD k default) ((growL valE l x k).getD (l.getD k default).na.toNat default) ((growL valE l x k).getD (secN (l.getD k default)).toNat default)).fst.d)]]) (l:=growL valE l x k++[Ten.mk (nodeOf (l.getD k default) ((growL valE l x k).getD (l.getD k default).na.toNat default) ((growL valE l x k).getD (secN (l.getD k default)).toNat default)).fst.h (nodeOf (l.getD k default) ((growL valE l x k).getD (l.getD k default).na.toNat default) ((growL valE l x k).getD (secN (l.getD k default)).toNat default)).fst.x (nodeOf (l.getD k default) ((growL valE l x k).getD (l.getD k default).na.toNat default) ((growL valE l x k).getD (secN (l.getD k default)).toNat default)).fst.c (nodeOf (l.getD k default) ((growL valE l x k).getD (l.getD k default).na.toNat default) ((growL valE l x k).getD (secN (l.getD k default)).toNat default)).fst.d]) (m:=growL valE l x (k+1)) (by first | (simp only [List.map_append,List.map_cons,List.map_nil,List.map_set,List.map_replicate,List.map_take,List.map_drop];done) | rfl | (simp only [List.map_append,List.map_cons,List.map_nil,List.map_set,List.map_replicate,List.map_take,List.map_drop];rfl) | (simp only [List.map_append,List.map_cons,List.map_nil,List.map_set,List.map_replicate,List.map_take,List.map_drop,tnC,ints];done)) (show (growL valE l x k++[Ten.mk (nodeOf (l.getD k default) ((growL valE l x k).getD (l.getD k default).na.toNat default) ((growL valE l x k).getD (secN (l.getD k default)).toNat default)).fst.h (nodeOf (l.getD k default) ((growL valE l x k).getD (l.getD k default).na.toNat default) ((growL valE l x k).getD (secN (l.getD k default)).toNat default)).fst.x (nodeOf (l.getD k default) ((growL valE l x k).getD (l.getD k default).na.toNat default) ((growL valE l x k).getD (secN (l.getD k default)).toNat default)).fst.c (nodeOf (l.getD k default) ((growL valE l x k).getD (l.getD k default).na.toNat default) ((growL valE l x k).getD (secN (l.getD k default)).toNat default)).fst.d])=(growL valE l x (k+1)) from (by (rw [growL,valE]))))))<|.n)
theorem rvals_ln_e (l:List Nod) (x:Ten) (m:Nat) (v:VOK l x) (hm:m<l.length) (hf:errL valE l x m≠0) (h:∀ k,k<m→errL valE l x k=0):VT Tryz.prog (fnC Tryz.f12 [1,1,1,1,1,0,1,0,0]) (rvals_ln_I l x m (m)) (.ret) (rvals_ln_Z l x m):=by
 have f8:=v.s.f
 have q1:=growL_len valE l x m
 have q2:=val_ok v.okl v.ok (Nat.le_of_lt hm)
 have q3:=getD_in v.okl hm
 have q4:=getD_in v.wl hm
 obtain ⟨q5,q6⟩:=q4
 obtain ⟨t1,t2,t3,t4⟩:=v.takes hm
 have q8:(List.map tnC (growL valE l x m)).length=m+1:=by rw [List.length_map,q1]
 have q9:=getD_all (p:=Ten.Ok) ten0_ok q2 (l.getD m default).na.toNat
 have qa:=getD_all (p:=Ten.Ok) ten0_ok q2 (secN (l.getD m default)).toNat
 unfold errL at hf
 have oz1:=(show 0≤(↑m:Int) by omega)
 have oz2:=(map_at (nodC) (default) (l:=l) (i:=m) hm)
 have oz7:=(map_at (tnC) (default) (l:=growL valE l x m) (i:=(l.getD m default).na.toNat) (by omega))
 have oz10 := @refSecond_v (l.getD m default)
 have oz13:=(map_at (tnC) (default) (l:=growL valE l x m) (i:=(secN (l.getD m default)).toNat) (by omega))
 have oz14 := @rnode_v (l.getD m default) ((growL valE l x m).getD (l.getD m default).na.toNat default) ((growL valE l x m).getD (secN (l.getD m default)).toNat default) q3 q5 q6 q9 qa
 have oz16:=(Weak.int (k:=.i64) (show (((nodeOf (l.getD m default) ((growL valE l x m).getD (l.getD m default).na.toNat default) ((growL valE l x m).getD (secN (l.getD m default)).toNat default)).snd):Int)=(errL valE l x m) from (by (unfold errL;rw [valE_eq]))))
 exact VT.run (W:=[.r [] [],.br true,.r [] [.row (sO oz2),.row (sO oz2),.row (sO oz7),.row (sO oz2),.callr (rO oz10),.row (sO oz13),.callr (rO oz14)],.r [] [],.br true,.r [] []]) (G:=[.any (rg [(0,1),(10,4),(31,4),(37,28)]),.drop [900,12],.weak 6 (wO oz16),.sort]) (by kernel_rfl) (.c (show decide ((↑m:Int)<(↑(List.map nodC l).length:Int))=true by (simp;omega))<|.c oz1<|.c oz2<|.c oz1<|.c oz2<|.c t1<|.c (show (l.getD m default).na<(↑(List.map tnC (growL valE l x m)).length:Int) by omega)<|.c oz7<|.c oz1<|.c oz2<|.c oz10<|.c t3<|.c (show secN (l.getD m default)<(↑(List.map tnC (growL valE l x m)).length:Int) by omega)<|.c oz13<|.c oz14<|.c (show ((nodeOf (l.getD m default) ((growL valE l x m).getD (l.getD m default).na.toNat default) ((growL valE l x m).getD (secN (l.getD m default)).toNat default)).snd != 0)=true by (rw [valE_eq,bne_iff_ne];exact hf))<|.c oz16<|.n)
theorem rvals_ln (l:List Nod) (x:Ten) (m:Nat) (v:VOK l x) (hm:m<l.length) (hf:errL valE l x m≠0) (h:∀ k,k<m→errL valE l x k=0):VT Tryz.prog (fnC Tryz.f12 [1,1,1,1,1,0,1,0]) (rvals_ln_I l x m 0) (.ret) (rvals_ln_Z l x m) :=
 VT.loop (fun k=>rvals_ln_I l x m k) (m) (fun k hk=>rvals_ln_s l x m v hm hf h k hk) (rvals_ln_e l x m v hm hf h) (by intro h;cases h)
theorem rvals_y (l:List Nod) (x:Ten) (v:VOK l x) (r:tenRight x=true) (h:∀ k,k<l.length→errL valE l x k=0):VC Tryz.prog 12 ([.sl 19 (l.map nodC),ten .i8 x]) (.tup [.sl 4 ((growL valE l x l.length).map tnC),i64 l.length,i64 0]):=by
 obtain ⟨v1,v2,v3,v4⟩:=id v
 have o1:=v3.h
 have o2:=v3.x
 have o3:=v3.c
 have oz0 := @refTRight_v (x) v3
 have oz2 := @rshapes_y (l) (Shp.mk x.h x.x x.c) v1 v2 v4
 have oz5 := @rvals_ly (l) (x) v h
 exact (VC.run (fn:=Tryz.f12) (W:=[.r [] [],.r [] [.callr (rO oz0)],.br false,.r [] [.callr (rO oz2)],.r [] [],.br false,.r [] [],.r [] [],.code [.any (rg [(1,1),(3,7),(14,13),(29,2)]),.drop [3],.ren 30 900,.weak 11 (i64 (↑0:Int)),.sort] (Exit.exit 0) (zO oz5),.r [] []]) (r:=AV.tup [AV.sl 4 (List.map tnC (growL valE l x l.length)),i64 (↑(List.map nodC l).length:Int),i64 0]) Tryz.func12 (by kernel_rfl) (.c oz0<|.c (show (!tenRight x)=false by (simp;omega))<|.c oz2<|.c (show false=false by with_reducible rfl)<|.c (Weak.int (k:=.i64) (show ((0):Int)=((↑0:Int)) from (by omega)))<|.c oz5<|.n)).weak (WeakL.refl _) (Weak.tup (.cons (.refl _) (.cons (Weak.int (show (((↑(List.map nodC l).length:Int)):Int)=((↑l.length:Int)) from (by (simp;done)))) (.cons (.refl _) .nil))))
theorem rvals_m (l:List Nod) (x:Ten) (m:Nat) (v:VOK l x) (r:tenRight x=true) (hm:m<l.length) (hf:errL valE l x m≠0) (h:∀ k,k<m→errL valE l x k=0):VC Tryz.prog 12 ([.sl 19 (l.map nodC),ten .i8 x]) (.tup [nilv,i64 m,i64 (errL valE l x m)]):=by
 obtain ⟨v1,v2,v3,v4⟩:=id v
 have o1:=v3.h
 have o2:=v3.x
 have o3:=v3.c
 have oz0 := @refTRight_v (x) v3
 have oz2 := @rshapes_y (l) (Shp.mk x.h x.x x.c) v1 v2 v4
 have oz5 := @rvals_ln (l) (x) (m) v hm hf h
 exact VC.run (fn:=Tryz.f12) (W:=[.r [] [],.r [] [.callr (rO oz0)],.br false,.r [] [.callr (rO oz2)],.r [] [],.br false,.r [] [],.r [] [],.code [.any (rg [(1,1),(3,7),(14,13),(29,2)]),.drop [3],.ren 30 900,.weak 11 (i64 (↑0:Int)),.sort] (Exit.ret) (zO oz5)]) Tryz.func12 (by kernel_rfl) (.c oz0<|.c (show (!tenRight x)=false by (simp;omega))<|.c oz2<|.c (show false=false by with_reducible rfl)<|.c (Weak.int (k:=.i64) (show ((0):Int)=((↑0:Int)) from (by omega)))<|.c oz5<|.n)
def valsE (l:List Nod) (x:Ten):Int×Int:=if tenRight x=false then (-1,5) else if (shapesE l ⟨x.h,x.x,x.c⟩).2≠0 then shapesE l ⟨x.h,x.x,x.c⟩ else
 if firstBad (fun k=>errL valE l x k==0) l.length<l.length then (firstBad (fun k=>errL valE l x k==0) l.length,errL valE l x (firstBad (fun k=>errL valE l x k==0) l.length)) else (l.length,0)
theorem shapesE_bad {l:List Nod} {a:Shp} (h:¬ SOK l a):(shapesE l a).2≠0:=by
 rcases SOK.cases l a with q | q | q | q | ⟨i',e,f,m,h1,h2,h3⟩
 ·exact absurd q h
 ·unfold shapesE Shp.Rt at *;rw [if_pos q];decide
 ·unfold shapesE
  by_cases i:0<elems a.h a.x a.c
  ·rw [if_neg (by omega),if_pos q];decide
  ·rw [if_pos i];decide
 ·unfold shapesE
  by_cases i:0<elems a.h a.x a.c
  ·rw [if_neg (by omega),if_neg (by omega),if_pos q];decide
  ·rw [if_pos i];decide
 ·rw [shapesE_at i' e f h1 h2 h3];exact h2
theorem rvals_n (l:List Nod) (x:Ten) (okl:∀ n∈l,n.Ok) (wl:∀ n∈l,n.w.length≤100000∧n.b.length≤100000) (ok:x.Ok) (hl:l.length≤1000) (hn:tenRight x=false∨¬ SOK l ⟨x.h,x.x,x.c⟩):VC Tryz.prog 12 ([.sl 19 (l.map nodC),ten .i8 x]) (.tup [nilv,i64 (valsE l x).1,i64 (valsE l x).2]):=by
 have o1:=ok.h
 have o2:=ok.x
 have o3:=ok.c
 have g1 := @shapesE_bad l ⟨x.h,x.x,x.c⟩
 have g2:(!tenRight x)=false→¬ SOK l ⟨x.h,x.x,x.c⟩:=fun h=>by
  rcases hn with hn | hn
  ·rw [hn] at h;cases h
  ·exact hn
 have g3:(!tenRight x)=false→(shapesE l ⟨x.h,x.x,x.c⟩).2≠0:=fun h=>g1 (g2 h)
 have oz0 := @refTRight_v (x) ok
 rcases bft (!tenRight x) with hc0 | hc0
 ·have gc0:tenRight x=false:=by first | exact hc0 | exact of_decide_eq_true hc0 | exact of_decide_eq_false hc0 | simpa [eqNums] using hc0 | (simp [eqNums] at hc0 ⊢;first | done | assumption | omega)
  exact (VC.run (fn:=Tryz.f12) (W:=[.r [] [],.r [] [.callr (rO oz0)],.br true,.r [] []]) (r:=AV.tup [AV.lit (Value.slice none 0 0),i64 (-1),i64 5]) Tryz.func12 (by kernel_rfl) (.c oz0<|.c hc0<|.n)).weak (WeakL.refl _) (Weak.tup (.cons (.refl _) (.cons (Weak.int (show ((-1):Int)=((valsE l x).fst) from (by (unfold valsE;rw [if_pos (by assumption)])))) (.cons (Weak.int (show ((5):Int)=((valsE l x).snd) from (by (unfold valsE;rw [if_pos (by assumption)])))) .nil))))
 ·have gc0:tenRight x=true:=by first | exact hc0 | exact of_decide_eq_true hc0 | exact of_decide_eq_false hc0 | simpa [eqNums] using hc0 | (simp [eqNums] at hc0 ⊢;first | done | assumption | omega)
  have oz2 := @rshapes_n (l) (Shp.mk x.h x.x x.c) okl wl (by (exact Shp.mk_ok o1 o2 o3)) hl (by (exact g2 (by assumption)))
  exact (VC.run (fn:=Tryz.f12) (W:=[.r [] [],.r [] [.callr (rO oz0)],.br false,.r [] [.callr (rO oz2)],.r [] [],.br true,.r [] []]) (r:=AV.tup [AV.lit (Value.slice none 0 0),i64 (shapesE l (Shp.mk x.h x.x x.c)).fst,i64 (shapesE l (Shp.mk x.h x.x x.c)).snd]) Tryz.func12 (by kernel_rfl) (.c oz0<|.c hc0<|.c oz2<|.c (show ((shapesE l (Shp.mk x.h x.x x.c)).snd != 0)=true by (rw [bne_iff_ne];exact g3 (by assumption)))<|.n)).weak (WeakL.refl _) (Weak.tup (.cons (.refl _) (.cons (Weak.int (show (((shapesE l (Shp.mk x.h x.x x.c)).fst):Int)=((valsE l x).fst) from (by (unfold valsE;rw [if_neg (by rw [‹tenRight x=true›];simp),if_pos (g3 (by assumption))])))) (.cons (Weak.int (show (((shapesE l (Shp.mk x.h x.x x.c)).snd):Int)=((valsE l x).snd) from (by (unfold valsE;rw [if_neg (by rw [‹tenRight x=true›];simp),if_pos (g3 (by assumption))])))) .nil))))
def Rng.In8 (a:Rng):Prop:=Go.Proofs.YtgecmooedhnenaaGreat.In8 a.lo∧Go.Proofs.YtgecmooedhnenaaGreat.In8 a.hi
def nodeR (n:Nod) (a b:Rng):Rng×Int :=
 if checkE n≠0 then (⟨0,0⟩,checkE n) else if a.lo > a.hi∨(n.kd=6∧b.lo > b.hi) then (⟨0,0⟩,2)
 else if n.kd=1∨n.kd=2∨n.kd=3 then sumG n a
 else if n.kd=6 then (⟨joinE a.lo b.lo n,joinE a.hi b.hi n⟩,0)
 else if n.kd=7 then (⟨oneN a.lo n,oneN a.hi n⟩,0)
 else if n.kd=8∧n.np > 0 then (⟨min a.lo n.za,max a.hi n.za⟩,0) else (a,0)
noncomputable def ends64_l_I (a:Int) (l:List Int) (k:Nat):VS:=stt 27 [(6,i64 (foldR a l k).lo),(7,i64 (foldR a l k).hi),(12,ints .i64 l),(13,i64 l.length),(14,i64 k)] []
noncomputable def ends64_l_Z (a:Int) (l:List Int):VS:=ends64_l_I a l (l.length)
theorem ends64_l_s (a:Int) (l:List Int) (hl:l.length≤1000) (k:Nat) (hk:k<l.length):VT Tryz.prog (fnC Tryz.f239 [1,1,0,1,0,0]) (ends64_l_I a l k) .normal (ends64_l_I a l (k+1)):=by
 have oz4:=(Weak.int (k:=.i64) (show ((if l.getD k 0<(foldR a l k).lo then l.getD k 0 else (foldR a l k).lo):Int)=((foldR a l (k+1)).lo) from (by (simp only [foldR];split<;>omega))))
 have oz5:=(Weak.int (k:=.i64) (show ((if l.getD k 0 > (foldR a l k).hi then l.getD k 0 else (foldR a l k).hi):Int)=((foldR a l (k+1)).hi) from (by (simp only [foldR];split<;>omega))))
 exact VT.run (W:=[.r [] [],.br true,.r [] [.row [i64 (l.getD k 0)]],.r [] [],.r [] [.n ((↑k:Int)+1)]]) (G:=[.any (rg [(9,1),(15,10)]),.weak 6 (wO oz4),.weak 7 (wO oz5),.weak 14 (i64 (↑(k+1):Int)),.sort]) (by kernel_rfl) (.c (decide_eq_true (p:=((↑k:Int)<(↑l.length:Int))) (by omega))<|.c (show 0≤(↑k:Int) by omega)<|.c (map_at (row1 IntKind.i64) (0) (l:=l) (i:=k) hk)<|.c (i6n ((↑k:Int)+1) (by omega))<|.c oz4<|.c oz5<|.c (Weak.int (k:=.i64) (show (((↑k:Int)+1):Int)=((↑(k+1):Int)) from (by omega)))<|.n)
theorem ends64_l_e (a:Int) (l:List Int) (hl:l.length≤1000):VT Tryz.prog (fnC Tryz.f239 [1,1,0,1,0,0]) (ends64_l_I a l (l.length)) (.exit 0) (ends64_l_Z a l):=by
 exact VT.run (W:=[.r [] [],.br false]) (G:=[.any [15],.sort]) (by kernel_rfl) (.c (decide_eq_false (p:=((↑l.length:Int)<(↑l.length:Int))) (by omega))<|.n)
theorem ends64_l (a:Int) (l:List Int) (hl:l.length≤1000):VT Tryz.prog (fnC Tryz.f239 [1,1,0,1,0]) (ends64_l_I a l 0) (.exit 0) (ends64_l_Z a l) :=
 VT.loop (fun k=>ends64_l_I a l k) (l.length) (fun k hk=>ends64_l_s a l hl k hk) (ends64_l_e a l hl) (by intro h;cases h)
theorem ends64_v (a:Int) (l:List Int) (hl:l.length≤1000):VC Tryz.prog 239 ([i64 a,ints .i64 l]) (.tup [i64 (foldR a l l.length).lo,i64 (foldR a l l.length).hi]):=by
 have oz1:=(Weak.int (k:=.i64) (show (((↑(List.map (row1 IntKind.i64) l).length:Int)):Int)=((↑l.length:Int)) from (by (simp;done))))
 have oz3 := @ends64_l (a) (l) hl
 exact VC.run (fn:=Tryz.f239) (W:=[.r [] [],.r [] [],.r [] [],.code [.any [0,1,4,5,10,11],.weak 7 (i64 (foldR a l 0).hi),.weak 13 (wO oz1),.weak 14 (i64 (↑0:Int)),.sort] (Exit.exit 0) (zO oz3),.r [] []]) Tryz.func239 (by kernel_rfl) (.c (Weak.int (k:=.i64) (show ((a):Int)=((foldR a l 0).hi) from (by rfl)))<|.c oz1<|.c (Weak.int (k:=.i64) (show ((0):Int)=((↑0:Int)) from (by omega)))<|.c oz3<|.n)
theorem ends64_1 (a b:Int):VC Tryz.prog 239 [i64 a,.sl 1 [[i64 b]]] (.tup [i64 (min a b),i64 (max a b)]):=ends64_v a [b] (by simp)
noncomputable def ends8_l_I (a:Int) (l:List Int) (k:Nat):VS:=stt 27 [(6,i8 (foldR a l k).lo),(7,i8 (foldR a l k).hi),(12,ints .i8 l),(13,i64 l.length),(14,i64 k)] []
noncomputable def ends8_l_Z (a:Int) (l:List Int):VS:=ends8_l_I a l (l.length)
theorem ends8_l_s (a:Int) (l:List Int) (hl:l.length≤1000) (k:Nat) (hk:k<l.length):VT Tryz.prog (fnC Tryz.f252 [1,1,0,1,0,0]) (ends8_l_I a l k) .normal (ends8_l_I a l (k+1)):=by
 have oz4:=(Weak.int (k:=.i8) (show ((if l.getD k 0<(foldR a l k).lo then l.getD k 0 else (foldR a l k).lo):Int)=((foldR a l (k+1)).lo) from (by (simp only [foldR];split<;>omega))))
 have oz5:=(Weak.int (k:=.i8) (show ((if l.getD k 0 > (foldR a l k).hi then l.getD k 0 else (foldR a l k).hi):Int)=((foldR a l (k+1)).hi) from (by (simp only [foldR];split<;>omega))))
 exact VT.run (W:=[.r [] [],.br true,.r [] [.row [i8 (l.getD k 0)]],.r [] [],.r [] [.n ((↑k:Int)+1)]]) (G:=[.any (rg [(9,1),(15,10)]),.weak 6 (wO oz4),.weak 7 (wO oz5),.weak 14 (i64 (↑(k+1):Int)),.sort]) (by kernel_rfl) (.c (decide_eq_true (p:=((↑k:Int)<(↑l.length:Int))) (by omega))<|.c (show 0≤(↑k:Int) by omega)<|.c (map_at (row1 IntKind.i8) (0) (l:=l) (i:=k) hk)<|.c (i6n ((↑k:Int)+1) (by omega))<|.c oz4<|.c oz5<|.c (Weak.int (k:=.i64) (show (((↑k:Int)+1):Int)=((↑(k+1):Int)) from (by omega)))<|.n)
theorem ends8_l_e (a:Int) (l:List Int) (hl:l.length≤1000):VT Tryz.prog (fnC Tryz.f252 [1,1,0,1,0,0]) (ends8_l_I a l (l.length)) (.exit 0) (ends8_l_Z a l):=by
 exact VT.run (W:=[.r [] [],.br false]) (G:=[.any [15],.sort]) (by kernel_rfl) (.c (decide_eq_false (p:=((↑l.length:Int)<(↑l.length:Int))) (by omega))<|.n)
theorem ends8_l (a:Int) (l:List Int) (hl:l.length≤1000):VT Tryz.prog (fnC Tryz.f252 [1,1,0,1,0]) (ends8_l_I a l 0) (.exit 0) (ends8_l_Z a l) :=
 VT.loop (fun k=>ends8_l_I a l k) (l.length) (fun k hk=>ends8_l_s a l hl k hk) (ends8_l_e a l hl) (by intro h;cases h)
theorem ends8_v (a:Int) (l:List Int) (hl:l.length≤1000):VC Tryz.prog 252 ([i8 a,ints .i8 l]) (.tup [i8 (foldR a l l.length).lo,i8 (foldR a l l.length).hi]):=by
 have oz1:=(Weak.int (k:=.i64) (show (((↑(List.map (row1 IntKind.i8) l).length:Int)):Int)=((↑l.length:Int)) from (by (simp;done))))
 have oz3 := @ends8_l (a) (l) hl
 exact VC.run (fn:=Tryz.f252) (W:=[.r [] [],.r [] [],.r [] [],.code [.any [0,1,4,5,10,11],.weak 7 (i8 (foldR a l 0).hi),.weak 13 (wO oz1),.weak 14 (i64 (↑0:Int)),.sort] (Exit.exit 0) (zO oz3),.r [] []]) Tryz.func252 (by kernel_rfl) (.c (Weak.int (k:=.i8) (show ((a):Int)=((foldR a l 0).hi) from (by rfl)))<|.c oz1<|.c (Weak.int (k:=.i64) (show ((0):Int)=((↑0:Int)) from (by omega)))<|.c oz3<|.n)
theorem ends8_2 (a b c:Int):VC Tryz.prog 252 [i8 a,.sl 1 [[i8 b],[i8 c]]] (.tup [i8 (min (min a b) c),i8 (max (max a b) c)]):=ends8_v a [b,c] (by simp)
theorem over_v (a b c:Int)  : VC Tryz.prog 246 ([i8 a,.sl 1 [[i8 b],[i8 c]]]) (rch ⟨min (min a b) c,max (max a b) c⟩):=by
 have oz0 := @ends8_2 (a) (b) (c)
 exact VC.run (fn:=Tryz.f246) (W:=[.r [] [],.r [] [.callr (rO oz0)],.r [] []]) Tryz.func246 (by kernel_rfl) (.c oz0<|.n)
theorem gnode_v (n:Nod) (a b:Rng) (ok:n.Ok) (ha:a.In8) (hb:b.In8) (wl:n.w.length≤100000) (bl:n.b.length≤100000):VC Tryz.prog 240 ([nod n,rch a,rch b]) (.tup [rch (nodeR n a b).1,i64 (nodeR n a b).2]):=by
 have ok_kd:=ok.kd
 obtain ⟨p1,p2⟩:=id ha
 obtain ⟨p3,p4⟩:=id hb
 have oz0 := @check_v (n) wl bl ok_kd
 rcases bft (checkE n != 0) with hc0 | hc0
 ·have gc0:¬checkE n=0:=bdt hc0
  exact (VC.run (fn:=Tryz.f240) (W:=[.r [] [],.r [] [.callr (rO oz0)],.r [] [],.br true,.r [] []]) (r:=AV.tup [AV.agg [i8 0,i8 0],i64 (checkE n)]) Tryz.func240 (by kernel_rfl) (.c oz0<|.c hc0<|.n)).weak (WeakL.refl _) (Weak.tup (.cons (Weak.agg (.cons (Weak.int (show ((0):Int)=((nodeR n a b).fst.lo) from (by (unfold nodeR;(repeat first | rw [if_pos (by omega)] | rw [if_neg (by omega)]))))) (.cons (Weak.int (show ((0):Int)=((nodeR n a b).fst.hi) from (by (unfold nodeR;(repeat first | rw [if_pos (by omega)] | rw [if_neg (by omega)]))))) .nil))) (.cons (Weak.int (show ((checkE n):Int)=((nodeR n a b).snd) from (by (unfold nodeR;(repeat first | rw [if_pos (by omega)] | rw [if_neg (by omega)]))))) .nil)))
 ·have gc0:checkE n=0:=bdf hc0
  have oz2 := @upside_v (a.lo) (a.hi)
  have oz3 := @upside_v (b.lo) (b.hi)
  rcases bft (decide (a.lo > a.hi) || n.kd==6&&decide (b.lo > b.hi)) with hc1 | hc1
  ·have gc1:a.lo > a.hi∨n.kd=6∧b.lo > b.hi:=by first | (simp only [Bool.or_eq_true,Bool.or_eq_false_iff,Bool.and_eq_true,Bool.and_eq_false_iff,Bool.not_eq_true',Bool.not_eq_false',decide_eq_true_eq,decide_eq_false_iff_not,beq_iff_eq,bne_iff_ne,ne_eq,beq_eq_false_iff_ne,bne_eq_false_iff_eq,eqNums,Bool.and_true] at hc1;first | exact hc1 | omega) | simpa using hc1 | (simp at hc1 ⊢;omega) | (apply cbc;intro hn;simp_all [eqNums];done) | (apply cbc;intro hn;simp [eqNums] at hc1 hn;omega)
   exact (VC.run (fn:=Tryz.f240) (W:=[.r [] [],.r [] [.callr (rO oz0)],.r [] [],.br false,.r [] [.callr (rO oz2),.op false,.op false,.op false,.op false,.op false,.op false,.callr (rO oz3),.op false,.sel 2,.sel 1],.br true,.r [] []]) (r:=AV.tup [AV.agg [i8 0,i8 0],i64 2]) Tryz.func240 (by kernel_rfl) (.c oz0<|.c hc0<|.c oz2<|.c oz3<|.c hc1<|.n)).weak (WeakL.refl _) (Weak.tup (.cons (Weak.agg (.cons (Weak.int (show ((0):Int)=((nodeR n a b).fst.lo) from (by (unfold nodeR;(repeat first | rw [if_pos (by omega)] | rw [if_neg (by omega)]))))) (.cons (Weak.int (show ((0):Int)=((nodeR n a b).fst.hi) from (by (unfold nodeR;(repeat first | rw [if_pos (by omega)] | rw [if_neg (by omega)]))))) .nil))) (.cons (Weak.int (show ((2):Int)=((nodeR n a b).snd) from (by (unfold nodeR;(repeat first | rw [if_pos (by omega)] | rw [if_neg (by omega)]))))) .nil)))
  ·have gc1:¬a.lo > a.hi∧(¬n.kd=6∨¬b.lo > b.hi):=by first | (simp only [Bool.or_eq_true,Bool.or_eq_false_iff,Bool.and_eq_true,Bool.and_eq_false_iff,Bool.not_eq_true',Bool.not_eq_false',decide_eq_true_eq,decide_eq_false_iff_not,beq_iff_eq,bne_iff_ne,ne_eq,beq_eq_false_iff_ne,bne_eq_false_iff_eq,eqNums,Bool.and_true] at hc1;first | exact hc1 | omega) | simpa using hc1 | (simp at hc1 ⊢;omega) | (apply cbc;intro hn;simp_all [eqNums];done) | (apply cbc;intro hn;simp [eqNums] at hc1 hn;omega)
   have oz5 := @sumsK_v (n.kd)
   rcases bft (n.kd==1 || n.kd==2 || n.kd==3) with hc2 | hc2
   ·have gc2:(n.kd=1∨n.kd=2)∨n.kd=3:=by first | (simp only [Bool.or_eq_true,Bool.or_eq_false_iff,Bool.and_eq_true,Bool.and_eq_false_iff,Bool.not_eq_true',Bool.not_eq_false',decide_eq_true_eq,decide_eq_false_iff_not,beq_iff_eq,bne_iff_ne,ne_eq,beq_eq_false_iff_ne,bne_eq_false_iff_eq,eqNums,Bool.and_true] at hc2;first | exact hc2 | omega) | simpa using hc2 | (simp at hc2 ⊢;omega) | (apply cbc;intro hn;simp_all [eqNums];done) | (apply cbc;intro hn;simp [eqNums] at hc2 hn;omega)
    have oz7 := @summed_v (n) (a) ok p1 p2 wl bl
    exact (VC.run (fn:=Tryz.f240) (W:=[.r [] [],.r [] [.callr (rO oz0)],.r [] [],.br false,.r [] [.callr (rO oz2),.op false,.op false,.op false,.op false,.op false,.op false,.callr (rO oz3),.op false,.sel 2,.sel 1],.br false,.r [] [.callr (rO oz5)],.br true,.r [] [.callr (rO oz7)]]) (r:=AV.tup [AV.agg [i8 (sumG n a).fst.lo,i8 (sumG n a).fst.hi],i64 (sumG n a).snd]) Tryz.func240 (by kernel_rfl) (.c oz0<|.c hc0<|.c oz2<|.c oz3<|.c hc1<|.c oz5<|.c hc2<|.c oz7<|.n)).weak (WeakL.refl _) (Weak.tup (.cons (Weak.agg (.cons (Weak.int (show (((sumG n a).fst.lo):Int)=((nodeR n a b).fst.lo) from (by (unfold nodeR;(repeat first | rw [if_pos (by omega)] | rw [if_neg (by omega)]))))) (.cons (Weak.int (show (((sumG n a).fst.hi):Int)=((nodeR n a b).fst.hi) from (by (unfold nodeR;(repeat first | rw [if_pos (by omega)] | rw [if_neg (by omega)]))))) .nil))) (.cons (Weak.int (show (((sumG n a).snd):Int)=((nodeR n a b).snd) from (by (unfold nodeR;(repeat first | rw [if_pos (by omega)] | rw [if_neg (by omega)]))))) .nil)))
   ·have gc2:(¬n.kd=1∧¬n.kd=2)∧¬n.kd=3:=by first | (simp only [Bool.or_eq_true,Bool.or_eq_false_iff,Bool.and_eq_true,Bool.and_eq_false_iff,Bool.not_eq_true',Bool.not_eq_false',decide_eq_true_eq,decide_eq_false_iff_not,beq_iff_eq,bne_iff_ne,ne_eq,beq_eq_false_iff_ne,bne_eq_false_iff_eq,eqNums,Bool.and_true] at hc2;first | exact hc2 | omega) | simpa using hc2 | (simp at hc2 ⊢;omega) | (apply cbc;intro hn;simp_all [eqNums];done) | (apply cbc;intro hn;simp [eqNums] at hc2 hn;omega)
    rcases bft (n.kd==6) with hc3 | hc3
    ·have gc3:n.kd=6:=bet hc3
     have oz8 := @joinOne_v (a.lo) (b.lo) (n) ok p1 p3
     have oz9 := @joinOne_v (a.hi) (b.hi) (n) ok p2 p4
     exact (VC.run (fn:=Tryz.f240) (W:=[.r [] [],.r [] [.callr (rO oz0)],.r [] [],.br false,.r [] [.callr (rO oz2),.op false,.op false,.op false,.op false,.op false,.op false,.callr (rO oz3),.op false,.sel 2,.sel 1],.br false,.r [] [.callr (rO oz5)],.br false,.r [] [],.br true,.r [] [.callr (rO oz8),.callr (rO oz9)]]) (r:=AV.tup [AV.agg [i8 (joinE a.lo b.lo n),i8 (joinE a.hi b.hi n)],i64 0]) Tryz.func240 (by kernel_rfl) (.c oz0<|.c hc0<|.c oz2<|.c oz3<|.c hc1<|.c oz5<|.c hc2<|.c hc3<|.c oz8<|.c oz9<|.n)).weak (WeakL.refl _) (Weak.tup (.cons (Weak.agg (.cons (Weak.int (show ((joinE a.lo b.lo n):Int)=((nodeR n a b).fst.lo) from (by (unfold nodeR;(repeat first | rw [if_pos (by omega)] | rw [if_neg (by omega)]))))) (.cons (Weak.int (show ((joinE a.hi b.hi n):Int)=((nodeR n a b).fst.hi) from (by (unfold nodeR;(repeat first | rw [if_pos (by omega)] | rw [if_neg (by omega)]))))) .nil))) (.cons (Weak.int (show ((0):Int)=((nodeR n a b).snd) from (by (unfold nodeR;(repeat first | rw [if_pos (by omega)] | rw [if_neg (by omega)]))))) .nil)))
    ·have gc3:¬n.kd=6:=bef hc3
     rcases bft (n.kd==7) with hc4 | hc4
     ·have gc4:n.kd=7:=bet hc4
      have oz9 := @actOne_w (a.lo) (n) ok p1
      have oz10 := @actOne_w (a.hi) (n) ok p2
      exact (VC.run (fn:=Tryz.f240) (W:=[.r [] [],.r [] [.callr (rO oz0)],.r [] [],.br false,.r [] [.callr (rO oz2),.op false,.op false,.op false,.op false,.op false,.op false,.callr (rO oz3),.op false,.sel 2,.sel 1],.br false,.r [] [.callr (rO oz5)],.br false,.r [] [],.br false,.r [] [],.br true,.r [] [.callr (rO oz9),.callr (rO oz10)]]) (r:=AV.tup [AV.agg [i8 (oneN a.lo n),i8 (oneN a.hi n)],i64 0]) Tryz.func240 (by kernel_rfl) (.c oz0<|.c hc0<|.c oz2<|.c oz3<|.c hc1<|.c oz5<|.c hc2<|.c hc3<|.c hc4<|.c oz9<|.c oz10<|.n)).weak (WeakL.refl _) (Weak.tup (.cons (Weak.agg (.cons (Weak.int (show ((oneN a.lo n):Int)=((nodeR n a b).fst.lo) from (by (unfold nodeR;(repeat first | rw [if_pos (by omega)] | rw [if_neg (by omega)]))))) (.cons (Weak.int (show ((oneN a.hi n):Int)=((nodeR n a b).fst.hi) from (by (unfold nodeR;(repeat first | rw [if_pos (by omega)] | rw [if_neg (by omega)]))))) .nil))) (.cons (Weak.int (show ((0):Int)=((nodeR n a b).snd) from (by (unfold nodeR;(repeat first | rw [if_pos (by omega)] | rw [if_neg (by omega)]))))) .nil)))
     ·have gc4:¬n.kd=7:=bef hc4
      rcases bft (n.kd==8&&decide (n.np > 0)) with hc5 | hc5
      ·have gc5:n.kd=8∧n.np > 0:=by first | (simp only [Bool.or_eq_true,Bool.or_eq_false_iff,Bool.and_eq_true,Bool.and_eq_false_iff,Bool.not_eq_true',Bool.not_eq_false',decide_eq_true_eq,decide_eq_false_iff_not,beq_iff_eq,bne_iff_ne,ne_eq,beq_eq_false_iff_ne,bne_eq_false_iff_eq,eqNums,Bool.and_true] at hc5;first | exact hc5 | omega) | simpa using hc5 | (simp at hc5 ⊢;omega) | (apply cbc;intro hn;simp_all [eqNums];done) | (apply cbc;intro hn;simp [eqNums] at hc5 hn;omega)
       have oz10 := @over_v (n.za) (a.lo) (a.hi)
       exact (VC.run (fn:=Tryz.f240) (W:=[.r [] [],.r [] [.callr (rO oz0)],.r [] [],.br false,.r [] [.callr (rO oz2),.op false,.op false,.op false,.op false,.op false,.op false,.callr (rO oz3),.op false,.sel 2,.sel 1],.br false,.r [] [.callr (rO oz5)],.br false,.r [] [],.br false,.r [] [],.br false,.r [] [.op false,.op false,.op false,.sel 2],.br true,.r [] [.callr (rO oz10)]]) (r:=AV.tup [AV.agg [i8 (Rng.mk (min (min n.za a.lo) a.hi) (max (max n.za a.lo) a.hi)).lo,i8 (Rng.mk (min (min n.za a.lo) a.hi) (max (max n.za a.lo) a.hi)).hi],i64 0]) Tryz.func240 (by kernel_rfl) (.c oz0<|.c hc0<|.c oz2<|.c oz3<|.c hc1<|.c oz5<|.c hc2<|.c hc3<|.c hc4<|.c hc5<|.c oz10<|.n)).weak (WeakL.refl _) (Weak.tup (.cons (Weak.agg (.cons (Weak.int (show (((Rng.mk (min (min n.za a.lo) a.hi) (max (max n.za a.lo) a.hi)).lo):Int)=((nodeR n a b).fst.lo) from (by (unfold nodeR;(repeat first | rw [if_pos (by omega)] | rw [if_neg (by omega)]);dsimp only;omega)))) (.cons (Weak.int (show (((Rng.mk (min (min n.za a.lo) a.hi) (max (max n.za a.lo) a.hi)).hi):Int)=((nodeR n a b).fst.hi) from (by (unfold nodeR;(repeat first | rw [if_pos (by omega)] | rw [if_neg (by omega)]);dsimp only;omega)))) .nil))) (.cons (Weak.int (show ((0):Int)=((nodeR n a b).snd) from (by (unfold nodeR;(repeat first | rw [if_pos (by omega)] | rw [if_neg (by omega)]))))) .nil)))
      ·have gc5:¬n.kd=8∨¬n.np > 0:=by first | (simp only [Bool.or_eq_true,Bool.or_eq_false_iff,Bool.and_eq_true,Bool.and_eq_false_iff,Bool.not_eq_true',Bool.not_eq_false',decide_eq_true_eq,decide_eq_false_iff_not,beq_iff_eq,bne_iff_ne,ne_eq,beq_eq_false_iff_ne,bne_eq_false_iff_eq,eqNums,Bool.and_true] at hc5;first | exact hc5 | omega) | simpa using hc5 | (simp at hc5 ⊢;omega) | (apply cbc;intro hn;simp_all [eqNums];done) | (apply cbc;intro hn;simp [eqNums] at hc5 hn;omega)
       exact (VC.run (fn:=Tryz.f240) (W:=[.r [] [],.r [] [.callr (rO oz0)],.r [] [],.br false,.r [] [.callr (rO oz2),.op false,.op false,.op false,.op false,.op false,.op false,.callr (rO oz3),.op false,.sel 2,.sel 1],.br false,.r [] [.callr (rO oz5)],.br false,.r [] [],.br false,.r [] [],.br false,.r [] [.op false,.op false,.op false,.sel 2],.br false,.r [] []]) (r:=AV.tup [AV.agg [i8 a.lo,i8 a.hi],i64 0]) Tryz.func240 (by kernel_rfl) (.c oz0<|.c hc0<|.c oz2<|.c oz3<|.c hc1<|.c oz5<|.c hc2<|.c hc3<|.c hc4<|.c hc5<|.n)).weak (WeakL.refl _) (Weak.tup (.cons (Weak.agg (.cons (Weak.int (show ((a.lo):Int)=((nodeR n a b).fst.lo) from (by (unfold nodeR;(repeat first | rw [if_pos (by omega)] | rw [if_neg (by omega)]))))) (.cons (Weak.int (show ((a.hi):Int)=((nodeR n a b).fst.hi) from (by (unfold nodeR;(repeat first | rw [if_pos (by omega)] | rw [if_neg (by omega)]))))) .nil))) (.cons (Weak.int (show ((0):Int)=((nodeR n a b).snd) from (by (unfold nodeR;(repeat first | rw [if_pos (by omega)] | rw [if_neg (by omega)]))))) .nil)))
def stepR (n:Nod) (L:List Rng):Rng×Int:=if thereB n L.length=true then nodeR n (L.getD n.na.toNat default) (L.getD (secN n).toNat default) else (⟨0,0⟩,8)
theorem gstep_v (n:Nod) (L:List Rng) (ok:n.Ok) (okL:∀ r∈L,r.In8) (hL:L.length≤100) (wl:n.w.length≤100000) (bl:n.b.length≤100000):VC Tryz.prog 224 ([nod n,.sl 2 (L.map rchC)]) (.tup [rch (stepR n L).1,i64 (stepR n L).2]):=by
 have q1 := @there_iff n L.length
 have q2:(List.map rchC L).length=L.length:=List.length_map _
 have q3:=fun (h:n.na.toNat<L.length)=>getD_in okL h
 have q4:=fun (h:(secN n).toNat<L.length)=>getD_in okL h
 have q5:n.kd=6→secN n=n.nb:=fun h=>if_pos h
 have q6:¬ n.kd=6→secN n=n.na:=fun h=>if_neg h
 rcases bft (n.kd==6) with hc0 | hc0
 ·have gc0:n.kd=6:=bet hc0
  have oz1 := @ends64_1 (n.na) (n.nb)
  rcases bft (decide (min n.na n.nb<0) || decide (max n.na n.nb≥(↑(List.map rchC L).length:Int))) with hc1 | hc1
  ·have gc1:min n.na n.nb<0∨max n.na n.nb≥(↑(List.map rchC L).length:Int):=by first | (simp only [Bool.or_eq_true,Bool.or_eq_false_iff,Bool.and_eq_true,Bool.and_eq_false_iff,Bool.not_eq_true',Bool.not_eq_false',decide_eq_true_eq,decide_eq_false_iff_not,beq_iff_eq,bne_iff_ne,ne_eq,beq_eq_false_iff_ne,bne_eq_false_iff_eq,eqNums,Bool.and_true] at hc1;first | exact hc1 | omega) | simpa using hc1 | (simp at hc1 ⊢;omega) | (apply cbc;intro hn;simp_all [eqNums];done) | (apply cbc;intro hn;simp [eqNums] at hc1 hn;omega)
   exact (VC.run (fn:=Tryz.f224) (W:=[.r [] [],.r [] [],.r [] [],.br true,.r [] [],.r [] [.callr (rO oz1)],.r [] [.op false,.op false,.op false,.op false,.sel 1],.br true,.r [] []]) (r:=AV.tup [AV.agg [i8 0,i8 0],i64 8]) Tryz.func224 (by kernel_rfl) (.c hc0<|.c oz1<|.c hc1<|.n)).weak (WeakL.refl _) (Weak.tup (.cons (Weak.agg (.cons (Weak.int (show ((0):Int)=((stepR n L).fst.lo) from (by (unfold stepR;rw [if_neg (by rw [q1];omega)])))) (.cons (Weak.int (show ((0):Int)=((stepR n L).fst.hi) from (by (unfold stepR;rw [if_neg (by rw [q1];omega)])))) .nil))) (.cons (Weak.int (show ((8):Int)=((stepR n L).snd) from (by (unfold stepR;rw [if_neg (by rw [q1];omega)])))) .nil)))
  ·have gc1:¬min n.na n.nb<0∧¬max n.na n.nb≥(↑(List.map rchC L).length:Int):=by first | (simp only [Bool.or_eq_true,Bool.or_eq_false_iff,Bool.and_eq_true,Bool.and_eq_false_iff,Bool.not_eq_true',Bool.not_eq_false',decide_eq_true_eq,decide_eq_false_iff_not,beq_iff_eq,bne_iff_ne,ne_eq,beq_eq_false_iff_ne,bne_eq_false_iff_eq,eqNums,Bool.and_true] at hc1;first | exact hc1 | omega) | simpa using hc1 | (simp at hc1 ⊢;omega) | (apply cbc;intro hn;simp_all [eqNums];done) | (apply cbc;intro hn;simp [eqNums] at hc1 hn;omega)
   have oz4:=(map_at (rchC) (default) (l:=L) (i:=n.na.toNat) (by omega))
   have oz6:=(map_at (rchC) (default) (l:=L) (i:=n.nb.toNat) (by omega))
   have oz7 := @gnode_v (n) (L.getD n.na.toNat default) (L.getD n.nb.toNat default) ok (by (exact q3 (by omega))) (by (rw [←q5 (by omega)];exact q4 (by rw [q5 (by omega)];omega))) wl bl
   exact (VC.run (fn:=Tryz.f224) (W:=[.r [] [],.r [] [],.r [] [],.br true,.r [] [],.r [] [.callr (rO oz1)],.r [] [.op false,.op false,.op false,.op false,.sel 1],.br false,.r [] [.row (sO oz4),.row (sO oz6),.callr (rO oz7)]]) (r:=AV.tup [AV.agg [i8 (nodeR n (L.getD n.na.toNat default) (L.getD n.nb.toNat default)).fst.lo,i8 (nodeR n (L.getD n.na.toNat default) (L.getD n.nb.toNat default)).fst.hi],i64 (nodeR n (L.getD n.na.toNat default) (L.getD n.nb.toNat default)).snd]) Tryz.func224 (by kernel_rfl) (.c hc0<|.c oz1<|.c hc1<|.c (show 0≤n.na by omega)<|.c oz4<|.c (show 0≤n.nb by omega)<|.c oz6<|.c oz7<|.n)).weak (WeakL.refl _) (Weak.tup (.cons (Weak.agg (.cons (Weak.int (show (((nodeR n (L.getD n.na.toNat default) (L.getD n.nb.toNat default)).fst.lo):Int)=((stepR n L).fst.lo) from (by (unfold stepR;rw [q5 (by omega),if_pos (by rw [q1];omega)])))) (.cons (Weak.int (show (((nodeR n (L.getD n.na.toNat default) (L.getD n.nb.toNat default)).fst.hi):Int)=((stepR n L).fst.hi) from (by (unfold stepR;rw [q5 (by omega),if_pos (by rw [q1];omega)])))) .nil))) (.cons (Weak.int (show (((nodeR n (L.getD n.na.toNat default) (L.getD n.nb.toNat default)).snd):Int)=((stepR n L).snd) from (by (unfold stepR;rw [q5 (by omega),if_pos (by rw [q1];omega)])))) .nil)))
 ·have gc0:¬n.kd=6:=bef hc0
  have oz1 := @ends64_1 (n.na) (n.na)
  rcases bft (decide (min n.na n.na<0) || decide (max n.na n.na≥(↑(List.map rchC L).length:Int))) with hc1 | hc1
  ·have gc1:min n.na n.na<0∨max n.na n.na≥(↑(List.map rchC L).length:Int):=by first | (simp only [Bool.or_eq_true,Bool.or_eq_false_iff,Bool.and_eq_true,Bool.and_eq_false_iff,Bool.not_eq_true',Bool.not_eq_false',decide_eq_true_eq,decide_eq_false_iff_not,beq_iff_eq,bne_iff_ne,ne_eq,beq_eq_false_iff_ne,bne_eq_false_iff_eq,eqNums,Bool.and_true] at hc1;first | exact hc1 | omega) | simpa using hc1 | (simp at hc1 ⊢;omega) | (apply cbc;intro hn;simp_all [eqNums];done) | (apply cbc;intro hn;simp [eqNums] at hc1 hn;omega)
   exact (VC.run (fn:=Tryz.f224) (W:=[.r [] [],.r [] [],.r [] [],.br false,.r [] [.callr (rO oz1)],.r [] [.op false,.op false,.op false,.op false,.sel 1],.br true,.r [] []]) (r:=AV.tup [AV.agg [i8 0,i8 0],i64 8]) Tryz.func224 (by kernel_rfl) (.c hc0<|.c oz1<|.c hc1<|.n)).weak (WeakL.refl _) (Weak.tup (.cons (Weak.agg (.cons (Weak.int (show ((0):Int)=((stepR n L).fst.lo) from (by (unfold stepR;rw [if_neg (by rw [q1];omega)])))) (.cons (Weak.int (show ((0):Int)=((stepR n L).fst.hi) from (by (unfold stepR;rw [if_neg (by rw [q1];omega)])))) .nil))) (.cons (Weak.int (show ((8):Int)=((stepR n L).snd) from (by (unfold stepR;rw [if_neg (by rw [q1];omega)])))) .nil)))
  ·have gc1:¬min n.na n.na<0∧¬max n.na n.na≥(↑(List.map rchC L).length:Int):=by first | (simp only [Bool.or_eq_true,Bool.or_eq_false_iff,Bool.and_eq_true,Bool.and_eq_false_iff,Bool.not_eq_true',Bool.not_eq_false',decide_eq_true_eq,decide_eq_false_iff_not,beq_iff_eq,bne_iff_ne,ne_eq,beq_eq_false_iff_ne,bne_eq_false_iff_eq,eqNums,Bool.and_true] at hc1;first | exact hc1 | omega) | simpa using hc1 | (simp at hc1 ⊢;omega) | (apply cbc;intro hn;simp_all [eqNums];done) | (apply cbc;intro hn;simp [eqNums] at hc1 hn;omega)
   have oz3:=(show 0≤n.na by omega)
   have oz4:=(map_at (rchC) (default) (l:=L) (i:=n.na.toNat) (by omega))
   have oz7 := @gnode_v (n) (L.getD n.na.toNat default) (L.getD n.na.toNat default) ok (by (exact q3 (by omega))) (by (exact q3 (by omega))) wl bl
   exact (VC.run (fn:=Tryz.f224) (W:=[.r [] [],.r [] [],.r [] [],.br false,.r [] [.callr (rO oz1)],.r [] [.op false,.op false,.op false,.op false,.sel 1],.br false,.r [] [.row (sO oz4),.row (sO oz4),.callr (rO oz7)]]) (r:=AV.tup [AV.agg [i8 (nodeR n (L.getD n.na.toNat default) (L.getD n.na.toNat default)).fst.lo,i8 (nodeR n (L.getD n.na.toNat default) (L.getD n.na.toNat default)).fst.hi],i64 (nodeR n (L.getD n.na.toNat default) (L.getD n.na.toNat default)).snd]) Tryz.func224 (by kernel_rfl) (.c hc0<|.c oz1<|.c hc1<|.c oz3<|.c oz4<|.c oz3<|.c oz4<|.c oz7<|.n)).weak (WeakL.refl _) (Weak.tup (.cons (Weak.agg (.cons (Weak.int (show (((nodeR n (L.getD n.na.toNat default) (L.getD n.na.toNat default)).fst.lo):Int)=((stepR n L).fst.lo) from (by (unfold stepR;rw [q6 (by omega),if_pos (by rw [q1];omega)])))) (.cons (Weak.int (show (((nodeR n (L.getD n.na.toNat default) (L.getD n.na.toNat default)).fst.hi):Int)=((stepR n L).fst.hi) from (by (unfold stepR;rw [q6 (by omega),if_pos (by rw [q1];omega)])))) .nil))) (.cons (Weak.int (show (((nodeR n (L.getD n.na.toNat default) (L.getD n.na.toNat default)).snd):Int)=((stepR n L).snd) from (by (unfold stepR;rw [q6 (by omega),if_pos (by rw [q1];omega)])))) .nil)))
def FOK (l:List Nod) (a:Rng):Prop:=0<l.length∧l.length≤8∧a.lo≤a.hi∧∀ k,k<l.length→errL stepR l a k=0
theorem nodeR_in {n:Nod} {a b:Rng} (ok:n.Ok) (ha:a.In8) (hb:b.In8):(nodeR n a b).1.In8:=by
 have hz:Rng.In8 ⟨0,0⟩:=⟨⟨by dsimp only;decide,by dsimp only;decide⟩,⟨by dsimp only;decide,by dsimp only;decide⟩⟩
 have held:∀ x m s z,In8 (heldQ x m s z n.lo n.hi):=fun x m s z=>by
  unfold heldQ;split
  ·exact clamp_in _ ok.lo ok.hi
  ·exact ⟨by decide,by decide⟩
 unfold nodeR
 split
 ·exact hz
 ·split
  ·exact hz
  ·split
   ·unfold sumG;split
    ·unfold afterE
     have h1:=held (held32 (bothR (spansN n a) (spansN n a).length).lo) n.qm n.qs n.qz
     have h2:=held (held32 (bothR (spansN n a) (spansN n a).length).hi) n.qm n.qs n.qz
     constructor<;>dsimp only<;>omega
    ·exact hz
   ·split
    ·have hj:∀ x y,In8 (joinE x y n):=fun x y=>by
      unfold joinE;split
      ·exact clamp_in _ ok.lo ok.hi
      ·exact ⟨by decide,by decide⟩
     exact ⟨hj _ _,hj _ _⟩
    ·split
     ·exact ⟨held _ _ _ _,held _ _ _ _⟩
     ·obtain ⟨p1,p2⟩:=ha
      have p3:=ok.za
      split
      ·constructor<;>dsimp only<;>omega
      ·exact ⟨p1,p2⟩
theorem stepR_in {n:Nod} {L:List Rng} (ok:n.Ok) (hL:∀ r∈L,r.In8):(stepR n L).1.In8:=by
 unfold stepR
 split
 ·rename_i h
  have h:=there_iff.1 h
  exact nodeR_in ok (getD_in hL (by omega)) (getD_in hL (by omega))
 ·exact ⟨⟨by dsimp only;decide,by dsimp only;decide⟩,⟨by dsimp only;decide,by dsimp only;decide⟩⟩
theorem flow_in {l:List Nod} {a:Rng} (okl:∀ n∈l,n.Ok) (ha:a.In8) {k:Nat} (hk:k≤l.length):∀ r∈growL stepR l a k,r.In8 :=
 growL_all (n:=k) ha (fun j hj h=>stepR_in (getD_in okl (by omega)) h) k (Nat.le_refl _)
noncomputable def flow_ly_I (l:List Nod) (a:Rng) (k:Nat):VS:=stt 50 [(0,.sl 19 (l.map nodC)),(7,.own 900),(25,.sl 19 (l.map nodC)),(26,i64 l.length),(27,i64 k)] [(900,.slc 278 2 ((growL stepR l a k).map rchC))]
theorem flow_ly_s (l:List Nod) (a:Rng) (okl:∀ n∈l,n.Ok) (wl:∀ n∈l,n.w.length≤100000∧n.b.length≤100000) (ha:a.In8) (f8:l.length≤8) (h:∀ k,k<l.length→errL stepR l a k=0) (k:Nat) (hk:k<l.length):VT Tryz.prog (fnC Tryz.f205 [1,1,1,0,1,0,0]) (flow_ly_I l a k) .normal (flow_ly_I l a (k+1)):=by
 have q:=h k hk
 have q1:=growL_len stepR l a k
 have q2:=flow_in okl ha (Nat.le_of_lt hk)
 have q3:=getD_in okl hk
 have q4:=getD_in wl hk
 obtain ⟨q5,q6⟩:=q4
 unfold errL at q
 have oz2:=(map_at (nodC) (default) (l:=l) (i:=k) hk)
 have oz3 := @gstep_v (l.getD k default) (growL stepR l a k) q3 q2 (by omega) q5 q6
 exact VT.run (W:=[.r [] [],.br true,.r [] [.row (sO oz2)],.r [] [.callr (rO oz3)],.r [] [],.br false,.r [] [],.r [] [.n ((↑k:Int)+1)]]) (G:=[.any (rg [(8,4),(28,12),(42,5)]),.drop [9,10,44],.ren 45 900,.weak 27 (i64 (↑(k+1):Int)),.blk 900 (Blk.slc 278 2 (List.map rchC (growL stepR l a (k+1)))),.sort]) (by kernel_rfl) (.c (decide_eq_true (p:=((↑k:Int)<(↑l.length:Int))) (by omega))<|.c (show 0≤(↑k:Int) by omega)<|.c oz2<|.c oz3<|.c (show ((stepR (l.getD k default) (growL stepR l a k)).snd != 0)=false by (simp at *;omega))<|.c (show ((List.map rchC (growL stepR l a k)).length+1)*2≤140737488355328 by (simp;omega))<|.c (show (List.map rchC (growL stepR l a k)).length+1≤9223372036854775807 by (simp;omega))<|.c (i6n ((↑k:Int)+1) (by omega))<|.c (Weak.int (k:=.i64) (show (((↑k:Int)+1):Int)=((↑(k+1):Int)) from (by omega)))<|.c (show BlkW (Blk.slc 278 2 (List.map rchC (growL stepR l a k)++[[i8 (stepR (l.getD k default) (growL stepR l a k)).fst.lo,i8 (stepR (l.getD k default) (growL stepR l a k)).fst.hi]])) (Blk.slc 278 2 (List.map rchC (growL stepR l a (k+1)))) from (BlkW.rows (rows_to (rchC) (r:=List.map rchC (growL stepR l a k)++[[i8 (stepR (l.getD k default) (growL stepR l a k)).fst.lo,i8 (stepR (l.getD k default) (growL stepR l a k)).fst.hi]]) (l:=growL stepR l a k++[Rng.mk (stepR (l.getD k default) (growL stepR l a k)).fst.lo (stepR (l.getD k default) (growL stepR l a k)).fst.hi]) (m:=growL stepR l a (k+1)) (by first | (simp only [List.map_append,List.map_cons,List.map_nil,List.map_set,List.map_replicate,List.map_take,List.map_drop];done) | rfl | (simp only [List.map_append,List.map_cons,List.map_nil,List.map_set,List.map_replicate,List.map_take,List.map_drop];rfl) | (simp only [List.map_append,List.map_cons,List.map_nil,List.map_set,List.map_replicate,List.map_take,List.map_drop,rchC,ints];done)) (show (growL stepR l a k++[Rng.mk (stepR (l.getD k default) (growL stepR l a k)).fst.lo (stepR (l.getD k default) (growL stepR l a k)).fst.hi])=(growL stepR l a (k+1)) from (by rfl)))))<|.n)
noncomputable def flow_ln_I (l:List Nod) (a:Rng) (m:Nat) (k:Nat):VS:=stt 50 [(0,.sl 19 (l.map nodC)),(7,.own 900),(25,.sl 19 (l.map nodC)),(26,i64 l.length),(27,i64 k)] [(900,.slc 278 2 ((growL stepR l a k).map rchC))]
noncomputable def flow_ln_Z (l:List Nod) (a:Rng) (m:Nat):VS:=stt 50 [(4,nilv),(5,i64 m),(6,i64 (errL stepR l a m))] []
theorem flow_ln_s (l:List Nod) (a:Rng) (m:Nat) (okl:∀ n∈l,n.Ok) (wl:∀ n∈l,n.w.length≤100000∧n.b.length≤100000) (ha:a.In8) (f8:l.length≤8) (hm:m<l.length) (hf:errL stepR l a m≠0) (h:∀ k,k<m→errL stepR l a k=0) (k:Nat) (hk:k<m):VT Tryz.prog (fnC Tryz.f205 [1,1,1,0,1,0,0]) (flow_ln_I l a m k) .normal (flow_ln_I l a m (k+1)):=by
 have q:=h k hk
 have q1:=growL_len stepR l a k
 have q2:=flow_in okl ha (show k≤l.length by omega)
 have q3:=getD_in okl (show k<l.length by omega)
 have q4:=getD_in wl (show k<l.length by omega)
 obtain ⟨q5,q6⟩:=q4
 unfold errL at q
 have oz2:=(map_at (nodC) (default) (l:=l) (i:=k) (by omega))
 have oz3 := @gstep_v (l.getD k default) (growL stepR l a k) q3 q2 (by omega) q5 q6
 exact VT.run (W:=[.r [] [],.br true,.r [] [.row (sO oz2)],.r [] [.callr (rO oz3)],.r [] [],.br false,.r [] [],.r [] [.n ((↑k:Int)+1)]]) (G:=[.any (rg [(8,4),(28,12),(42,5)]),.drop [9,10,44],.ren 45 900,.weak 27 (i64 (↑(k+1):Int)),.blk 900 (Blk.slc 278 2 (List.map rchC (growL stepR l a (k+1)))),.sort]) (by kernel_rfl) (.c (decide_eq_true (p:=((↑k:Int)<(↑l.length:Int))) (by omega))<|.c (show 0≤(↑k:Int) by omega)<|.c oz2<|.c oz3<|.c (show ((stepR (l.getD k default) (growL stepR l a k)).snd != 0)=false by (simp at *;omega))<|.c (show ((List.map rchC (growL stepR l a k)).length+1)*2≤140737488355328 by (simp;omega))<|.c (show (List.map rchC (growL stepR l a k)).length+1≤9223372036854775807 by (simp;omega))<|.c (i6n ((↑k:Int)+1) (by omega))<|.c (Weak.int (k:=.i64) (show (((↑k:Int)+1):Int)=((↑(k+1):Int)) from (by omega)))<|.c (show BlkW (Blk.slc 278 2 (List.map rchC (growL stepR l a k)++[[i8 (stepR (l.getD k default) (growL stepR l a k)).fst.lo,i8 (stepR (l.getD k default) (growL stepR l a k)).fst.hi]])) (Blk.slc 278 2 (List.map rchC (growL stepR l a (k+1)))) from (BlkW.rows (rows_to (rchC) (r:=List.map rchC (growL stepR l a k)++[[i8 (stepR (l.getD k default) (growL stepR l a k)).fst.lo,i8 (stepR (l.getD k default) (growL stepR l a k)).fst.hi]]) (l:=growL stepR l a k++[Rng.mk (stepR (l.getD k default) (growL stepR l a k)).fst.lo (stepR (l.getD k default) (growL stepR l a k)).fst.hi]) (m:=growL stepR l a (k+1)) (by first | (simp only [List.map_append,List.map_cons,List.map_nil,List.map_set,List.map_replicate,List.map_take,List.map_drop];done) | rfl | (simp only [List.map_append,List.map_cons,List.map_nil,List.map_set,List.map_replicate,List.map_take,List.map_drop];rfl) | (simp only [List.map_append,List.map_cons,List.map_nil,List.map_set,List.map_replicate,List.map_take,List.map_drop,rchC,ints];done)) (show (growL stepR l a k++[Rng.mk (stepR (l.getD k default) (growL stepR l a k)).fst.lo (stepR (l.getD k default) (growL stepR l a k)).fst.hi])=(growL stepR l a (k+1)) from (by rfl)))))<|.n)
theorem flow_ln_e (l:List Nod) (a:Rng) (m:Nat) (okl:∀ n∈l,n.Ok) (wl:∀ n∈l,n.w.length≤100000∧n.b.length≤100000) (ha:a.In8) (f8:l.length≤8) (hm:m<l.length) (hf:errL stepR l a m≠0) (h:∀ k,k<m→errL stepR l a k=0):VT Tryz.prog (fnC Tryz.f205 [1,1,1,0,1,0,0]) (flow_ln_I l a m (m)) (.ret) (flow_ln_Z l a m):=by
 have q1:=growL_len stepR l a m
 have q2:=flow_in okl ha (Nat.le_of_lt hm)
 have q3:=getD_in okl hm
 have q4:=getD_in wl hm
 obtain ⟨q5,q6⟩:=q4
 unfold errL at hf
 have oz2:=(map_at (nodC) (default) (l:=l) (i:=m) hm)
 have oz3 := @gstep_v (l.getD m default) (growL stepR l a m) q3 q2 (by omega) q5 q6
 have oz5:=(Weak.int (k:=.i64) (show (((stepR (l.getD m default) (growL stepR l a m)).snd):Int)=(errL stepR l a m) from (by rfl)))
 exact VT.run (W:=[.r [] [],.br true,.r [] [.row (sO oz2)],.r [] [.callr (rO oz3)],.r [] [],.br true,.r [] []]) (G:=[.any (rg [(0,1),(7,5),(25,17)]),.drop [900,9,10],.weak 6 (wO oz5),.sort]) (by kernel_rfl) (.c (decide_eq_true (p:=((↑m:Int)<(↑l.length:Int))) (by omega))<|.c (show 0≤(↑m:Int) by omega)<|.c oz2<|.c oz3<|.c (show ((stepR (l.getD m default) (growL stepR l a m)).snd != 0)=true by (simp at *;omega))<|.c oz5<|.n)
theorem flow_ln (l:List Nod) (a:Rng) (m:Nat) (okl:∀ n∈l,n.Ok) (wl:∀ n∈l,n.w.length≤100000∧n.b.length≤100000) (ha:a.In8) (f8:l.length≤8) (hm:m<l.length) (hf:errL stepR l a m≠0) (h:∀ k,k<m→errL stepR l a k=0):VT Tryz.prog (fnC Tryz.f205 [1,1,1,0,1,0]) (flow_ln_I l a m 0) (.ret) (flow_ln_Z l a m) :=
 VT.loop (fun k=>flow_ln_I l a m k) (m) (fun k hk=>flow_ln_s l a m okl wl ha f8 hm hf h k hk) (flow_ln_e l a m okl wl ha f8 hm hf h) (by intro h;cases h)
theorem flow_m (l:List Nod) (a:Rng) (m:Nat) (okl:∀ n∈l,n.Ok) (wl:∀ n∈l,n.w.length≤100000∧n.b.length≤100000) (ha:a.In8) (i:a.lo≤a.hi) (f8:l.length≤8) (hm:m<l.length) (hf:errL stepR l a m≠0) (h:∀ k,k<m→errL stepR l a k=0):VC Tryz.prog 205 ([.sl 19 (l.map nodC),rch a]) (.tup [nilv,i64 m,i64 (errL stepR l a m)]):=by
 have oz2 := @upside_v (a.lo) (a.hi)
 have oz6 := @flow_ln (l) (a) (m) okl wl ha f8 hm hf h
 exact VC.run (fn:=Tryz.f205) (W:=[.r [] [],.r [] [],.br false,.r [] [],.br false,.r [] [.callr (rO oz2)],.br false,.r [] [],.r [] [],.code [.any (rg [(1,1),(3,4),(12,13)]),.drop [3],.ren 24 900,.weak 26 (i64 (↑l.length:Int)),.weak 27 (i64 (↑0:Int)),.sort] (Exit.ret) (zO oz6)]) Tryz.func205 (by kernel_rfl) (.c (show ((↑(List.map nodC l).length:Int)==0)=false by (simp only [decide_eq_true_eq,decide_eq_false_iff_not,beq_iff_eq,bne_iff_ne,ne_eq,beq_eq_false_iff_ne,bne_eq_false_iff_eq,Bool.not_eq_true',Bool.not_eq_false',Bool.not_eq_eq_eq_not,Bool.not_true,Bool.not_false,Classical.not_not,Int.not_lt,Int.not_le,Bool.and_eq_true,Bool.and_eq_false_iff,Bool.or_eq_true,Bool.or_eq_false_iff,Bool.and_true,Bool.true_and,Bool.and_false,Bool.false_and,Bool.or_false,Bool.false_or,eqNums,List.length_map,List.length_append,List.length_cons,List.length_nil,List.length_set,List.length_replicate,List.length_take,List.length_drop,List.length_range,Int.toNat_natCast,Nat.zero_add,List.map_eq_nil_iff];(first | done | with_reducible assumption | omega | contradiction)))<|.c (show decide ((↑(List.map nodC l).length:Int) > 8)=false by (simp;omega))<|.c oz2<|.c (decide_eq_false (p:=(a.lo > a.hi)) (by omega))<|.c (Weak.int (k:=.i64) (show (((↑(List.map nodC l).length:Int)):Int)=((↑l.length:Int)) from (by (simp;done))))<|.c (Weak.int (k:=.i64) (show ((0):Int)=((↑0:Int)) from (by omega)))<|.c oz6<|.n)
def flowB (l:List Nod) (a:Rng):Nat→Bool:=fun k=>errL stepR l a k==0
def flowE (l:List Nod) (a:Rng):Int×Int :=
 if l.length=0 then (-1,12) else if 8<l.length then (-1,4) else if a.lo > a.hi then (-1,2)
 else if firstBad (flowB l a) l.length<l.length then (firstBad (flowB l a) l.length,errL stepR l a (firstBad (flowB l a) l.length)) else (l.length,0)
theorem flowE_at {l:List Nod} {a:Rng} {m:Nat} (i:a.lo≤a.hi) (e:0<l.length) (f:l.length≤8) (hm:m<l.length) (hf:errL stepR l a m≠0) (h:∀ k,k<m→errL stepR l a k=0):flowE l a=((m:Int),errL stepR l a m):=by
 have:=firstBad_at (p:=flowB l a) (m:=m) (by simpa [flowB] using hf) (fun k hk=>by simpa [flowB] using h k hk) hm
 unfold flowE
 rw [if_neg (by omega),if_neg (by omega),if_neg (by omega),this,if_pos hm]
theorem FOK.cases (l:List Nod) (a:Rng):FOK l a∨(l.length=0∨8<l.length∨a.lo > a.hi)∨(a.lo≤a.hi∧0<l.length∧l.length≤8∧∃ m,m<l.length∧errL stepR l a m≠0∧∀ k,k<m→errL stepR l a k=0):=by
 by_cases c:l.length=0∨8<l.length∨a.lo > a.hi
 ·exact .inr (.inl c)
 ·rcases all_or (flowB l a) l.length with h | ⟨m,h1,h2,h3⟩
  ·exact .inl ⟨by omega,by omega,by omega,fun k hk=>by simpa [flowB] using h k hk⟩
  ·exact .inr (.inr ⟨by omega,by omega,by omega,m,h1,by simpa [flowB] using h2,fun k hk=>by simpa [flowB] using h3 k hk⟩)
theorem flowE_n {l:List Nod} {a:Rng} (h:¬ FOK l a):(flowE l a).2≠0:=by
 rcases FOK.cases l a with q | q | ⟨i,e,f,m,h1,h2,h3⟩
 ·exact absurd q h
 ·unfold flowE
  by_cases c1:l.length=0
  ·rw [if_pos c1];dsimp only;decide
  ·rw [if_neg c1]
   by_cases c2:8<l.length
   ·rw [if_pos c2];dsimp only;decide
   ·rw [if_neg c2,if_pos (by omega)];dsimp only;decide
 ·rw [flowE_at i e f h1 h2 h3];exact h2
theorem checkE_took {p c:Nod} (h:c.kd=1∨c.kd=2):checkE (tookN p c)=checkE c:=by
 unfold checkE moreE;rcases h with h | h<;>simp [h]
theorem steps_pad {n k s p q:Int} (n1:1≤n) (n2:n+2*q≤16) (q0:0≤q) (p0:0≤p) (h4:q+p≤4) (hk:q+p<k):stepsE (n+2*q) k s p=stepsE n k s (q+p):=by
 unfold stepsE
 by_cases c:k<1∨5<k∨s<1∨4<s
 ·rw [if_pos (by omega),if_pos (by omega)]
 ·rw [show n+2*q+2*p=n+2*(q+p) by omega]
  by_cases d:n+2*(q+p)<k
  ·rw [if_neg (by omega),if_pos d,if_neg (by omega)]
  ·rw [if_neg (by omega),if_neg d,if_neg (by omega)]
theorem slide_pad {h x c k s p q o:Int} (e1:0<elems h x c) (e2:0<elems (h+2*q) (x+2*q) c) (q0:0≤q) (p0:0≤p) (h4:q+p≤4) (hk:q+p<k) :
  slideE ⟨h+2*q,x+2*q,c⟩ k s p o=slideE ⟨h,x,c⟩ k s (q+p) o:=by
 have a:=elems_ok e1
 have b:=elems_ok e2
 unfold slideE
 dsimp only
 rw [steps_pad (n:=h) (by omega) (by omega) q0 p0 h4 hk,steps_pad (n:=x) (by omega) (by omega) q0 p0 h4 hk,if_neg (not_not_intro e2),if_neg (not_not_intro e1)]
theorem conv_pad {h x c:Int} {p n:Nod} (e1:0<elems h x c) (e2:0<elems (h+2*p.np) (x+2*p.np) c) (hf:fitsN p n=true):convE ⟨h+2*p.np,x+2*p.np,c⟩ n=convE ⟨h,x,c⟩ (tookN p n):=by
 have f:=fits_iff.1 hf
 unfold convE
 rw [slide_pad e1 e2 (by omega) (by omega) (by omega) (by omega)]
theorem depth_pad {h x c:Int} {p n:Nod} (e1:0<elems h x c) (e2:0<elems (h+2*p.np) (x+2*p.np) c) (hf:fitsN p n=true):depthE ⟨h+2*p.np,x+2*p.np,c⟩ n=depthE ⟨h,x,c⟩ (tookN p n):=by
 have f:=fits_iff.1 hf
 unfold depthE
 dsimp only
 rw [slide_pad e1 e2 (by omega) (by omega) (by omega) (by omega)]
theorem around_ok {a:Shp} {p:Int} (h:(aroundE a p).2=0):0≤p∧p≤4∧0<elems (a.h+2*p) (a.x+2*p) a.c∧aroundE a p=(⟨a.h+2*p,a.x+2*p,a.c⟩,0):=by
 have b:=elems_bd (a.h+2*p) (a.x+2*p) a.c
 unfold aroundE at h ⊢
 by_cases c:p<0∨4<p
 ·rw [if_pos c] at h;exact absurd h (by decide)
 ·rw [if_neg c] at h ⊢
  by_cases c2:elems (a.h+2*p) (a.x+2*p) a.c=0
  ·rw [if_pos c2] at h;exact absurd h (by decide)
  ·rw [if_neg c2] at h ⊢
   exact ⟨by omega,by omega,by omega,rfl⟩
theorem nextE_floc:FLoc nextE (fun n a b=>if checkE n≠0 then (⟨0,0,0⟩,checkE n) else shapeE n a b) Shp.Rt where
 loc:=nextE_loc
 same:=fun n a b h d=>by
  obtain ⟨h7,hc,_⟩:=same_iff.1 h
  unfold Shp.Rt at d
  rw [if_neg (by omega)]
  unfold shapeE
  rw [if_neg (by omega),if_neg (by omega),if_neg (by omega),if_neg (by omega),if_neg (by omega),if_neg (by omega),if_neg (by omega),if_neg (by omega)]
 pads:=fun p c a _ _ hf d he=>by
  have f:=fits_iff.1 hf
  unfold Shp.Rt at d
  rw [if_neg (by omega)] at he ⊢
  have e8:shapeE p a a=aroundE a p.np:=by
   unfold shapeE
   rw [if_neg (by omega),if_neg (by omega),if_neg (by omega),if_neg (by omega),if_neg (by omega),if_neg (by omega),if_neg (by omega),if_pos (by omega)]
  rw [e8] at he ⊢
  obtain ⟨_,_,e2,e⟩:=around_ok he
  rw [e,if_neg (by omega),checkE_took f.2.1,if_neg (by omega)]
  dsimp only
  unfold shapeE
  rcases f.2.1 with k | k
  ·rw [if_pos k,if_pos (by exact k)];exact conv_pad d e2 hf
  ·rw [if_neg (by omega),if_pos k,if_neg (by show ¬ c.kd=1;omega),if_pos (by exact k)];exact depth_pad d e2 hf
theorem gH_get (f:Nat→Nat→Nat→Int) {m x Y h w c:Nat} (hh:h<Y) (hw:w<x) (hc:c<m):(gH f m x Y).getD ((h*x+w)*m+c) 0=f h w c:=by
 have e:(List.range (Y*(x*m))).map (fun i=>f (i / m / x) (i / m % x) (i % m))=gH f m x Y:=g_all Y fun h' w' c' _ hw' hc'=>by
  have a:((h'*x+w')*m+c') / m=h'*x+w':=by rw [Nat.mul_comm,Nat.mul_add_div (by omega),Nat.div_eq_of_lt hc'];rfl
  have b:((h'*x+w')*m+c') % m=c':=by rw [Nat.mul_comm,Nat.mul_add_mod,Nat.mod_eq_of_lt hc']
  have a2:(h'*x+w') / x=h':=by rw [Nat.mul_comm,Nat.mul_add_div (by omega),Nat.div_eq_of_lt hw'];rfl
  have b2:(h'*x+w') % x=w':=by rw [Nat.mul_comm,Nat.mul_add_mod,Nat.mod_eq_of_lt hw']
  rw [a,b,a2,b2]
 have lt:(h*x+w)*m+c<Y*(x*m):=by
  have h1:(h+1)*(x*m)≤Y*(x*m):=Nat.mul_le_mul_right _ (by omega)
  have h2:(w+1)*m≤x*m:=Nat.mul_le_mul_right _ (by omega)
  rw [Nat.add_mul,Nat.one_mul] at h1 h2
  rw [Nat.add_mul,Nat.mul_assoc];omega
 rw [←e,List.getD_eq_getElem?_getD,List.getElem?_map,List.getElem?_range lt]
 have a:((h*x+w)*m+c) / m=h*x+w:=by rw [Nat.mul_comm,Nat.mul_add_div (by omega),Nat.div_eq_of_lt hc];rfl
 have b:((h*x+w)*m+c) % m=c:=by rw [Nat.mul_comm,Nat.mul_add_mod,Nat.mod_eq_of_lt hc]
 have a2:(h*x+w) / x=h:=by rw [Nat.mul_comm,Nat.mul_add_div (by omega),Nat.div_eq_of_lt hw];rfl
 have b2:(h*x+w) % x=w:=by rw [Nat.mul_comm,Nat.mul_add_mod,Nat.mod_eq_of_lt hw]
 simp only [Option.map_some,Option.getD_some,a,b,a2,b2]
structure Padd (T U:Ten) (q z:Int):Prop where
 r:TRt T
 u:TRt U
 q0:0≤q
 h:U.h=T.h+2*q
 x:U.x=T.x+2*q
 c:U.c=T.c
 d:∀ y w k:Int,0≤y→y<U.h→0≤w→w<U.x→0≤k→k<U.c→U.d.getD ((y*U.x+w)*U.c+k).toNat 0=pixE T (y-q) (w-q) k z
theorem elems_eq {h x c:Int} (e:0<elems h x c):elems h x c=h*x*c:=by
 unfold elems at e ⊢
 split
 ·rfl
 ·rename_i hn;rw [if_neg hn] at e;omega
theorem pad_right {T:Ten} (r:TRt T) {q z:Int} (he:elems (T.h+2*q) (T.x+2*q) T.c≠0):tenRight (padOf T q z).1=true:=by
 have b:=elems_bd (T.h+2*q) (T.x+2*q) T.c
 have c:=elems_ok (h:=T.h+2*q) (x:=T.x+2*q) (c:=T.c) (by omega)
 unfold padOf
 rw [if_neg he]
 unfold tenRight
 dsimp only
 rw [gH_len]
 have e2:=elems_eq (h:=T.h+2*q) (x:=T.x+2*q) (c:=T.c) (by omega)
 rw [decide_eq_true (show 0<elems (T.h+2*q) (T.x+2*q) T.c by omega),Bool.true_and]
 refine decide_eq_true ?_
 rw [e2,Int.natCast_mul,Int.natCast_mul,Int.toNat_of_nonneg (by omega),Int.toNat_of_nonneg (by omega),Int.toNat_of_nonneg (by omega),Int.mul_assoc]
theorem padd_of {T:Ten} (r:TRt T) {q z:Int} (q0:0≤q) (he:elems (T.h+2*q) (T.x+2*q) T.c≠0):Padd T (padOf T q z).1 q z:=by
 have u:=tenRight.rt (pad_right r (z:=z) he)
 have e:(padOf T q z).1=⟨T.h+2*q,T.x+2*q,T.c,gH (movF T q q z) T.c.toNat (T.x+2*q).toNat (T.h+2*q).toNat⟩:=by unfold padOf;rw [if_neg he]
 refine ⟨r,u,q0,by rw [e],by rw [e],by rw [e],fun y w k y0 y1 w0 w1 k0 k1=>?_⟩
 rw [e] at y1 w1 k1 ⊢
 dsimp only at *
 obtain ⟨Y,rfl⟩:=Int.eq_ofNat_of_zero_le y0
 obtain ⟨W,rfl⟩:=Int.eq_ofNat_of_zero_le w0
 obtain ⟨K,rfl⟩:=Int.eq_ofNat_of_zero_le k0
 have ei:(((Y:Int)*(T.x+2*q)+(W:Int))*T.c+(K:Int)).toNat=(Y*(T.x+2*q).toNat+W)*T.c.toNat+K:=by
  have:(((Y:Int)*(T.x+2*q)+(W:Int))*T.c+(K:Int))=(((Y*(T.x+2*q).toNat+W)*T.c.toNat+K:Nat):Int):=by
   rw [Int.natCast_add,Int.natCast_mul,Int.natCast_add,Int.natCast_mul,Int.toNat_of_nonneg (by omega),Int.toNat_of_nonneg (by omega)]
  rw [this,Int.toNat_natCast]
 rw [ei,gH_get _ (by omega) (by omega) (by omega)]
theorem col_pad {T U:Ten} {p n:Nod} (P:Padd T U p.np n.za) {o i y x:Int} (j:Nat):colE U n o i y x j=colE T (tookN p n) o i (y-p.np) (x-p.np) j:=by
 have q0:=P.q0;have h1:=P.h;have h2:=P.x;have h3:=P.c
 unfold colE
 have e1:(tookN p n).nk=n.nk:=rfl
 rw [e1]
 by_cases c:inT T (y-p.np) (x-p.np+(j:Int))
 ·have c2:inT U y (x+(j:Int)):=by unfold inT at c ⊢;omega
  rw [if_pos c,if_pos c2,h3]
  refine sumN_congr _ fun k hk=>?_
  unfold cterm gt
  have e:=P.d y (x+(j:Int)) k c2.1 c2.2.1 c2.2.2.1 c2.2.2.2 (by omega) (by omega)
  rw [h3] at e
  rw [e]
  have:pixE T (y-p.np) (x+(j:Int)-p.np) k n.za=T.d.getD (((y-p.np)*T.x+(x-p.np+(j:Int)))*T.c+(k:Int)).toNat 0:=by
   unfold pixE
   rw [show x+(j:Int)-p.np=x-p.np+(j:Int) by omega,if_pos c]
  rw [this]
 ·rw [if_neg c]
  by_cases c2:inT U y (x+(j:Int))
  ·rw [if_pos c2]
   show _=0
   refine sumN_zero _ fun k hk=>?_
   unfold cterm gt
   rw [P.d y (x+(j:Int)) k c2.1 c2.2.1 c2.2.2.1 c2.2.2.2 (by omega) (by omega)]
   unfold pixE
   rw [show x+(j:Int)-p.np=x-p.np+(j:Int) by omega,if_neg c,Int.sub_self,Int.mul_zero]
  ·rw [if_neg c2];rfl
theorem row_pad {T U:Ten} {p n:Nod} (P:Padd T U p.np n.za) (h w o:Int) (i:Nat):rowE U n h w o i=rowE T (tookN p n) h w o i:=by
 unfold rowE
 refine sumN_congr _ fun j _=>?_
 rw [col_pad P]
 have e1:(tookN p n).np=p.np+n.np:=rfl
 have e2:(tookN p n).ns=n.ns:=rfl
 rw [e1,e2]
 congr 1<;>omega
theorem sum_pad {T U:Ten} {p n:Nod} (P:Padd T U p.np n.za) (h w o:Int):sumE U n h w o=sumE T (tookN p n) h w o:=by
 unfold sumE
 rw [show rowE U n h w o=rowE T (tookN p n) h w o from funext fun i=>row_pad P h w o i]
theorem dcell_pad {T U:Ten} {p n:Nod} (P:Padd T U p.np n.za) {h w c:Int} (c0:0≤c) (c1:c<T.c) (i:Int) (j:Nat):dcell U n h w c i j=dcell T (tookN p n) h w c i j:=by
 have q0:=P.q0;have h1:=P.h;have h2:=P.x;have h3:=P.c
 have e1:(tookN p n).np=p.np+n.np:=rfl
 unfold dcell
 rw [e1]
 show (if inT U (h*n.ns+i-n.np) (w*n.ns+(j:Int)-n.np) then _ else (0:Int))=if inT T (h*n.ns+i-(p.np+n.np)) (w*n.ns+(j:Int)-(p.np+n.np)) then _ else 0
 by_cases hc:inT T (h*n.ns+i-(p.np+n.np)) (w*n.ns+(j:Int)-(p.np+n.np))
 ·have c2:inT U (h*n.ns+i-n.np) (w*n.ns+(j:Int)-n.np):=by unfold inT at hc ⊢;omega
  rw [if_pos hc,if_pos c2]
  unfold dterm
  rw [P.d _ _ c c2.1 c2.2.1 c2.2.2.1 c2.2.2.2 c0 (by omega)]
  unfold pixE
  rw [show h*n.ns+i-n.np-p.np=h*n.ns+i-(p.np+n.np) by omega,show w*n.ns+(j:Int)-n.np-p.np=w*n.ns+(j:Int)-(p.np+n.np) by omega,if_pos (by assumption)]
 ·rw [if_neg hc]
  by_cases c2:inT U (h*n.ns+i-n.np) (w*n.ns+(j:Int)-n.np)
  ·rw [if_pos c2]
   unfold dterm
   rw [P.d _ _ c c2.1 c2.2.1 c2.2.2.1 c2.2.2.2 c0 (by omega)]
   unfold pixE
   rw [show h*n.ns+i-n.np-p.np=h*n.ns+i-(p.np+n.np) by omega,show w*n.ns+(j:Int)-n.np-p.np=w*n.ns+(j:Int)-(p.np+n.np) by omega,if_neg (by assumption),Int.sub_self,Int.mul_zero]
  ·rw [if_neg c2]
theorem dE_pad {T U:Ten} {p n:Nod} (P:Padd T U p.np n.za) {h w c:Int} (c0:0≤c) (c1:c<T.c):dE U n h w c=dE T (tookN p n) h w c:=by
 unfold dE
 have:drow U n h w c=drow T (tookN p n) h w c:=funext fun i=>by
  unfold drow
  exact sumN_congr _ fun j _=>dcell_pad P c0 c1 i j
 rw [this]
theorem conv_of_pad {T U:Ten} {p n:Nod} (P:Padd T U p.np n.za) (ok:T.Ok) (oku:U.Ok) (okp:p.Ok) (okn:n.Ok) (rT:tenRight T=true) (rU:tenRight U=true) (hf:fitsN p n=true):convOf U n=convOf T (tookN p n):=by
 have e0:convE ⟨U.h,U.x,U.c⟩ n=convE ⟨T.h,T.x,T.c⟩ (tookN p n):=by
  rw [P.h,P.x,P.c]
  refine conv_pad ?_ ?_ hf
  ·unfold tenRight at rT;simp only [Bool.and_eq_true,decide_eq_true_eq] at rT;exact rT.1
  ·unfold tenRight at rU;simp only [Bool.and_eq_true,decide_eq_true_eq] at rU
   rw [P.h,P.x,P.c] at rU;exact rU.1
 unfold convOf
 rw [e0,if_neg (show ¬ tenRight U=false by simp [rU]),if_neg (show ¬ tenRight T=false by simp [rT])]
 split
 ·rfl
 ·rename_i he
  have he:(convE ⟨T.h,T.x,T.c⟩ (tookN p n)).2=0:=cbc fun q=>he q
  have k1:CvOk U n:=⟨oku,okn,rU,by rw [e0];exact he⟩
  have k2:CvOk T (tookN p n):=⟨ok,okp.took okn hf,rT,he⟩
  have ec:∀ h w o,cvS U n h w o=cvS T (tookN p n) h w o:=fun h w o=>by
   rw [cvS_eq k1,cvS_eq k2,sum_pad P]
  have eo:∀ i,outL U n i=outL T (tookN p n) i:=by
   intro i
   induction i with
   | zero=>rfl
   | succ i ih =>
    rw [outL,outL,ih,e0]
    congr 1
    exact List.map_congr_left fun o _=>ec _ _ _
  rw [eo]
theorem depth_of_pad {T U:Ten} {p n:Nod} (P:Padd T U p.np n.za) (ok:T.Ok) (oku:U.Ok) (okp:p.Ok) (okn:n.Ok) (rT:tenRight T=true) (rU:tenRight U=true) (hf:fitsN p n=true):depthOf U n=depthOf T (tookN p n):=by
 have e0:depthE ⟨U.h,U.x,U.c⟩ n=depthE ⟨T.h,T.x,T.c⟩ (tookN p n):=by
  rw [P.h,P.x,P.c]
  refine depth_pad ?_ ?_ hf
  ·unfold tenRight at rT;simp only [Bool.and_eq_true,decide_eq_true_eq] at rT;exact rT.1
  ·unfold tenRight at rU;simp only [Bool.and_eq_true,decide_eq_true_eq] at rU
   rw [P.h,P.x,P.c] at rU;exact rU.1
 unfold depthOf
 rw [e0,if_neg (show ¬ tenRight U=false by simp [rU]),if_neg (show ¬ tenRight T=false by simp [rT])]
 split
 ·rfl
 ·rename_i he
  have he:(depthE ⟨T.h,T.x,T.c⟩ (tookN p n)).2=0:=cbc fun q=>he q
  have k1:DpOk U n:=⟨oku,okn,rU,by rw [e0];exact he⟩
  have k2:DpOk T (tookN p n):=⟨ok,okp.took okn hf,rT,he⟩
  have a1:dL U n=gH (dF U n) U.c.toNat (depthE ⟨U.h,U.x,U.c⟩ n).1.x.toNat (depthE ⟨U.h,U.x,U.c⟩ n).1.h.toNat:=dL_eq k1
  have a2:dL T (tookN p n)=gH (dF T (tookN p n)) T.c.toNat (depthE ⟨T.h,T.x,T.c⟩ (tookN p n)).1.x.toNat (depthE ⟨T.h,T.x,T.c⟩ (tookN p n)).1.h.toNat:=dL_eq k2
  have ext:∀ (f g:Nat→Nat→Nat→Int) (m x:Nat),(∀ h w c,c<m→f h w c=g h w c)→∀ Y,gH f m x Y=gH g m x Y:=by
   intro f g m x hfg Y
   have gw:∀ h w,gW f m h w=gW g m h w:=by
    intro h w
    induction w with
    | zero=>rfl
    | succ w ih =>
     rw [gW,gW,ih];congr 1
     unfold gO
     exact List.map_congr_left fun c hc=>hfg _ _ _ (List.mem_range.1 hc)
   induction Y with
   | zero=>rfl
   | succ Y ih=>rw [gH,gH,ih,gw]
  have c1:=P.r.c1
  rw [a1,a2,e0,P.c,ext (dF U n) (dF T (tookN p n)) _ _ fun h w c hc=>by unfold dF;rw [dE_pad P (by omega) (by omega)]]
theorem rowAcc_ren (T:Ten) (n:Nod) (u v a h w:Int):∀ j,rowAcc T { n with na:=u,nb:=v } a h w j=rowAcc T n a h w j
 | 0=>rfl
 | j+1=>by rw [rowAcc,rowAcc,rowAcc_ren T n u v a h w j];rfl
theorem sumAcc_ren (T:Ten) (n:Nod) (u v h w o:Int):∀ i,sumAcc T { n with na:=u,nb:=v } h w o i=sumAcc T n h w o i
 | 0=>rfl
 | i+1=>by rw [sumAcc,sumAcc,sumAcc_ren T n u v h w o i,rowAcc_ren]
theorem outL_ren (T:Ten) (n:Nod) (u v:Int):∀ i,outL T { n with na:=u,nb:=v } i=outL T n i
 | 0=>rfl
 | i+1=>by
  rw [outL,outL,outL_ren T n u v i]
  congr 1
  exact List.map_congr_left fun o _=>sumAcc_ren T n u v _ _ _ _
theorem dAcc_ren (T:Ten) (n:Nod) (u v h w c:Int):∀ i,dAcc T { n with na:=u,nb:=v } h w c i=dAcc T n h w c i
 | 0=>rfl
 | i+1=>by rw [dAcc,dAcc,dAcc_ren T n u v h w c i];rfl
theorem dL_ren (T:Ten) (n:Nod) (u v:Int):dL T { n with na:=u,nb:=v }=dL T n:=List.map_congr_left fun i _=>dAcc_ren T n u v _ _ _ _
theorem sumOf_ren (T:Ten) (n:Nod) (u v:Int):sumOf T { n with na:=u,nb:=v }=sumOf T n:=by
 unfold sumOf convOf depthOf
 rw [outL_ren,dL_ren];rfl
theorem valE_loc:Loc valE nodeOf where
 eq:=fun _ _ _=>rfl
 ren:=fun n u v a b h=>by
  unfold nodeOf
  rw [checkE_ren n u v h,sumOf_ren];rfl
theorem right_map {T:Ten} (r:tenRight T=true) {d:List Int} (h:d.length=T.d.length):tenRight ⟨T.h,T.x,T.c,d⟩=true:=by
 unfold tenRight at r ⊢;dsimp only;rw [h];exact r
theorem pool_right {T:Ten} {n:Nod} {m:Bool} (ok:T.Ok) (okn:n.Ok) (h:(poolOf T n m).2=0):tenRight (poolOf T n m).1=true:=by
 unfold poolOf at h ⊢
 split
 ·rename_i hr
  rw [if_pos hr] at h
  split
  ·rename_i hs
   have p:=PlOk.n ⟨ok,okn,hr,hs⟩
   unfold tenRight
   dsimp only
   rw [poolL_len,p.en]
   have e:=p.en
   have h1:=p.h1;have x1:=p.x1;have c1:=p.r.c1;have sc:=p.sc
   have m:1*1*1≤(plS T n).h*(plS T n).x*(plS T n).c:=Int.mul_le_mul (Int.mul_le_mul h1 x1 (by omega) (by omega)) (by omega) (by omega) (Int.mul_nonneg (by omega) (by omega))
   simp only [Bool.and_eq_true,decide_eq_true_eq];omega
  ·rename_i hs;rw [if_neg hs] at h;exact absurd h hs
 ·rename_i hr;rw [if_neg hr] at h;exact absurd h (by decide)
theorem put_right {A:Ten} {n:Nod} (h:(putOf A n).2=0):tenRight (putOf A n).1=true:=by
 unfold putOf at h ⊢
 split
 ·rename_i c;rw [if_pos c] at h;exact absurd h (by decide)
 ·rename_i c
  rw [if_neg c] at h
  split
  ·rename_i c2;rw [if_pos c2] at h;exact absurd h (by decide)
  ·have b:=elems_bd A.h A.x A.c
   unfold tenRight
   dsimp only
   rw [List.length_map]
   simp only [Bool.and_eq_true,decide_eq_true_eq];omega
theorem act_right {T:Ten} {n:Nod} (h:(actOf T n).2=0):tenRight (actOf T n).1=true:=by
 unfold actOf at h ⊢
 split
 ·rename_i c;rw [if_pos c] at h;exact absurd h (by decide)
 ·rename_i c
  rw [if_neg c] at h
  split
  ·rename_i c2;rw [if_pos c2] at h;exact absurd h (by decide)
  ·exact right_map (by simpa using c) (by rw [List.length_map])
theorem join_right {T U:Ten} {n:Nod} (h:(joinOf T U n).2=0):tenRight (joinOf T U n).1=true:=by
 unfold joinOf at h ⊢
 split
 ·rename_i c;rw [if_pos c] at h;exact absurd h (by decide)
 ·rename_i c
  rw [if_neg c] at h
  split
  ·rename_i c2;rw [if_pos c2] at h;exact absurd h (by decide)
  ·have r:tenRight T=true:=by
    cases e:tenRight T with
    | true=>rfl
    | false=>rw [e] at c;simp at c
   exact right_map r (by rw [List.length_map,List.length_range])
theorem padOf_right {T:Ten} {q z:Int} (r:tenRight T=true) (h:(padOf T q z).2=0):elems (T.h+2*q) (T.x+2*q) T.c≠0∧tenRight (padOf T q z).1=true:=by
 by_cases c:elems (T.h+2*q) (T.x+2*q) T.c=0
 ·unfold padOf at h;rw [if_pos c] at h;exact absurd h (by decide)
 ·exact ⟨c,pad_right (tenRight.rt r) c⟩
theorem nodeOf_8 {n:Nod} {A B:Ten} (hc:checkE n=0) (r:tenRight A=true) (k:n.kd=8):nodeOf n A B=if mayE A n.np≠0 then (ten0,mayE A n.np) else padOf A n.np n.za:=by
 unfold nodeOf
 rw [if_neg (show ¬ checkE n≠0 by omega),if_neg (show ¬ tenRight A=false by simp [r]),if_neg (show ¬ n.kd=4 by omega),if_neg (show ¬ n.kd=5 by omega),if_neg (show ¬ n.kd=6 by omega),if_neg (show ¬ n.kd=7 by omega),if_pos k]
theorem nodeOf_right {n:Nod} {A B:Ten} (ok:A.Ok) (okn:n.Ok) (h:(nodeOf n A B).2=0):tenRight (nodeOf n A B).1=true:=by
 unfold nodeOf at h ⊢
 split
 ·rename_i c;rw [if_pos c] at h;exact absurd h c
 ·rename_i c
  rw [if_neg c] at h
  split
  ·rename_i c;rw [if_pos c] at h;exact absurd h (by decide)
  ·rename_i r
   rw [if_neg r] at h
   have r:tenRight A=true:=by simpa using r
   split
   ·rename_i c;rw [if_pos c] at h;exact pool_right ok okn h
   ·rename_i c;rw [if_neg c] at h
    split
    ·rename_i c;rw [if_pos c] at h;exact pool_right ok okn h
    ·rename_i c;rw [if_neg c] at h
     split
     ·rename_i c;rw [if_pos c] at h;exact join_right h
     ·rename_i c;rw [if_neg c] at h
      split
      ·rename_i c;rw [if_pos c] at h;exact act_right h
      ·rename_i c;rw [if_neg c] at h
       split
       ·rename_i c;rw [if_pos c] at h
        split
        ·rename_i c;rw [if_pos c] at h;exact absurd h c
        ·rename_i c;rw [if_neg c] at h;exact (padOf_right r h).2
       ·rename_i c;rw [if_neg c] at h
        split
        ·have t:=tenRight.rt r
         have t1:=t.dl;have t2:=t.el;have t3:=t.h1;have t4:=t.x1;have t5:=t.c1
         have m:1*1*1≤A.h*A.x*A.c:=Int.mul_le_mul (Int.mul_le_mul t3 t4 (by omega) (by omega)) t5 (by omega) (Int.mul_nonneg (by omega) (by omega))
         unfold tenRight elems
         dsimp only
         rw [if_pos (by omega)]
         simp only [Bool.and_eq_true,decide_eq_true_eq];omega
        ·rename_i c;rw [if_neg c] at h
         split
         ·rename_i c;rw [if_pos c] at h;exact absurd h c
         ·rename_i c;rw [if_neg c] at h;exact put_right h
theorem valE_floc:FLoc valE nodeOf (fun T=>T.Ok∧tenRight T=true) where
 loc:=valE_loc
 same:=fun n a b h d=>by
  obtain ⟨h7,hc,hv⟩:=same_iff.1 h
  have hq:rightQ n.qm n.qs=true:=by
   cases e:rightQ n.qm n.qs with
   | true=>rfl
   | false=>have:=hv 1 (by decide);unfold oneN heldQ at this;rw [e] at this;simp at this
  unfold nodeOf
  rw [if_neg (show ¬ checkE n≠0 by omega),if_neg (show ¬ tenRight a=false by simp [d.2]),if_neg (show ¬ n.kd=4 by omega),if_neg (show ¬ n.kd=5 by omega),if_neg (show ¬ n.kd=6 by omega),if_pos h7]
  unfold actOf
  rw [if_neg (show ¬ tenRight a=false by simp [d.2]),if_neg (show ¬ rightQ n.qm n.qs=false by simp [hq])]
  have:a.d.map (fun v=>oneN v n)=a.d:=by
   conv=>rhs;rw [←List.map_id a.d]
   exact List.map_congr_left fun v hm=>hv v (d.1.d v hm)
  rw [this]
 pads:=fun p c a okp okc hf d he=>by
  have f:=fits_iff.1 hf
  have r:=tenRight.rt d.2
  have hm:mayE a p.np=0:=by unfold mayE;rw [if_pos d.2,if_pos (by omega)]
  rw [nodeOf_8 f.2.2.1 d.2 f.1,if_neg (by omega)] at he ⊢
  obtain ⟨e0,rU⟩:=padOf_right d.2 he
  have P:Padd a (padOf a p.np p.za).1 p.np c.za:=by rw [f.2.2.2.2.1];exact padd_of r (by omega) e0
  have okU:(padOf a p.np p.za).1.Ok:=padOf_ok d.1 okp.za
  have es:sumOf (padOf a p.np p.za).1 c=sumOf a (tookN p c):=by
   unfold sumOf
   rcases f.2.1 with k | k
   ·rw [if_pos k,if_pos (by exact k)];exact conv_of_pad P d.1 okU okp okc d.2 rU hf
   ·rw [if_neg (by omega),if_pos k,if_neg (by show ¬ c.kd=1;omega),if_pos (by exact k)];exact depth_of_pad P d.1 okU okp okc d.2 rU hf
  unfold nodeOf
  rw [checkE_took f.2.1,if_neg (show ¬ checkE c≠0 by omega),if_neg (show ¬ tenRight (padOf a p.np p.za).1=false by simp [rU]),if_neg (show ¬ c.kd=4 by omega),if_neg (show ¬ c.kd=5 by omega),if_neg (show ¬ c.kd=6 by omega),if_neg (show ¬ c.kd=7 by omega),if_neg (show ¬ c.kd=8 by omega),if_neg (show ¬ c.kd=9 by omega),
   if_neg (show ¬ checkE c≠0 by omega),if_neg (show ¬ tenRight a=false by simp [d.2]),if_neg (show ¬ (tookN p c).kd=4 by show ¬ c.kd=4;omega),if_neg (show ¬ (tookN p c).kd=5 by show ¬ c.kd=5;omega),if_neg (show ¬ (tookN p c).kd=6 by show ¬ c.kd=6;omega),if_neg (show ¬ (tookN p c).kd=7 by show ¬ c.kd=7;omega),if_neg (show ¬ (tookN p c).kd=8 by show ¬ c.kd=8;omega),if_neg (show ¬ (tookN p c).kd=9 by show ¬ c.kd=9;omega),es]
  rfl
theorem stepR_loc:Loc stepR nodeR where
 eq:=fun n L h=>by unfold stepR;rw [if_pos h]
 ren:=fun n u v a b h=>by
  unfold nodeR
  rw [checkE_ren n u v h];rfl
theorem rowR_congr {lo hi z lo' hi':Int} {g g':Bool} (h:∀ v,spA v lo hi z g=spA v lo' hi' z g') (w:List Int) (bias:Int):∀ k,rowR w bias lo hi z g k=rowR w bias lo' hi' z g' k
 | 0=>rfl
 | k+1=>by rw [rowR,rowR,rowR_congr h w bias k,h]
theorem spans_congr {lo hi z lo' hi':Int} {g g':Bool} (h:∀ v,spA v lo hi z g=spA v lo' hi' z g') (w b:List Int) (k:Nat):allR w b lo hi z g k=allR w b lo' hi' z g' k:=by
 unfold allR
 exact List.map_congr_left fun o _=>by unfold spRow;rw [rowR_congr h]
theorem spA_pad {v lo hi z:Int} (hl:lo≤hi) (g:Bool):spA v (min lo z) (max hi z) z g=spA v lo hi z true:=by
 have e1:min lo z-z=min (lo-z) 0:=by omega
 have e2:max hi z-z=max (hi-z) 0:=by omega
 have a0:v*min (lo-z) 0=if 0≤v then min (v*(lo-z)) 0 else max (v*(lo-z)) 0:=by
  split
  ·rename_i hv
   rcases Int.le_total (lo-z) 0 with h | h
   ·have:=Int.mul_nonpos_of_nonneg_of_nonpos hv h
    rw [Int.min_eq_left h];omega
   ·have:=Int.mul_nonneg hv h
    rw [Int.min_eq_right h,Int.mul_zero];omega
  ·rename_i hv
   rcases Int.le_total (lo-z) 0 with h | h
   ·have:=Int.mul_nonneg_of_nonpos_of_nonpos (show v≤0 by omega) h
    rw [Int.min_eq_left h];omega
   ·have:=Int.mul_nonpos_of_nonpos_of_nonneg (show v≤0 by omega) h
    rw [Int.min_eq_right h,Int.mul_zero];omega
 have b0:v*max (hi-z) 0=if 0≤v then max (v*(hi-z)) 0 else min (v*(hi-z)) 0:=by
  split
  ·rename_i hv
   rcases Int.le_total (hi-z) 0 with h | h
   ·have:=Int.mul_nonpos_of_nonneg_of_nonpos hv h
    rw [Int.max_eq_right h,Int.mul_zero];omega
   ·have:=Int.mul_nonneg hv h
    rw [Int.max_eq_left h];omega
  ·rename_i hv
   rcases Int.le_total (hi-z) 0 with h | h
   ·have:=Int.mul_nonneg_of_nonpos_of_nonpos (show v≤0 by omega) h
    rw [Int.max_eq_right h,Int.mul_zero];omega
   ·have:=Int.mul_nonpos_of_nonpos_of_nonneg (show v≤0 by omega) h
    rw [Int.max_eq_left h];omega
 have ab:if 0≤v then v*(lo-z)≤v*(hi-z) else v*(hi-z)≤v*(lo-z):=by
  split
  ·rename_i hv;exact Int.mul_le_mul_of_nonneg_left (by omega) hv
  ·rename_i hv;exact Int.mul_le_mul_of_nonpos_left (by omega) (by omega)
 have:∀ A B A' B':Int,(A'=if 0≤v then min A 0 else max A 0)→(B'=if 0≤v then max B 0 else min B 0)→(if 0≤v then A≤B else B≤A)→min A' B'=min (min 0 (min A B)) (max A B)∧max A' B'=max (max 0 (min A B)) (max A B)∧min (min 0 (min A' B')) (max A' B')=min (min 0 (min A B)) (max A B)∧max (max 0 (min A' B')) (max A' B')=max (max 0 (min A B)) (max A B):=by
  intro A B A' B' h1 h2 h3
  by_cases hv:0≤v
  ·rw [if_pos hv] at h1 h2 h3;omega
  ·rw [if_neg hv] at h1 h2 h3;omega
 obtain ⟨t1,t2,t3,t4⟩:=this (v*(lo-z)) (v*(hi-z)) _ _ a0 b0 ab
 unfold spA
 rw [e1,e2,if_pos rfl]
 split
 ·rw [t3,t4]
 ·rw [t1,t2]
theorem sumG_pad {p c:Nod} {a:Rng} (hf:fitsN p c=true) (hl:a.lo≤a.hi):sumG c (if p.np > 0 then ⟨min a.lo p.za,max a.hi p.za⟩ else a)=sumG (tookN p c) a:=by
 have f:=fits_iff.1 hf
 have es:spansN c (if p.np > 0 then ⟨min a.lo p.za,max a.hi p.za⟩ else a)=spansN (tookN p c) a:=by
  unfold spansN
  refine spans_congr (fun v=>?_) _ _ _
  have e1:(tookN p c).np=p.np+c.np:=rfl
  rw [e1]
  by_cases h:p.np > 0
  ·rw [if_pos h,f.2.2.2.2.1]
   dsimp only
   rw [spA_pad hl,decide_eq_true (show p.np+c.np > 0 by omega)]
  ·rw [if_neg h]
   have:p.np+c.np=c.np:=by omega
   rw [this]
 unfold sumG
 rw [es]
 rfl
theorem nodeR_8 {n:Nod} {a b:Rng} (hc:checkE n=0) (hl:a.lo≤a.hi) (k:n.kd=8):nodeR n a b=(if n.np > 0 then ⟨min a.lo n.za,max a.hi n.za⟩ else a,0):=by
 unfold nodeR
 rw [if_neg (show ¬ checkE n≠0 by omega),if_neg (by omega),if_neg (by omega),if_neg (by omega),if_neg (by omega)]
 by_cases h:n.np > 0
 ·rw [if_pos ⟨k,h⟩,if_pos h]
 ·rw [if_neg (fun q=>h q.2),if_neg h]
theorem nodeR_s {n:Nod} {a b:Rng} (hc:checkE n=0) (hl:a.lo≤a.hi) (k:n.kd=1∨n.kd=2):nodeR n a b=sumG n a:=by
 unfold nodeR
 rw [if_neg (show ¬ checkE n≠0 by omega),if_neg (by omega),if_pos (by omega)]
theorem stepR_floc:FLoc stepR nodeR (fun r=>r.In8∧r.lo≤r.hi) where
 loc:=stepR_loc
 same:=fun n a b h d=>by
  obtain ⟨h7,hc,hv⟩:=same_iff.1 h
  obtain ⟨⟨d1,d2⟩,d3⟩:=d
  unfold nodeR
  rw [if_neg (show ¬ checkE n≠0 by omega),if_neg (by omega),if_neg (by omega),if_neg (by omega),if_pos h7]
  dsimp only
  rw [hv _ d1,hv _ d2]
 pads:=fun p c a okp okc hf d he=>by
  have f:=fits_iff.1 hf
  rw [nodeR_8 f.2.2.1 d.2 f.1]
  have hl:(if p.np > 0 then (⟨min a.lo p.za,max a.hi p.za⟩:Rng) else a).lo≤(if p.np > 0 then (⟨min a.lo p.za,max a.hi p.za⟩:Rng) else a).hi:=by
   have:=d.2
   split
   ·dsimp only;omega
   ·exact this
  rw [nodeR_s f.2.2.2.1 hl f.2.1,nodeR_s (n:=tookN p c) (by rw [checkE_took f.2.1];exact f.2.2.2.1) d.2 f.2.1]
  exact sumG_pad hf d.2
noncomputable def rtsame_l_I (T:Ten) (k:Nat):VS:=stt 38 [(2,.ptr 2 0 0),(3,.ptr 3 0 0),(5,i64 k)] [(2,.var (tnC T)),(3,.var (tnC T))]
noncomputable def rtsame_l_Z (T:Ten):VS:=rtsame_l_I T (T.d.length)
theorem rtsame_l_s (T:Ten) (hl:T.d.length≤1000000) (k:Nat) (hk:k<T.d.length):VT Tryz.prog (fnC Tryz.f14 [1,1,0,1,0,0]) (rtsame_l_I T k) .normal (rtsame_l_I T (k+1)):=by
 have oz1:=(show 0≤(↑k:Int) by omega)
 have oz2:=(map_at (row1 IntKind.i8) (0) (l:=T.d) (i:=k) hk)
 exact VT.run (W:=[.r [] [],.br true,.r [] [.row (sO oz2),.row (sO oz2)],.br false,.r [] [.n ((↑k:Int)+1)]]) (G:=[.any (rg [(20,18)]),.weak 5 (i64 (↑(k+1):Int)),.sort]) (by kernel_rfl) (.c (show decide ((↑k:Int)<(↑(List.map (row1 IntKind.i8) T.d).length:Int))=true by (simp;omega))<|.c oz1<|.c oz2<|.c oz1<|.c oz2<|.c (show (T.d.getD k 0 != T.d.getD k 0)=false by (simp;done))<|.c (i6n ((↑k:Int)+1) (by omega))<|.c (Weak.int (k:=.i64) (show (((↑k:Int)+1):Int)=((↑(k+1):Int)) from (by omega)))<|.n)
theorem rtsame_l_e (T:Ten) (hl:T.d.length≤1000000):VT Tryz.prog (fnC Tryz.f14 [1,1,0,1,0,0]) (rtsame_l_I T (T.d.length)) (.exit 0) (rtsame_l_Z T):=by
 exact VT.run (W:=[.r [] [],.br false]) (G:=[.any (rg [(20,5)]),.sort]) (by kernel_rfl) (.c (show decide ((↑T.d.length:Int)<(↑(List.map (row1 IntKind.i8) T.d).length:Int))=false by (simp;done))<|.n)
theorem rtsame_l (T:Ten) (hl:T.d.length≤1000000):VT Tryz.prog (fnC Tryz.f14 [1,1,0,1,0]) (rtsame_l_I T 0) (.exit 0) (rtsame_l_Z T) :=
 VT.loop (fun k=>rtsame_l_I T k) (T.d.length) (fun k hk=>rtsame_l_s T hl k hk) (rtsame_l_e T hl) (by intro h;cases h)
theorem rtsame_v (T:Ten) (hl:T.d.length≤1000000):VC Tryz.prog 14 ([ten .i8 T,ten .i8 T]) (bv true):=by
 have oz3 := @rtsame_l (T) hl
 exact VC.run (fn:=Tryz.f14) (W:=[.r [] [],.r [] [.v (Value.bool !eqNums [(IntKind.i64,T.h,T.h),(IntKind.i64,T.x,T.x),(IntKind.i64,T.c,T.c)]),.op false,.op false,.op false,.op false,.op false,.op false,.op false,.sel 1],.br false,.r [] [],.code [.any [0,1,4,6,7,8,9,10,11,19],.weak 5 (i64 (↑0:Int)),.sort] (Exit.exit 0) (zO oz3),.r [] []]) Tryz.func14 (by kernel_rfl) (.c (show BinTo Tryz.prog BinOp.neq 24 (Operand.tmp 7) (Operand.tmp 9) (Value.agg #[Value.int IntKind.i64 T.h,Value.int IntKind.i64 T.x,Value.int IntKind.i64 T.c]) (Value.agg #[Value.int IntKind.i64 T.h,Value.int IntKind.i64 T.x,Value.int IntKind.i64 T.c]) (Value.bool !eqNums [(IntKind.i64,T.h,T.h),(IntKind.i64,T.x,T.x),(IntKind.i64,T.c,T.c)]) from ((bin_nums (l:=[(IntKind.i64,T.h,T.h),(IntKind.i64,T.x,T.x),(IntKind.i64,T.c,T.c)]) (by kernel_rfl) (by kernel_rfl) (by kernel_rfl) (by kernel_rfl) _ _).2))<|.c (show (!eqNums [(IntKind.i64,T.h,T.h),(IntKind.i64,T.x,T.x),(IntKind.i64,T.c,T.c)] || (↑(List.map (row1 IntKind.i8) T.d).length:Int) != (↑(List.map (row1 IntKind.i8) T.d).length:Int))=false by (simp [eqNums]))<|.c (Weak.int (k:=.i64) (show ((0):Int)=((↑0:Int)) from (by omega)))<|.c oz3<|.n)
theorem VOK.o {l:List Nod} {x:Ten} (h:VOK l x):orderedB l=true:=by
 unfold orderedB
 rw [List.all_eq_true]
 intro k hk
 rw [List.mem_range] at hk
 have t:=h.takes hk
 rw [there_iff];omega
theorem VOK.ne {l:List Nod} {x:Ten} (h:VOK l x):l≠[]:=List.length_pos_iff.1 h.s.e
structure Vals (l:List Nod) (x:Ten):Prop where
 v:VOK l x
 r:tenRight x=true
 e:∀ k,k<l.length→errL valE l x k=0
theorem Vals.d {l:List Nod} {x:Ten} (h:Vals l x) {v:Nat} (hv:v≤l.length):(gv valE l x v).Ok∧tenRight (gv valE l x v)=true:=by
 cases v with
 | zero=>exact ⟨h.v.ok,h.r⟩
 | succ k =>
  have q:=val_ok h.v.okl h.v.ok (Nat.le_of_lt hv)
  have ek:=h.e k hv
  unfold errL at ek
  rw [gv_next]
  have okn:=getD_in h.v.okl hv
  have okA:=getD_all (p:=Ten.Ok) ten0_ok q (l.getD k default).na.toNat
  exact ⟨nodeOf_ok okn okA,nodeOf_right okA okn ek⟩
theorem Vals.fine {l:List Nod} {x:Ten} (h:Vals l x):Fine valE (fun T=>T.Ok∧tenRight T=true) l x :=
 ⟨h.v.o,h.v.ne,by have:=h.v.s.f;omega,h.v.okl,fun v hv=>h.d hv,h.e⟩
theorem SOK.o {l:List Nod} {a:Shp} (h:SOK l a):orderedB l=true:=by
 unfold orderedB
 rw [List.all_eq_true]
 intro k hk
 rw [List.mem_range] at hk
 have q:=h.k k hk
 unfold errL at q
 have c:=(nextE_ok q).2.1
 rw [List.length_map,growL_len] at c
 rw [there_iff] at *;omega
theorem SOK.fine {l:List Nod} {a:Shp} (h:SOK l a) (okl:∀ n∈l,n.Ok):Fine nextE Shp.Rt l a:=by
 refine ⟨h.o,List.length_pos_iff.1 h.e,by have:=h.f;omega,okl,fun v hv=>?_,h.k⟩
 cases v with
 | zero=>exact h.i
 | succ k =>
  have ek:=h.k k hv
  unfold errL at ek
  rw [gv_next]
  rcases nextE_told (l.getD k default) (growL nextE l a k) with t | t
  ·exact t.2
  ·exact absurd ek t.1
theorem rvals_cases (l:List Nod) (x:Ten) (okl:∀ n∈l,n.Ok) (wl:∀ n∈l,n.w.length≤100000∧n.b.length≤100000) (ok:x.Ok) (hl:l.length≤1000) :
  Vals l x∨∃ p c:Int,(c != 0)=true∧(c==0)=false∧VC Tryz.prog 12 [.sl 19 (l.map nodC),ten .i8 x] (.tup [nilv,i64 p,i64 c]):=by
 by_cases hn:tenRight x=false∨¬ SOK l ⟨x.h,x.x,x.c⟩
 ·right
  refine ⟨_,(valsE l x).2,?_,?_,rvals_n l x okl wl ok hl hn⟩
  all_goals
   have:(valsE l x).2≠0:=by
    unfold valsE
    split
    ·decide
    ·rename_i hr
     rcases hn with hn | hn
     ·exact absurd hn hr
     ·rw [if_pos (shapesE_bad hn)];exact shapesE_bad hn
   simpa using this
 ·have r:tenRight x=true:=by
   cases e:tenRight x with
   | true=>rfl
   | false=>exact absurd (.inl e) hn
  have s:SOK l ⟨x.h,x.x,x.c⟩:=cbc fun q=>hn (.inr q)
  have v:VOK l x:=⟨okl,wl,ok,s⟩
  rcases all_or (fun k=>errL valE l x k==0) l.length with h | ⟨m,h1,h2,h3⟩
  ·exact .inl ⟨v,r,fun k hk=>by simpa using h k hk⟩
  ·right
   have hm:errL valE l x m≠0:=by simpa using h2
   exact ⟨_,_,by simpa using hm,by simpa using hm,rvals_m l x m v r h1 hm fun k hk=>by simpa using h3 k hk⟩
abbrev setA (L:List Nod) (i:Nat) (u:Int):List Nod:=L.set i { L.getD i default with na:=u }
abbrev setB (L:List Nod) (i:Nat) (u:Int):List Nod:=L.set i { L.getD i default with nb:=u }
theorem setA_at {L:List Nod} {i:Nat} (hi:i<L.length) (u:Int):(setA L i u).getD i default={ L.getD i default with na:=u }:=by rw [getD_setN _ _ _ _ hi,if_pos rfl]
theorem setA_o {L:List Nod} {i j:Nat} (hi:i<L.length) (u:Int) (h:i≠j):(setA L i u).getD j default=L.getD j default:=by rw [getD_setN _ _ _ _ hi,if_neg h]
theorem pastK_set {L:List Nod} {i K:Nat} (hi:i<L.length) (u:Int) (d:Desc L K) (hK:i≤K):∀ (f:Nat) (v:Int),v≤i→pastK (setA L i u) f v=pastK L f v
 | 0,_,_=>rfl
 | f+1,v,hv=>by
  rw [pastK,pastK]
  by_cases q:0<v
  ·have e:(setA L i u).getD (v-1).toNat default=L.getD (v-1).toNat default:=setA_o hi u (by omega)
   rw [e]
   split
   ·have:=d (v-1).toNat (by omega)
    exact pastK_set hi u d hK f _ (by omega)
   ·rfl
  ·rw [if_neg (fun h=>q h.1),if_neg (fun h=>q h.1)]
theorem pastV_set {L:List Nod} {i K:Nat} (hi:i<L.length) (u:Int) (d:Desc L K) (hK:i≤K) {v:Int} (hv:v≤i):pastV (setA L i u) v=pastV L v:=pastK_set hi u d hK _ v hv
theorem thrK_6 {P:List Nod} {k:Nat} (hk:k<P.length) (d:Desc (thrK P k) P.length) (h6:((thrK P k).getD k default).kd=6) (hb:((thrK P k).getD k default).nb≤k) :
  thrK P (k+1)=(setA (thrK P k) k (pastV (thrK P k) ((thrK P k).getD k default).na)).set k { (thrK P k).getD k default with na:=pastV (thrK P k) ((thrK P k).getD k default).na,nb:=pastV (setA (thrK P k) k (pastV (thrK P k) ((thrK P k).getD k default).na)) ((thrK P k).getD k default).nb }:=by
 have hl:k<(thrK P k).length:=by rw [thrK_len];exact hk
 rw [thrK,pastV_set hl _ d (by omega) hb,List.set_set]
 unfold thrN
 rw [if_pos h6]
theorem thrK_o {P:List Nod} {k:Nat} (h6:((thrK P k).getD k default).kd≠6):thrK P (k+1)=setA (thrK P k) k (pastV (thrK P k) ((thrK P k).getD k default).na):=by
 rw [thrK]
 unfold thrN
 rw [if_neg h6]
theorem setA_mem {L:List Nod} {i:Nat} {u:Int} {p:Nod→Prop} (h:∀ n∈L,p n) (hi:p { L.getD i default with na:=u }):∀ n∈setA L i u,p n:=by
 intro n hn
 rcases List.mem_or_eq_of_mem_set hn with q | q
 ·exact h n q
 ·rw [q];exact hi
theorem setA_desc {L:List Nod} {i K:Nat} {u:Int} (hi:i<L.length) (d:Desc L K) (u0:0≤u) (u1:u≤i):Desc (setA L i u) K:=by
 intro j hj
 by_cases e:i=j
 ·subst e;rw [setA_at hi];exact ⟨u0,u1⟩
 ·rw [setA_o hi u e];exact d j hj
theorem setA_len (L:List Nod) (i:Nat) (u:Int):(setA L i u).length=L.length:=List.length_set
theorem itL_w {l:List Nod} (wl:∀ n∈l,n.w.length≤100000∧n.b.length≤100000) (k:Nat):∀ n∈itL l k,n.w.length≤100000∧n.b.length≤100000:=itL_mem wl (fun n u v _ h=>h) (fun a c _ hc _=>hc) k
noncomputable def fpads_l_I (l:List Nod) (k:Nat):VS:=stt 39 [(0,.own 100000),(3,bv (padB l k)),(6,.own 100000),(7,i64 l.length),(8,i64 k)] [(100000,.slc 82 19 ((padK l k).map nodC))]
noncomputable def fpads_l_Z (l:List Nod):VS:=fpads_l_I l (l.length)
theorem fpads_l_s (l:List Nod) (o:orderedB l=true) (hl:l.length≤1000) (okl:∀ n∈l,n.Ok) (wl:∀ n∈l,n.w.length≤100000∧n.b.length≤100000) (k:Nat) (hk:k<l.length):VT Tryz.prog (fnC Tryz.f41 [1,1,0,1,0,0]) (fpads_l_I l k) .normal (fpads_l_I l (k+1)):=by
 have q1:=padK_len l k
 have q2:=padK_mem o okl (fun a c ha hc hf=>ha.took hc hf) k (by omega)
 have q3:=padK_mem o wl (fun a c ha hc hf=>hc) k (by omega)
 have q4:=padK_get o k (by omega) k hk
 rw [if_neg (Nat.lt_irrefl k)] at q4
 have q5:=(ord_iff.1 o) k hk
 have q6:0≤((padK l k).getD k default).na∧((padK l k).getD k default).na≤k:=by rw [q4];exact ⟨q5.1,q5.2.1⟩
 have q7:=getD_in q2 (i:=k) (by omega)
 have q8:=getD_in q3 (i:=k) (by omega)
 have q9:=fun (h:((padK l k).getD k default).na > 0)=>getD_in q2 (i:=(((padK l k).getD k default).na-1).toNat) (by omega)
 have qa:=fun (h:((padK l k).getD k default).na > 0)=>getD_in q3 (i:=(((padK l k).getD k default).na-1).toNat) (by omega)
 have qb:(List.map nodC (padK l k)).length=l.length:=by rw [List.length_map,q1]
 have qc:((padK l k).getD k default).na > 0→fitsN ((padK l k).getD (((padK l k).getD k default).na-1).toNat default) ((padK l k).getD k default)=true→padK l (k+1)=(padK l k).set k (tookN ((padK l k).getD (((padK l k).getD k default).na-1).toNat default) ((padK l k).getD k default))∧padB l (k+1)=true:=fun h1 h2=>by rw [padK,padN,if_pos ⟨h1,h2⟩,padB,hitP,decide_eq_true (show 0<((padK l k).getD k default).na from h1),h2];simp
 have qd:¬ (((padK l k).getD k default).na > 0∧fitsN ((padK l k).getD (((padK l k).getD k default).na-1).toNat default) ((padK l k).getD k default)=true)→padK l (k+1)=padK l k∧padB l (k+1)=padB l k:=fun h1=>by
  rw [padK,padN,if_neg h1,set_self _ _ (by omega),padB]
  have:hitP (padK l k) ((padK l k).getD k default)=false:=by
   cases e:hitP (padK l k) ((padK l k).getD k default) with
   | false=>rfl
   | true=>unfold hitP at e;simp only [Bool.and_eq_true,decide_eq_true_eq] at e;exact absurd e h1
  rw [this,Bool.or_false];exact ⟨rfl,rfl⟩
 have oz0:=(decide_eq_true (p:=((↑k:Int)<(↑l.length:Int))) (by omega))
 have oz1:=(show 0≤(↑k:Int) by omega)
 have oz2:=(show (↑k:Int)<(↑(List.map nodC (padK l k)).length:Int) by omega)
 have oz3:=(map_at (nodC) (default) (l:=padK l k) (i:=k) (by omega))
 have oz4:=(i6n (((padK l k).getD k default).na-1) (by omega))
 have oz5:=(show decide (((padK l k).getD k default).na > 0)=true→0≤((padK l k).getD k default).na-1 from (fun hc0=>have gc0:((padK l k).getD k default).na > 0:=(by first | exact hc0 | exact of_decide_eq_true hc0 | exact of_decide_eq_false hc0 | simpa [eqNums] using hc0 | (simp [eqNums] at hc0 ⊢;first | done | assumption | omega));(by omega)))
 have oz6:=(show decide (((padK l k).getD k default).na > 0)=true→((padK l k).getD k default).na-1<(↑(List.map nodC (padK l k)).length:Int) from (fun hc0=>have gc0:((padK l k).getD k default).na > 0:=(by first | exact hc0 | exact of_decide_eq_true hc0 | exact of_decide_eq_false hc0 | simpa [eqNums] using hc0 | (simp [eqNums] at hc0 ⊢;first | done | assumption | omega));(by omega)))
 have oz7:=(map_at (nodC) (default) (l:=padK l k) (i:=(((padK l k).getD k default).na-1).toNat) (by omega))
 have oz8:=(show decide (((padK l k).getD k default).na > 0)=true→VC Tryz.prog 92 (List.map (fun (x:Operand)=>(evV (VS.mk [AV.own 100000,AV.any,AV.any,bv (padB l k),i64 (↑k:Int),AV.ptr 5 0 0,AV.own 100000,i64 (↑l.length:Int),i64 (↑k:Int),bv (decide ((↑k:Int)<(↑l.length:Int))),i64 (↑k:Int),AV.ptr 100000 (↑k:Int).toNat 0,AV.agg [i64 ((padK l k).getD k default).kd,i64 ((padK l k).getD k default).na,i64 ((padK l k).getD k default).nb,i64 ((padK l k).getD k default).nk,i64 ((padK l k).getD k default).ns,i64 ((padK l k).getD k default).np,i64 ((padK l k).getD k default).no,i8 ((padK l k).getD k default).za,i8 ((padK l k).getD k default).zb,AV.sl 1 (List.map (row1 IntKind.i8) ((padK l k).getD k default).w),AV.sl 1 (List.map (row1 IntKind.i32) ((padK l k).getD k default).b),i32 ((padK l k).getD k default).qm,i64 ((padK l k).getD k default).qs,i8 ((padK l k).getD k default).qz,i32 ((padK l k).getD k default).rm,i64 ((padK l k).getD k default).rs,i8 ((padK l k).getD k default).rz,i8 ((padK l k).getD k default).lo,i8 ((padK l k).getD k default).hi],AV.ptr 5 0 1,i64 ((padK l k).getD k default).na,bv (decide (((padK l k).getD k default).na > 0)),bv (decide (((padK l k).getD k default).na > 0)),AV.opt (decide (((padK l k).getD k default).na > 0)) 16 true (AV.own 100000),AV.opt (decide (((padK l k).getD k default).na > 0)) 16 true (AV.ptr 5 0 1),AV.opt (decide (((padK l k).getD k default).na > 0)) 16 true (i64 ((padK l k).getD k default).na),AV.opt (decide (((padK l k).getD k default).na > 0)) 16 true (i64 (((padK l k).getD k default).na-1)),AV.opt (decide (((padK l k).getD k default).na > 0)) 16 true (AV.ptr 100000 (((padK l k).getD k default).na-1).toNat 0),AV.opt (decide (((padK l k).getD k default).na > 0)) 16 true (AV.agg [i64 ((padK l k).getD (((padK l k).getD k default).na-1).toNat default).kd,i64 ((padK l k).getD (((padK l k).getD k default).na-1).toNat default).na,i64 ((padK l k).getD (((padK l k).getD k default).na-1).toNat default).nb,i64 ((padK l k).getD (((padK l k).getD k default).na-1).toNat default).nk,i64 ((padK l k).getD (((padK l k).getD k default).na-1).toNat default).ns,i64 ((padK l k).getD (((padK l k).getD k default).na-1).toNat default).np,i64 ((padK l k).getD (((padK l k).getD k default).na-1).toNat default).no,i8 ((padK l k).getD (((padK l k).getD k default).na-1).toNat default).za,i8 ((padK l k).getD (((padK l k).getD k default).na-1).toNat default).zb,AV.sl 1 (List.map (row1 IntKind.i8) ((padK l k).getD (((padK l k).getD k default).na-1).toNat default).w),AV.sl 1 (List.map (row1 IntKind.i32) ((padK l k).getD (((padK l k).getD k default).na-1).toNat default).b),i32 ((padK l k).getD (((padK l k).getD k default).na-1).toNat default).qm,i64 ((padK l k).getD (((padK l k).getD k default).na-1).toNat default).qs,i8 ((padK l k).getD (((padK l k).getD k default).na-1).toNat default).qz,i32 ((padK l k).getD (((padK l k).getD k default).na-1).toNat default).rm,i64 ((padK l k).getD (((padK l k).getD k default).na-1).toNat default).rs,i8 ((padK l k).getD (((padK l k).getD k default).na-1).toNat default).rz,i8 ((padK l k).getD (((padK l k).getD k default).na-1).toNat default).lo,i8 ((padK l k).getD (((padK l k).getD k default).na-1).toNat default).hi]),AV.opt (decide (((padK l k).getD k default).na > 0)) 16 true (AV.agg [i64 ((padK l k).getD k default).kd,i64 ((padK l k).getD k default).na,i64 ((padK l k).getD k default).nb,i64 ((padK l k).getD k default).nk,i64 ((padK l k).getD k default).ns,i64 ((padK l k).getD k default).np,i64 ((padK l k).getD k default).no,i8 ((padK l k).getD k default).za,i8 ((padK l k).getD k default).zb,AV.sl 1 (List.map (row1 IntKind.i8) ((padK l k).getD k default).w),AV.sl 1 (List.map (row1 IntKind.i32) ((padK l k).getD k default).b),i32 ((padK l k).getD k default).qm,i64 ((padK l k).getD k default).qs,i8 ((padK l k).getD k default).qz,i32 ((padK l k).getD k default).rm,i64 ((padK l k).getD k default).rs,i8 ((padK l k).getD k default).rz,i8 ((padK l k).getD k default).lo,i8 ((padK l k).getD k default).hi]),AV.any,AV.any,AV.any,AV.any,AV.any,AV.any,AV.any,AV.any,AV.any,AV.any,AV.any,AV.any,AV.any,AV.any,AV.any] [(100000,Blk.slc 82 19 (List.map nodC (padK l k))),(5,Blk.var [i64 ((padK l k).getD k default).kd,i64 ((padK l k).getD k default).na,i64 ((padK l k).getD k default).nb,i64 ((padK l k).getD k default).nk,i64 ((padK l k).getD k default).ns,i64 ((padK l k).getD k default).np,i64 ((padK l k).getD k default).no,i8 ((padK l k).getD k default).za,i8 ((padK l k).getD k default).zb,AV.sl 1 (List.map (row1 IntKind.i8) ((padK l k).getD k default).w),AV.sl 1 (List.map (row1 IntKind.i32) ((padK l k).getD k default).b),i32 ((padK l k).getD k default).qm,i64 ((padK l k).getD k default).qs,i8 ((padK l k).getD k default).qz,i32 ((padK l k).getD k default).rm,i64 ((padK l k).getD k default).rs,i8 ((padK l k).getD k default).rz,i8 ((padK l k).getD k default).lo,i8 ((padK l k).getD k default).hi])]).t x).strip) #[Operand.tmp 22,Operand.tmp 23].toList++[]) (bv (fitsN ((padK l k).getD (((padK l k).getD k default).na-1).toNat default) ((padK l k).getD k default))) from (fun hc0=>have gc0:((padK l k).getD k default).na > 0:=(by first | exact hc0 | exact of_decide_eq_true hc0 | exact of_decide_eq_false hc0 | simpa [eqNums] using hc0 | (simp [eqNums] at hc0 ⊢;first | done | assumption | omega));(@fits_v ((padK l k).getD (((padK l k).getD k default).na-1).toNat default) ((padK l k).getD k default) (by (exact q9 (by omega))) q7 (by omega) (by omega) (by omega) (by omega))))
 rcases bft (decide (((padK l k).getD k default).na > 0)&&fitsN ((padK l k).getD (((padK l k).getD k default).na-1).toNat default) ((padK l k).getD k default)) with hc0 | hc0
 ·have gc0:((padK l k).getD k default).na > 0∧fitsN ((padK l k).getD (((padK l k).getD k default).na-1).toNat default) ((padK l k).getD k default)=true:=by first | (simp only [Bool.or_eq_true,Bool.or_eq_false_iff,Bool.and_eq_true,Bool.and_eq_false_iff,Bool.not_eq_true',Bool.not_eq_false',decide_eq_true_eq,decide_eq_false_iff_not,beq_iff_eq,bne_iff_ne,ne_eq,beq_eq_false_iff_ne,bne_eq_false_iff_eq,eqNums,Bool.and_true] at hc0;first | exact hc0 | omega) | simpa using hc0 | (simp at hc0 ⊢;omega) | (apply cbc;intro hn;simp_all [eqNums];done) | (apply cbc;intro hn;simp [eqNums] at hc0 hn;omega)
  have oz14 := @fpadded_v ((padK l k).getD (((padK l k).getD k default).na-1).toNat default) ((padK l k).getD k default) (by (exact q9 (by omega))) q7 (by omega) (by omega) (by omega) (by omega) (by (exact (Bool.and_eq_true_iff.1 (by assumption)).2))
  exact VT.run (W:=[.r [] [],.br true,.r [] [.row (sO oz3)],.r [] [.op false,.op false,.op false,.op false,.n (nO oz4),.op true,.op false,.row (sO oz7),.op false,.op true,.callr (bv (fitsN ((padK l k).getD (((padK l k).getD k default).na-1).toNat default) ((padK l k).getD k default))),.sel 2],.br true,.r [] [.n (nO oz4),.row (sO oz7),.callr (rO oz14),.nat 0],.r [] [.n ((↑k:Int)+1)]]) (G:=[.any (rg [(4,2),(9,8),(25,13)]),.drop [5],.weak 3 (bv (padB l (k+1))),.weak 8 (i64 (↑(k+1):Int)),.blk 100000 (Blk.slc 82 19 (List.map nodC (padK l (k+1)))),.sort]) (by kernel_rfl) (.c oz0<|.c oz1<|.c oz2<|.c oz3<|.c oz4<|.c oz5<|.c oz6<|.c oz7<|.c oz8<|.c hc0<|.c oz4<|.c (show 0≤((padK l k).getD k default).na-1 by omega)<|.c (show ((padK l k).getD k default).na-1<(↑(List.map nodC (padK l k)).length:Int) by omega)<|.c oz7<|.c oz14<|.c oz1<|.c oz2<|.c (show (↑k:Int).toNat<(List.map nodC (padK l k)).length by omega)<|.c (i6n ((↑k:Int)+1) (by omega))<|.c (show Weak (bv true) (bv (padB l (k+1))) from (Weak.bool (show ((true):Bool)=(padB l (k+1)) from (by (rw [(qc (by omega) (Bool.and_eq_true_iff.1 (by assumption)).2).2])))))<|.c (Weak.int (k:=.i64) (show (((↑k:Int)+1):Int)=((↑(k+1):Int)) from (by omega)))<|.c (show BlkW (Blk.slc 82 19 ((List.map nodC (padK l k)).set (↑k:Int).toNat [i64 (tookN ((padK l k).getD (((padK l k).getD k default).na-1).toNat default) ((padK l k).getD k default)).kd,i64 (tookN ((padK l k).getD (((padK l k).getD k default).na-1).toNat default) ((padK l k).getD k default)).na,i64 (tookN ((padK l k).getD (((padK l k).getD k default).na-1).toNat default) ((padK l k).getD k default)).nb,i64 (tookN ((padK l k).getD (((padK l k).getD k default).na-1).toNat default) ((padK l k).getD k default)).nk,i64 (tookN ((padK l k).getD (((padK l k).getD k default).na-1).toNat default) ((padK l k).getD k default)).ns,i64 (tookN ((padK l k).getD (((padK l k).getD k default).na-1).toNat default) ((padK l k).getD k default)).np,i64 (tookN ((padK l k).getD (((padK l k).getD k default).na-1).toNat default) ((padK l k).getD k default)).no,i8 (tookN ((padK l k).getD (((padK l k).getD k default).na-1).toNat default) ((padK l k).getD k default)).za,i8 (tookN ((padK l k).getD (((padK l k).getD k default).na-1).toNat default) ((padK l k).getD k default)).zb,AV.sl 1 (List.map (row1 IntKind.i8) (tookN ((padK l k).getD (((padK l k).getD k default).na-1).toNat default) ((padK l k).getD k default)).w),AV.sl 1 (List.map (row1 IntKind.i32) (tookN ((padK l k).getD (((padK l k).getD k default).na-1).toNat default) ((padK l k).getD k default)).b),i32 (tookN ((padK l k).getD (((padK l k).getD k default).na-1).toNat default) ((padK l k).getD k default)).qm,i64 (tookN ((padK l k).getD (((padK l k).getD k default).na-1).toNat default) ((padK l k).getD k default)).qs,i8 (tookN ((padK l k).getD (((padK l k).getD k default).na-1).toNat default) ((padK l k).getD k default)).qz,i32 (tookN ((padK l k).getD (((padK l k).getD k default).na-1).toNat default) ((padK l k).getD k default)).rm,i64 (tookN ((padK l k).getD (((padK l k).getD k default).na-1).toNat default) ((padK l k).getD k default)).rs,i8 (tookN ((padK l k).getD (((padK l k).getD k default).na-1).toNat default) ((padK l k).getD k default)).rz,i8 (tookN ((padK l k).getD (((padK l k).getD k default).na-1).toNat default) ((padK l k).getD k default)).lo,i8 (tookN ((padK l k).getD (((padK l k).getD k default).na-1).toNat default) ((padK l k).getD k default)).hi])) (Blk.slc 82 19 (List.map nodC (padK l (k+1)))) from (BlkW.rows (rows_to (nodC) (r:=(List.map nodC (padK l k)).set (↑k:Int).toNat [i64 (tookN ((padK l k).getD (((padK l k).getD k default).na-1).toNat default) ((padK l k).getD k default)).kd,i64 (tookN ((padK l k).getD (((padK l k).getD k default).na-1).toNat default) ((padK l k).getD k default)).na,i64 (tookN ((padK l k).getD (((padK l k).getD k default).na-1).toNat default) ((padK l k).getD k default)).nb,i64 (tookN ((padK l k).getD (((padK l k).getD k default).na-1).toNat default) ((padK l k).getD k default)).nk,i64 (tookN ((padK l k).getD (((padK l k).getD k default).na-1).toNat default) ((padK l k).getD k default)).ns,i64 (tookN ((padK l k).getD (((padK l k).getD k default).na-1).toNat default) ((padK l k).getD k default)).np,i64 (tookN ((padK l k).getD (((padK l k).getD k default).na-1).toNat default) ((padK l k).getD k default)).no,i8 (tookN ((padK l k).getD (((padK l k).getD k default).na-1).toNat default) ((padK l k).getD k default)).za,i8 (tookN ((padK l k).getD (((padK l k).getD k default).na-1).toNat default) ((padK l k).getD k default)).zb,AV.sl 1 (List.map (row1 IntKind.i8) (tookN ((padK l k).getD (((padK l k).getD k default).na-1).toNat default) ((padK l k).getD k default)).w),AV.sl 1 (List.map (row1 IntKind.i32) (tookN ((padK l k).getD (((padK l k).getD k default).na-1).toNat default) ((padK l k).getD k default)).b),i32 (tookN ((padK l k).getD (((padK l k).getD k default).na-1).toNat default) ((padK l k).getD k default)).qm,i64 (tookN ((padK l k).getD (((padK l k).getD k default).na-1).toNat default) ((padK l k).getD k default)).qs,i8 (tookN ((padK l k).getD (((padK l k).getD k default).na-1).toNat default) ((padK l k).getD k default)).qz,i32 (tookN ((padK l k).getD (((padK l k).getD k default).na-1).toNat default) ((padK l k).getD k default)).rm,i64 (tookN ((padK l k).getD (((padK l k).getD k default).na-1).toNat default) ((padK l k).getD k default)).rs,i8 (tookN ((padK l k).getD (((padK l k).getD k default).na-1).toNat default) ((padK l k).getD k default)).rz,i8 (tookN ((padK l k).getD (((padK l k).getD k default).na-1).toNat default) ((padK l k).getD k default)).lo,i8 (tookN ((padK l k).getD (((padK l k).getD k default).na-1).toNat default) ((padK l k).getD k default)).hi]) (l:=(padK l k).set (↑k:Int).toNat (Nod.mk (tookN ((padK l k).getD (((padK l k).getD k default).na-1).toNat default) ((padK l k).getD k default)).kd (tookN ((padK l k).getD (((padK l k).getD k default).na-1).toNat default) ((padK l k).getD k default)).na (tookN ((padK l k).getD (((padK l k).getD k default).na-1).toNat default) ((padK l k).getD k default)).nb (tookN ((padK l k).getD (((padK l k).getD k default).na-1).toNat default) ((padK l k).getD k default)).nk (tookN ((padK l k).getD (((padK l k).getD k default).na-1).toNat default) ((padK l k).getD k default)).ns (tookN ((padK l k).getD (((padK l k).getD k default).na-1).toNat default) ((padK l k).getD k default)).np (tookN ((padK l k).getD (((padK l k).getD k default).na-1).toNat default) ((padK l k).getD k default)).no (tookN ((padK l k).getD (((padK l k).getD k default).na-1).toNat default) ((padK l k).getD k default)).za (tookN ((padK l k).getD (((padK l k).getD k default).na-1).toNat default) ((padK l k).getD k default)).zb (tookN ((padK l k).getD (((padK l k).getD k default).na-1).toNat default) ((padK l k).getD k default)).w (tookN ((padK l k).getD (((padK l k).getD k default).na-1).toNat default) ((padK l k).getD k default)).b (tookN ((padK l k).getD (((padK l k).getD k default).na-1).toNat default) ((padK l k).getD k default)).qm (tookN ((padK l k).getD (((padK l k).getD k default).na-1).toNat default) ((padK l k).getD k default)).qs (tookN ((padK l k).getD (((padK l k).getD k default).na-1).toNat default) ((padK l k).getD k default)).qz (tookN ((padK l k).getD (((padK l k).getD k default).na-1).toNat default) ((padK l k).getD k default)).rm (tookN ((padK l k).getD (((padK l k).getD k default).na-1).toNat default) ((padK l k).getD k default)).rs (tookN ((padK l k).getD (((padK l k).getD k default).na-1).toNat default) ((padK l k).getD k default)).rz (tookN ((padK l k).getD (((padK l k).getD k default).na-1).toNat default) ((padK l k).getD k default)).lo (tookN ((padK l k).getD (((padK l k).getD k default).na-1).toNat default) ((padK l k).getD k default)).hi)) (m:=padK l (k+1)) (by first | (simp only [List.map_append,List.map_cons,List.map_nil,List.map_set,List.map_replicate,List.map_take,List.map_drop];done) | rfl | (simp only [List.map_append,List.map_cons,List.map_nil,List.map_set,List.map_replicate,List.map_take,List.map_drop];rfl) | (simp only [List.map_append,List.map_cons,List.map_nil,List.map_set,List.map_replicate,List.map_take,List.map_drop,nodC,ints];done)) (show ((padK l k).set (↑k:Int).toNat (Nod.mk (tookN ((padK l k).getD (((padK l k).getD k default).na-1).toNat default) ((padK l k).getD k default)).kd (tookN ((padK l k).getD (((padK l k).getD k default).na-1).toNat default) ((padK l k).getD k default)).na (tookN ((padK l k).getD (((padK l k).getD k default).na-1).toNat default) ((padK l k).getD k default)).nb (tookN ((padK l k).getD (((padK l k).getD k default).na-1).toNat default) ((padK l k).getD k default)).nk (tookN ((padK l k).getD (((padK l k).getD k default).na-1).toNat default) ((padK l k).getD k default)).ns (tookN ((padK l k).getD (((padK l k).getD k default).na-1).toNat default) ((padK l k).getD k default)).np (tookN ((padK l k).getD (((padK l k).getD k default).na-1).toNat default) ((padK l k).getD k default)).no (tookN ((padK l k).getD (((padK l k).getD k default).na-1).toNat default) ((padK l k).getD k default)).za (tookN ((padK l k).getD (((padK l k).getD k default).na-1).toNat default) ((padK l k).getD k default)).zb (tookN ((padK l k).getD (((padK l k).getD k default).na-1).toNat default) ((padK l k).getD k default)).w (tookN ((padK l k).getD (((padK l k).getD k default).na-1).toNat default) ((padK l k).getD k default)).b (tookN ((padK l k).getD (((padK l k).getD k default).na-1).toNat default) ((padK l k).getD k default)).qm (tookN ((padK l k).getD (((padK l k).getD k default).na-1).toNat default) ((padK l k).getD k default)).qs (tookN ((padK l k).getD (((padK l k).getD k default).na-1).toNat default) ((padK l k).getD k default)).qz (tookN ((padK l k).getD (((padK l k).getD k default).na-1).toNat default) ((padK l k).getD k default)).rm (tookN ((padK l k).getD (((padK l k).getD k default).na-1).toNat default) ((padK l k).getD k default)).rs (tookN ((padK l k).getD (((padK l k).getD k default).na-1).toNat default) ((padK l k).getD k default)).rz (tookN ((padK l k).getD (((padK l k).getD k default).na-1).toNat default) ((padK l k).getD k default)).lo (tookN ((padK l k).getD (((padK l k).getD k default).na-1).toNat default) ((padK l k).getD k default)).hi))=(padK l (k+1)) from (by (simp_all;done))))))<|.n)
 ·have gc0:¬((padK l k).getD k default).na > 0∨fitsN ((padK l k).getD (((padK l k).getD k default).na-1).toNat default) ((padK l k).getD k default)=false:=by first | (simp only [Bool.or_eq_true,Bool.or_eq_false_iff,Bool.and_eq_true,Bool.and_eq_false_iff,Bool.not_eq_true',Bool.not_eq_false',decide_eq_true_eq,decide_eq_false_iff_not,beq_iff_eq,bne_iff_ne,ne_eq,beq_eq_false_iff_ne,bne_eq_false_iff_eq,eqNums,Bool.and_true] at hc0;first | exact hc0 | omega) | simpa using hc0 | (simp at hc0 ⊢;omega) | (apply cbc;intro hn;simp_all [eqNums];done) | (apply cbc;intro hn;simp [eqNums] at hc0 hn;omega)
  exact VT.run (W:=[.r [] [],.br true,.r [] [.row (sO oz3)],.r [] [.op false,.op false,.op false,.op false,.n (nO oz4),.op true,.op false,.row (sO oz7),.op false,.op true,.callr (bv (fitsN ((padK l k).getD (((padK l k).getD k default).na-1).toNat default) ((padK l k).getD k default))),.sel 2],.br false,.r [] [.n ((↑k:Int)+1)]]) (G:=[.any (rg [(4,2),(9,8),(25,1),(37,1)]),.drop [5],.weak 3 (bv (padB l (k+1))),.weak 8 (i64 (↑(k+1):Int)),.blk 100000 (Blk.slc 82 19 (List.map nodC (padK l (k+1)))),.sort]) (by kernel_rfl) (.c oz0<|.c oz1<|.c oz2<|.c oz3<|.c oz4<|.c oz5<|.c oz6<|.c oz7<|.c oz8<|.c hc0<|.c (i6n ((↑k:Int)+1) (by omega))<|.c (show Weak (bv (padB l k)) (bv (padB l (k+1))) from (Weak.bool (show ((padB l k):Bool)=(padB l (k+1)) from (by (rw [(qd (by rintro ⟨h1,h2⟩;simp_all)).2])))))<|.c (Weak.int (k:=.i64) (show (((↑k:Int)+1):Int)=((↑(k+1):Int)) from (by omega)))<|.c (show BlkW (Blk.slc 82 19 (List.map nodC (padK l k))) (Blk.slc 82 19 (List.map nodC (padK l (k+1)))) from (BlkW.rows (rows_to (nodC) (r:=List.map nodC (padK l k)) (l:=padK l k) (m:=padK l (k+1)) rfl (show (padK l k)=(padK l (k+1)) from (by (rw [(qd (by rintro ⟨h1,h2⟩;simp_all)).1]))))))<|.n)
theorem fpads_l_e (l:List Nod) (o:orderedB l=true) (hl:l.length≤1000) (okl:∀ n∈l,n.Ok) (wl:∀ n∈l,n.w.length≤100000∧n.b.length≤100000):VT Tryz.prog (fnC Tryz.f41 [1,1,0,1,0,0]) (fpads_l_I l (l.length)) (.exit 0) (fpads_l_Z l):=by
 have qb:(List.map nodC (padK l l.length)).length=l.length:=by rw [List.length_map,padK_len]
 exact VT.run (W:=[.r [] [],.br false]) (G:=[.any [9],.sort]) (by kernel_rfl) (.c (decide_eq_false (p:=((↑l.length:Int)<(↑l.length:Int))) (by omega))<|.n)
theorem fpads_l (l:List Nod) (o:orderedB l=true) (hl:l.length≤1000) (okl:∀ n∈l,n.Ok) (wl:∀ n∈l,n.w.length≤100000∧n.b.length≤100000):VT Tryz.prog (fnC Tryz.f41 [1,1,0,1,0]) (fpads_l_I l 0) (.exit 0) (fpads_l_Z l) :=
 VT.loop (fun k=>fpads_l_I l k) (l.length) (fun k hk=>fpads_l_s l o hl okl wl k hk) (fpads_l_e l o hl okl wl) (by intro h;cases h)
theorem fpads_v (l:List Nod) (o:orderedB l=true) (hl:l.length≤1000) (okl:∀ n∈l,n.Ok) (wl:∀ n∈l,n.w.length≤100000∧n.b.length≤100000):VM Tryz.prog 41 ([.own 100000]) ([(100000,.slc 82 19 (l.map nodC))]) (bv (padB l l.length)) ([(100000,.slc 82 19 ((padK l l.length).map nodC))]):=by
 have qb:(List.map nodC l).length=l.length:=List.length_map _
 have oz4 := @fpads_l (l) o hl okl wl
 exact VM.run (fn:=Tryz.f41) (W:=[.r [] [],.r [] [],.r [] [],.code [.any [2],.weak 3 (bv (padB l 0)),.weak 7 (i64 (↑l.length:Int)),.weak 8 (i64 (↑0:Int)),.blk 100000 (Blk.slc 82 19 (List.map nodC (padK l 0))),.sort] (Exit.exit 0) (zO oz4),.r [] []]) (G:=[.sort]) Tryz.func41 (by kernel_rfl) (.c (show Weak (bv false) (bv (padB l 0)) from (Weak.bool (show ((false):Bool)=(padB l 0) from (by rfl))))<|.c (Weak.int (k:=.i64) (show (((↑(List.map nodC l).length:Int)):Int)=((↑l.length:Int)) from (by omega)))<|.c (Weak.int (k:=.i64) (show ((0):Int)=((↑0:Int)) from (by omega)))<|.c (show BlkW (Blk.slc 82 19 (List.map nodC l)) (Blk.slc 82 19 (List.map nodC (padK l 0))) from (BlkW.rows (rows_to (nodC) (r:=List.map nodC l) (l:=l) (m:=padK l 0) rfl (show (l)=(padK l 0) from (by rfl)))))<|.c oz4<|.n)
theorem setA_self {L:List Nod} {i:Nat} (hi:i<L.length):setA L i (L.getD i default).na=L:=set_self L i hi
theorem setB_self {L:List Nod} {i:Nat} (hi:i<L.length):setB L i (L.getD i default).nb=L:=set_self L i hi
theorem setB_at {L:List Nod} {i:Nat} (hi:i<L.length) (u:Int):(setB L i u).getD i default={ L.getD i default with nb:=u }:=by rw [getD_setN _ _ _ _ hi,if_pos rfl]
theorem setB_o {L:List Nod} {i j:Nat} (hi:i<L.length) (u:Int) (h:i≠j):(setB L i u).getD j default=L.getD j default:=by rw [getD_setN _ _ _ _ hi,if_neg h]
theorem skipA_step {L:List Nod} {i:Nat} (hi:i<L.length) {u:Int} (h0:0<u) (h1:u≤i) :
  (setA L i u).set i { (setA L i u).getD i default with na:=((setA L i u).getD (((setA L i u).getD i default).na-1).toNat default).na }=setA L i (L.getD (u-1).toNat default).na:=by
 rw [setA_at hi]
 dsimp only
 rw [setA_o hi u (by omega),List.set_set]
theorem skipB_step {L:List Nod} {i:Nat} (hi:i<L.length) {u:Int} (h0:0<u) (h1:u≤i) :
  (setB L i u).set i { (setB L i u).getD i default with nb:=((setB L i u).getD (((setB L i u).getD i default).nb-1).toNat default).na }=setB L i (L.getD (u-1).toNat default).na:=by
 rw [setB_at hi]
 dsimp only
 rw [setB_o hi u (by omega),List.set_set]
theorem setB_len (L:List Nod) (i:Nat) (u:Int):(setB L i u).length=L.length:=List.length_set
def setAK (L:List Nod) (i:Nat):Nat→List Nod
 | 0=>L
 | k+1=>setA L i (itV L (L.getD i default).na (k+1))
def setBK (L:List Nod) (i:Nat):Nat→List Nod
 | 0=>L
 | k+1=>setB L i (itV L (L.getD i default).nb (k+1))
def flagK (c:Bool):Nat→Bool
 | 0=>c
 | _+1=>true
theorem setAK_eq {L:List Nod} {i:Nat} (hi:i<L.length):∀ k,setAK L i k=setA L i (itV L (L.getD i default).na k)
 | 0=>(setA_self hi).symm
 | _+1=>rfl
theorem setBK_eq {L:List Nod} {i:Nat} (hi:i<L.length):∀ k,setBK L i k=setB L i (itV L (L.getD i default).nb k)
 | 0=>(setB_self hi).symm
 | _+1=>rfl
theorem flagK_eq (c:Bool):∀ k,flagK c k=(c || decide (0<k))
 | 0=>by simp [flagK]
 | k+1=>by simp [flagK]
structure SkOk (L:List Nod) (i:Nat) (v:Int) (m:Nat):Prop where
 hi:i<L.length
 hl:L.length≤1000
 p:PastRun L v m
 v1:v≤i
 ok:∀ n∈L,n.Ok
 wl:∀ n∈L,n.w.length≤100000∧n.b.length≤100000
noncomputable def skipA_l_I (L:List Nod) (i m:Nat) (c:Bool) (k:Nat):VS:=stt 28 [(0,.ptr 100000 i 1),(1,.ptr 100001 0 0),(2,.ptr 100002 0 0)] [(100000,.slc 82 19 ((setAK L i k).map nodC)),(100001,.var [.own 100000]),(100002,.var [bv (flagK c k)])]
noncomputable def skipA_l_Z (L:List Nod) (i m:Nat) (c:Bool):VS:=skipA_l_I L i m c (m)
theorem skipA_l_s (L:List Nod) (i m:Nat) (c:Bool) (h:SkOk L i (L.getD i default).na m) (k:Nat) (hk:k<m):VT Tryz.prog (fnC Tryz.f94 [0,0]) (skipA_l_I L i m c k) .normal (skipA_l_I L i m c (k+1)):=by
 obtain ⟨h1,h2,h3,h4,h5,h6⟩:=id h
 have b1:=h3.b k (by omega)
 have y1:=h3.y k hk
 simp only [Bool.and_eq_true,decide_eq_true_eq] at y1
 have e0:=setAK_eq h1 k
 have e1:((setAK L i k).getD i default).na=itV L (L.getD i default).na k:=by rw [e0,setA_at h1]
 have e2:(setAK L i k).getD (((setAK L i k).getD i default).na-1).toNat default=L.getD (itV L (L.getD i default).na k-1).toNat default:=by rw [e1,e0,setA_o h1 _ (by omega)]
 have e3:sameN ((setAK L i k).getD (((setAK L i k).getD i default).na-1).toNat default)=true:=by rw [e2];exact y1.2
 have e4:((setAK L i k).getD (((setAK L i k).getD i default).na-1).toNat default).Ok:=by rw [e2];exact getD_in h5 (by omega)
 have e5:((setAK L i k).getD (((setAK L i k).getD i default).na-1).toNat default).w.length≤100000:=by rw [e2];exact (getD_in h6 (by omega)).1
 have e6:((setAK L i k).getD (((setAK L i k).getD i default).na-1).toNat default).b.length≤100000:=by rw [e2];exact (getD_in h6 (by omega)).2
 have e7:(setAK L i k).length=L.length:=by rw [e0,setA_len]
 have e8:(setAK L i k).set i { (setAK L i k).getD i default with na:=((setAK L i k).getD (((setAK L i k).getD i default).na-1).toNat default).na }=setAK L i (k+1):=by rw [e0];exact skipA_step h1 y1.1 (show itV L (L.getD i default).na k≤i by omega)
 have e9:(List.map nodC (setAK L i k)).length=L.length:=by rw [List.length_map,e7]
 have oz0:=(map_at (nodC) (default) (l:=setAK L i k) (i:=i) (by omega))
 have oz1:=(decide_eq_true (p:=(((setAK L i k).getD i default).na > 0)) (by omega))
 have oz7:=(i6n (((setAK L i k).getD i default).na-1) (by omega))
 have oz9:=(show 0≤((setAK L i k).getD i default).na-1 by omega)
 have oz10:=(show ((setAK L i k).getD i default).na-1<(↑(List.map nodC (setAK L i k)).length:Int) by omega)
 have oz12:=(map_at (nodC) (default) (l:=setAK L i k) (i:=(((setAK L i k).getD i default).na-1).toNat) (by omega))
 have oz14 := @fsame_v ((setAK L i k).getD (((setAK L i k).getD i default).na-1).toNat default) e4 e5 e6
 exact VT.run (W:=[.r [] [.row (sO oz0),.br true,.br true,.br true,.br true,.row (sO oz0),.br true,.n (nO oz7),.br true,.br true,.row (sO oz12),.br true,.callr (rO oz14),.br true],.br true,.r [] [.row (sO oz0),.n (nO oz7),.row (sO oz12),.row (sO oz0)]]) (G:=[.any (rg [(4,24)]),.blk 100000 (Blk.slc 82 19 (List.map nodC (setAK L i (k+1)))),.blk 100002 (Blk.var [bv (flagK c (k+1))]),.sort]) (by kernel_rfl) (.c oz0<|.c oz1<|.c oz1<|.c oz1<|.c oz1<|.c oz0<|.c oz1<|.c oz7<|.c oz1<|.c oz9<|.c oz10<|.c oz1<|.c oz12<|.c oz1<|.c oz14<|.c oz1<|.c e3<|.c oz0<|.c oz7<|.c oz9<|.c oz10<|.c oz12<|.c oz0<|.c (show BlkW (Blk.slc 82 19 ((List.map nodC (setAK L i k)).set i [i64 ((setAK L i k).getD i default).kd,i64 ((setAK L i k).getD (((setAK L i k).getD i default).na-1).toNat default).na,i64 ((setAK L i k).getD i default).nb,i64 ((setAK L i k).getD i default).nk,i64 ((setAK L i k).getD i default).ns,i64 ((setAK L i k).getD i default).np,i64 ((setAK L i k).getD i default).no,i8 ((setAK L i k).getD i default).za,i8 ((setAK L i k).getD i default).zb,AV.sl 1 (List.map (row1 IntKind.i8) ((setAK L i k).getD i default).w),AV.sl 1 (List.map (row1 IntKind.i32) ((setAK L i k).getD i default).b),i32 ((setAK L i k).getD i default).qm,i64 ((setAK L i k).getD i default).qs,i8 ((setAK L i k).getD i default).qz,i32 ((setAK L i k).getD i default).rm,i64 ((setAK L i k).getD i default).rs,i8 ((setAK L i k).getD i default).rz,i8 ((setAK L i k).getD i default).lo,i8 ((setAK L i k).getD i default).hi])) (Blk.slc 82 19 (List.map nodC (setAK L i (k+1)))) from (BlkW.rows (rows_to (nodC) (r:=(List.map nodC (setAK L i k)).set i [i64 ((setAK L i k).getD i default).kd,i64 ((setAK L i k).getD (((setAK L i k).getD i default).na-1).toNat default).na,i64 ((setAK L i k).getD i default).nb,i64 ((setAK L i k).getD i default).nk,i64 ((setAK L i k).getD i default).ns,i64 ((setAK L i k).getD i default).np,i64 ((setAK L i k).getD i default).no,i8 ((setAK L i k).getD i default).za,i8 ((setAK L i k).getD i default).zb,AV.sl 1 (List.map (row1 IntKind.i8) ((setAK L i k).getD i default).w),AV.sl 1 (List.map (row1 IntKind.i32) ((setAK L i k).getD i default).b),i32 ((setAK L i k).getD i default).qm,i64 ((setAK L i k).getD i default).qs,i8 ((setAK L i k).getD i default).qz,i32 ((setAK L i k).getD i default).rm,i64 ((setAK L i k).getD i default).rs,i8 ((setAK L i k).getD i default).rz,i8 ((setAK L i k).getD i default).lo,i8 ((setAK L i k).getD i default).hi]) (l:=(setAK L i k).set i (Nod.mk ((setAK L i k).getD i default).kd ((setAK L i k).getD (((setAK L i k).getD i default).na-1).toNat default).na ((setAK L i k).getD i default).nb ((setAK L i k).getD i default).nk ((setAK L i k).getD i default).ns ((setAK L i k).getD i default).np ((setAK L i k).getD i default).no ((setAK L i k).getD i default).za ((setAK L i k).getD i default).zb ((setAK L i k).getD i default).w ((setAK L i k).getD i default).b ((setAK L i k).getD i default).qm ((setAK L i k).getD i default).qs ((setAK L i k).getD i default).qz ((setAK L i k).getD i default).rm ((setAK L i k).getD i default).rs ((setAK L i k).getD i default).rz ((setAK L i k).getD i default).lo ((setAK L i k).getD i default).hi)) (m:=setAK L i (k+1)) (by first | (simp only [List.map_append,List.map_cons,List.map_nil,List.map_set,List.map_replicate,List.map_take,List.map_drop];done) | rfl | (simp only [List.map_append,List.map_cons,List.map_nil,List.map_set,List.map_replicate,List.map_take,List.map_drop];rfl) | (simp only [List.map_append,List.map_cons,List.map_nil,List.map_set,List.map_replicate,List.map_take,List.map_drop,nodC,ints];done)) (show ((setAK L i k).set i (Nod.mk ((setAK L i k).getD i default).kd ((setAK L i k).getD (((setAK L i k).getD i default).na-1).toNat default).na ((setAK L i k).getD i default).nb ((setAK L i k).getD i default).nk ((setAK L i k).getD i default).ns ((setAK L i k).getD i default).np ((setAK L i k).getD i default).no ((setAK L i k).getD i default).za ((setAK L i k).getD i default).zb ((setAK L i k).getD i default).w ((setAK L i k).getD i default).b ((setAK L i k).getD i default).qm ((setAK L i k).getD i default).qs ((setAK L i k).getD i default).qz ((setAK L i k).getD i default).rm ((setAK L i k).getD i default).rs ((setAK L i k).getD i default).rz ((setAK L i k).getD i default).lo ((setAK L i k).getD i default).hi))=(setAK L i (k+1)) from e8))))<|.c (show BlkW (Blk.var [bv true]) (Blk.var [bv (flagK c (k+1))]) from (BlkW.var (.cons (Weak.bool (show ((true):Bool)=(flagK c (k+1)) from (by rfl))) .nil)))<|.n)
theorem skipA_l_e (L:List Nod) (i m:Nat) (c:Bool) (h:SkOk L i (L.getD i default).na m):VT Tryz.prog (fnC Tryz.f94 [0,0]) (skipA_l_I L i m c (m)) (.exit 0) (skipA_l_Z L i m c):=by
 obtain ⟨h1,h2,h3,h4,h5,h6⟩:=id h
 have b1:=h3.b m (Nat.le_refl _)
 have y1:=h3.n
 have e0:=setAK_eq h1 m
 have e1:((setAK L i m).getD i default).na=itV L (L.getD i default).na m:=by rw [e0,setA_at h1]
 have e2:((setAK L i m).getD i default).na > 0→(setAK L i m).getD (((setAK L i m).getD i default).na-1).toNat default=L.getD (itV L (L.getD i default).na m-1).toNat default:=fun h=>by rw [e1,e0,setA_o h1 _ (by omega)]
 have e3:((setAK L i m).getD i default).na > 0→sameN ((setAK L i m).getD (((setAK L i m).getD i default).na-1).toNat default)=false:=fun h=>by rw [e2 h];rw [e1] at h;rw [decide_eq_true h,Bool.true_and] at y1;exact y1
 have e4:((setAK L i m).getD i default).na > 0→((setAK L i m).getD (((setAK L i m).getD i default).na-1).toNat default).Ok:=fun h=>by rw [e2 h];exact getD_in h5 (by omega)
 have e5:((setAK L i m).getD i default).na > 0→((setAK L i m).getD (((setAK L i m).getD i default).na-1).toNat default).w.length≤100000:=fun h=>by rw [e2 h];exact (getD_in h6 (by omega)).1
 have e6:((setAK L i m).getD i default).na > 0→((setAK L i m).getD (((setAK L i m).getD i default).na-1).toNat default).b.length≤100000:=fun h=>by rw [e2 h];exact (getD_in h6 (by omega)).2
 have e7:(setAK L i m).length=L.length:=by rw [e0,setA_len]
 have e9:(List.map nodC (setAK L i m)).length=L.length:=by rw [List.length_map,e7]
 have oz0:=(map_at (nodC) (default) (l:=setAK L i m) (i:=i) (by omega))
 have oz2:=(i6n (((setAK L i m).getD i default).na-1) (by omega))
 have oz5:=(map_at (nodC) (default) (l:=setAK L i m) (i:=(((setAK L i m).getD i default).na-1).toNat) (by omega))
 exact VT.run (W:=[.r [] [.row (sO oz0),.op false,.op false,.op false,.op false,.row (sO oz0),.op false,.n (nO oz2),.op true,.op false,.row (sO oz5),.op true,.callr (bv (sameN ((setAK L i m).getD (((setAK L i m).getD i default).na-1).toNat default))),.sel 2],.br false]) (G:=[.any (rg [(4,14)]),.sort]) (by kernel_rfl) (.c oz0<|.c oz0<|.c oz2<|.c (show decide (((setAK L i m).getD i default).na > 0)=true→0≤((setAK L i m).getD i default).na-1 from (fun hc0=>have gc0:((setAK L i m).getD i default).na > 0:=(by first | exact hc0 | exact of_decide_eq_true hc0 | exact of_decide_eq_false hc0 | simpa [eqNums] using hc0 | (simp [eqNums] at hc0 ⊢;first | done | assumption | omega));(by omega)))<|.c (show decide (((setAK L i m).getD i default).na > 0)=true→((setAK L i m).getD i default).na-1<(↑(List.map nodC (setAK L i m)).length:Int) from (fun hc0=>have gc0:((setAK L i m).getD i default).na > 0:=(by first | exact hc0 | exact of_decide_eq_true hc0 | exact of_decide_eq_false hc0 | simpa [eqNums] using hc0 | (simp [eqNums] at hc0 ⊢;first | done | assumption | omega));(by omega)))<|.c oz5<|.c (show decide (((setAK L i m).getD i default).na > 0)=true→VC Tryz.prog 34 (List.map (fun (x:Operand)=>(evV (VS.mk [AV.ptr 100000 i 1,AV.ptr 100001 0 0,AV.ptr 100002 0 0,AV.any,AV.ptr 100000 i 1,AV.ptr 100000 i 1,i64 ((setAK L i m).getD i default).na,bv (decide (((setAK L i m).getD i default).na > 0)),bv (decide (((setAK L i m).getD i default).na > 0)),AV.opt (decide (((setAK L i m).getD i default).na > 0)) 8 true (AV.own 100000),AV.opt (decide (((setAK L i m).getD i default).na > 0)) 8 true (AV.ptr 100000 i 1),AV.opt (decide (((setAK L i m).getD i default).na > 0)) 8 true (AV.ptr 100000 i 1),AV.opt (decide (((setAK L i m).getD i default).na > 0)) 8 true (i64 ((setAK L i m).getD i default).na),AV.opt (decide (((setAK L i m).getD i default).na > 0)) 8 true (i64 (((setAK L i m).getD i default).na-1)),AV.opt (decide (((setAK L i m).getD i default).na > 0)) 8 true (AV.ptr 100000 (((setAK L i m).getD i default).na-1).toNat 0),AV.opt (decide (((setAK L i m).getD i default).na > 0)) 8 true (AV.agg [i64 ((setAK L i m).getD (((setAK L i m).getD i default).na-1).toNat default).kd,i64 ((setAK L i m).getD (((setAK L i m).getD i default).na-1).toNat default).na,i64 ((setAK L i m).getD (((setAK L i m).getD i default).na-1).toNat default).nb,i64 ((setAK L i m).getD (((setAK L i m).getD i default).na-1).toNat default).nk,i64 ((setAK L i m).getD (((setAK L i m).getD i default).na-1).toNat default).ns,i64 ((setAK L i m).getD (((setAK L i m).getD i default).na-1).toNat default).np,i64 ((setAK L i m).getD (((setAK L i m).getD i default).na-1).toNat default).no,i8 ((setAK L i m).getD (((setAK L i m).getD i default).na-1).toNat default).za,i8 ((setAK L i m).getD (((setAK L i m).getD i default).na-1).toNat default).zb,AV.sl 1 (List.map (row1 IntKind.i8) ((setAK L i m).getD (((setAK L i m).getD i default).na-1).toNat default).w),AV.sl 1 (List.map (row1 IntKind.i32) ((setAK L i m).getD (((setAK L i m).getD i default).na-1).toNat default).b),i32 ((setAK L i m).getD (((setAK L i m).getD i default).na-1).toNat default).qm,i64 ((setAK L i m).getD (((setAK L i m).getD i default).na-1).toNat default).qs,i8 ((setAK L i m).getD (((setAK L i m).getD i default).na-1).toNat default).qz,i32 ((setAK L i m).getD (((setAK L i m).getD i default).na-1).toNat default).rm,i64 ((setAK L i m).getD (((setAK L i m).getD i default).na-1).toNat default).rs,i8 ((setAK L i m).getD (((setAK L i m).getD i default).na-1).toNat default).rz,i8 ((setAK L i m).getD (((setAK L i m).getD i default).na-1).toNat default).lo,i8 ((setAK L i m).getD (((setAK L i m).getD i default).na-1).toNat default).hi]),AV.any,AV.any,AV.any,AV.any,AV.any,AV.any,AV.any,AV.any,AV.any,AV.any,AV.any,AV.any] [(100000,Blk.slc 82 19 (List.map nodC (setAK L i m))),(100001,Blk.var [AV.own 100000]),(100002,Blk.var [bv (flagK c m)])]).t x).strip) #[Operand.tmp 15].toList++[]) (bv (sameN ((setAK L i m).getD (((setAK L i m).getD i default).na-1).toNat default))) from (fun hc0=>have gc0:((setAK L i m).getD i default).na > 0:=(by first | exact hc0 | exact of_decide_eq_true hc0 | exact of_decide_eq_false hc0 | simpa [eqNums] using hc0 | (simp [eqNums] at hc0 ⊢;first | done | assumption | omega));(@fsame_v ((setAK L i m).getD (((setAK L i m).getD i default).na-1).toNat default) (by (exact e4 (by omega))) (by omega) (by omega))))<|.c (show (decide (((setAK L i m).getD i default).na > 0)&&sameN ((setAK L i m).getD (((setAK L i m).getD i default).na-1).toNat default))=false by (simp at *;omega))<|.n)
theorem skipA_l (L:List Nod) (i m:Nat) (c:Bool) (h:SkOk L i (L.getD i default).na m):VT Tryz.prog (fnC Tryz.f94 [0]) (skipA_l_I L i m c 0) (.exit 0) (skipA_l_Z L i m c) :=
 VT.loop (fun k=>skipA_l_I L i m c k) (m) (fun k hk=>skipA_l_s L i m c h k hk) (skipA_l_e L i m c h) (by intro h;cases h)
theorem skipA_w (L:List Nod) (i m:Nat) (c:Bool) (h:SkOk L i (L.getD i default).na m):VM Tryz.prog 94 ([.ptr 100000 i 1,.ptr 100001 0 0,.ptr 100002 0 0]) ([(100000,.slc 82 19 (L.map nodC)),(100001,.var [.own 100000]),(100002,.var [bv c])]) (.tup []) ([(100000,.slc 82 19 ((setAK L i m).map nodC)),(100001,.var [.own 100000]),(100002,.var [bv (flagK c m)])]):=by
 have oz1 := @skipA_l (L) (i) (m) (c) h
 exact VM.run (fn:=Tryz.f94) (W:=[.code [.blk 100000 (Blk.slc 82 19 (List.map nodC (setAK L i 0))),.sort] (Exit.exit 0) (zO oz1)]) (G:=[.sort]) Tryz.func94 (by kernel_rfl) (.c (show BlkW (Blk.slc 82 19 (List.map nodC L)) (Blk.slc 82 19 (List.map nodC (setAK L i 0))) from (BlkW.rows (rows_to (nodC) (r:=List.map nodC L) (l:=L) (m:=setAK L i 0) rfl (show (L)=(setAK L i 0) from (by rfl)))))<|.c oz1<|.n)
theorem skipA_v (L:List Nod) (i:Nat) (c:Bool) (hi:i<L.length) (hl:L.length≤1000) (d:Desc L L.length) (v0:0≤(L.getD i default).na) (v1:(L.getD i default).na≤i) (ok:∀ n∈L,n.Ok) (wl:∀ n∈L,n.w.length≤100000∧n.b.length≤100000) :
  VM Tryz.prog 94 [.ptr 100000 i 1,.ptr 100001 0 0,.ptr 100002 0 0] [(100000,.slc 82 19 (L.map nodC)),(100001,.var [.own 100000]),(100002,.var [bv c])] (.tup [])
   [(100000,.slc 82 19 ((setA L i (pastV L (L.getD i default).na)).map nodC)),(100001,.var [.own 100000]),(100002,.var [bv (c || hitT L (L.getD i default).na)])]:=by
 obtain ⟨m,p⟩:=past_run d v0 (by omega)
 have:=skipA_w L i m c ⟨hi,hl,p,v1,ok,wl⟩
 rw [setAK_eq hi,p.e,flagK_eq,←p.h] at this
 exact this
noncomputable def skipB_l_I (L:List Nod) (i m:Nat) (c:Bool) (k:Nat):VS:=stt 28 [(0,.ptr 100000 i 2),(1,.ptr 100001 0 0),(2,.ptr 100002 0 0)] [(100000,.slc 82 19 ((setBK L i k).map nodC)),(100001,.var [.own 100000]),(100002,.var [bv (flagK c k)])]
noncomputable def skipB_l_Z (L:List Nod) (i m:Nat) (c:Bool):VS:=skipB_l_I L i m c (m)
theorem skipB_l_s (L:List Nod) (i m:Nat) (c:Bool) (h:SkOk L i (L.getD i default).nb m) (k:Nat) (hk:k<m):VT Tryz.prog (fnC Tryz.f94 [0,0]) (skipB_l_I L i m c k) .normal (skipB_l_I L i m c (k+1)):=by
 obtain ⟨h1,h2,h3,h4,h5,h6⟩:=id h
 have b1:=h3.b k (by omega)
 have y1:=h3.y k hk
 simp only [Bool.and_eq_true,decide_eq_true_eq] at y1
 have e0:=setBK_eq h1 k
 have e1:((setBK L i k).getD i default).nb=itV L (L.getD i default).nb k:=by rw [e0,setB_at h1]
 have e2:(setBK L i k).getD (((setBK L i k).getD i default).nb-1).toNat default=L.getD (itV L (L.getD i default).nb k-1).toNat default:=by rw [e1,e0,setB_o h1 _ (by omega)]
 have e3:sameN ((setBK L i k).getD (((setBK L i k).getD i default).nb-1).toNat default)=true:=by rw [e2];exact y1.2
 have e4:((setBK L i k).getD (((setBK L i k).getD i default).nb-1).toNat default).Ok:=by rw [e2];exact getD_in h5 (by omega)
 have e5:((setBK L i k).getD (((setBK L i k).getD i default).nb-1).toNat default).w.length≤100000:=by rw [e2];exact (getD_in h6 (by omega)).1
 have e6:((setBK L i k).getD (((setBK L i k).getD i default).nb-1).toNat default).b.length≤100000:=by rw [e2];exact (getD_in h6 (by omega)).2
 have e7:(setBK L i k).length=L.length:=by rw [e0,setB_len]
 have e8:(setBK L i k).set i { (setBK L i k).getD i default with nb:=((setBK L i k).getD (((setBK L i k).getD i default).nb-1).toNat default).na }=setBK L i (k+1):=by rw [e0];exact skipB_step h1 y1.1 (show itV L (L.getD i default).nb k≤i by omega)
 have e9:(List.map nodC (setBK L i k)).length=L.length:=by rw [List.length_map,e7]
 have oz0:=(map_at (nodC) (default) (l:=setBK L i k) (i:=i) (by omega))
 have oz1:=(decide_eq_true (p:=(((setBK L i k).getD i default).nb > 0)) (by omega))
 have oz7:=(i6n (((setBK L i k).getD i default).nb-1) (by omega))
 have oz9:=(show 0≤((setBK L i k).getD i default).nb-1 by omega)
 have oz10:=(show ((setBK L i k).getD i default).nb-1<(↑(List.map nodC (setBK L i k)).length:Int) by omega)
 have oz12:=(map_at (nodC) (default) (l:=setBK L i k) (i:=(((setBK L i k).getD i default).nb-1).toNat) (by omega))
 have oz14 := @fsame_v ((setBK L i k).getD (((setBK L i k).getD i default).nb-1).toNat default) e4 e5 e6
 exact VT.run (W:=[.r [] [.row (sO oz0),.br true,.br true,.br true,.br true,.row (sO oz0),.br true,.n (nO oz7),.br true,.br true,.row (sO oz12),.br true,.callr (rO oz14),.br true],.br true,.r [] [.row (sO oz0),.n (nO oz7),.row (sO oz12),.row (sO oz0)]]) (G:=[.any (rg [(4,24)]),.blk 100000 (Blk.slc 82 19 (List.map nodC (setBK L i (k+1)))),.blk 100002 (Blk.var [bv (flagK c (k+1))]),.sort]) (by kernel_rfl) (.c oz0<|.c oz1<|.c oz1<|.c oz1<|.c oz1<|.c oz0<|.c oz1<|.c oz7<|.c oz1<|.c oz9<|.c oz10<|.c oz1<|.c oz12<|.c oz1<|.c oz14<|.c oz1<|.c e3<|.c oz0<|.c oz7<|.c oz9<|.c oz10<|.c oz12<|.c oz0<|.c (show BlkW (Blk.slc 82 19 ((List.map nodC (setBK L i k)).set i [i64 ((setBK L i k).getD i default).kd,i64 ((setBK L i k).getD i default).na,i64 ((setBK L i k).getD (((setBK L i k).getD i default).nb-1).toNat default).na,i64 ((setBK L i k).getD i default).nk,i64 ((setBK L i k).getD i default).ns,i64 ((setBK L i k).getD i default).np,i64 ((setBK L i k).getD i default).no,i8 ((setBK L i k).getD i default).za,i8 ((setBK L i k).getD i default).zb,AV.sl 1 (List.map (row1 IntKind.i8) ((setBK L i k).getD i default).w),AV.sl 1 (List.map (row1 IntKind.i32) ((setBK L i k).getD i default).b),i32 ((setBK L i k).getD i default).qm,i64 ((setBK L i k).getD i default).qs,i8 ((setBK L i k).getD i default).qz,i32 ((setBK L i k).getD i default).rm,i64 ((setBK L i k).getD i default).rs,i8 ((setBK L i k).getD i default).rz,i8 ((setBK L i k).getD i default).lo,i8 ((setBK L i k).getD i default).hi])) (Blk.slc 82 19 (List.map nodC (setBK L i (k+1)))) from (BlkW.rows (rows_to (nodC) (r:=(List.map nodC (setBK L i k)).set i [i64 ((setBK L i k).getD i default).kd,i64 ((setBK L i k).getD i default).na,i64 ((setBK L i k).getD (((setBK L i k).getD i default).nb-1).toNat default).na,i64 ((setBK L i k).getD i default).nk,i64 ((setBK L i k).getD i default).ns,i64 ((setBK L i k).getD i default).np,i64 ((setBK L i k).getD i default).no,i8 ((setBK L i k).getD i default).za,i8 ((setBK L i k).getD i default).zb,AV.sl 1 (List.map (row1 IntKind.i8) ((setBK L i k).getD i default).w),AV.sl 1 (List.map (row1 IntKind.i32) ((setBK L i k).getD i default).b),i32 ((setBK L i k).getD i default).qm,i64 ((setBK L i k).getD i default).qs,i8 ((setBK L i k).getD i default).qz,i32 ((setBK L i k).getD i default).rm,i64 ((setBK L i k).getD i default).rs,i8 ((setBK L i k).getD i default).rz,i8 ((setBK L i k).getD i default).lo,i8 ((setBK L i k).getD i default).hi]) (l:=(setBK L i k).set i (Nod.mk ((setBK L i k).getD i default).kd ((setBK L i k).getD i default).na ((setBK L i k).getD (((setBK L i k).getD i default).nb-1).toNat default).na ((setBK L i k).getD i default).nk ((setBK L i k).getD i default).ns ((setBK L i k).getD i default).np ((setBK L i k).getD i default).no ((setBK L i k).getD i default).za ((setBK L i k).getD i default).zb ((setBK L i k).getD i default).w ((setBK L i k).getD i default).b ((setBK L i k).getD i default).qm ((setBK L i k).getD i default).qs ((setBK L i k).getD i default).qz ((setBK L i k).getD i default).rm ((setBK L i k).getD i default).rs ((setBK L i k).getD i default).rz ((setBK L i k).getD i default).lo ((setBK L i k).getD i default).hi)) (m:=setBK L i (k+1)) (by first | (simp only [List.map_append,List.map_cons,List.map_nil,List.map_set,List.map_replicate,List.map_take,List.map_drop];done) | rfl | (simp only [List.map_append,List.map_cons,List.map_nil,List.map_set,List.map_replicate,List.map_take,List.map_drop];rfl) | (simp only [List.map_append,List.map_cons,List.map_nil,List.map_set,List.map_replicate,List.map_take,List.map_drop,nodC,ints];done)) (show ((setBK L i k).set i (Nod.mk ((setBK L i k).getD i default).kd ((setBK L i k).getD i default).na ((setBK L i k).getD (((setBK L i k).getD i default).nb-1).toNat default).na ((setBK L i k).getD i default).nk ((setBK L i k).getD i default).ns ((setBK L i k).getD i default).np ((setBK L i k).getD i default).no ((setBK L i k).getD i default).za ((setBK L i k).getD i default).zb ((setBK L i k).getD i default).w ((setBK L i k).getD i default).b ((setBK L i k).getD i default).qm ((setBK L i k).getD i default).qs ((setBK L i k).getD i default).qz ((setBK L i k).getD i default).rm ((setBK L i k).getD i default).rs ((setBK L i k).getD i default).rz ((setBK L i k).getD i default).lo ((setBK L i k).getD i default).hi))=(setBK L i (k+1)) from e8))))<|.c (show BlkW (Blk.var [bv true]) (Blk.var [bv (flagK c (k+1))]) from (BlkW.var (.cons (Weak.bool (show ((true):Bool)=(flagK c (k+1)) from (by rfl))) .nil)))<|.n)
theorem skipB_l_e (L:List Nod) (i m:Nat) (c:Bool) (h:SkOk L i (L.getD i default).nb m):VT Tryz.prog (fnC Tryz.f94 [0,0]) (skipB_l_I L i m c (m)) (.exit 0) (skipB_l_Z L i m c):=by
 obtain ⟨h1,h2,h3,h4,h5,h6⟩:=id h
 have b1:=h3.b m (Nat.le_refl _)
 have y1:=h3.n
 have e0:=setBK_eq h1 m
 have e1:((setBK L i m).getD i default).nb=itV L (L.getD i default).nb m:=by rw [e0,setB_at h1]
 have e2:((setBK L i m).getD i default).nb > 0→(setBK L i m).getD (((setBK L i m).getD i default).nb-1).toNat default=L.getD (itV L (L.getD i default).nb m-1).toNat default:=fun h=>by rw [e1,e0,setB_o h1 _ (by omega)]
 have e3:((setBK L i m).getD i default).nb > 0→sameN ((setBK L i m).getD (((setBK L i m).getD i default).nb-1).toNat default)=false:=fun h=>by rw [e2 h];rw [e1] at h;rw [decide_eq_true h,Bool.true_and] at y1;exact y1
 have e4:((setBK L i m).getD i default).nb > 0→((setBK L i m).getD (((setBK L i m).getD i default).nb-1).toNat default).Ok:=fun h=>by rw [e2 h];exact getD_in h5 (by omega)
 have e5:((setBK L i m).getD i default).nb > 0→((setBK L i m).getD (((setBK L i m).getD i default).nb-1).toNat default).w.length≤100000:=fun h=>by rw [e2 h];exact (getD_in h6 (by omega)).1
 have e6:((setBK L i m).getD i default).nb > 0→((setBK L i m).getD (((setBK L i m).getD i default).nb-1).toNat default).b.length≤100000:=fun h=>by rw [e2 h];exact (getD_in h6 (by omega)).2
 have e7:(setBK L i m).length=L.length:=by rw [e0,setB_len]
 have e9:(List.map nodC (setBK L i m)).length=L.length:=by rw [List.length_map,e7]
 have oz0:=(map_at (nodC) (default) (l:=setBK L i m) (i:=i) (by omega))
 have oz2:=(i6n (((setBK L i m).getD i default).nb-1) (by omega))
 have oz5:=(map_at (nodC) (default) (l:=setBK L i m) (i:=(((setBK L i m).getD i default).nb-1).toNat) (by omega))
 exact VT.run (W:=[.r [] [.row (sO oz0),.op false,.op false,.op false,.op false,.row (sO oz0),.op false,.n (nO oz2),.op true,.op false,.row (sO oz5),.op true,.callr (bv (sameN ((setBK L i m).getD (((setBK L i m).getD i default).nb-1).toNat default))),.sel 2],.br false]) (G:=[.any (rg [(4,14)]),.sort]) (by kernel_rfl) (.c oz0<|.c oz0<|.c oz2<|.c (show decide (((setBK L i m).getD i default).nb > 0)=true→0≤((setBK L i m).getD i default).nb-1 from (fun hc0=>have gc0:((setBK L i m).getD i default).nb > 0:=(by first | exact hc0 | exact of_decide_eq_true hc0 | exact of_decide_eq_false hc0 | simpa [eqNums] using hc0 | (simp [eqNums] at hc0 ⊢;first | done | assumption | omega));(by omega)))<|.c (show decide (((setBK L i m).getD i default).nb > 0)=true→((setBK L i m).getD i default).nb-1<(↑(List.map nodC (setBK L i m)).length:Int) from (fun hc0=>have gc0:((setBK L i m).getD i default).nb > 0:=(by first | exact hc0 | exact of_decide_eq_true hc0 | exact of_decide_eq_false hc0 | simpa [eqNums] using hc0 | (simp [eqNums] at hc0 ⊢;first | done | assumption | omega));(by omega)))<|.c oz5<|.c (show decide (((setBK L i m).getD i default).nb > 0)=true→VC Tryz.prog 34 (List.map (fun (x:Operand)=>(evV (VS.mk [AV.ptr 100000 i 2,AV.ptr 100001 0 0,AV.ptr 100002 0 0,AV.any,AV.ptr 100000 i 2,AV.ptr 100000 i 2,i64 ((setBK L i m).getD i default).nb,bv (decide (((setBK L i m).getD i default).nb > 0)),bv (decide (((setBK L i m).getD i default).nb > 0)),AV.opt (decide (((setBK L i m).getD i default).nb > 0)) 8 true (AV.own 100000),AV.opt (decide (((setBK L i m).getD i default).nb > 0)) 8 true (AV.ptr 100000 i 2),AV.opt (decide (((setBK L i m).getD i default).nb > 0)) 8 true (AV.ptr 100000 i 2),AV.opt (decide (((setBK L i m).getD i default).nb > 0)) 8 true (i64 ((setBK L i m).getD i default).nb),AV.opt (decide (((setBK L i m).getD i default).nb > 0)) 8 true (i64 (((setBK L i m).getD i default).nb-1)),AV.opt (decide (((setBK L i m).getD i default).nb > 0)) 8 true (AV.ptr 100000 (((setBK L i m).getD i default).nb-1).toNat 0),AV.opt (decide (((setBK L i m).getD i default).nb > 0)) 8 true (AV.agg [i64 ((setBK L i m).getD (((setBK L i m).getD i default).nb-1).toNat default).kd,i64 ((setBK L i m).getD (((setBK L i m).getD i default).nb-1).toNat default).na,i64 ((setBK L i m).getD (((setBK L i m).getD i default).nb-1).toNat default).nb,i64 ((setBK L i m).getD (((setBK L i m).getD i default).nb-1).toNat default).nk,i64 ((setBK L i m).getD (((setBK L i m).getD i default).nb-1).toNat default).ns,i64 ((setBK L i m).getD (((setBK L i m).getD i default).nb-1).toNat default).np,i64 ((setBK L i m).getD (((setBK L i m).getD i default).nb-1).toNat default).no,i8 ((setBK L i m).getD (((setBK L i m).getD i default).nb-1).toNat default).za,i8 ((setBK L i m).getD (((setBK L i m).getD i default).nb-1).toNat default).zb,AV.sl 1 (List.map (row1 IntKind.i8) ((setBK L i m).getD (((setBK L i m).getD i default).nb-1).toNat default).w),AV.sl 1 (List.map (row1 IntKind.i32) ((setBK L i m).getD (((setBK L i m).getD i default).nb-1).toNat default).b),i32 ((setBK L i m).getD (((setBK L i m).getD i default).nb-1).toNat default).qm,i64 ((setBK L i m).getD (((setBK L i m).getD i default).nb-1).toNat default).qs,i8 ((setBK L i m).getD (((setBK L i m).getD i default).nb-1).toNat default).qz,i32 ((setBK L i m).getD (((setBK L i m).getD i default).nb-1).toNat default).rm,i64 ((setBK L i m).getD (((setBK L i m).getD i default).nb-1).toNat default).rs,i8 ((setBK L i m).getD (((setBK L i m).getD i default).nb-1).toNat default).rz,i8 ((setBK L i m).getD (((setBK L i m).getD i default).nb-1).toNat default).lo,i8 ((setBK L i m).getD (((setBK L i m).getD i default).nb-1).toNat default).hi]),AV.any,AV.any,AV.any,AV.any,AV.any,AV.any,AV.any,AV.any,AV.any,AV.any,AV.any,AV.any] [(100000,Blk.slc 82 19 (List.map nodC (setBK L i m))),(100001,Blk.var [AV.own 100000]),(100002,Blk.var [bv (flagK c m)])]).t x).strip) #[Operand.tmp 15].toList++[]) (bv (sameN ((setBK L i m).getD (((setBK L i m).getD i default).nb-1).toNat default))) from (fun hc0=>have gc0:((setBK L i m).getD i default).nb > 0:=(by first | exact hc0 | exact of_decide_eq_true hc0 | exact of_decide_eq_false hc0 | simpa [eqNums] using hc0 | (simp [eqNums] at hc0 ⊢;first | done | assumption | omega));(@fsame_v ((setBK L i m).getD (((setBK L i m).getD i default).nb-1).toNat default) (by (exact e4 (by omega))) (by omega) (by omega))))<|.c (show (decide (((setBK L i m).getD i default).nb > 0)&&sameN ((setBK L i m).getD (((setBK L i m).getD i default).nb-1).toNat default))=false by (simp at *;omega))<|.n)
theorem skipB_l (L:List Nod) (i m:Nat) (c:Bool) (h:SkOk L i (L.getD i default).nb m):VT Tryz.prog (fnC Tryz.f94 [0]) (skipB_l_I L i m c 0) (.exit 0) (skipB_l_Z L i m c) :=
 VT.loop (fun k=>skipB_l_I L i m c k) (m) (fun k hk=>skipB_l_s L i m c h k hk) (skipB_l_e L i m c h) (by intro h;cases h)
theorem skipB_w (L:List Nod) (i m:Nat) (c:Bool) (h:SkOk L i (L.getD i default).nb m):VM Tryz.prog 94 ([.ptr 100000 i 2,.ptr 100001 0 0,.ptr 100002 0 0]) ([(100000,.slc 82 19 (L.map nodC)),(100001,.var [.own 100000]),(100002,.var [bv c])]) (.tup []) ([(100000,.slc 82 19 ((setBK L i m).map nodC)),(100001,.var [.own 100000]),(100002,.var [bv (flagK c m)])]):=by
 have oz1 := @skipB_l (L) (i) (m) (c) h
 exact VM.run (fn:=Tryz.f94) (W:=[.code [.blk 100000 (Blk.slc 82 19 (List.map nodC (setBK L i 0))),.sort] (Exit.exit 0) (zO oz1)]) (G:=[.sort]) Tryz.func94 (by kernel_rfl) (.c (show BlkW (Blk.slc 82 19 (List.map nodC L)) (Blk.slc 82 19 (List.map nodC (setBK L i 0))) from (BlkW.rows (rows_to (nodC) (r:=List.map nodC L) (l:=L) (m:=setBK L i 0) rfl (show (L)=(setBK L i 0) from (by rfl)))))<|.c oz1<|.n)
theorem skipB_v (L:List Nod) (i:Nat) (c:Bool) (hi:i<L.length) (hl:L.length≤1000) (d:Desc L L.length) (v0:0≤(L.getD i default).nb) (v1:(L.getD i default).nb≤i) (ok:∀ n∈L,n.Ok) (wl:∀ n∈L,n.w.length≤100000∧n.b.length≤100000) :
  VM Tryz.prog 94 [.ptr 100000 i 2,.ptr 100001 0 0,.ptr 100002 0 0] [(100000,.slc 82 19 (L.map nodC)),(100001,.var [.own 100000]),(100002,.var [bv c])] (.tup [])
   [(100000,.slc 82 19 ((setB L i (pastV L (L.getD i default).nb)).map nodC)),(100001,.var [.own 100000]),(100002,.var [bv (c || hitT L (L.getD i default).nb)])]:=by
 obtain ⟨m,p⟩:=past_run d v0 (by omega)
 have:=skipB_w L i m c ⟨hi,hl,p,v1,ok,wl⟩
 rw [setBK_eq hi,p.e,flagK_eq,←p.h] at this
 exact this
theorem hitT_set {L:List Nod} {i:Nat} (hi:i<L.length) (u:Int) {v:Int} (hv:v≤i):hitT (setA L i u) v=hitT L v:=by
 unfold hitT
 by_cases q:0<v
 ·rw [setA_o hi u (by omega)]
 ·rw [decide_eq_false q,Bool.false_and,Bool.false_and]
theorem thrK_6c {P:List Nod} {k:Nat} (hk:k<P.length) (d:Desc (thrK P k) P.length) (h6:((thrK P k).getD k default).kd=6) (hb:((thrK P k).getD k default).nb≤k) :
  setB (setA (thrK P k) k (pastV (thrK P k) ((thrK P k).getD k default).na)) k (pastV (setA (thrK P k) k (pastV (thrK P k) ((thrK P k).getD k default).na)) ((setA (thrK P k) k (pastV (thrK P k) ((thrK P k).getD k default).na)).getD k default).nb)=thrK P (k+1) ∧
  ((thrB P k || hitT (thrK P k) ((thrK P k).getD k default).na) || hitT (setA (thrK P k) k (pastV (thrK P k) ((thrK P k).getD k default).na)) ((setA (thrK P k) k (pastV (thrK P k) ((thrK P k).getD k default).na)).getD k default).nb)=thrB P (k+1):=by
 have hl:k<(thrK P k).length:=by rw [thrK_len];exact hk
 constructor
 ·rw [thrK_6 hk d h6 hb]
  unfold setB
  rw [setA_at hl]
 ·rw [setA_at hl]
  dsimp only
  rw [hitT_set hl _ hb,thrB,decide_eq_true h6,Bool.true_and,Bool.or_assoc]
theorem thrB_o {P:List Nod} {k:Nat} (h6:((thrK P k).getD k default).kd≠6):(thrB P k || hitT (thrK P k) ((thrK P k).getD k default).na)=thrB P (k+1):=by
 rw [thrB,decide_eq_false h6,Bool.false_and,Bool.or_false]
noncomputable def fthr_l_I (P:List Nod) (k:Nat):VS:=stt 32 [(1,.ptr 1 0 0),(3,.ptr 3 0 0),(4,.clo 94 [.ptr 1 0 0,.ptr 3 0 0]),(8,i64 P.length),(9,i64 k)] [(1,.var [.own 100000]),(3,.var [bv (thrB P k)]),(100000,.slc 82 19 ((thrK P k).map nodC))]
noncomputable def fthr_l_Z (P:List Nod):VS:=fthr_l_I P (P.length)
theorem fthr_l_s (P:List Nod) (o:orderedB P=true) (hl:P.length≤1000) (okl:∀ n∈P,n.Ok) (wl:∀ n∈P,n.w.length≤100000∧n.b.length≤100000) (k:Nat) (hk:k<P.length):VT Tryz.prog (fnC Tryz.f42 [1,1,1,0,1,0,0]) (fthr_l_I P k) .normal (fthr_l_I P (k+1)):=by
 have q1:=thrK_len P k
 obtain ⟨q2,q3⟩:=thrK_ok o hl okl wl k (by omega)
 have q4:=thrK_get (l:=P) k (by omega) k hk
 rw [if_neg (Nat.lt_irrefl k)] at q4
 have q5:=(ord_iff.1 o) k hk
 rw [←q4] at q5
 obtain ⟨q6,q7,q8⟩:=q5
 have q9:=thrK_desc o k (by omega)
 have qa:Desc (thrK P k) (thrK P k).length:=by rw [q1];exact q9
 have qb:(List.map nodC (thrK P k)).length=P.length:=by rw [List.length_map,q1]
 have qe:=pastV_le q9 q6 (by omega)
 have qf:Desc (setA (thrK P k) k (pastV (thrK P k) ((thrK P k).getD k default).na)) (setA (thrK P k) k (pastV (thrK P k) ((thrK P k).getD k default).na)).length:=by rw [setA_len];exact setA_desc (by omega) qa qe.1 (by omega)
 have qo:=getD_in q2 (i:=k) (by omega)
 have qg:∀ n∈setA (thrK P k) k (pastV (thrK P k) ((thrK P k).getD k default).na),n.Ok:=setA_mem q2 (OkN.ok (OkN.ren qo.n _ ((thrK P k).getD k default).nb (.inr rfl)) (by show In64 (pastV (thrK P k) ((thrK P k).getD k default).na);unfold In64;omega) fun _=>qo.nb)
 have qh:∀ n∈setA (thrK P k) k (pastV (thrK P k) ((thrK P k).getD k default).na),n.w.length≤100000∧n.b.length≤100000:=setA_mem q3 (getD_in q3 (i:=k) (by omega))
 have qi:(setA (thrK P k) k (pastV (thrK P k) ((thrK P k).getD k default).na)).length=P.length:=by rw [setA_len,q1]
 have qj:((setA (thrK P k) k (pastV (thrK P k) ((thrK P k).getD k default).na)).getD k default).nb=((thrK P k).getD k default).nb:=by rw [setA_at (by omega)]
 have qk:((setA (thrK P k) k (pastV (thrK P k) ((thrK P k).getD k default).na)).getD k default).kd=((thrK P k).getD k default).kd:=by rw [setA_at (by omega)]
 have ql:(List.map nodC (setA (thrK P k) k (pastV (thrK P k) ((thrK P k).getD k default).na))).length=P.length:=by rw [List.length_map,qi]
 have qm:=fun h=>thrK_6c hk q9 h (q8 h).2
 have qn:=fun h=>thrK_o (P:=P) (k:=k) h
 have qp:=fun h=>thrB_o (P:=P) (k:=k) h
 have oz0:=(decide_eq_true (p:=((↑k:Int)<(↑P.length:Int))) (by omega))
 have oz1:=(show 0≤(↑k:Int) by omega)
 have oz2:=(show (↑k:Int)<(↑(List.map nodC (thrK P k)).length:Int) by omega)
 have oz3 := @skipA_v (thrK P k) ((↑k:Int).toNat) (thrB P k) (by omega) (by omega) qa (by (simp at *;omega)) (by (simp at *;omega)) q2 q3
 have oz5:=(show (↑k:Int)<(↑(List.map nodC (setA (thrK P k) (↑k:Int).toNat (pastV (thrK P k) ((thrK P k).getD (↑k:Int).toNat default).na))).length:Int) by (simp;omega))
 have oz6:=(map_at (nodC) (default) (l:=setA (thrK P k) (↑k:Int).toNat (pastV (thrK P k) ((thrK P k).getD (↑k:Int).toNat default).na)) (i:=k) (by (simp;omega)))
 rcases bft (((setA (thrK P k) (↑k:Int).toNat (pastV (thrK P k) ((thrK P k).getD (↑k:Int).toNat default).na)).getD k default).kd==6) with hc0 | hc0
 ·have gc0:((setA (thrK P k) (↑k:Int).toNat (pastV (thrK P k) ((thrK P k).getD (↑k:Int).toNat default).na)).getD k default).kd=6:=bet hc0
  have oz10 := @skipB_v (setA (thrK P k) (↑k:Int).toNat (pastV (thrK P k) ((thrK P k).getD (↑k:Int).toNat default).na)) ((↑k:Int).toNat) (thrB P k || hitT (thrK P k) ((thrK P k).getD (↑k:Int).toNat default).na) (by (simp;omega)) (by (simp;omega)) (by (exact qf)) (by (simp at *;omega)) (by (simp at *;omega)) (by (exact qg)) (by (exact qh))
  exact VT.run (W:=[.r [] [],.br true,.r [] [],.r [] [.callm [(100000,100000),(1,100001),(3,100002)] [] (rM oz3) (oM oz3)],.r [] [.row (sO oz6)],.br true,.r [] [.callm [(100000,100000),(1,100001),(3,100002)] [] (rM oz10) (oM oz10)],.r [] [.n ((↑k:Int)+1)]]) (G:=[.any (rg [(5,1),(10,21)]),.weak 9 (i64 (↑(k+1):Int)),.blk 3 (Blk.var [bv (thrB P (k+1))]),.blk 100000 (Blk.slc 82 19 (List.map nodC (thrK P (k+1)))),.sort]) (by kernel_rfl) (.c oz0<|.c oz1<|.c oz2<|.c oz3<|.c oz1<|.c oz5<|.c oz6<|.c hc0<|.c oz1<|.c oz5<|.c oz10<|.c (i6n ((↑k:Int)+1) (by omega))<|.c (Weak.int (k:=.i64) (show (((↑k:Int)+1):Int)=((↑(k+1):Int)) from (by omega)))<|.c (show BlkW (Blk.var [bv (thrB P k || hitT (thrK P k) ((thrK P k).getD (↑k:Int).toNat default).na || hitT (setA (thrK P k) (↑k:Int).toNat (pastV (thrK P k) ((thrK P k).getD (↑k:Int).toNat default).na)) ((setA (thrK P k) (↑k:Int).toNat (pastV (thrK P k) ((thrK P k).getD (↑k:Int).toNat default).na)).getD (↑k:Int).toNat default).nb)]) (Blk.var [bv (thrB P (k+1))]) from (BlkW.var (.cons (Weak.bool (show ((thrB P k || hitT (thrK P k) ((thrK P k).getD (↑k:Int).toNat default).na || hitT (setA (thrK P k) (↑k:Int).toNat (pastV (thrK P k) ((thrK P k).getD (↑k:Int).toNat default).na)) ((setA (thrK P k) (↑k:Int).toNat (pastV (thrK P k) ((thrK P k).getD (↑k:Int).toNat default).na)).getD (↑k:Int).toNat default).nb):Bool)=(thrB P (k+1)) from (by (simp_all;done)))) .nil)))<|.c (show BlkW (Blk.slc 82 19 (List.map nodC (setB (setA (thrK P k) (↑k:Int).toNat (pastV (thrK P k) ((thrK P k).getD (↑k:Int).toNat default).na)) (↑k:Int).toNat (pastV (setA (thrK P k) (↑k:Int).toNat (pastV (thrK P k) ((thrK P k).getD (↑k:Int).toNat default).na)) ((setA (thrK P k) (↑k:Int).toNat (pastV (thrK P k) ((thrK P k).getD (↑k:Int).toNat default).na)).getD (↑k:Int).toNat default).nb)))) (Blk.slc 82 19 (List.map nodC (thrK P (k+1)))) from (BlkW.rows (rows_to (nodC) (r:=List.map nodC (setB (setA (thrK P k) (↑k:Int).toNat (pastV (thrK P k) ((thrK P k).getD (↑k:Int).toNat default).na)) (↑k:Int).toNat (pastV (setA (thrK P k) (↑k:Int).toNat (pastV (thrK P k) ((thrK P k).getD (↑k:Int).toNat default).na)) ((setA (thrK P k) (↑k:Int).toNat (pastV (thrK P k) ((thrK P k).getD (↑k:Int).toNat default).na)).getD (↑k:Int).toNat default).nb))) (l:=setB (setA (thrK P k) (↑k:Int).toNat (pastV (thrK P k) ((thrK P k).getD (↑k:Int).toNat default).na)) (↑k:Int).toNat (pastV (setA (thrK P k) (↑k:Int).toNat (pastV (thrK P k) ((thrK P k).getD (↑k:Int).toNat default).na)) ((setA (thrK P k) (↑k:Int).toNat (pastV (thrK P k) ((thrK P k).getD (↑k:Int).toNat default).na)).getD (↑k:Int).toNat default).nb)) (m:=thrK P (k+1)) rfl (show (setB (setA (thrK P k) (↑k:Int).toNat (pastV (thrK P k) ((thrK P k).getD (↑k:Int).toNat default).na)) (↑k:Int).toNat (pastV (setA (thrK P k) (↑k:Int).toNat (pastV (thrK P k) ((thrK P k).getD (↑k:Int).toNat default).na)) ((setA (thrK P k) (↑k:Int).toNat (pastV (thrK P k) ((thrK P k).getD (↑k:Int).toNat default).na)).getD (↑k:Int).toNat default).nb))=(thrK P (k+1)) from (by (simp_all;done))))))<|.n)
 ·have gc0:¬((setA (thrK P k) (↑k:Int).toNat (pastV (thrK P k) ((thrK P k).getD (↑k:Int).toNat default).na)).getD k default).kd=6:=bef hc0
  exact VT.run (W:=[.r [] [],.br true,.r [] [],.r [] [.callm [(100000,100000),(1,100001),(3,100002)] [] (rM oz3) (oM oz3)],.r [] [.row (sO oz6)],.br false,.r [] [.n ((↑k:Int)+1)]]) (G:=[.any (rg [(5,1),(10,14),(30,1)]),.weak 9 (i64 (↑(k+1):Int)),.blk 3 (Blk.var [bv (thrB P (k+1))]),.blk 100000 (Blk.slc 82 19 (List.map nodC (thrK P (k+1)))),.sort]) (by kernel_rfl) (.c oz0<|.c oz1<|.c oz2<|.c oz3<|.c oz1<|.c oz5<|.c oz6<|.c hc0<|.c (i6n ((↑k:Int)+1) (by omega))<|.c (Weak.int (k:=.i64) (show (((↑k:Int)+1):Int)=((↑(k+1):Int)) from (by omega)))<|.c (show BlkW (Blk.var [bv (thrB P k || hitT (thrK P k) ((thrK P k).getD (↑k:Int).toNat default).na)]) (Blk.var [bv (thrB P (k+1))]) from (BlkW.var (.cons (Weak.bool (show ((thrB P k || hitT (thrK P k) ((thrK P k).getD (↑k:Int).toNat default).na):Bool)=(thrB P (k+1)) from (by (simp_all;done)))) .nil)))<|.c (show BlkW (Blk.slc 82 19 (List.map nodC (setA (thrK P k) (↑k:Int).toNat (pastV (thrK P k) ((thrK P k).getD (↑k:Int).toNat default).na)))) (Blk.slc 82 19 (List.map nodC (thrK P (k+1)))) from (BlkW.rows (rows_to (nodC) (r:=List.map nodC (setA (thrK P k) (↑k:Int).toNat (pastV (thrK P k) ((thrK P k).getD (↑k:Int).toNat default).na))) (l:=setA (thrK P k) (↑k:Int).toNat (pastV (thrK P k) ((thrK P k).getD (↑k:Int).toNat default).na)) (m:=thrK P (k+1)) rfl (show (setA (thrK P k) (↑k:Int).toNat (pastV (thrK P k) ((thrK P k).getD (↑k:Int).toNat default).na))=(thrK P (k+1)) from (by (simp_all;done))))))<|.n)
theorem fthr_l_e (P:List Nod) (o:orderedB P=true) (hl:P.length≤1000) (okl:∀ n∈P,n.Ok) (wl:∀ n∈P,n.w.length≤100000∧n.b.length≤100000):VT Tryz.prog (fnC Tryz.f42 [1,1,1,0,1,0,0]) (fthr_l_I P (P.length)) (.exit 0) (fthr_l_Z P):=by
 exact VT.run (W:=[.r [] [],.br false]) (G:=[.any [10],.sort]) (by kernel_rfl) (.c (decide_eq_false (p:=((↑P.length:Int)<(↑P.length:Int))) (by omega))<|.n)
theorem fthr_l (P:List Nod) (o:orderedB P=true) (hl:P.length≤1000) (okl:∀ n∈P,n.Ok) (wl:∀ n∈P,n.w.length≤100000∧n.b.length≤100000):VT Tryz.prog (fnC Tryz.f42 [1,1,1,0,1,0]) (fthr_l_I P 0) (.exit 0) (fthr_l_Z P) :=
 VT.loop (fun k=>fthr_l_I P k) (P.length) (fun k hk=>fthr_l_s P o hl okl wl k hk) (fthr_l_e P o hl okl wl) (by intro h;cases h)
theorem fthr_v (P:List Nod) (o:orderedB P=true) (hl:P.length≤1000) (okl:∀ n∈P,n.Ok) (wl:∀ n∈P,n.w.length≤100000∧n.b.length≤100000):VM Tryz.prog 42 ([.own 100000]) ([(100000,.slc 82 19 (P.map nodC))]) (bv (thrB P P.length)) ([(100000,.slc 82 19 ((thrK P P.length).map nodC))]):=by
 have qb:(List.map nodC P).length=P.length:=List.length_map _
 have oz4 := @fthr_l (P) o hl okl wl
 exact VM.run (fn:=Tryz.f42) (W:=[.r [] [],.r [] [],.r [] [],.r [] [],.code [.any [0,2,6,7],.weak 8 (i64 (↑P.length:Int)),.weak 9 (i64 (↑0:Int)),.blk 3 (Blk.var [bv (thrB P 0)]),.blk 100000 (Blk.slc 82 19 (List.map nodC (thrK P 0))),.sort] (Exit.exit 0) (zO oz4),.r [] []]) (G:=[.drop [1,3],.sort]) Tryz.func42 (by kernel_rfl) (.c (Weak.int (k:=.i64) (show (((↑(List.map nodC P).length:Int)):Int)=((↑P.length:Int)) from (by omega)))<|.c (Weak.int (k:=.i64) (show ((0):Int)=((↑0:Int)) from (by omega)))<|.c (show BlkW (Blk.var [bv false]) (Blk.var [bv (thrB P 0)]) from (BlkW.var (.cons (Weak.bool (show ((false):Bool)=(thrB P 0) from (by rfl))) .nil)))<|.c (show BlkW (Blk.slc 82 19 (List.map nodC P)) (Blk.slc 82 19 (List.map nodC (thrK P 0))) from (BlkW.rows (rows_to (nodC) (r:=List.map nodC P) (l:=P) (m:=thrK P 0) rfl (show (P)=(thrK P 0) from (by rfl)))))<|.c oz4<|.n)
theorem pblock_o (l:List Nod) (hl:l.length≤1000) (hw:∀ n∈l,n.w.length≤100000∧n.b.length≤100000) (ho:orderedB l=true):VM Tryz.prog 43 ([.sl 19 (l.map nodC)]) ([]) (.own 950) ([(950,.slc 82 19 ((pruneL l).map nodC))]):=by
 have q1:(List.map (row1 .i64) (usedE l)).length=(usedL l).length:=by rw [List.length_map];unfold usedE;rw [if_pos ho];exact List.length_map _
 have oz0 := @pord_v (l) hl
 have oz3 := @pused_v (l) hl
 have oz5:=(Weak.int (k:=.i64) (show (((↑(List.map (row1 IntKind.i64) (usedE l)).length:Int)):Int)=((↑(usedL l).length:Int)) from (by omega)))
 have oz8 := @pblock_m (l) hl hw ho
 exact VM.run (fn:=Tryz.f43) (W:=[.r [] [],.r [] [],.r [] [.callr (rO oz0)],.br false,.r [] [.mapl []],.r [] [.callr (rO oz3)],.code [.any [2,10,11,12,26,27,28],.ren 26 902,.weak 29 (AV.sl 1 (List.map (row1 IntKind.i64) (usI (usedL l)))),.weak 30 (wO oz5),.weak 31 (i64 (↑0:Int)),.nils 3 900 82 19,.blk 902 (Blk.obj (mobj (nowL (usedL l) 0))),.sort] (Exit.exit 2) (zO oz8),.r [] []]) (G:=[.drop [902],.ren 900 950,.blk 950 (Blk.slc 82 19 (List.map nodC (pruneL l))),.sort]) Tryz.func43 (by kernel_rfl) (.c oz0<|.c (show (!orderedB l)=false by (simp;omega))<|.c (show mobj []=mobj [] from rfl)<|.c oz3<|.c (show Weak (AV.sl 1 (List.map (row1 IntKind.i64) (usedE l))) (AV.sl 1 (List.map (row1 IntKind.i64) (usI (usedL l)))) from (Weak.rows (rows_to (row1 IntKind.i64) (r:=List.map (row1 IntKind.i64) (usedE l)) (l:=usedE l) (m:=usI (usedL l)) rfl (show (usedE l)=(usI (usedL l)) from (by (unfold usedE;rw [if_pos ho]))))))<|.c oz5<|.c (Weak.int (k:=.i64) (show ((0):Int)=((↑0:Int)) from (by omega)))<|.c (show BlkW (Blk.obj (mobj (putI [] 0 0))) (Blk.obj (mobj (nowL (usedL l) 0))) from (BlkW.map (show putI [] 0 0=nowL (usedL l) 0 from (by rfl))))<|.c oz8<|.c (show BlkW (Blk.slc 82 19 (List.map nodC (prunK l (usedL l).length))) (Blk.slc 82 19 (List.map nodC (pruneL l))) from (BlkW.rows (rows_to (nodC) (r:=List.map nodC (prunK l (usedL l).length)) (l:=prunK l (usedL l).length) (m:=pruneL l) rfl (show (prunK l (usedL l).length)=(pruneL l) from (by (rw [←prunK_all ho]))))))<|.n)
noncomputable def fblk_c_I (l:List Nod) (a:Shp) (k:Nat):VS:=stt 54 [(0,.sl 19 (l.map nodC)),(3,.ptr 3 0 0),(5,.own 900),(13,.sl 19 (l.map nodC)),(14,i64 l.length),(15,i64 k)] [(3,.var (shpC a)),(900,.slc 82 19 ((l.take k).map nodC))]
noncomputable def fblk_c_Z (l:List Nod) (a:Shp):VS:=stt 54 [(0,.sl 19 (l.map nodC)),(3,.ptr 3 0 0),(5,.own 900)] [(3,.var (shpC a)),(900,.slc 82 19 (l.map nodC))]
theorem fblk_c_s (l:List Nod) (a:Shp) (hl:l.length≤1000) (hw:∀ n∈l,n.w.length≤100000∧n.b.length≤100000) (k:Nat) (hk:k<l.length):VT Tryz.prog (fnC Tryz.f13 [1,1,0,1,0,0]) (fblk_c_I l a k) .normal (fblk_c_I l a (k+1)):=by
 have q:=getD_in hw hk
 obtain ⟨q1,q2⟩:=q
 have q3:(List.map nodC (l.take k)).length=k:=by rw [List.length_map,List.length_take];omega
 have q4:l.take (k+1)=l.take k++[l.getD k default]:=by
  rw [List.take_add_one,List.getD_eq_getElem?_getD,List.getElem?_eq_getElem hk];rfl
 have oz2:=(map_at (nodC) (default) (l:=l) (i:=k) hk)
 have oz3 := @fcopied_v (l.getD k default) q1 q2
 exact VT.run (W:=[.r [] [],.br true,.r [] [.row (sO oz2)],.r [] [.callr (rO oz3)],.r [] [.n ((↑k:Int)+1)]]) (G:=[.any (rg [(7,1),(16,9)]),.drop [7,22],.ren 23 900,.weak 15 (i64 (↑(k+1):Int)),.blk 900 (Blk.slc 82 19 (List.map nodC (List.take (k+1) l))),.sort]) (by kernel_rfl) (.c (decide_eq_true (p:=((↑k:Int)<(↑l.length:Int))) (by omega))<|.c (show 0≤(↑k:Int) by omega)<|.c oz2<|.c oz3<|.c (show ((List.map nodC (List.take k l)).length+1)*168≤140737488355328 by omega)<|.c (show (List.map nodC (List.take k l)).length+1≤9223372036854775807 by omega)<|.c (i6n ((↑k:Int)+1) (by omega))<|.c (Weak.int (k:=.i64) (show (((↑k:Int)+1):Int)=((↑(k+1):Int)) from (by omega)))<|.c (show BlkW (Blk.slc 82 19 (List.map nodC (List.take k l)++[[i64 (l.getD k default).kd,i64 (l.getD k default).na,i64 (l.getD k default).nb,i64 (l.getD k default).nk,i64 (l.getD k default).ns,i64 (l.getD k default).np,i64 (l.getD k default).no,i8 (l.getD k default).za,i8 (l.getD k default).zb,AV.sl 1 (List.map (row1 IntKind.i8) (l.getD k default).w),AV.sl 1 (List.map (row1 IntKind.i32) (l.getD k default).b),i32 (l.getD k default).qm,i64 (l.getD k default).qs,i8 (l.getD k default).qz,i32 (l.getD k default).rm,i64 (l.getD k default).rs,i8 (l.getD k default).rz,i8 (l.getD k default).lo,i8 (l.getD k default).hi]])) (Blk.slc 82 19 (List.map nodC (List.take (k+1) l))) from (BlkW.rows (rows_to (nodC) (r:=List.map nodC (List.take k l)++[[i64 (l.getD k default).kd,i64 (l.getD k default).na,i64 (l.getD k default).nb,i64 (l.getD k default).nk,i64 (l.getD k default).ns,i64 (l.getD k default).np,i64 (l.getD k default).no,i8 (l.getD k default).za,i8 (l.getD k default).zb,AV.sl 1 (List.map (row1 IntKind.i8) (l.getD k default).w),AV.sl 1 (List.map (row1 IntKind.i32) (l.getD k default).b),i32 (l.getD k default).qm,i64 (l.getD k default).qs,i8 (l.getD k default).qz,i32 (l.getD k default).rm,i64 (l.getD k default).rs,i8 (l.getD k default).rz,i8 (l.getD k default).lo,i8 (l.getD k default).hi]]) (l:=List.take k l++[Nod.mk (l.getD k default).kd (l.getD k default).na (l.getD k default).nb (l.getD k default).nk (l.getD k default).ns (l.getD k default).np (l.getD k default).no (l.getD k default).za (l.getD k default).zb (l.getD k default).w (l.getD k default).b (l.getD k default).qm (l.getD k default).qs (l.getD k default).qz (l.getD k default).rm (l.getD k default).rs (l.getD k default).rz (l.getD k default).lo (l.getD k default).hi]) (m:=List.take (k+1) l) (by first | (simp only [List.map_append,List.map_cons,List.map_nil,List.map_set,List.map_replicate,List.map_take,List.map_drop];done) | rfl | (simp only [List.map_append,List.map_cons,List.map_nil,List.map_set,List.map_replicate,List.map_take,List.map_drop];rfl) | (simp only [List.map_append,List.map_cons,List.map_nil,List.map_set,List.map_replicate,List.map_take,List.map_drop,nodC,ints];done)) (show (List.take k l++[Nod.mk (l.getD k default).kd (l.getD k default).na (l.getD k default).nb (l.getD k default).nk (l.getD k default).ns (l.getD k default).np (l.getD k default).no (l.getD k default).za (l.getD k default).zb (l.getD k default).w (l.getD k default).b (l.getD k default).qm (l.getD k default).qs (l.getD k default).qz (l.getD k default).rm (l.getD k default).rs (l.getD k default).rz (l.getD k default).lo (l.getD k default).hi])=(List.take (k+1) l) from (by (rw [q4]))))))<|.n)
theorem fblk_c_e (l:List Nod) (a:Shp) (hl:l.length≤1000) (hw:∀ n∈l,n.w.length≤100000∧n.b.length≤100000):VT Tryz.prog (fnC Tryz.f13 [1,1,0,1,0,0]) (fblk_c_I l a (l.length)) (.exit 0) (fblk_c_Z l a):=by
 exact VT.run (W:=[.r [] [],.br false]) (G:=[.any (rg [(13,4)]),.blk 900 (Blk.slc 82 19 (List.map nodC l)),.sort]) (by kernel_rfl) (.c (decide_eq_false (p:=((↑l.length:Int)<(↑l.length:Int))) (by omega))<|.c (show BlkW (Blk.slc 82 19 (List.map nodC (List.take l.length l))) (Blk.slc 82 19 (List.map nodC l)) from (BlkW.rows (rows_to (nodC) (r:=List.map nodC (List.take l.length l)) (l:=List.take l.length l) (m:=l) rfl (show (List.take l.length l)=(l) from (by (simp;done))))))<|.n)
theorem fblk_c (l:List Nod) (a:Shp) (hl:l.length≤1000) (hw:∀ n∈l,n.w.length≤100000∧n.b.length≤100000):VT Tryz.prog (fnC Tryz.f13 [1,1,0,1,0]) (fblk_c_I l a 0) (.exit 0) (fblk_c_Z l a) :=
 VT.loop (fun k=>fblk_c_I l a k) (l.length) (fun k hk=>fblk_c_s l a hl hw k hk) (fblk_c_e l a hl hw) (by intro h;cases h)
theorem once_fix {l:List Nod} (o:orderedB l=true) (e:onceL l=l):thrK (padK l l.length) (padK l l.length).length=l:=by
 obtain ⟨h1,h2,h3⟩:=(once_iff o).2 e
 have e1:padL l=l:=padB_no _ (Nat.le_refl _) h1
 have e2:thrL l=l:=thrB_no o _ (Nat.le_refl _) (by rw [e1] at h2;exact h2)
 show thrL (padL l)=l
 rw [e1,e2]
theorem once_told {l:List Nod} (o:orderedB l=true):((padB l l.length==false)&&((thrB (padK l l.length) (padK l l.length).length==false)&&true)&&(((List.map nodC (pruneL (thrK (padK l l.length) (padK l l.length).length))).length:Int)==((List.map nodC (thrK (padK l l.length) (padK l l.length).length)).length:Int)))=decide (onceL l=l):=by
 rw [Bool.eq_iff_iff,decide_eq_true_iff,←once_iff o]
 simp only [Bool.and_eq_true,beq_iff_eq,Bool.and_true,List.length_map,Int.natCast_inj,and_assoc]
 rw [thrK_len,padK_len]
 have e1:(padL l).length=l.length:=padL_len l
 have e2:padL l=padK l l.length:=rfl
 have e3:onceL l=pruneL (thrK (padK l l.length) (padK l l.length).length):=rfl
 rw [e2,e3]
 have e4:(padK l l.length).length=l.length:=e1
 rw [e4]
noncomputable def fblk_l_I (l:List Nod) (m:Nat) (k:Nat):VS:=stt 54 [(5,.own 900)] [(900,.slc 82 19 ((itL l k).map nodC))]
noncomputable def fblk_l_Z (l:List Nod) (m:Nat):VS:=stt 54 [(4,.sl 19 ((itL l m).map nodC))] []
theorem fblk_l_s (l:List Nod) (m:Nat) (o:orderedB l=true) (h8:l.length≤8) (okl:∀ n∈l,n.Ok) (wl:∀ n∈l,n.w.length≤100000∧n.b.length≤100000) (me:onceL (itL l m)=itL l m) (mk:∀ k,k<m→onceL (itL l k)≠itL l k) (k:Nat) (hk:k<m):VT Tryz.prog (fnC Tryz.f13 [1,1,1,1,0,0]) (fblk_l_I l m k) .normal (fblk_l_I l m (k+1)):=by
 have q4:=mk k hk
 have q5:=itL_le l k
 have q6:=itL_ordered o k
 have q7:=itL_ok o (by omega) okl k
 have q8:=itL_w wl k
 have p1:=padK_len (itL l k) (itL l k).length
 have p2:orderedB (padK (itL l k) (itL l k).length)=true:=padL_ordered q6
 have p3:=padK_mem q6 q7 (fun a c ha hc hf=>ha.took hc hf) (itL l k).length (Nat.le_refl _)
 have p4:=padK_mem q6 q8 (fun a c ha hc hf=>hc) (itL l k).length (Nat.le_refl _)
 have p5:=thrK_len (padK (itL l k) (itL l k).length) (padK (itL l k) (itL l k).length).length
 have p6:orderedB (thrK (padK (itL l k) (itL l k).length) (padK (itL l k) (itL l k).length).length)=true:=thrL_ordered p2
 have p7:=(thrK_ok p2 (by omega) p3 p4 (padK (itL l k) (itL l k).length).length (Nat.le_refl _)).2
 have p8:=once_told q6
 rw [decide_eq_false q4] at p8
 have oz0 := @fpads_v (itL l k) q6 (by omega) q7 q8
 have oz1 := @fthr_v (padK (itL l k) (itL l k).length) p2 (by omega) p3 p4
 have oz2 := @pblock_o (thrK (padK (itL l k) (itL l k).length) (padK (itL l k) (itL l k).length).length) (by omega) p7 p6
 exact VT.run (W:=[.r [] [.callm [(900,100000)] [] (rM oz0) (oM oz0),.callm [(900,100000)] [] (rM oz1) (oM oz1)],.r [.frz 900] [.callm [] [(950,20000)] (rM oz2) (oM oz2)],.r [] [.v (Value.bool (padB (itL l k) (itL l k).length==false&&(thrB (padK (itL l k) (itL l k).length) (padK (itL l k) (itL l k).length).length==false&&true))),.op false,.op false,.op false,.op false,.op false,.sel 2],.br false,.r [] []]) (G:=[.any (rg [(11,2),(35,11),(51,1),(53,1)]),.drop [11],.ren 20000 900,.blk 900 (Blk.slc 82 19 (List.map nodC (itL l (k+1)))),.sort]) (by kernel_rfl) (.c oz0<|.c oz1<|.c oz2<|.c (show BinTo Tryz.prog BinOp.eql 105 (Operand.tmp 42) (Operand.tmp 43) (Value.agg #[Value.bool (padB (itL l k) (itL l k).length),Value.bool (thrB (padK (itL l k) (itL l k).length) (padK (itL l k) (itL l k).length).length)]) (Value.agg #[Value.bool false,Value.bool false]) (Value.bool (padB (itL l k) (itL l k).length==false&&(thrB (padK (itL l k) (itL l k).length) (padK (itL l k) (itL l k).length).length==false&&true))) from ((bin_arrB (l:=[(padB (itL l k) (itL l k).length,false),(thrB (padK (itL l k) (itL l k).length) (padK (itL l k) (itL l k).length).length,false)]) (by kernel_rfl) (by kernel_rfl) _ _).1))<|.c p8<|.c (show BlkW (Blk.slc 82 19 (List.map nodC (pruneL (thrK (padK (itL l k) (itL l k).length) (padK (itL l k) (itL l k).length).length)))) (Blk.slc 82 19 (List.map nodC (itL l (k+1)))) from (BlkW.rows (rows_to (nodC) (r:=List.map nodC (pruneL (thrK (padK (itL l k) (itL l k).length) (padK (itL l k) (itL l k).length).length))) (l:=pruneL (thrK (padK (itL l k) (itL l k).length) (padK (itL l k) (itL l k).length).length)) (m:=itL l (k+1)) rfl (show (pruneL (thrK (padK (itL l k) (itL l k).length) (padK (itL l k) (itL l k).length).length))=(itL l (k+1)) from (by rfl)))))<|.n)
theorem fblk_l_e (l:List Nod) (m:Nat) (o:orderedB l=true) (h8:l.length≤8) (okl:∀ n∈l,n.Ok) (wl:∀ n∈l,n.w.length≤100000∧n.b.length≤100000) (me:onceL (itL l m)=itL l m) (mk:∀ k,k<m→onceL (itL l k)≠itL l k):VT Tryz.prog (fnC Tryz.f13 [1,1,1,1,0,0]) (fblk_l_I l m (m)) (.ret) (fblk_l_Z l m):=by
 have q5:=itL_le l m
 have q6:=itL_ordered o m
 have q7:=itL_ok o (by omega) okl m
 have q8:=itL_w wl m
 have p1:=padK_len (itL l m) (itL l m).length
 have p2:orderedB (padK (itL l m) (itL l m).length)=true:=padL_ordered q6
 have p3:=padK_mem q6 q7 (fun a c ha hc hf=>ha.took hc hf) (itL l m).length (Nat.le_refl _)
 have p4:=padK_mem q6 q8 (fun a c ha hc hf=>hc) (itL l m).length (Nat.le_refl _)
 have p5:=thrK_len (padK (itL l m) (itL l m).length) (padK (itL l m) (itL l m).length).length
 have p6:orderedB (thrK (padK (itL l m) (itL l m).length) (padK (itL l m) (itL l m).length).length)=true:=thrL_ordered p2
 have p7:=(thrK_ok p2 (by omega) p3 p4 (padK (itL l m) (itL l m).length).length (Nat.le_refl _)).2
 have p8:=once_told q6
 rw [decide_eq_true me] at p8
 have p9:=once_fix q6 me
 have oz0 := @fpads_v (itL l m) q6 (by omega) q7 q8
 have oz1 := @fthr_v (padK (itL l m) (itL l m).length) p2 (by omega) p3 p4
 have oz2 := @pblock_o (thrK (padK (itL l m) (itL l m).length) (padK (itL l m) (itL l m).length).length) (by omega) p7 p6
 exact VT.run (W:=[.r [] [.callm [(900,100000)] [] (rM oz0) (oM oz0),.callm [(900,100000)] [] (rM oz1) (oM oz1)],.r [.frz 900] [.callm [] [(950,20000)] (rM oz2) (oM oz2)],.r [] [.v (Value.bool (padB (itL l m) (itL l m).length==false&&(thrB (padK (itL l m) (itL l m).length) (padK (itL l m) (itL l m).length).length==false&&true))),.op false,.op false,.op false,.op false,.op false,.sel 2],.br true,.r [] []]) (G:=[.any (rg [(5,1),(11,2),(35,11),(51,2)]),.drop [11,20000],.weak 4 (AV.sl 19 (List.map nodC (itL l m))),.sort]) (by kernel_rfl) (.c oz0<|.c oz1<|.c oz2<|.c (show BinTo Tryz.prog BinOp.eql 105 (Operand.tmp 42) (Operand.tmp 43) (Value.agg #[Value.bool (padB (itL l m) (itL l m).length),Value.bool (thrB (padK (itL l m) (itL l m).length) (padK (itL l m) (itL l m).length).length)]) (Value.agg #[Value.bool false,Value.bool false]) (Value.bool (padB (itL l m) (itL l m).length==false&&(thrB (padK (itL l m) (itL l m).length) (padK (itL l m) (itL l m).length).length==false&&true))) from ((bin_arrB (l:=[(padB (itL l m) (itL l m).length,false),(thrB (padK (itL l m) (itL l m).length) (padK (itL l m) (itL l m).length).length,false)]) (by kernel_rfl) (by kernel_rfl) _ _).1))<|.c p8<|.c (show Weak (AV.sl 19 (List.map nodC (thrK (padK (itL l m) (itL l m).length) (padK (itL l m) (itL l m).length).length))) (AV.sl 19 (List.map nodC (itL l m))) from (Weak.rows (rows_to (nodC) (r:=List.map nodC (thrK (padK (itL l m) (itL l m).length) (padK (itL l m) (itL l m).length).length)) (l:=thrK (padK (itL l m) (itL l m).length) (padK (itL l m) (itL l m).length).length) (m:=itL l m) rfl (show (thrK (padK (itL l m) (itL l m).length) (padK (itL l m) (itL l m).length).length)=(itL l m) from p9))))<|.n)
theorem fblk_l (l:List Nod) (m:Nat) (o:orderedB l=true) (h8:l.length≤8) (okl:∀ n∈l,n.Ok) (wl:∀ n∈l,n.w.length≤100000∧n.b.length≤100000) (me:onceL (itL l m)=itL l m) (mk:∀ k,k<m→onceL (itL l k)≠itL l k):VT Tryz.prog (fnC Tryz.f13 [1,1,1,1,0]) (fblk_l_I l m 0) (.ret) (fblk_l_Z l m) :=
 VT.loop (fun k=>fblk_l_I l m k) (m) (fun k hk=>fblk_l_s l m o h8 okl wl me mk k hk) (fblk_l_e l m o h8 okl wl me mk) (by intro h;cases h)
theorem fblk_m (l:List Nod) (a:Shp) (m:Nat) (h:SOK l a) (okl:∀ n∈l,n.Ok) (wl:∀ n∈l,n.w.length≤100000∧n.b.length≤100000) (me:onceL (itL l m)=itL l m) (mk:∀ k,k<m→onceL (itL l k)≠itL l k):VC Tryz.prog 13 ([.sl 19 (l.map nodC),shp a]) (.sl 19 ((itL l m).map nodC)):=by
 have q1:=h.o
 have q2:=h.f
 have q3:=h.i.ok
 have q4:(List.map nodC l).length=l.length:=List.length_map _
 have oz2 := @fblk_c (l) (a) (by omega) wl
 have oz3 := @shapes_y (l) (a) okl wl h
 have oz6 := @fblk_l (l) (m) q1 q2 okl wl me mk
 exact VC.run (fn:=Tryz.f13) (W:=[.r [] [],.r [] [],.r [] [],.code [.any [1,4],.weak 14 (i64 (↑l.length:Int)),.weak 15 (i64 (↑0:Int)),.nils 5 900 82 19,.sort] (Exit.exit 0) (zO oz2),.r [] [.callr (rO oz3)],.r [] [],.br false,.code [.any (rg [(0,1),(3,1),(8,3),(25,9)]),.drop [3],.blk 900 (Blk.slc 82 19 (List.map nodC (itL l 0))),.sort] (Exit.ret) (zO oz6)]) Tryz.func13 (by kernel_rfl) (.c (Weak.int (k:=.i64) (show (((↑(List.map nodC l).length:Int)):Int)=((↑l.length:Int)) from (by omega)))<|.c (Weak.int (k:=.i64) (show ((0):Int)=((↑0:Int)) from (by omega)))<|.c oz2<|.c oz3<|.c (show false=false by with_reducible rfl)<|.c (show BlkW (Blk.slc 82 19 (List.map nodC l)) (Blk.slc 82 19 (List.map nodC (itL l 0))) from (BlkW.rows (rows_to (nodC) (r:=List.map nodC l) (l:=l) (m:=itL l 0) rfl (show (l)=(itL l 0) from (by rfl)))))<|.c oz6<|.n)
theorem fblk_y (l:List Nod) (a:Shp) (h:SOK l a) (okl:∀ n∈l,n.Ok) (wl:∀ n∈l,n.w.length≤100000∧n.b.length≤100000):VC Tryz.prog 13 [.sl 19 (l.map nodC),shp a] (.sl 19 ((fuseL l).map nodC)):=by
 obtain ⟨q1,q2,q3⟩:=stop_at h.o h.f
 rw [fuseL_eq];exact fblk_m l a (stopK l) h okl wl q2 q3
abbrev kF1:Nod:=⟨7,0,0,0,0,0,0,0,0,[],[],1,0,0,0,0,0,-128,127⟩
abbrev kF2:Nod:=⟨7,0,0,0,0,0,0,1,0,[],[],1,0,0,0,0,0,-128,127⟩
theorem kF1_ok:Nod.Ok kF1:=by
 constructor<;>first | (constructor<;>decide) | (intro v hv;cases hv)
theorem kF2_ok:Nod.Ok kF2:=by
 constructor<;>first | (constructor<;>decide) | (intro v hv;cases hv)
theorem known52_a:VC Tryz.prog 34 [.agg [i64 7,i64 0,i64 0,i64 0,i64 0,i64 0,i64 0,i8 0,i8 0,.sl 1 [],.sl 1 [],i32 1,i64 0,i8 0,i32 0,i64 0,i8 0,i8 (-128),i8 127]] (bv true) :=
 VC.to (fsame_v kF1 kF1_ok (by decide) (by decide)) (by kernel_rfl)
theorem known52_b:VC Tryz.prog 34 [.agg [i64 7,i64 0,i64 0,i64 0,i64 0,i64 0,i64 0,i8 1,i8 0,.sl 1 [],.sl 1 [],i32 1,i64 0,i8 0,i32 0,i64 0,i8 0,i8 (-128),i8 127]] (bv false) :=
 VC.to (fsame_v kF2 kF2_ok (by decide) (by decide)) (by kernel_rfl)
theorem known52_v   : VC Tryz.prog 11 ([]) (bv true):=by
 have oz1 := @known52_a
 have oz2:=(show true=true by with_reducible rfl)
 have oz5 := @known52_b
 exact VC.run (fn:=Tryz.f11) (W:=[.r [] [],.r [] [],.r [] [],.r [] [],.r [] [.call (aO oz1) (rO oz1),.br true,.br true,.call (aO oz5) (rO oz5),.br true,.br true]]) Tryz.func11 (by kernel_rfl) (.c (show WeakL [AV.agg [i64 7,i64 0,i64 0,i64 0,i64 0,i64 0,i64 0,i8 0,i8 0,AV.lit (Value.slice none 0 0),AV.lit (Value.slice none 0 0),i32 1,i64 0,i8 0,i32 0,i64 0,i8 0,i8 (-128),i8 127]] [AV.agg [i64 7,i64 0,i64 0,i64 0,i64 0,i64 0,i64 0,i8 0,i8 0,AV.sl 1 [],AV.sl 1 [],i32 1,i64 0,i8 0,i32 0,i64 0,i8 0,i8 (-128),i8 127]] from (.cons (Weak.agg (.cons (.refl _) (.cons (.refl _) (.cons (.refl _) (.cons (.refl _) (.cons (.refl _) (.cons (.refl _) (.cons (.refl _) (.cons (.refl _) (.cons (.refl _) (.cons (Weak.nil _) (.cons (Weak.nil _) (.cons (.refl _) (.cons (.refl _) (.cons (.refl _) (.cons (.refl _) (.cons (.refl _) (.cons (.refl _) (.cons (.refl _) (.cons (.refl _) .nil)))))))))))))))))))) .nil))<|.c oz1<|.c oz2<|.c oz2<|.c (show WeakL [AV.agg [i64 7,i64 0,i64 0,i64 0,i64 0,i64 0,i64 0,i8 1,i8 0,AV.lit (Value.slice none 0 0),AV.lit (Value.slice none 0 0),i32 1,i64 0,i8 0,i32 0,i64 0,i8 0,i8 (-128),i8 127]] [AV.agg [i64 7,i64 0,i64 0,i64 0,i64 0,i64 0,i64 0,i8 1,i8 0,AV.sl 1 [],AV.sl 1 [],i32 1,i64 0,i8 0,i32 0,i64 0,i8 0,i8 (-128),i8 127]] from (.cons (Weak.agg (.cons (.refl _) (.cons (.refl _) (.cons (.refl _) (.cons (.refl _) (.cons (.refl _) (.cons (.refl _) (.cons (.refl _) (.cons (.refl _) (.cons (.refl _) (.cons (Weak.nil _) (.cons (Weak.nil _) (.cons (.refl _) (.cons (.refl _) (.cons (.refl _) (.cons (.refl _) (.cons (.refl _) (.cons (.refl _) (.cons (.refl _) (.cons (.refl _) .nil)))))))))))))))))))) .nil))<|.c oz5<|.c oz2<|.c oz2<|.n)
end Go.Proofs.YtgecmooedhnenaaGreat
