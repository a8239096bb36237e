/- A part of this claim. No condition. -/
import Derived.Test.YtgecmooedhnenaaGreatFuseSameG5
set_option maxRecDepth 100000
set_option maxHeartbeats 2000000
set_option linter.unusedVariables false
set_option linter.unusedSimpArgs false
set_option linter.unnecessarySimpa false
namespace Go.Proofs.YtgecmooedhnenaaGreat
open Go.RowKit
def rowE (T:Ten) (n:Nod) (h w o:Int) (i:Nat):Int:=sumN (colE T n o i (h*n.ns+(i:Int)-n.np) (w*n.ns-n.np)) n.nk.toNat
theorem rowE_bd {T:Ten} {n:Nod} (ok:CvOk T n) (h w o:Int) (i:Nat) : -167116800≤rowE T n h w o i∧rowE T n h w o i≤167116800:=by
 have g15:=sumN_bd (B:=33423360) (f:=colE T n o i (h*n.ns+i-n.np) (w*n.ns-n.np)) n.nk.toNat fun j _=>colE_bd ok _ _ _ _ j
 have g1:=ok.n.k5
 have g2:=ok.n.k1
 unfold rowE
 omega
def sumE (T:Ten) (n:Nod) (h w o:Int):Int:=accN (n.b.getD o.toNat 0) (rowE T n h w o) n.nk.toNat
noncomputable def rcSum_i_I (T:Ten) (n:Nod) (h w o:Int) (k:Nat):VS:=stt 118 [(2,i64 h),(3,i64 w),(4,i64 o),(5,.ptr 5 0 0),(6,.ptr 6 0 0),(11,i64 (accN (n.b.getD o.toNat 0) (rowE T n h w o) k)),(12,i64 k)] [(5,.var [i64 T.h,i64 T.x,i64 T.c,ints .i8 T.d]),(6,.var (nodC n))]
noncomputable def rcSum_i_Z (T:Ten) (n:Nod) (h w o:Int):VS:=rcSum_i_I T n h w o (n.nk.toNat)
theorem rcSum_i_s (T:Ten) (n:Nod) (h w o:Int) (ok:CvOk T n) (o0:0≤o) (o1:o<n.no) (h0:0≤h) (h1:h≤1000) (w0:0≤w) (w1:w≤1000) (k:Nat) (hk:k<n.nk.toNat):VT Tryz.prog (fnC Tryz.f196 [1,1,0,1,0,0]) (rcSum_i_I T n h w o k) .normal (rcSum_i_I T n h w o (k+1)):=by
 have nn:=ok.n
 have g1:=nn.k1
 have g2:=nn.k5
 have g3:=gt32 ok.okn.b o.toNat
 have g4:=accN_eq (n.b.getD o.toNat 0) (rowE T n h w o) k
 have g5:=sumN_bd (B:=167116800) (f:=rowE T n h w o) k fun i _=>rowE_bd ok _ _ _ i
 have oz2 := @rcSum_j (T) (n) (h) (w) (o) ((↑k:Int)) (accN (n.b.getD o.toNat 0) (rowE T n h w o) k) ok o0 o1 h0 h1 w0 w1 (by omega) (by omega) (by omega) (by omega)
 have oz4:=(Weak.int (k:=.i64) (show ((accN (accN (n.b.getD o.toNat 0) (rowE T n h w o) k) (colE T n o (↑k:Int) (h*n.ns+(↑k:Int)-n.np) (w*n.ns-n.np)) n.nk.toNat):Int)=(accN (n.b.getD o.toNat 0) (rowE T n h w o) (k+1)) from (by (rw [accN,rowE,accN_eq]))))
 exact VT.run (W:=[.r [] [],.br true,.r [] [],.code [.any (rg [(23,4)]),.weak 13 (i64 (↑0:Int)),.sort] (Exit.exit 2) (zO oz2),.r [] [.n ((↑k:Int)+1)]]) (G:=[.any [13,27,28],.weak 11 (wO oz4),.weak 12 (i64 (↑(k+1):Int)),.sort]) (by kernel_rfl) (.c (decide_eq_true (p:=((↑k:Int)<n.nk)) (by omega))<|.c (Weak.int (k:=.i64) (show ((0):Int)=((↑0:Int)) from (by omega)))<|.c oz2<|.c (i6n ((↑k:Int)+1) (by omega))<|.c oz4<|.c (Weak.int (k:=.i64) (show (((↑k:Int)+1):Int)=((↑(k+1):Int)) from (by omega)))<|.n)
theorem rcSum_i_e (T:Ten) (n:Nod) (h w o:Int) (ok:CvOk T n) (o0:0≤o) (o1:o<n.no) (h0:0≤h) (h1:h≤1000) (w0:0≤w) (w1:w≤1000):VT Tryz.prog (fnC Tryz.f196 [1,1,0,1,0,0]) (rcSum_i_I T n h w o (n.nk.toNat)) (.exit 0) (rcSum_i_Z T n h w o):=by
 have nn:=ok.n
 have g1:=nn.k1
 exact VT.run (W:=[.r [] [],.br false]) (G:=[.any (rg [(23,4)]),.sort]) (by kernel_rfl) (.c (decide_eq_false (p:=((↑n.nk.toNat:Int)<n.nk)) (by omega))<|.n)
theorem rcSum_i (T:Ten) (n:Nod) (h w o:Int) (ok:CvOk T n) (o0:0≤o) (o1:o<n.no) (h0:0≤h) (h1:h≤1000) (w0:0≤w) (w1:w≤1000):VT Tryz.prog (fnC Tryz.f196 [1,1,0,1,0]) (rcSum_i_I T n h w o 0) (.exit 0) (rcSum_i_Z T n h w o) :=
 VT.loop (fun k=>rcSum_i_I T n h w o k) (n.nk.toNat) (fun k hk=>rcSum_i_s T n h w o ok o0 o1 h0 h1 w0 w1 k hk) (rcSum_i_e T n h w o ok o0 o1 h0 h1 w0 w1) (by intro h;cases h)
theorem rcSum_v (T:Ten) (n:Nod) (h w o:Int) (ok:CvOk T n) (o0:0≤o) (o1:o<n.no) (h0:0≤h) (h1:h≤1000) (w0:0≤w) (w1:w≤1000):VC Tryz.prog 196 ([ten .i8 T,nod n,i64 h,i64 w,i64 o]) (i64 (sumE T n h w o)):=by
 have g1:=ok.n.bl
 have g3:=gt32 ok.okn.b o.toNat
 have oz3:=(Weak.int (k:=.i64) (show ((n.b.getD o.toNat 0):Int)=(accN (n.b.getD o.toNat 0) (rowE T n h w o) 0) from (by rfl)))
 have oz5 := @rcSum_i (T) (n) (h) (w) (o) ok o0 o1 h0 h1 w0 w1
 exact (VC.run (fn:=Tryz.f196) (W:=[.r [] [],.r [] [.row [i32 (n.b.getD o.toNat 0)],.n (n.b.getD o.toNat 0)],.r [] [],.code [.any (rg [(0,2),(10,1),(17,6)]),.weak 11 (wO oz3),.weak 12 (i64 (↑0:Int)),.sort] (Exit.exit 0) (zO oz5),.r [] []]) (r:=i64 (accN (n.b.getD o.toNat 0) (rowE T n h w o) n.nk.toNat)) Tryz.func196 (by kernel_rfl) (.c o0<|.c (map_at (row1 IntKind.i32) (0) (l:=n.b) (i:=o.toNat) (by omega))<|.c (i6n (n.b.getD o.toNat 0) (by omega))<|.c oz3<|.c (Weak.int (k:=.i64) (show ((0):Int)=((↑0:Int)) from (by omega)))<|.c oz5<|.n)).weak (WeakL.refl _) (Weak.int (show ((accN (n.b.getD o.toNat 0) (rowE T n h w o) n.nk.toNat):Int)=(sumE T n h w o) from (by rfl)))
def refO (T:Ten) (n:Nod) (h w:Nat) (o:Nat):List Int:=(List.range o).map fun (o:Nat)=>IntKind.i32.wrap (sumE T n h w o)
def refW (T:Ten) (n:Nod) (h:Nat):Nat→List Int
 | 0=>[]
 | w+1=>refW T n h w++refO T n h w n.no.toNat
def refH (T:Ten) (n:Nod):Nat→List Int
 | 0=>[]
 | h+1=>refH T n h++refW T n h (convE ⟨T.h,T.x,T.c⟩ n).1.x.toNat
theorem refW_len (T:Ten) (n:Nod) (h:Nat):∀ w,(refW T n h w).length=w*n.no.toNat
 | 0=>by simp [refW]
 | w+1=>by rw [refW,List.length_append,refW_len T n h w,Nat.add_mul];simp [refO]
theorem refH_len (T:Ten) (n:Nod):∀ h,(refH T n h).length=h*((convE ⟨T.h,T.x,T.c⟩ n).1.x.toNat*n.no.toNat)
 | 0=>by simp [refH]
 | h+1=>by rw [refH,List.length_append,refH_len T n h,refW_len,Nat.add_mul];simp
theorem ref_bd {T:Ten} {n:Nod} (nn:CvN T n) {h w:Nat} (hh:h<(convE ⟨T.h,T.x,T.c⟩ n).1.h.toNat) (hw:w<(convE ⟨T.h,T.x,T.c⟩ n).1.x.toNat):(refH T n h).length+(refW T n h w).length+n.no.toNat≤40000:=by
 rw [refH_len,refW_len]
 have h1:=nn.he
 have h2:=nn.xe
 have h3:=nn.o1
 have h4:=nn.o2
 have a1:(convE ⟨T.h,T.x,T.c⟩ n).1.x.toNat*n.no.toNat≤16*1024:=Nat.mul_le_mul (by omega) (by omega)
 have h5:=nn.el
 have hx:((convE ⟨T.h,T.x,T.c⟩ n).1.h.toNat*((convE ⟨T.h,T.x,T.c⟩ n).1.x.toNat*n.no.toNat):Nat)≤1024:=by
  have:(((convE ⟨T.h,T.x,T.c⟩ n).1.h.toNat*((convE ⟨T.h,T.x,T.c⟩ n).1.x.toNat*n.no.toNat):Nat):Int)=(convE ⟨T.h,T.x,T.c⟩ n).1.h*(convE ⟨T.h,T.x,T.c⟩ n).1.x*n.no:=by
   rw [Int.natCast_mul,Int.natCast_mul,Int.toNat_of_nonneg (by omega),Int.toNat_of_nonneg (by omega),Int.toNat_of_nonneg (by omega),Int.mul_assoc]
  omega
 have a2:h*((convE ⟨T.h,T.x,T.c⟩ n).1.x.toNat*n.no.toNat)≤(convE ⟨T.h,T.x,T.c⟩ n).1.h.toNat*((convE ⟨T.h,T.x,T.c⟩ n).1.x.toNat*n.no.toNat):=Nat.mul_le_mul_right _ (by omega)
 have a3:w*n.no.toNat≤16*1024:=Nat.mul_le_mul (by omega) (by omega)
 omega
noncomputable def rcOf_o_I (T:Ten) (n:Nod) (h w:Nat) (k:Nat):VS:=stt 60 [(2,.ptr 2 0 0),(3,.ptr 3 0 0),(4,.ptr 4 0 0),(6,.ptr 6 0 0),(8,.ptr 8 0 0),(9,i64 h),(10,i64 w),(11,i64 k)] [(2,.var [i64 T.h,i64 T.x,i64 T.c,ints .i8 T.d]),(3,.var (nodC n)),(4,.var [i64 0,i64 0,i64 0,nilv]),(6,.var [i64 (convE ⟨T.h,T.x,T.c⟩ n).1.h,i64 (convE ⟨T.h,T.x,T.c⟩ n).1.x,i64 (convE ⟨T.h,T.x,T.c⟩ n).1.c]),(8,.var [i64 (convE ⟨T.h,T.x,T.c⟩ n).1.h,i64 (convE ⟨T.h,T.x,T.c⟩ n).1.x,i64 (convE ⟨T.h,T.x,T.c⟩ n).1.c,.own 900]),(900,.slc 21 1 ((refH T n h++(refW T n h w++refO T n h w k)).map (row1 .i32)))]
noncomputable def rcOf_o_Z (T:Ten) (n:Nod) (h w:Nat):VS:=rcOf_o_I T n h w (n.no.toNat)
theorem rcOf_o_s (T:Ten) (n:Nod) (h w:Nat) (ok:CvOk T n) (h1:h<(convE ⟨T.h,T.x,T.c⟩ n).1.h.toNat) (w1:w<(convE ⟨T.h,T.x,T.c⟩ n).1.x.toNat) (k:Nat) (hk:k<n.no.toNat):VT Tryz.prog (fnC Tryz.f148 [1,1,1,1,1,0,1,0,0,1,0,0,1,0,0,1,0,0,1,0,0]) (rcOf_o_I T n h w k) .normal (rcOf_o_I T n h w (k+1)):=by
 have nn:=ok.n
 have g1:=nn.he
 have g2:=nn.xe
 have g3:=nn.sc
 have g4:=nn.o1
 have g5:=nn.o2
 have g6:=ref_bd nn h1 w1
 have g7:(refO T n h w k).length=k:=by simp [refO]
 have oz1 := @rcSum_v (T) (n) ((↑h:Int)) ((↑w:Int)) ((↑k:Int)) ok (by omega) (by omega) (by omega) (by omega) (by omega) (by omega)
 exact VT.run (W:=[.r [] [],.br true,.r [] [.callr (rO oz1),.w],.r [] [.n ((↑k:Int)+1)]]) (G:=[.any (rg [(41,18)]),.drop [56],.ren 57 900,.weak 11 (i64 (↑(k+1):Int)),.blk 900 (Blk.slc 21 1 (List.map (row1 IntKind.i32) (refH T n h++(refW T n h w++refO T n h w (k+1))))),.sort]) (by kernel_rfl) (.c (decide_eq_true (p:=((↑k:Int)<(convE (Shp.mk T.h T.x T.c) n).fst.c)) (by omega))<|.c oz1<|.c (show ((List.map (row1 IntKind.i32) (refH T n h++(refW T n h w++refO T n h w k))).length+1)*4≤140737488355328 by (simp;omega))<|.c (show (List.map (row1 IntKind.i32) (refH T n h++(refW T n h w++refO T n h w k))).length+1≤9223372036854775807 by (simp;omega))<|.c (i6n ((↑k:Int)+1) (by omega))<|.c (Weak.int (k:=.i64) (show (((↑k:Int)+1):Int)=((↑(k+1):Int)) from (by omega)))<|.c (show BlkW (Blk.slc 21 1 (List.map (row1 IntKind.i32) (refH T n h++(refW T n h w++refO T n h w k))++[[i32 (IntKind.i32.wrap (sumE T n (↑h:Int) (↑w:Int) (↑k:Int)))]])) (Blk.slc 21 1 (List.map (row1 IntKind.i32) (refH T n h++(refW T n h w++refO T n h w (k+1))))) from (BlkW.rows (rows_to (row1 IntKind.i32) (r:=List.map (row1 IntKind.i32) (refH T n h++(refW T n h w++refO T n h w k))++[[i32 (IntKind.i32.wrap (sumE T n (↑h:Int) (↑w:Int) (↑k:Int)))]]) (l:=refH T n h++(refW T n h w++refO T n h w k)++[IntKind.i32.wrap (sumE T n (↑h:Int) (↑w:Int) (↑k:Int))]) (m:=refH T n h++(refW T n h w++refO T n h w (k+1))) (by first | (simp only [List.map_append,List.map_cons,List.map_nil,List.map_set,List.map_replicate,List.map_take,List.map_drop];done) | rfl | (simp only [List.map_append,List.map_cons,List.map_nil,List.map_set,List.map_replicate,List.map_take,List.map_drop];rfl)) (show (refH T n h++(refW T n h w++refO T n h w k)++[IntKind.i32.wrap (sumE T n (↑h:Int) (↑w:Int) (↑k:Int))])=(refH T n h++(refW T n h w++refO T n h w (k+1))) from (by (rw [refO,refO,List.range_succ,List.map_append];simp))))))<|.n)
theorem rcOf_o_e (T:Ten) (n:Nod) (h w:Nat) (ok:CvOk T n) (h1:h<(convE ⟨T.h,T.x,T.c⟩ n).1.h.toNat) (w1:w<(convE ⟨T.h,T.x,T.c⟩ n).1.x.toNat):VT Tryz.prog (fnC Tryz.f148 [1,1,1,1,1,0,1,0,0,1,0,0,1,0,0,1,0,0,1,0,0]) (rcOf_o_I T n h w (n.no.toNat)) (.exit 4) (rcOf_o_Z T n h w):=by
 have nn:=ok.n
 have g1:=nn.he
 have g2:=nn.xe
 have g3:=nn.sc
 have g4:=nn.o1
 have g5:=nn.o2
 exact VT.run (W:=[.r [] [],.br false]) (G:=[.any (rg [(41,4)]),.sort]) (by kernel_rfl) (.c (decide_eq_false (p:=((↑n.no.toNat:Int)<(convE (Shp.mk T.h T.x T.c) n).fst.c)) (by omega))<|.n)
theorem rcOf_o (T:Ten) (n:Nod) (h w:Nat) (ok:CvOk T n) (h1:h<(convE ⟨T.h,T.x,T.c⟩ n).1.h.toNat) (w1:w<(convE ⟨T.h,T.x,T.c⟩ n).1.x.toNat):VT Tryz.prog (fnC Tryz.f148 [1,1,1,1,1,0,1,0,0,1,0,0,1,0,0,1,0,0,1,0]) (rcOf_o_I T n h w 0) (.exit 4) (rcOf_o_Z T n h w) :=
 VT.loop (fun k=>rcOf_o_I T n h w k) (n.no.toNat) (fun k hk=>rcOf_o_s T n h w ok h1 w1 k hk) (rcOf_o_e T n h w ok h1 w1) (by intro h;cases h)
noncomputable def rcOf_w_I (T:Ten) (n:Nod) (h:Nat) (k:Nat):VS:=stt 60 [(2,.ptr 2 0 0),(3,.ptr 3 0 0),(4,.ptr 4 0 0),(6,.ptr 6 0 0),(8,.ptr 8 0 0),(9,i64 h),(10,i64 k)] [(2,.var [i64 T.h,i64 T.x,i64 T.c,ints .i8 T.d]),(3,.var (nodC n)),(4,.var [i64 0,i64 0,i64 0,nilv]),(6,.var [i64 (convE ⟨T.h,T.x,T.c⟩ n).1.h,i64 (convE ⟨T.h,T.x,T.c⟩ n).1.x,i64 (convE ⟨T.h,T.x,T.c⟩ n).1.c]),(8,.var [i64 (convE ⟨T.h,T.x,T.c⟩ n).1.h,i64 (convE ⟨T.h,T.x,T.c⟩ n).1.x,i64 (convE ⟨T.h,T.x,T.c⟩ n).1.c,.own 900]),(900,.slc 21 1 ((refH T n h++refW T n h k).map (row1 .i32)))]
noncomputable def rcOf_w_Z (T:Ten) (n:Nod) (h:Nat):VS:=rcOf_w_I T n h ((convE ⟨T.h,T.x,T.c⟩ n).1.x.toNat)
theorem rcOf_w_s (T:Ten) (n:Nod) (h:Nat) (ok:CvOk T n) (h1:h<(convE ⟨T.h,T.x,T.c⟩ n).1.h.toNat) (k:Nat) (hk:k<(convE ⟨T.h,T.x,T.c⟩ n).1.x.toNat):VT Tryz.prog (fnC Tryz.f148 [1,1,1,1,1,0,1,0,0,1,0,0,1,0,0]) (rcOf_w_I T n h k) .normal (rcOf_w_I T n h (k+1)):=by
 have nn:=ok.n
 have g1:=nn.he
 have g2:=nn.xe
 have g3:=nn.sc
 have g4:=nn.o1
 have g5:=nn.o2
 have oz3 := @rcOf_o (T) (n) (h) (k) ok h1 hk
 exact VT.run (W:=[.r [] [],.br true,.r [] [],.code [.any (rg [(35,4)]),.weak 11 (i64 (↑0:Int)),.blk 900 (Blk.slc 21 1 (List.map (row1 IntKind.i32) (refH T n h++(refW T n h k++refO T n h k 0)))),.sort] (Exit.exit 4) (zO oz3),.r [] [.n ((↑k:Int)+1)]]) (G:=[.any [11,39,40],.weak 10 (i64 (↑(k+1):Int)),.blk 900 (Blk.slc 21 1 (List.map (row1 IntKind.i32) (refH T n h++refW T n h (k+1)))),.sort]) (by kernel_rfl) (.c (decide_eq_true (p:=((↑k:Int)<(convE (Shp.mk T.h T.x T.c) n).fst.x)) (by omega))<|.c (Weak.int (k:=.i64) (show ((0):Int)=((↑0:Int)) from (by omega)))<|.c (show BlkW (Blk.slc 21 1 (List.map (row1 IntKind.i32) (refH T n h++refW T n h k))) (Blk.slc 21 1 (List.map (row1 IntKind.i32) (refH T n h++(refW T n h k++refO T n h k 0)))) from (BlkW.rows (rows_to (row1 IntKind.i32) (r:=List.map (row1 IntKind.i32) (refH T n h++refW T n h k)) (l:=refH T n h++refW T n h k) (m:=refH T n h++(refW T n h k++refO T n h k 0)) rfl (show (refH T n h++refW T n h k)=(refH T n h++(refW T n h k++refO T n h k 0)) from (by (simp [refO];done))))))<|.c oz3<|.c (i6n ((↑k:Int)+1) (by omega))<|.c (Weak.int (k:=.i64) (show (((↑k:Int)+1):Int)=((↑(k+1):Int)) from (by omega)))<|.c (show BlkW (Blk.slc 21 1 (List.map (row1 IntKind.i32) (refH T n h++(refW T n h k++refO T n h k n.no.toNat)))) (Blk.slc 21 1 (List.map (row1 IntKind.i32) (refH T n h++refW T n h (k+1)))) from (BlkW.rows (rows_to (row1 IntKind.i32) (r:=List.map (row1 IntKind.i32) (refH T n h++(refW T n h k++refO T n h k n.no.toNat))) (l:=refH T n h++(refW T n h k++refO T n h k n.no.toNat)) (m:=refH T n h++refW T n h (k+1)) rfl (show (refH T n h++(refW T n h k++refO T n h k n.no.toNat))=(refH T n h++refW T n h (k+1)) from (by rfl)))))<|.n)
theorem rcOf_w_e (T:Ten) (n:Nod) (h:Nat) (ok:CvOk T n) (h1:h<(convE ⟨T.h,T.x,T.c⟩ n).1.h.toNat):VT Tryz.prog (fnC Tryz.f148 [1,1,1,1,1,0,1,0,0,1,0,0,1,0,0]) (rcOf_w_I T n h ((convE ⟨T.h,T.x,T.c⟩ n).1.x.toNat)) (.exit 2) (rcOf_w_Z T n h):=by
 have nn:=ok.n
 have g1:=nn.he
 have g2:=nn.xe
 have g3:=nn.sc
 have g4:=nn.o1
 have g5:=nn.o2
 exact VT.run (W:=[.r [] [],.br false]) (G:=[.any (rg [(35,4)]),.sort]) (by kernel_rfl) (.c (decide_eq_false (p:=((↑(convE (Shp.mk T.h T.x T.c) n).fst.x.toNat:Int)<(convE (Shp.mk T.h T.x T.c) n).fst.x)) (by omega))<|.n)
theorem rcOf_w (T:Ten) (n:Nod) (h:Nat) (ok:CvOk T n) (h1:h<(convE ⟨T.h,T.x,T.c⟩ n).1.h.toNat):VT Tryz.prog (fnC Tryz.f148 [1,1,1,1,1,0,1,0,0,1,0,0,1,0]) (rcOf_w_I T n h 0) (.exit 2) (rcOf_w_Z T n h) :=
 VT.loop (fun k=>rcOf_w_I T n h k) ((convE ⟨T.h,T.x,T.c⟩ n).1.x.toNat) (fun k hk=>rcOf_w_s T n h ok h1 k hk) (rcOf_w_e T n h ok h1) (by intro h;cases h)
noncomputable def rcOf_h_I (T:Ten) (n:Nod) (k:Nat):VS:=stt 60 [(2,.ptr 2 0 0),(3,.ptr 3 0 0),(4,.ptr 4 0 0),(6,.ptr 6 0 0),(8,.ptr 8 0 0),(9,i64 k)] [(2,.var [i64 T.h,i64 T.x,i64 T.c,ints .i8 T.d]),(3,.var (nodC n)),(4,.var [i64 0,i64 0,i64 0,nilv]),(6,.var [i64 (convE ⟨T.h,T.x,T.c⟩ n).1.h,i64 (convE ⟨T.h,T.x,T.c⟩ n).1.x,i64 (convE ⟨T.h,T.x,T.c⟩ n).1.c]),(8,.var [i64 (convE ⟨T.h,T.x,T.c⟩ n).1.h,i64 (convE ⟨T.h,T.x,T.c⟩ n).1.x,i64 (convE ⟨T.h,T.x,T.c⟩ n).1.c,.own 900]),(900,.slc 21 1 ((refH T n k).map (row1 .i32)))]
noncomputable def rcOf_h_Z (T:Ten) (n:Nod):VS:=rcOf_h_I T n ((convE ⟨T.h,T.x,T.c⟩ n).1.h.toNat)
theorem rcOf_h_s (T:Ten) (n:Nod) (ok:CvOk T n) (k:Nat) (hk:k<(convE ⟨T.h,T.x,T.c⟩ n).1.h.toNat):VT Tryz.prog (fnC Tryz.f148 [1,1,1,1,1,0,1,0,0]) (rcOf_h_I T n k) .normal (rcOf_h_I T n (k+1)):=by
 have nn:=ok.n
 have g1:=nn.he
 have g2:=nn.xe
 have g3:=nn.sc
 have g4:=nn.o1
 have g5:=nn.o2
 have oz3 := @rcOf_w (T) (n) (k) ok hk
 exact VT.run (W:=[.r [] [],.br true,.r [] [],.code [.any (rg [(29,4)]),.weak 10 (i64 (↑0:Int)),.blk 900 (Blk.slc 21 1 (List.map (row1 IntKind.i32) (refH T n k++refW T n k 0))),.sort] (Exit.exit 2) (zO oz3),.r [] [.n ((↑k:Int)+1)]]) (G:=[.any [10,33,34],.weak 9 (i64 (↑(k+1):Int)),.blk 900 (Blk.slc 21 1 (List.map (row1 IntKind.i32) (refH T n (k+1)))),.sort]) (by kernel_rfl) (.c (decide_eq_true (p:=((↑k:Int)<(convE (Shp.mk T.h T.x T.c) n).fst.h)) (by omega))<|.c (Weak.int (k:=.i64) (show ((0):Int)=((↑0:Int)) from (by omega)))<|.c (show BlkW (Blk.slc 21 1 (List.map (row1 IntKind.i32) (refH T n k))) (Blk.slc 21 1 (List.map (row1 IntKind.i32) (refH T n k++refW T n k 0))) from (BlkW.rows (rows_to (row1 IntKind.i32) (r:=List.map (row1 IntKind.i32) (refH T n k)) (l:=refH T n k) (m:=refH T n k++refW T n k 0) rfl (show (refH T n k)=(refH T n k++refW T n k 0) from (by (simp [refW];done))))))<|.c oz3<|.c (i6n ((↑k:Int)+1) (by omega))<|.c (Weak.int (k:=.i64) (show (((↑k:Int)+1):Int)=((↑(k+1):Int)) from (by omega)))<|.c (show BlkW (Blk.slc 21 1 (List.map (row1 IntKind.i32) (refH T n k++refW T n k (convE (Shp.mk T.h T.x T.c) n).fst.x.toNat))) (Blk.slc 21 1 (List.map (row1 IntKind.i32) (refH T n (k+1)))) from (BlkW.rows (rows_to (row1 IntKind.i32) (r:=List.map (row1 IntKind.i32) (refH T n k++refW T n k (convE (Shp.mk T.h T.x T.c) n).fst.x.toNat)) (l:=refH T n k++refW T n k (convE (Shp.mk T.h T.x T.c) n).fst.x.toNat) (m:=refH T n (k+1)) rfl (show (refH T n k++refW T n k (convE (Shp.mk T.h T.x T.c) n).fst.x.toNat)=(refH T n (k+1)) from (by rfl)))))<|.n)
theorem rcOf_h_e (T:Ten) (n:Nod) (ok:CvOk T n):VT Tryz.prog (fnC Tryz.f148 [1,1,1,1,1,0,1,0,0]) (rcOf_h_I T n ((convE ⟨T.h,T.x,T.c⟩ n).1.h.toNat)) (.exit 0) (rcOf_h_Z T n):=by
 have nn:=ok.n
 have g1:=nn.he
 have g2:=nn.xe
 have g3:=nn.sc
 have g4:=nn.o1
 have g5:=nn.o2
 exact VT.run (W:=[.r [] [],.br false]) (G:=[.any (rg [(29,4)]),.sort]) (by kernel_rfl) (.c (decide_eq_false (p:=((↑(convE (Shp.mk T.h T.x T.c) n).fst.h.toNat:Int)<(convE (Shp.mk T.h T.x T.c) n).fst.h)) (by omega))<|.n)
theorem rcOf_h (T:Ten) (n:Nod) (ok:CvOk T n):VT Tryz.prog (fnC Tryz.f148 [1,1,1,1,1,0,1,0]) (rcOf_h_I T n 0) (.exit 0) (rcOf_h_Z T n) :=
 VT.loop (fun k=>rcOf_h_I T n k) ((convE ⟨T.h,T.x,T.c⟩ n).1.h.toNat) (fun k hk=>rcOf_h_s T n ok k hk) (rcOf_h_e T n ok) (by intro h;cases h)
theorem rcOf_x (T:Ten) (n:Nod) (ok:CvOk T n):VC Tryz.prog 148 ([ten .i8 T,nod n]) (.tup [ten .i32 ⟨(convE ⟨T.h,T.x,T.c⟩ n).1.h,(convE ⟨T.h,T.x,T.c⟩ n).1.x,(convE ⟨T.h,T.x,T.c⟩ n).1.c,refH T n (convE ⟨T.h,T.x,T.c⟩ n).1.h.toNat⟩,i64 0]):=by
 have ok1:=ok.ok
 have okn:=ok.okn
 have q2:=ok.r
 have q3:=ok.e
 have oz0 := @refTRight_v (T) ok1
 have oz2 := @refConvShape_v (Shp.mk T.h T.x T.c) (n) (by (exact Shp.mk_ok ok1.h ok1.x ok1.c)) okn
 have oz5 := @rcOf_h (T) (n) ok
 exact VC.run (fn:=Tryz.f148) (W:=[.r [] [],.r [] [.callr (rO oz0)],.br false,.r [] [.callr (rO oz2)],.r [] [],.br false,.r [] [],.r [] [],.code [.any (rg [(0,2),(5,1),(7,1),(12,3),(16,9),(27,2)]),.weak 9 (i64 (↑0:Int)),.nilc 900 21 1 8 3,.sort] (Exit.exit 0) (zO oz5),.r [] []]) Tryz.func148 (by kernel_rfl) (.c oz0<|.c (show (!tenRight T)=false by (simp;omega))<|.c oz2<|.c (show ((convE (Shp.mk T.h T.x T.c) n).snd != 0)=false by (simp;omega))<|.c (Weak.int (k:=.i64) (show ((0):Int)=((↑0:Int)) from (by omega)))<|.c oz5<|.n)
theorem w32_add (a b:Int):IntKind.i32.wrap (IntKind.i32.wrap a+b)=IntKind.i32.wrap (a+b):=by
 simp only [IntKind.wrap_i32];omega
theorem w32_add2 (a b:Int):IntKind.i32.wrap (IntKind.i32.wrap a+IntKind.i32.wrap b)=IntKind.i32.wrap (a+b):=by
 simp only [IntKind.wrap_i32];omega
theorem acc32_eq (v:Int) (f:Nat→Int):∀ k,acc32 (IntKind.i32.wrap v) f k=IntKind.i32.wrap (v+sumN f k)
 | 0=>by simp [acc32,sumN]
 | k+1=>by rw [acc32,acc32_eq v f k,w32_add,sumN,Int.add_assoc]
theorem rowAcc_eq {T:Ten} {n:Nod} (o i h w:Int) (h0:0≤h) (h1:h<T.h):∀ j,rowAcc T n ((o*n.nk+i)*n.nk*T.c) h w j=IntKind.i32.wrap (sumN (colE T n o i h w) j)
 | 0=>by simp only [rowAcc,sumN];rfl
 | j+1=>by
  rw [rowAcc,sumN,rowAcc_eq o i h w h0 h1 j,colE]
  by_cases hx:0≤w+(j:Int)∧w+(j:Int)<T.x
  ·rw [if_pos hx,if_pos ⟨h0,h1,hx.1,hx.2⟩,acc32_eq,←Int.add_mul]
  ·rw [if_neg hx,if_neg (fun q=>hx ⟨q.2.2.1,q.2.2.2⟩)]
   simp [sumN]
theorem sumAcc_eq {T:Ten} {n:Nod} (ok:CvOk T n) (h w o:Int):∀ i,sumAcc T n h w o i=IntKind.i32.wrap (accN (n.b.getD o.toNat 0) (rowE T n h w o) i)
 | 0=>by
  rw [sumAcc,accN,IntWalk.i32_in _ (gt32 ok.okn.b _)]
 | i+1=>by
  rw [sumAcc,accN,sumAcc_eq ok h w o i]
  by_cases hy:0≤h*n.ns+(i:Int)-n.np∧h*n.ns+(i:Int)-n.np<T.h
  ·rw [if_pos hy,rowAcc_eq o i _ _ hy.1 hy.2,w32_add2];rfl
  ·rw [if_neg hy]
   have:rowE T n h w o i=0:=by
    unfold rowE
    refine sumN_zero _ fun j _=>?_
    unfold colE
    rw [if_neg (fun q=>hy ⟨q.1,q.2.1⟩)];rfl
   rw [this,Int.add_zero]
theorem cvS_eq {T:Ten} {n:Nod} (ok:CvOk T n) (h w o:Int):cvS T n h w o=IntKind.i32.wrap (sumE T n h w o):=sumAcc_eq ok h w o _
theorem outL_ref {T:Ten} {n:Nod} (ok:CvOk T n) (h:Nat):∀ w,w≤(convE ⟨T.h,T.x,T.c⟩ n).1.x.toNat→outL T n (h*(convE ⟨T.h,T.x,T.c⟩ n).1.x.toNat)=refH T n h→outL T n (h*(convE ⟨T.h,T.x,T.c⟩ n).1.x.toNat+w)=refH T n h++refW T n h w
 | 0,_,h0=>by rw [Nat.add_zero,h0];simp [refW]
 | w+1,hw,h0=>by
  have hx:=ok.n.xe
  rw [←Nat.add_assoc,outL,outL_ref ok h w (by omega) h0,refW,List.append_assoc]
  congr 2
  unfold refO
  apply List.map_congr_left
  intro o _
  have e1:((h*(convE ⟨T.h,T.x,T.c⟩ n).1.x.toNat+w:Nat):Int)=(h:Int)*(convE ⟨T.h,T.x,T.c⟩ n).1.x+(w:Int):=by
   rw [Int.natCast_add,Int.natCast_mul,Int.toNat_of_nonneg (by omega)]
  have e2:((h:Int)*(convE ⟨T.h,T.x,T.c⟩ n).1.x+(w:Int)) / (convE ⟨T.h,T.x,T.c⟩ n).1.x=h:=by
   rw [Int.add_comm,Int.add_mul_ediv_right _ _ (by omega),Int.ediv_eq_zero_of_lt (by omega) (by omega)];omega
  have e3:((h:Int)*(convE ⟨T.h,T.x,T.c⟩ n).1.x+(w:Int)) % (convE ⟨T.h,T.x,T.c⟩ n).1.x=w:=by
   rw [Int.add_comm,Int.add_mul_emod_self_right,Int.emod_eq_of_lt (by omega) (by omega)]
  rw [e1,e2,e3,cvS_eq ok]
theorem outL_all {T:Ten} {n:Nod} (ok:CvOk T n):∀ h,outL T n (h*(convE ⟨T.h,T.x,T.c⟩ n).1.x.toNat)=refH T n h
 | 0=>by simp [outL,refH]
 | h+1=>by rw [Nat.add_mul,Nat.one_mul,outL_ref ok h _ (Nat.le_refl _) (outL_all ok h),refH]
theorem outL_fin {T:Ten} {n:Nod} (ok:CvOk T n):outL T n ((convE ⟨T.h,T.x,T.c⟩ n).1.h*(convE ⟨T.h,T.x,T.c⟩ n).1.x).toNat=refH T n (convE ⟨T.h,T.x,T.c⟩ n).1.h.toNat:=by
 have h1:=ok.n.he
 have h2:=ok.n.xe
 rw [←outL_all ok]
 congr 1
 apply Int.ofNat_inj.1
 rw [Int.natCast_mul,Int.toNat_of_nonneg (Int.mul_nonneg (by omega) (by omega)),Int.toNat_of_nonneg (by omega),Int.toNat_of_nonneg (by omega)]
theorem rcOf_n (T:Ten) (n:Nod) (ok:T.Ok) (okn:n.Ok) (hn:tenRight T=false∨(convE ⟨T.h,T.x,T.c⟩ n).2≠0):VC Tryz.prog 148 ([ten .i8 T,nod n]) (.tup [ten .i32 (convOf T n).1,i64 (convOf T n).2]):=by
 have oz0 := @refTRight_v (T) ok
 rcases bft (!tenRight T) with hc0 | hc0
 ·have gc0:tenRight T=false:=by first | exact hc0 | exact of_decide_eq_true hc0 | exact of_decide_eq_false hc0 | simpa [eqNums] using hc0 | (simp [eqNums] at hc0 ⊢;first | done | assumption | omega)
  exact (VC.run (fn:=Tryz.f148) (W:=[.r [] [],.r [] [.callr (rO oz0)],.br true,.r [] []]) (r:=AV.tup [AV.agg [i64 0,i64 0,i64 0,AV.lit (Value.slice none 0 0)],i64 5]) Tryz.func148 (by kernel_rfl) (.c oz0<|.c hc0<|.n)).weak (WeakL.refl _) (Weak.tup (.cons (Weak.agg (.cons (Weak.int (show ((0):Int)=((convOf T n).fst.h) from (by (simp only [convOf];rw [if_pos (by simp_all)];first | done | rfl)))) (.cons (Weak.int (show ((0):Int)=((convOf T n).fst.x) from (by (simp only [convOf];rw [if_pos (by simp_all)];first | done | rfl)))) (.cons (Weak.int (show ((0):Int)=((convOf T n).fst.c) from (by (simp only [convOf];rw [if_pos (by simp_all)];first | done | rfl)))) (.cons (Weak.nilr (show []=(List.map (row1 IntKind.i32) (convOf T n).fst.d) from (by (simp only [convOf];rw [if_pos (by simp_all)];first | done | rfl)))) .nil))))) (.cons (Weak.int (show ((5):Int)=((convOf T n).snd) from (by (simp only [convOf];rw [if_pos (by simp_all)];first | done | rfl)))) .nil)))
 ·have gc0:tenRight T=true:=by first | exact hc0 | exact of_decide_eq_true hc0 | exact of_decide_eq_false hc0 | simpa [eqNums] using hc0 | (simp [eqNums] at hc0 ⊢;first | done | assumption | omega)
  have oz2 := @refConvShape_v (Shp.mk T.h T.x T.c) (n) (by (exact Shp.mk_ok ok.h ok.x ok.c)) okn
  exact (VC.run (fn:=Tryz.f148) (W:=[.r [] [],.r [] [.callr (rO oz0)],.br false,.r [] [.callr (rO oz2)],.r [] [],.br true,.r [] []]) (r:=AV.tup [AV.agg [i64 0,i64 0,i64 0,AV.lit (Value.slice none 0 0)],i64 (convE (Shp.mk T.h T.x T.c) n).snd]) Tryz.func148 (by kernel_rfl) (.c oz0<|.c hc0<|.c oz2<|.c (show ((convE (Shp.mk T.h T.x T.c) n).snd != 0)=true by (rcases hn with hn | hn<;>simp_all;done))<|.n)).weak (WeakL.refl _) (Weak.tup (.cons (Weak.agg (.cons (Weak.int (show ((0):Int)=((convOf T n).fst.h) from (by (simp only [convOf];rw [if_neg (by simp_all),if_pos (by rcases hn with hn | hn<;>simp_all)];first | done | rfl)))) (.cons (Weak.int (show ((0):Int)=((convOf T n).fst.x) from (by (simp only [convOf];rw [if_neg (by simp_all),if_pos (by rcases hn with hn | hn<;>simp_all)];first | done | rfl)))) (.cons (Weak.int (show ((0):Int)=((convOf T n).fst.c) from (by (simp only [convOf];rw [if_neg (by simp_all),if_pos (by rcases hn with hn | hn<;>simp_all)];first | done | rfl)))) (.cons (Weak.nilr (show []=(List.map (row1 IntKind.i32) (convOf T n).fst.d) from (by (simp only [convOf];rw [if_neg (by simp_all),if_pos (by rcases hn with hn | hn<;>simp_all)];first | done | rfl)))) .nil))))) (.cons (Weak.int (show (((convE (Shp.mk T.h T.x T.c) n).snd):Int)=((convOf T n).snd) from (by (simp only [convOf];rw [if_neg (by simp_all),if_pos (by rcases hn with hn | hn<;>simp_all)];first | done | rfl)))) .nil)))
theorem rcOf_v (T:Ten) (n:Nod) (ok:T.Ok) (okn:n.Ok):VC Tryz.prog 148 [ten .i8 T,nod n] (.tup [ten .i32 (convOf T n).1,i64 (convOf T n).2]):=by
 cases hr:tenRight T with
 | false=>exact rcOf_n T n ok okn (.inl hr)
 | true =>
  by_cases he:(convE ⟨T.h,T.x,T.c⟩ n).2=0
  ·have h:=rcOf_x T n ⟨ok,okn,hr,he⟩
   have e:convOf T n=(⟨(convE ⟨T.h,T.x,T.c⟩ n).1.h,(convE ⟨T.h,T.x,T.c⟩ n).1.x,(convE ⟨T.h,T.x,T.c⟩ n).1.c,refH T n (convE ⟨T.h,T.x,T.c⟩ n).1.h.toNat⟩,0):=by
    unfold convOf
    rw [if_neg (by simp [hr]),if_neg (by simpa using he),outL_fin ⟨ok,okn,hr,he⟩]
   rw [e];exact h
  ·exact rcOf_n T n ok okn (.inr he)
theorem place_bd {t:Shp} (q:0<elems t.h t.x t.c) {h w c:Int} (h0:0≤h) (h1:h<t.h) (w0:0≤w) (w1:w<t.x) (c0:0≤c) (c1:c<t.c) :
  (0≤h*t.x∧h*t.x≤1024)∧(0≤(h*t.x+w)*t.c∧(h*t.x+w)*t.c≤1024)∧(0≤(h*t.x+w)*t.c+c∧(h*t.x+w)*t.c+c<elems t.h t.x t.c):=by
 obtain ⟨q1,q2,q3,q4,q5,q6,q7,q8⟩:=elems_ok q
 have a:=idx_bd (a:=h) (m:=t.h) (b:=w) (n:=t.x) h0 h1 w0 w1
 have a0:0≤h*t.x:=Int.mul_nonneg h0 (by omega)
 have b:=idx_bd (a:=h*t.x+w) (m:=t.h*t.x) (b:=c) (n:=t.c) (by omega) (by omega) c0 c1
 have b0:0≤(h*t.x+w)*t.c:=Int.mul_nonneg (by omega) (by omega)
 have d:=mul_bd (a:=t.h) (A:=16) (b:=t.x) (B:=16) (by omega) (by omega) (by omega) (by omega)
 omega
theorem in8x {a:Int} (h : -128≤a∧a≤127) : -9223372036854775808≤a∧a≤9223372036854775807:=by omega
theorem sub8 {a z:Int} (h : -128≤a∧a≤127) (h' : -128≤z∧z≤127) : -255≤a-z∧a-z≤255:=by omega
theorem prod8w {a b z:Int} (h : -128≤a∧a≤127) (h' : -128≤b∧b≤127) (hz : -128≤z∧z≤127) : -2147483648≤a*(b-z)∧a*(b-z)≤2147483647:=by
 have:=prod_bd h (sub8 h' hz);omega
structure DpOk (T:Ten) (n:Nod):Prop where
 ok:T.Ok
 okn:n.Ok
 r:tenRight T=true
 e:(depthE ⟨T.h,T.x,T.c⟩ n).2=0
theorem depthE_ok {t:Shp} {n:Nod} (h:(depthE t n).2=0):(slideE t n.nk n.ns n.np t.c).2=0∧(n.w.length:Int)=t.c*n.nk*n.nk∧n.w.length≤16384∧(n.b.length:Int)=t.c∧(depthE t n).1=(slideE t n.nk n.ns n.np t.c).1:=by
 unfold depthE at h ⊢
 split at h
 ·rename_i h1;exact absurd h h1
 ·split at h
  ·simp at h
  ·rename_i h1 h2
   rw [if_neg h1,if_neg h2]
   exact ⟨by omega,by omega,by omega,by omega,rfl⟩
structure DpN (T:Ten) (n:Nod):Prop where
 q:0<elems T.h T.x T.c
 h1:1≤T.h
 h16:T.h≤16
 x1:1≤T.x
 x16:T.x≤16
 c1:1≤T.c
 c2:T.c≤1024
 k1:1≤n.nk
 k5:n.nk≤5
 s1:1≤n.ns
 s4:n.ns≤4
 p0:0≤n.np
 p4:n.np≤4
 wl:(n.w.length:Int)=T.c*n.nk*n.nk
 w2:n.w.length≤16384
 bl:(n.b.length:Int)=T.c
 dl:(T.d.length:Int)=elems T.h T.x T.c
 d2:T.d.length≤1024
 sc:(depthE ⟨T.h,T.x,T.c⟩ n).1.c=T.c
 he:1≤(depthE ⟨T.h,T.x,T.c⟩ n).1.h∧(depthE ⟨T.h,T.x,T.c⟩ n).1.h≤16
 xe:1≤(depthE ⟨T.h,T.x,T.c⟩ n).1.x∧(depthE ⟨T.h,T.x,T.c⟩ n).1.x≤16
 el:(depthE ⟨T.h,T.x,T.c⟩ n).1.h*(depthE ⟨T.h,T.x,T.c⟩ n).1.x*T.c≤1024
 en:elems (depthE ⟨T.h,T.x,T.c⟩ n).1.h (depthE ⟨T.h,T.x,T.c⟩ n).1.x (depthE ⟨T.h,T.x,T.c⟩ n).1.c=(depthE ⟨T.h,T.x,T.c⟩ n).1.h*(depthE ⟨T.h,T.x,T.c⟩ n).1.x*T.c
theorem DpOk.n {T:Ten} {n:Nod} (h:DpOk T n):DpN T n:=by
 obtain ⟨ok,okn,r,e⟩:=h
 obtain ⟨e1,e2,e3,e4,e5⟩:=depthE_ok e
 obtain ⟨a1,a2,a3,a4,a5,a6,a7,a8,a9,a10,a11,a12⟩:=slideE_ok e1
 have c:=elems_ok a12
 unfold tenRight at r
 rw [Bool.and_eq_true,decide_eq_true_eq,decide_eq_true_eq] at r
 have b':=elems_ok r.1
 have e5':(depthE ⟨T.h,T.x,T.c⟩ n).1=⟨(T.h+2*n.np-n.nk) / n.ns+1,(T.x+2*n.np-n.nk) / n.ns+1,T.c⟩:=e5.trans a11
 have e2':(n.w.length:Int)=T.c*n.nk*n.nk:=e2
 have e4':(n.b.length:Int)=T.c:=e4
 clear e5 a11 e2 a9 a10 e4
 have c':1≤(T.h+2*n.np-n.nk) / n.ns+1∧(T.h+2*n.np-n.nk) / n.ns+1≤16∧1≤(T.x+2*n.np-n.nk) / n.ns+1∧(T.x+2*n.np-n.nk) / n.ns+1≤16∧1≤T.c∧T.c≤1024∧((T.h+2*n.np-n.nk) / n.ns+1)*((T.x+2*n.np-n.nk) / n.ns+1)*T.c≤1024 ∧
  elems ((T.h+2*n.np-n.nk) / n.ns+1) ((T.x+2*n.np-n.nk) / n.ns+1) T.c=((T.h+2*n.np-n.nk) / n.ns+1)*((T.x+2*n.np-n.nk) / n.ns+1)*T.c:=c
 clear c
 refine ⟨r.1,by omega,by omega,by omega,by omega,by omega,by omega,by omega,by omega,by omega,by omega,by omega,by omega,e2',e3,e4',by omega,by omega,by rw [e5'],?_,?_,?_,?_⟩<;>rw [e5']<;>simp only<;>omega
def dterm (T:Ten) (n:Nod) (c y x:Int) (i:Int):Int:=n.w.getD (c*n.nk*n.nk+i).toNat 0*(T.d.getD ((y*T.x+x)*T.c+c).toNat 0-n.za)
theorem dterm_bd {T:Ten} {n:Nod} (ok:DpOk T n) (c y x i:Int) : -32640≤dterm T n c y x i∧dterm T n c y x i≤32640:=by
 have h1:=gt8 ok.okn.w (c*n.nk*n.nk+i).toNat
 have h2:=gt8 ok.ok.d ((y*T.x+x)*T.c+c).toNat
 have h3 : -128≤n.za∧n.za≤127:=ok.okn.za
 exact prod_bd h1 (b:=T.d.getD ((y*T.x+x)*T.c+c).toNat 0-n.za) (by omega)
def dAcc (T:Ten) (n:Nod) (h w c:Int):Nat→Int
 | 0=>n.b.getD c.toNat 0
 | i+1=>if inT T (h*n.ns+(i:Int) / n.nk-n.np) (w*n.ns+(i:Int) % n.nk-n.np) then IntKind.i32.wrap (dAcc T n h w c i+dterm T n c (h*n.ns+(i:Int) / n.nk-n.np) (w*n.ns+(i:Int) % n.nk-n.np) i) else dAcc T n h w c i
theorem dw_bd {T:Ten} {n:Nod} (nn:DpN T n) {c i:Int} (c0:0≤c) (c1:c<T.c) (i0:0≤i) (i1:i<n.nk*n.nk):(0≤c*n.nk∧c*n.nk≤5120)∧(0≤c*n.nk*n.nk∧c*n.nk*n.nk+i<n.w.length):=by
 have k1:=nn.k1
 have k5:=nn.k5
 have c2:=nn.c2
 have a:=mul_bd (a:=c) (A:=1024) (b:=n.nk) (B:=5) c0 (by omega) (by omega) k5
 have b:=idx_bd (a:=c) (m:=T.c) (b:=i) (n:=n.nk*n.nk) c0 c1 i0 i1
 have e:=nn.wl
 have d:0≤c*n.nk*n.nk:=Int.mul_nonneg (by omega) (by omega)
 rw [Int.mul_assoc] at e
 rw [Int.mul_assoc c n.nk n.nk] at d ⊢
 omega
def dN (T:Ten) (n:Nod):Nat:=((depthE ⟨T.h,T.x,T.c⟩ n).1.h*(depthE ⟨T.h,T.x,T.c⟩ n).1.x*T.c).toNat
def dL (T:Ten) (n:Nod):List Int:=(List.range (dN T n)).map fun (i:Nat)=>dAcc T n ((i:Int) / T.c / (depthE ⟨T.h,T.x,T.c⟩ n).1.x) ((i:Int) / T.c % (depthE ⟨T.h,T.x,T.c⟩ n).1.x) ((i:Int) % T.c) (n.nk*n.nk).toNat
theorem dL_len (T:Ten) (n:Nod):(dL T n).length=dN T n:=by simp [dL]
theorem place_bdT {a x m:Int} (q:0<elems a x m) {h w c:Int} (h0:0≤h) (h1:h<a) (w0:0≤w) (w1:w<x) (c0:0≤c) (c1:c<m) :
  (0≤h*x∧h*x≤1024)∧(0≤(h*x+w)*m∧(h*x+w)*m≤1024)∧(0≤(h*x+w)*m+c∧(h*x+w)*m+c<elems a x m):=place_bd (t:=⟨a,x,m⟩) q h0 h1 w0 w1 c0 c1
def dcell (T:Ten) (n:Nod) (h w c i:Int) (j:Nat):Int:=if inT T (h*n.ns+i-n.np) (w*n.ns+(j:Int)-n.np) then dterm T n c (h*n.ns+i-n.np) (w*n.ns+(j:Int)-n.np) (i*n.nk+(j:Int)) else 0
theorem dcell_bd {T:Ten} {n:Nod} (ok:DpOk T n) (h w c i:Int) (j:Nat) : -32640≤dcell T n h w c i j∧dcell T n h w c i j≤32640:=by
 unfold dcell;split
 ·exact dterm_bd ok _ _ _ _
 ·omega
def drow (T:Ten) (n:Nod) (h w c:Int) (i:Nat):Int:=sumN (dcell T n h w c i) n.nk.toNat
theorem drow_bd {T:Ten} {n:Nod} (ok:DpOk T n) (h w c:Int) (i:Nat) : -163200≤drow T n h w c i∧drow T n h w c i≤163200:=by
 have g:=sumN_bd (B:=32640) (f:=dcell T n h w c i) n.nk.toNat fun j _=>dcell_bd ok _ _ _ _ j
 have k1:=ok.n.k1
 have k5:=ok.n.k5
 unfold drow
 omega
def dE (T:Ten) (n:Nod) (h w c:Int):Int:=accN (n.b.getD c.toNat 0) (drow T n h w c) n.nk.toNat
noncomputable def rdSum_j_I (T:Ten) (n:Nod) (h w c i v:Int) (k:Nat):VS:=stt 102 [(2,i64 h),(3,i64 w),(4,i64 c),(5,.ptr 5 0 0),(6,.ptr 6 0 0),(11,i64 (accN v (dcell T n h w c i) k)),(12,i64 i),(13,i64 k)] [(5,.var [i64 T.h,i64 T.x,i64 T.c,ints .i8 T.d]),(6,.var (nodC n))]
noncomputable def rdSum_j_Z (T:Ten) (n:Nod) (h w c i v:Int):VS:=rdSum_j_I T n h w c i v (n.nk.toNat)
theorem rdSum_j_s (T:Ten) (n:Nod) (h w c i v:Int) (ok:DpOk T n) (h0:0≤h) (h1:h≤1000) (w0:0≤w) (w1:w≤1000) (c0:0≤c) (c1:c<T.c) (i0:0≤i) (i1:i<n.nk) (v0 : -100000000000≤v) (v1:v≤100000000000) (k:Nat) (hk:k<n.nk.toNat):VT Tryz.prog (fnC Tryz.f197 [1,1,0,1,0,0,1,0,0,1,0,0]) (rdSum_j_I T n h w c i v k) .normal (rdSum_j_I T n h w c i v (k+1)):=by
 have nn:=ok.n
 have g1:=nn.k1
 have g2:=nn.k5
 have g4:=idx_bd (a:=i) (m:=n.nk) (b:=k) (n:=n.nk) i0 i1 (by omega) (by omega)
 have g5:=dw_bd nn c0 c1 (i:=i*n.nk+k) (by omega) (by omega)
 have g6:(c*n.nk+i)*n.nk+(k:Int)=c*n.nk*n.nk+(i*n.nk+(k:Int)):=by rw [Int.add_mul];omega
 have g7:0≤i*n.nk:=Int.mul_nonneg i0 (by omega)
 have g17:(c*n.nk+i)*n.nk=c*n.nk*n.nk+i*n.nk:=by rw [Int.add_mul]
 have g8:=nn.s1
 have g9:=nn.s4
 have g10:=nn.p0
 have g11:=nn.p4
 have g12:=nn.w2
 have g13:=mul_bd (A:=1000) (B:=4) h0 h1 (show 0≤n.ns by omega) g9
 have g14:=mul_bd (A:=1000) (B:=4) w0 w1 (show 0≤n.ns by omega) g9
 have g15:=nn.d2
 have g16:=nn.dl
 have g18:=accN_eq v (dcell T n h w c i) k
 have g19:=sumN_bd (B:=32640) (f:=dcell T n h w c i) k fun j _=>dcell_bd ok _ _ _ _ j
 have h3 : -128≤n.za∧n.za≤127:=ok.okn.za
 have oz0:=(decide_eq_true (p:=((↑k:Int)<n.nk)) (by omega))
 have oz1:=(i6n (h*n.ns) (by omega))
 have oz2:=(i6n (h*n.ns+i) (by omega))
 have oz3:=(i6n (h*n.ns+i-n.np) (by omega))
 have oz4:=(i6n (w*n.ns) (by omega))
 have oz5:=(i6n (w*n.ns+(↑k:Int)) (by omega))
 have oz6:=(i6n (w*n.ns+(↑k:Int)-n.np) (by omega))
 rcases bft (decide (h*n.ns+i-n.np≥0)&&decide (h*n.ns+i-n.np<T.h)&&decide (w*n.ns+(↑k:Int)-n.np≥0)&&decide (w*n.ns+(↑k:Int)-n.np<T.x)) with hc0 | hc0
 ·have gc0:((h*n.ns+i-n.np≥0∧h*n.ns+i-n.np<T.h)∧w*n.ns+(↑k:Int)-n.np≥0)∧w*n.ns+(↑k:Int)-n.np<T.x:=by first | (simp only [Bool.or_eq_true,Bool.or_eq_false_iff,Bool.and_eq_true,Bool.and_eq_false_iff,Bool.not_eq_true',Bool.not_eq_false',decide_eq_true_eq,decide_eq_false_iff_not,beq_iff_eq,bne_iff_ne,ne_eq,beq_eq_false_iff_ne,bne_eq_false_iff_eq,eqNums,Bool.and_true] at hc0;first | exact hc0 | omega) | simpa using hc0 | (simp at hc0 ⊢;omega) | (apply cbc;intro hn;simp_all [eqNums];done) | (apply cbc;intro hn;simp [eqNums] at hc0 hn;omega)
  have oz11:=(i6n ((c*n.nk+i)*n.nk+(↑k:Int)) (by omega))
  have oz13:=(map_at (row1 IntKind.i8) (0) (l:=n.w) (i:=((c*n.nk+i)*n.nk+(↑k:Int)).toNat) (by omega))
  have oz14:=(show IntKind.i64.wrap (n.w.getD ((c*n.nk+i)*n.nk+(↑k:Int)).toNat 0)=n.w.getD ((c*n.nk+i)*n.nk+(↑k:Int)).toNat 0 by with_reducible exact i6n _ (in8x (gt8 ok.okn.w _)))
  have oz15 := @get_v (T) (h*n.ns+i-n.np) (w*n.ns+(↑k:Int)-n.np) (c) (by (have q2:=place_bdT nn.q (h:=h*n.ns+i-n.np) (w:=w*n.ns+(k:Int)-n.np) (c:=c) (by omega) (by omega) (by omega) (by omega) c0 c1;have q3:=nn.x16;omega)) (by (have q2:=place_bdT nn.q (h:=h*n.ns+i-n.np) (w:=w*n.ns+(k:Int)-n.np) (c:=c) (by omega) (by omega) (by omega) (by omega) c0 c1;have q3:=nn.x16;omega)) (by omega) (by (have q2:=place_bdT nn.q (h:=h*n.ns+i-n.np) (w:=w*n.ns+(k:Int)-n.np) (c:=c) (by omega) (by omega) (by omega) (by omega) c0 c1;have q3:=nn.x16;omega)) (by (have q2:=place_bdT nn.q (h:=h*n.ns+i-n.np) (w:=w*n.ns+(k:Int)-n.np) (c:=c) (by omega) (by omega) (by omega) (by omega) c0 c1;have q3:=nn.x16;omega)) c0 (by (have q2:=place_bdT nn.q (h:=h*n.ns+i-n.np) (w:=w*n.ns+(k:Int)-n.np) (c:=c) (by omega) (by omega) (by omega) (by omega) c0 c1;have q3:=nn.x16;omega)) g15
  have oz16:=(show IntKind.i64.wrap (T.d.getD (((h*n.ns+i-n.np)*T.x+(w*n.ns+(↑k:Int)-n.np))*T.c+c).toNat 0)=T.d.getD (((h*n.ns+i-n.np)*T.x+(w*n.ns+(↑k:Int)-n.np))*T.c+c).toNat 0 by with_reducible exact i6n _ (in8x (gt8 ok.ok.d _)))
  have oz18:=(show IntKind.i64.wrap (T.d.getD (((h*n.ns+i-n.np)*T.x+(w*n.ns+(↑k:Int)-n.np))*T.c+c).toNat 0-n.za)=T.d.getD (((h*n.ns+i-n.np)*T.x+(w*n.ns+(↑k:Int)-n.np))*T.c+c).toNat 0-n.za by with_reducible exact i6n _ (by have:=sub8 (gt8 ok.ok.d (((h*n.ns+i-n.np)*T.x+(w*n.ns+(k:Int)-n.np))*T.c+c).toNat) h3;omega))
  have oz19:=(show IntKind.i64.wrap (n.w.getD ((c*n.nk+i)*n.nk+(↑k:Int)).toNat 0*(T.d.getD (((h*n.ns+i-n.np)*T.x+(w*n.ns+(↑k:Int)-n.np))*T.c+c).toNat 0-n.za))=n.w.getD ((c*n.nk+i)*n.nk+(↑k:Int)).toNat 0*(T.d.getD (((h*n.ns+i-n.np)*T.x+(w*n.ns+(↑k:Int)-n.np))*T.c+c).toNat 0-n.za) by with_reducible exact i6n _ (by have:=prod8w (gt8 ok.okn.w ((c*n.nk+i)*n.nk+(k:Int)).toNat) (gt8 ok.ok.d (((h*n.ns+i-n.np)*T.x+(w*n.ns+(k:Int)-n.np))*T.c+c).toNat) h3;omega))
  have oz20:=(show IntKind.i64.wrap (accN v (dcell T n h w c i) k+n.w.getD ((c*n.nk+i)*n.nk+(↑k:Int)).toNat 0*(T.d.getD (((h*n.ns+i-n.np)*T.x+(w*n.ns+(↑k:Int)-n.np))*T.c+c).toNat 0-n.za))=accN v (dcell T n h w c i) k+n.w.getD ((c*n.nk+i)*n.nk+(↑k:Int)).toNat 0*(T.d.getD (((h*n.ns+i-n.np)*T.x+(w*n.ns+(↑k:Int)-n.np))*T.c+c).toNat 0-n.za) by with_reducible exact i6n _ (by have:=prod8w (gt8 ok.okn.w ((c*n.nk+i)*n.nk+(k:Int)).toNat) (gt8 ok.ok.d (((h*n.ns+i-n.np)*T.x+(w*n.ns+(k:Int)-n.np))*T.c+c).toNat) h3;omega))
  have oz22:=(Weak.int (k:=.i64) (show ((accN v (dcell T n h w c i) k+n.w.getD ((c*n.nk+i)*n.nk+(↑k:Int)).toNat 0*(T.d.getD (((h*n.ns+i-n.np)*T.x+(w*n.ns+(↑k:Int)-n.np))*T.c+c).toNat 0-n.za)):Int)=(accN v (dcell T n h w c i) (k+1)) from (by (rw [accN,dcell,if_pos ⟨by omega,by omega,by omega,by omega⟩,dterm,g6]))))
  exact VT.run (W:=[.r [] [],.br true,.r [] [.n (nO oz1),.n (nO oz2),.n (nO oz3),.n (nO oz4),.n (nO oz5),.n (nO oz6)],.r [] [.op false,.op false,.op false,.op false,.op false,.sel 2,.op false,.op false,.sel 2,.op false,.op false,.op false,.op false,.op false,.sel 2],.br true,.r [] [.n (c*n.nk),.n (c*n.nk+i),.n ((c*n.nk+i)*n.nk),.n (nO oz11),.row (sO oz13),.n (nO oz14),.callr (rO oz15),.n (nO oz16),.n n.za,.n (nO oz18),.n (nO oz19),.n (nO oz20)],.r [] [.n ((↑k:Int)+1)]]) (G:=[.any (rg [(14,2),(28,27),(60,2),(64,2),(71,30)]),.weak 11 (wO oz22),.weak 13 (i64 (↑(k+1):Int)),.sort]) (by kernel_rfl) (.c oz0<|.c oz1<|.c oz2<|.c oz3<|.c oz4<|.c oz5<|.c oz6<|.c hc0<|.c (i6n (c*n.nk) (by omega))<|.c (i6n (c*n.nk+i) (by omega))<|.c (i6n ((c*n.nk+i)*n.nk) (by omega))<|.c oz11<|.c (show 0≤(c*n.nk+i)*n.nk+(↑k:Int) by omega)<|.c oz13<|.c oz14<|.c oz15<|.c oz16<|.c (i6n n.za (by omega))<|.c oz18<|.c oz19<|.c oz20<|.c (i6n ((↑k:Int)+1) (by omega))<|.c oz22<|.c (Weak.int (k:=.i64) (show (((↑k:Int)+1):Int)=((↑(k+1):Int)) from (by omega)))<|.n)
 ·have gc0:((¬h*n.ns+i-n.np≥0∨¬h*n.ns+i-n.np<T.h)∨¬w*n.ns+(↑k:Int)-n.np≥0)∨¬w*n.ns+(↑k:Int)-n.np<T.x:=by first | (simp only [Bool.or_eq_true,Bool.or_eq_false_iff,Bool.and_eq_true,Bool.and_eq_false_iff,Bool.not_eq_true',Bool.not_eq_false',decide_eq_true_eq,decide_eq_false_iff_not,beq_iff_eq,bne_iff_ne,ne_eq,beq_eq_false_iff_ne,bne_eq_false_iff_eq,eqNums,Bool.and_true] at hc0;first | exact hc0 | omega) | simpa using hc0 | (simp at hc0 ⊢;omega) | (apply cbc;intro hn;simp_all [eqNums];done) | (apply cbc;intro hn;simp [eqNums] at hc0 hn;omega)
  have oz9:=(Weak.int (k:=.i64) (show ((accN v (dcell T n h w c i) k):Int)=(accN v (dcell T n h w c i) (k+1)) from (by (rw [accN,dcell,if_neg (by omega)];omega))))
  exact VT.run (W:=[.r [] [],.br true,.r [] [.n (nO oz1),.n (nO oz2),.n (nO oz3),.n (nO oz4),.n (nO oz5),.n (nO oz6)],.r [] [.op false,.op false,.op false,.op false,.op false,.sel 2,.op false,.op false,.sel 2,.op false,.op false,.op false,.op false,.op false,.sel 2],.br false,.r [] [.n ((↑k:Int)+1)]]) (G:=[.any (rg [(14,2),(28,27),(60,2),(64,2),(71,1)]),.weak 11 (wO oz9),.weak 13 (i64 (↑(k+1):Int)),.sort]) (by kernel_rfl) (.c oz0<|.c oz1<|.c oz2<|.c oz3<|.c oz4<|.c oz5<|.c oz6<|.c hc0<|.c (i6n ((↑k:Int)+1) (by omega))<|.c oz9<|.c (Weak.int (k:=.i64) (show (((↑k:Int)+1):Int)=((↑(k+1):Int)) from (by omega)))<|.n)
theorem rdSum_j_e (T:Ten) (n:Nod) (h w c i v:Int) (ok:DpOk T n) (h0:0≤h) (h1:h≤1000) (w0:0≤w) (w1:w≤1000) (c0:0≤c) (c1:c<T.c) (i0:0≤i) (i1:i<n.nk) (v0 : -100000000000≤v) (v1:v≤100000000000):VT Tryz.prog (fnC Tryz.f197 [1,1,0,1,0,0,1,0,0,1,0,0]) (rdSum_j_I T n h w c i v (n.nk.toNat)) (.exit 2) (rdSum_j_Z T n h w c i v):=by
 have g1:=ok.n.k1
 exact VT.run (W:=[.r [] [],.br false]) (G:=[.any (rg [(28,4)]),.sort]) (by kernel_rfl) (.c (decide_eq_false (p:=((↑n.nk.toNat:Int)<n.nk)) (by omega))<|.n)
theorem rdSum_j (T:Ten) (n:Nod) (h w c i v:Int) (ok:DpOk T n) (h0:0≤h) (h1:h≤1000) (w0:0≤w) (w1:w≤1000) (c0:0≤c) (c1:c<T.c) (i0:0≤i) (i1:i<n.nk) (v0 : -100000000000≤v) (v1:v≤100000000000):VT Tryz.prog (fnC Tryz.f197 [1,1,0,1,0,0,1,0,0,1,0]) (rdSum_j_I T n h w c i v 0) (.exit 2) (rdSum_j_Z T n h w c i v) :=
 VT.loop (fun k=>rdSum_j_I T n h w c i v k) (n.nk.toNat) (fun k hk=>rdSum_j_s T n h w c i v ok h0 h1 w0 w1 c0 c1 i0 i1 v0 v1 k hk) (rdSum_j_e T n h w c i v ok h0 h1 w0 w1 c0 c1 i0 i1 v0 v1) (by intro h;cases h)
noncomputable def rdSum_i_I (T:Ten) (n:Nod) (h w c:Int) (k:Nat):VS:=stt 102 [(2,i64 h),(3,i64 w),(4,i64 c),(5,.ptr 5 0 0),(6,.ptr 6 0 0),(11,i64 (accN (n.b.getD c.toNat 0) (drow T n h w c) k)),(12,i64 k)] [(5,.var [i64 T.h,i64 T.x,i64 T.c,ints .i8 T.d]),(6,.var (nodC n))]
noncomputable def rdSum_i_Z (T:Ten) (n:Nod) (h w c:Int):VS:=rdSum_i_I T n h w c (n.nk.toNat)
theorem rdSum_i_s (T:Ten) (n:Nod) (h w c:Int) (ok:DpOk T n) (h0:0≤h) (h1:h≤1000) (w0:0≤w) (w1:w≤1000) (c0:0≤c) (c1:c<T.c) (k:Nat) (hk:k<n.nk.toNat):VT Tryz.prog (fnC Tryz.f197 [1,1,0,1,0,0]) (rdSum_i_I T n h w c k) .normal (rdSum_i_I T n h w c (k+1)):=by
 have nn:=ok.n
 have g1:=nn.k1
 have g2:=nn.k5
 have g3:=gt32 ok.okn.b c.toNat
 have g4:=accN_eq (n.b.getD c.toNat 0) (drow T n h w c) k
 have g5:=sumN_bd (B:=163200) (f:=drow T n h w c) k fun i _=>drow_bd ok _ _ _ i
 have oz2 := @rdSum_j (T) (n) (h) (w) (c) ((↑k:Int)) (accN (n.b.getD c.toNat 0) (drow T n h w c) k) ok h0 h1 w0 w1 c0 c1 (by omega) (by omega) (by omega) (by omega)
 have oz4:=(Weak.int (k:=.i64) (show ((accN (accN (n.b.getD c.toNat 0) (drow T n h w c) k) (dcell T n h w c (↑k:Int)) n.nk.toNat):Int)=(accN (n.b.getD c.toNat 0) (drow T n h w c) (k+1)) from (by (rw [accN,drow,accN_eq]))))
 exact VT.run (W:=[.r [] [],.br true,.r [] [],.code [.any (rg [(22,4)]),.weak 13 (i64 (↑0:Int)),.sort] (Exit.exit 2) (zO oz2),.r [] [.n ((↑k:Int)+1)]]) (G:=[.any [13,26,27],.weak 11 (wO oz4),.weak 12 (i64 (↑(k+1):Int)),.sort]) (by kernel_rfl) (.c (decide_eq_true (p:=((↑k:Int)<n.nk)) (by omega))<|.c (Weak.int (k:=.i64) (show ((0):Int)=((↑0:Int)) from (by omega)))<|.c oz2<|.c (i6n ((↑k:Int)+1) (by omega))<|.c oz4<|.c (Weak.int (k:=.i64) (show (((↑k:Int)+1):Int)=((↑(k+1):Int)) from (by omega)))<|.n)
theorem rdSum_i_e (T:Ten) (n:Nod) (h w c:Int) (ok:DpOk T n) (h0:0≤h) (h1:h≤1000) (w0:0≤w) (w1:w≤1000) (c0:0≤c) (c1:c<T.c):VT Tryz.prog (fnC Tryz.f197 [1,1,0,1,0,0]) (rdSum_i_I T n h w c (n.nk.toNat)) (.exit 0) (rdSum_i_Z T n h w c):=by
 have nn:=ok.n
 have g1:=nn.k1
 exact VT.run (W:=[.r [] [],.br false]) (G:=[.any (rg [(22,4)]),.sort]) (by kernel_rfl) (.c (decide_eq_false (p:=((↑n.nk.toNat:Int)<n.nk)) (by omega))<|.n)
theorem rdSum_i (T:Ten) (n:Nod) (h w c:Int) (ok:DpOk T n) (h0:0≤h) (h1:h≤1000) (w0:0≤w) (w1:w≤1000) (c0:0≤c) (c1:c<T.c):VT Tryz.prog (fnC Tryz.f197 [1,1,0,1,0]) (rdSum_i_I T n h w c 0) (.exit 0) (rdSum_i_Z T n h w c) :=
 VT.loop (fun k=>rdSum_i_I T n h w c k) (n.nk.toNat) (fun k hk=>rdSum_i_s T n h w c ok h0 h1 w0 w1 c0 c1 k hk) (rdSum_i_e T n h w c ok h0 h1 w0 w1 c0 c1) (by intro h;cases h)
theorem rdSum_v (T:Ten) (n:Nod) (h w c:Int) (ok:DpOk T n) (h0:0≤h) (h1:h≤1000) (w0:0≤w) (w1:w≤1000) (c0:0≤c) (c1:c<T.c):VC Tryz.prog 197 ([ten .i8 T,nod n,i64 h,i64 w,i64 c]) (i64 (dE T n h w c)):=by
 have g1:=ok.n.bl
 have g3:=gt32 ok.okn.b c.toNat
 have oz3:=(Weak.int (k:=.i64) (show ((n.b.getD c.toNat 0):Int)=(accN (n.b.getD c.toNat 0) (drow T n h w c) 0) from (by rfl)))
 have oz5 := @rdSum_i (T) (n) (h) (w) (c) ok h0 h1 w0 w1 c0 c1
 exact (VC.run (fn:=Tryz.f197) (W:=[.r [] [],.r [] [.row [i32 (n.b.getD c.toNat 0)],.n (n.b.getD c.toNat 0)],.r [] [],.code [.any (rg [(0,2),(10,1),(16,6)]),.weak 11 (wO oz3),.weak 12 (i64 (↑0:Int)),.sort] (Exit.exit 0) (zO oz5),.r [] []]) (r:=i64 (accN (n.b.getD c.toNat 0) (drow T n h w c) n.nk.toNat)) Tryz.func197 (by kernel_rfl) (.c c0<|.c (map_at (row1 IntKind.i32) (0) (l:=n.b) (i:=c.toNat) (by omega))<|.c (i6n (n.b.getD c.toNat 0) (by omega))<|.c oz3<|.c (Weak.int (k:=.i64) (show ((0):Int)=((↑0:Int)) from (by omega)))<|.c oz5<|.n)).weak (WeakL.refl _) (Weak.int (show ((accN (n.b.getD c.toNat 0) (drow T n h w c) n.nk.toNat):Int)=(dE T n h w c) from (by rfl)))
def gO (f:Nat→Nat→Nat→Int) (h w o:Nat):List Int:=(List.range o).map (f h w)
def gW (f:Nat→Nat→Nat→Int) (m h:Nat):Nat→List Int
 | 0=>[]
 | w+1=>gW f m h w++gO f h w m
def gH (f:Nat→Nat→Nat→Int) (m x:Nat):Nat→List Int
 | 0=>[]
 | h+1=>gH f m x h++gW f m h x
theorem gO_len (f:Nat→Nat→Nat→Int) (h w o:Nat):(gO f h w o).length=o:=by simp [gO]
theorem gO_succ (f:Nat→Nat→Nat→Int) (h w o:Nat):gO f h w (o+1)=gO f h w o++[f h w o]:=by simp [gO,List.range_succ]
theorem gW_len (f:Nat→Nat→Nat→Int) (m h:Nat):∀ w,(gW f m h w).length=w*m
 | 0=>by simp [gW]
 | w+1=>by rw [gW,List.length_append,gW_len f m h w,gO_len,Nat.add_mul];omega
theorem gH_len (f:Nat→Nat→Nat→Int) (m x:Nat):∀ h,(gH f m x h).length=h*(x*m)
 | 0=>by simp [gH]
 | h+1=>by rw [gH,List.length_append,gH_len f m x h,gW_len,Nat.add_mul];omega
theorem g_len {f:Nat→Nat→Nat→Int} {m x y h w:Nat} (hh:h<y) (hw:w<x) (b:y*(x*m)≤2000):(gH f m x h).length+(gW f m h w).length+m≤4000:=by
 rw [gH_len,gW_len]
 have a2:h*(x*m)≤y*(x*m):=Nat.mul_le_mul_right _ (by omega)
 have a3:(w+1)*m≤x*m:=Nat.mul_le_mul_right _ (by omega)
 have a4:1*(x*m)≤y*(x*m):=Nat.mul_le_mul_right _ (by omega)
 rw [Nat.add_mul] at a3
 omega
def dF (T:Ten) (n:Nod) (h w c:Nat):Int:=IntKind.i32.wrap (dE T n h w c)
theorem dN_bd {T:Ten} {n:Nod} (nn:DpN T n):(depthE ⟨T.h,T.x,T.c⟩ n).1.h.toNat*((depthE ⟨T.h,T.x,T.c⟩ n).1.x.toNat*T.c.toNat)≤2000:=by
 have h1:=nn.he
 have h2:=nn.xe
 have h3:=nn.c1
 have h5:=nn.el
 have:(((depthE ⟨T.h,T.x,T.c⟩ n).1.h.toNat*((depthE ⟨T.h,T.x,T.c⟩ n).1.x.toNat*T.c.toNat):Nat):Int)=(depthE ⟨T.h,T.x,T.c⟩ n).1.h*(depthE ⟨T.h,T.x,T.c⟩ n).1.x*T.c:=by
  rw [Int.natCast_mul,Int.natCast_mul,Int.toNat_of_nonneg (by omega),Int.toNat_of_nonneg (by omega),Int.toNat_of_nonneg (by omega),Int.mul_assoc]
 omega
noncomputable def rdOf_o_I (T:Ten) (n:Nod) (h w:Nat) (k:Nat):VS:=stt 60 [(2,.ptr 2 0 0),(3,.ptr 3 0 0),(4,.ptr 4 0 0),(6,.ptr 6 0 0),(8,.ptr 8 0 0),(9,i64 h),(10,i64 w),(11,i64 k)] [(2,.var [i64 T.h,i64 T.x,i64 T.c,ints .i8 T.d]),(3,.var (nodC n)),(4,.var [i64 0,i64 0,i64 0,nilv]),(6,.var [i64 (depthE ⟨T.h,T.x,T.c⟩ n).1.h,i64 (depthE ⟨T.h,T.x,T.c⟩ n).1.x,i64 T.c]),(8,.var [i64 (depthE ⟨T.h,T.x,T.c⟩ n).1.h,i64 (depthE ⟨T.h,T.x,T.c⟩ n).1.x,i64 T.c,.own 900]),(900,.slc 21 1 ((gH (dF T n) T.c.toNat (depthE ⟨T.h,T.x,T.c⟩ n).1.x.toNat h++(gW (dF T n) T.c.toNat h w++gO (dF T n) h w k)).map (row1 .i32)))]
noncomputable def rdOf_o_Z (T:Ten) (n:Nod) (h w:Nat):VS:=rdOf_o_I T n h w (T.c.toNat)
theorem rdOf_o_s (T:Ten) (n:Nod) (h w:Nat) (ok:DpOk T n) (h1:h<(depthE ⟨T.h,T.x,T.c⟩ n).1.h.toNat) (w1:w<(depthE ⟨T.h,T.x,T.c⟩ n).1.x.toNat) (k:Nat) (hk:k<T.c.toNat):VT Tryz.prog (fnC Tryz.f149 [1,1,1,1,1,0,1,0,0,1,0,0,1,0,0,1,0,0,1,0,0]) (rdOf_o_I T n h w k) .normal (rdOf_o_I T n h w (k+1)):=by
 have nn:=ok.n
 have g1:=nn.he
 have g2:=nn.xe
 have g3:=nn.sc
 have g4:=nn.c1
 have g5:=nn.c2
 have g6:=g_len (f:=dF T n) h1 w1 (dN_bd nn)
 have g7:=gO_len (dF T n) h w k
 have oz1 := @rdSum_v (T) (n) ((↑h:Int)) ((↑w:Int)) ((↑k:Int)) ok (by omega) (by omega) (by omega) (by omega) (by omega) (by omega)
 exact VT.run (W:=[.r [] [],.br true,.r [] [.callr (rO oz1),.w],.r [] [.n ((↑k:Int)+1)]]) (G:=[.any (rg [(41,18)]),.drop [56],.ren 57 900,.weak 11 (i64 (↑(k+1):Int)),.blk 900 (Blk.slc 21 1 (List.map (row1 IntKind.i32) (gH (dF T n) T.c.toNat (depthE (Shp.mk T.h T.x T.c) n).fst.x.toNat h++(gW (dF T n) T.c.toNat h w++gO (dF T n) h w (k+1))))),.sort]) (by kernel_rfl) (.c (decide_eq_true (p:=((↑k:Int)<T.c)) (by omega))<|.c oz1<|.c (show ((List.map (row1 IntKind.i32) (gH (dF T n) T.c.toNat (depthE (Shp.mk T.h T.x T.c) n).fst.x.toNat h++(gW (dF T n) T.c.toNat h w++gO (dF T n) h w k))).length+1)*4≤140737488355328 by (simp;omega))<|.c (show (List.map (row1 IntKind.i32) (gH (dF T n) T.c.toNat (depthE (Shp.mk T.h T.x T.c) n).fst.x.toNat h++(gW (dF T n) T.c.toNat h w++gO (dF T n) h w k))).length+1≤9223372036854775807 by (simp;omega))<|.c (i6n ((↑k:Int)+1) (by omega))<|.c (Weak.int (k:=.i64) (show (((↑k:Int)+1):Int)=((↑(k+1):Int)) from (by omega)))<|.c (show BlkW (Blk.slc 21 1 (List.map (row1 IntKind.i32) (gH (dF T n) T.c.toNat (depthE (Shp.mk T.h T.x T.c) n).fst.x.toNat h++(gW (dF T n) T.c.toNat h w++gO (dF T n) h w k))++[[i32 (IntKind.i32.wrap (dE T n (↑h:Int) (↑w:Int) (↑k:Int)))]])) (Blk.slc 21 1 (List.map (row1 IntKind.i32) (gH (dF T n) T.c.toNat (depthE (Shp.mk T.h T.x T.c) n).fst.x.toNat h++(gW (dF T n) T.c.toNat h w++gO (dF T n) h w (k+1))))) from (BlkW.rows (rows_to (row1 IntKind.i32) (r:=List.map (row1 IntKind.i32) (gH (dF T n) T.c.toNat (depthE (Shp.mk T.h T.x T.c) n).fst.x.toNat h++(gW (dF T n) T.c.toNat h w++gO (dF T n) h w k))++[[i32 (IntKind.i32.wrap (dE T n (↑h:Int) (↑w:Int) (↑k:Int)))]]) (l:=gH (dF T n) T.c.toNat (depthE (Shp.mk T.h T.x T.c) n).fst.x.toNat h++(gW (dF T n) T.c.toNat h w++gO (dF T n) h w k)++[IntKind.i32.wrap (dE T n (↑h:Int) (↑w:Int) (↑k:Int))]) (m:=gH (dF T n) T.c.toNat (depthE (Shp.mk T.h T.x T.c) n).fst.x.toNat h++(gW (dF T n) T.c.toNat h w++gO (dF T n) h w (k+1))) (by first | (simp only [List.map_append,List.map_cons,List.map_nil,List.map_set,List.map_replicate,List.map_take,List.map_drop];done) | rfl | (simp only [List.map_append,List.map_cons,List.map_nil,List.map_set,List.map_replicate,List.map_take,List.map_drop];rfl)) (show (gH (dF T n) T.c.toNat (depthE (Shp.mk T.h T.x T.c) n).fst.x.toNat h++(gW (dF T n) T.c.toNat h w++gO (dF T n) h w k)++[IntKind.i32.wrap (dE T n (↑h:Int) (↑w:Int) (↑k:Int))])=(gH (dF T n) T.c.toNat (depthE (Shp.mk T.h T.x T.c) n).fst.x.toNat h++(gW (dF T n) T.c.toNat h w++gO (dF T n) h w (k+1))) from (by (rw [gO_succ];simp [dF]))))))<|.n)
theorem rdOf_o_e (T:Ten) (n:Nod) (h w:Nat) (ok:DpOk T n) (h1:h<(depthE ⟨T.h,T.x,T.c⟩ n).1.h.toNat) (w1:w<(depthE ⟨T.h,T.x,T.c⟩ n).1.x.toNat):VT Tryz.prog (fnC Tryz.f149 [1,1,1,1,1,0,1,0,0,1,0,0,1,0,0,1,0,0,1,0,0]) (rdOf_o_I T n h w (T.c.toNat)) (.exit 4) (rdOf_o_Z T n h w):=by
 have nn:=ok.n
 have g1:=nn.he
 have g2:=nn.xe
 have g3:=nn.sc
 have g4:=nn.c1
 have g5:=nn.c2
 exact VT.run (W:=[.r [] [],.br false]) (G:=[.any (rg [(41,4)]),.sort]) (by kernel_rfl) (.c (decide_eq_false (p:=((↑T.c.toNat:Int)<T.c)) (by omega))<|.n)
theorem rdOf_o (T:Ten) (n:Nod) (h w:Nat) (ok:DpOk T n) (h1:h<(depthE ⟨T.h,T.x,T.c⟩ n).1.h.toNat) (w1:w<(depthE ⟨T.h,T.x,T.c⟩ n).1.x.toNat):VT Tryz.prog (fnC Tryz.f149 [1,1,1,1,1,0,1,0,0,1,0,0,1,0,0,1,0,0,1,0]) (rdOf_o_I T n h w 0) (.exit 4) (rdOf_o_Z T n h w) :=
 VT.loop (fun k=>rdOf_o_I T n h w k) (T.c.toNat) (fun k hk=>rdOf_o_s T n h w ok h1 w1 k hk) (rdOf_o_e T n h w ok h1 w1) (by intro h;cases h)
noncomputable def rdOf_w_I (T:Ten) (n:Nod) (h:Nat) (k:Nat):VS:=stt 60 [(2,.ptr 2 0 0),(3,.ptr 3 0 0),(4,.ptr 4 0 0),(6,.ptr 6 0 0),(8,.ptr 8 0 0),(9,i64 h),(10,i64 k)] [(2,.var [i64 T.h,i64 T.x,i64 T.c,ints .i8 T.d]),(3,.var (nodC n)),(4,.var [i64 0,i64 0,i64 0,nilv]),(6,.var [i64 (depthE ⟨T.h,T.x,T.c⟩ n).1.h,i64 (depthE ⟨T.h,T.x,T.c⟩ n).1.x,i64 T.c]),(8,.var [i64 (depthE ⟨T.h,T.x,T.c⟩ n).1.h,i64 (depthE ⟨T.h,T.x,T.c⟩ n).1.x,i64 T.c,.own 900]),(900,.slc 21 1 ((gH (dF T n) T.c.toNat (depthE ⟨T.h,T.x,T.c⟩ n).1.x.toNat h++gW (dF T n) T.c.toNat h k).map (row1 .i32)))]
noncomputable def rdOf_w_Z (T:Ten) (n:Nod) (h:Nat):VS:=rdOf_w_I T n h ((depthE ⟨T.h,T.x,T.c⟩ n).1.x.toNat)
theorem rdOf_w_s (T:Ten) (n:Nod) (h:Nat) (ok:DpOk T n) (h1:h<(depthE ⟨T.h,T.x,T.c⟩ n).1.h.toNat) (k:Nat) (hk:k<(depthE ⟨T.h,T.x,T.c⟩ n).1.x.toNat):VT Tryz.prog (fnC Tryz.f149 [1,1,1,1,1,0,1,0,0,1,0,0,1,0,0]) (rdOf_w_I T n h k) .normal (rdOf_w_I T n h (k+1)):=by
 have nn:=ok.n
 have g1:=nn.he
 have g2:=nn.xe
 have g3:=nn.sc
 have g4:=nn.c1
 have g5:=nn.c2
 have oz3 := @rdOf_o (T) (n) (h) (k) ok h1 hk
 exact VT.run (W:=[.r [] [],.br true,.r [] [],.code [.any (rg [(35,4)]),.weak 11 (i64 (↑0:Int)),.blk 900 (Blk.slc 21 1 (List.map (row1 IntKind.i32) (gH (dF T n) T.c.toNat (depthE (Shp.mk T.h T.x T.c) n).fst.x.toNat h++(gW (dF T n) T.c.toNat h k++gO (dF T n) h k 0)))),.sort] (Exit.exit 4) (zO oz3),.r [] [.n ((↑k:Int)+1)]]) (G:=[.any [11,39,40],.weak 10 (i64 (↑(k+1):Int)),.blk 900 (Blk.slc 21 1 (List.map (row1 IntKind.i32) (gH (dF T n) T.c.toNat (depthE (Shp.mk T.h T.x T.c) n).fst.x.toNat h++gW (dF T n) T.c.toNat h (k+1)))),.sort]) (by kernel_rfl) (.c (decide_eq_true (p:=((↑k:Int)<(depthE (Shp.mk T.h T.x T.c) n).fst.x)) (by omega))<|.c (Weak.int (k:=.i64) (show ((0):Int)=((↑0:Int)) from (by omega)))<|.c (show BlkW (Blk.slc 21 1 (List.map (row1 IntKind.i32) (gH (dF T n) T.c.toNat (depthE (Shp.mk T.h T.x T.c) n).fst.x.toNat h++gW (dF T n) T.c.toNat h k))) (Blk.slc 21 1 (List.map (row1 IntKind.i32) (gH (dF T n) T.c.toNat (depthE (Shp.mk T.h T.x T.c) n).fst.x.toNat h++(gW (dF T n) T.c.toNat h k++gO (dF T n) h k 0)))) from (BlkW.rows (rows_to (row1 IntKind.i32) (r:=List.map (row1 IntKind.i32) (gH (dF T n) T.c.toNat (depthE (Shp.mk T.h T.x T.c) n).fst.x.toNat h++gW (dF T n) T.c.toNat h k)) (l:=gH (dF T n) T.c.toNat (depthE (Shp.mk T.h T.x T.c) n).fst.x.toNat h++gW (dF T n) T.c.toNat h k) (m:=gH (dF T n) T.c.toNat (depthE (Shp.mk T.h T.x T.c) n).fst.x.toNat h++(gW (dF T n) T.c.toNat h k++gO (dF T n) h k 0)) rfl (show (gH (dF T n) T.c.toNat (depthE (Shp.mk T.h T.x T.c) n).fst.x.toNat h++gW (dF T n) T.c.toNat h k)=(gH (dF T n) T.c.toNat (depthE (Shp.mk T.h T.x T.c) n).fst.x.toNat h++(gW (dF T n) T.c.toNat h k++gO (dF T n) h k 0)) from (by (simp [gO];done))))))<|.c oz3<|.c (i6n ((↑k:Int)+1) (by omega))<|.c (Weak.int (k:=.i64) (show (((↑k:Int)+1):Int)=((↑(k+1):Int)) from (by omega)))<|.c (show BlkW (Blk.slc 21 1 (List.map (row1 IntKind.i32) (gH (dF T n) T.c.toNat (depthE (Shp.mk T.h T.x T.c) n).fst.x.toNat h++(gW (dF T n) T.c.toNat h k++gO (dF T n) h k T.c.toNat)))) (Blk.slc 21 1 (List.map (row1 IntKind.i32) (gH (dF T n) T.c.toNat (depthE (Shp.mk T.h T.x T.c) n).fst.x.toNat h++gW (dF T n) T.c.toNat h (k+1)))) from (BlkW.rows (rows_to (row1 IntKind.i32) (r:=List.map (row1 IntKind.i32) (gH (dF T n) T.c.toNat (depthE (Shp.mk T.h T.x T.c) n).fst.x.toNat h++(gW (dF T n) T.c.toNat h k++gO (dF T n) h k T.c.toNat))) (l:=gH (dF T n) T.c.toNat (depthE (Shp.mk T.h T.x T.c) n).fst.x.toNat h++(gW (dF T n) T.c.toNat h k++gO (dF T n) h k T.c.toNat)) (m:=gH (dF T n) T.c.toNat (depthE (Shp.mk T.h T.x T.c) n).fst.x.toNat h++gW (dF T n) T.c.toNat h (k+1)) rfl (show (gH (dF T n) T.c.toNat (depthE (Shp.mk T.h T.x T.c) n).fst.x.toNat h++(gW (dF T n) T.c.toNat h k++gO (dF T n) h k T.c.toNat))=(gH (dF T n) T.c.toNat (depthE (Shp.mk T.h T.x T.c) n).fst.x.toNat h++gW (dF T n) T.c.toNat h (k+1)) from (by rfl)))))<|.n)
theorem rdOf_w_e (T:Ten) (n:Nod) (h:Nat) (ok:DpOk T n) (h1:h<(depthE ⟨T.h,T.x,T.c⟩ n).1.h.toNat):VT Tryz.prog (fnC Tryz.f149 [1,1,1,1,1,0,1,0,0,1,0,0,1,0,0]) (rdOf_w_I T n h ((depthE ⟨T.h,T.x,T.c⟩ n).1.x.toNat)) (.exit 2) (rdOf_w_Z T n h):=by
 have nn:=ok.n
 have g1:=nn.he
 have g2:=nn.xe
 have g3:=nn.sc
 have g4:=nn.c1
 have g5:=nn.c2
 exact VT.run (W:=[.r [] [],.br false]) (G:=[.any (rg [(35,4)]),.sort]) (by kernel_rfl) (.c (decide_eq_false (p:=((↑(depthE (Shp.mk T.h T.x T.c) n).fst.x.toNat:Int)<(depthE (Shp.mk T.h T.x T.c) n).fst.x)) (by omega))<|.n)
theorem rdOf_w (T:Ten) (n:Nod) (h:Nat) (ok:DpOk T n) (h1:h<(depthE ⟨T.h,T.x,T.c⟩ n).1.h.toNat):VT Tryz.prog (fnC Tryz.f149 [1,1,1,1,1,0,1,0,0,1,0,0,1,0]) (rdOf_w_I T n h 0) (.exit 2) (rdOf_w_Z T n h) :=
 VT.loop (fun k=>rdOf_w_I T n h k) ((depthE ⟨T.h,T.x,T.c⟩ n).1.x.toNat) (fun k hk=>rdOf_w_s T n h ok h1 k hk) (rdOf_w_e T n h ok h1) (by intro h;cases h)
noncomputable def rdOf_h_I (T:Ten) (n:Nod) (k:Nat):VS:=stt 60 [(2,.ptr 2 0 0),(3,.ptr 3 0 0),(4,.ptr 4 0 0),(6,.ptr 6 0 0),(8,.ptr 8 0 0),(9,i64 k)] [(2,.var [i64 T.h,i64 T.x,i64 T.c,ints .i8 T.d]),(3,.var (nodC n)),(4,.var [i64 0,i64 0,i64 0,nilv]),(6,.var [i64 (depthE ⟨T.h,T.x,T.c⟩ n).1.h,i64 (depthE ⟨T.h,T.x,T.c⟩ n).1.x,i64 T.c]),(8,.var [i64 (depthE ⟨T.h,T.x,T.c⟩ n).1.h,i64 (depthE ⟨T.h,T.x,T.c⟩ n).1.x,i64 T.c,.own 900]),(900,.slc 21 1 ((gH (dF T n) T.c.toNat (depthE ⟨T.h,T.x,T.c⟩ n).1.x.toNat k).map (row1 .i32)))]
noncomputable def rdOf_h_Z (T:Ten) (n:Nod):VS:=rdOf_h_I T n ((depthE ⟨T.h,T.x,T.c⟩ n).1.h.toNat)
theorem rdOf_h_s (T:Ten) (n:Nod) (ok:DpOk T n) (k:Nat) (hk:k<(depthE ⟨T.h,T.x,T.c⟩ n).1.h.toNat):VT Tryz.prog (fnC Tryz.f149 [1,1,1,1,1,0,1,0,0]) (rdOf_h_I T n k) .normal (rdOf_h_I T n (k+1)):=by
 have nn:=ok.n
 have g1:=nn.he
 have g2:=nn.xe
 have g3:=nn.sc
 have g4:=nn.c1
 have g5:=nn.c2
 have oz3 := @rdOf_w (T) (n) (k) ok hk
 exact VT.run (W:=[.r [] [],.br true,.r [] [],.code [.any (rg [(29,4)]),.weak 10 (i64 (↑0:Int)),.blk 900 (Blk.slc 21 1 (List.map (row1 IntKind.i32) (gH (dF T n) T.c.toNat (depthE (Shp.mk T.h T.x T.c) n).fst.x.toNat k++gW (dF T n) T.c.toNat k 0))),.sort] (Exit.exit 2) (zO oz3),.r [] [.n ((↑k:Int)+1)]]) (G:=[.any [10,33,34],.weak 9 (i64 (↑(k+1):Int)),.blk 900 (Blk.slc 21 1 (List.map (row1 IntKind.i32) (gH (dF T n) T.c.toNat (depthE (Shp.mk T.h T.x T.c) n).fst.x.toNat (k+1)))),.sort]) (by kernel_rfl) (.c (decide_eq_true (p:=((↑k:Int)<(depthE (Shp.mk T.h T.x T.c) n).fst.h)) (by omega))<|.c (Weak.int (k:=.i64) (show ((0):Int)=((↑0:Int)) from (by omega)))<|.c (show BlkW (Blk.slc 21 1 (List.map (row1 IntKind.i32) (gH (dF T n) T.c.toNat (depthE (Shp.mk T.h T.x T.c) n).fst.x.toNat k))) (Blk.slc 21 1 (List.map (row1 IntKind.i32) (gH (dF T n) T.c.toNat (depthE (Shp.mk T.h T.x T.c) n).fst.x.toNat k++gW (dF T n) T.c.toNat k 0))) from (BlkW.rows (rows_to (row1 IntKind.i32) (r:=List.map (row1 IntKind.i32) (gH (dF T n) T.c.toNat (depthE (Shp.mk T.h T.x T.c) n).fst.x.toNat k)) (l:=gH (dF T n) T.c.toNat (depthE (Shp.mk T.h T.x T.c) n).fst.x.toNat k) (m:=gH (dF T n) T.c.toNat (depthE (Shp.mk T.h T.x T.c) n).fst.x.toNat k++gW (dF T n) T.c.toNat k 0) rfl (show (gH (dF T n) T.c.toNat (depthE (Shp.mk T.h T.x T.c) n).fst.x.toNat k)=(gH (dF T n) T.c.toNat (depthE (Shp.mk T.h T.x T.c) n).fst.x.toNat k++gW (dF T n) T.c.toNat k 0) from (by (simp [gW];done))))))<|.c oz3<|.c (i6n ((↑k:Int)+1) (by omega))<|.c (Weak.int (k:=.i64) (show (((↑k:Int)+1):Int)=((↑(k+1):Int)) from (by omega)))<|.c (show BlkW (Blk.slc 21 1 (List.map (row1 IntKind.i32) (gH (dF T n) T.c.toNat (depthE (Shp.mk T.h T.x T.c) n).fst.x.toNat k++gW (dF T n) T.c.toNat k (depthE (Shp.mk T.h T.x T.c) n).fst.x.toNat))) (Blk.slc 21 1 (List.map (row1 IntKind.i32) (gH (dF T n) T.c.toNat (depthE (Shp.mk T.h T.x T.c) n).fst.x.toNat (k+1)))) from (BlkW.rows (rows_to (row1 IntKind.i32) (r:=List.map (row1 IntKind.i32) (gH (dF T n) T.c.toNat (depthE (Shp.mk T.h T.x T.c) n).fst.x.toNat k++gW (dF T n) T.c.toNat k (depthE (Shp.mk T.h T.x T.c) n).fst.x.toNat)) (l:=gH (dF T n) T.c.toNat (depthE (Shp.mk T.h T.x T.c) n).fst.x.toNat k++gW (dF T n) T.c.toNat k (depthE (Shp.mk T.h T.x T.c) n).fst.x.toNat) (m:=gH (dF T n) T.c.toNat (depthE (Shp.mk T.h T.x T.c) n).fst.x.toNat (k+1)) rfl (show (gH (dF T n) T.c.toNat (depthE (Shp.mk T.h T.x T.c) n).fst.x.toNat k++gW (dF T n) T.c.toNat k (depthE (Shp.mk T.h T.x T.c) n).fst.x.toNat)=(gH (dF T n) T.c.toNat (depthE (Shp.mk T.h T.x T.c) n).fst.x.toNat (k+1)) from (by rfl)))))<|.n)
theorem rdOf_h_e (T:Ten) (n:Nod) (ok:DpOk T n):VT Tryz.prog (fnC Tryz.f149 [1,1,1,1,1,0,1,0,0]) (rdOf_h_I T n ((depthE ⟨T.h,T.x,T.c⟩ n).1.h.toNat)) (.exit 0) (rdOf_h_Z T n):=by
 have nn:=ok.n
 have g1:=nn.he
 have g2:=nn.xe
 have g3:=nn.sc
 have g4:=nn.c1
 have g5:=nn.c2
 exact VT.run (W:=[.r [] [],.br false]) (G:=[.any (rg [(29,4)]),.sort]) (by kernel_rfl) (.c (decide_eq_false (p:=((↑(depthE (Shp.mk T.h T.x T.c) n).fst.h.toNat:Int)<(depthE (Shp.mk T.h T.x T.c) n).fst.h)) (by omega))<|.n)
theorem rdOf_h (T:Ten) (n:Nod) (ok:DpOk T n):VT Tryz.prog (fnC Tryz.f149 [1,1,1,1,1,0,1,0]) (rdOf_h_I T n 0) (.exit 0) (rdOf_h_Z T n) :=
 VT.loop (fun k=>rdOf_h_I T n k) ((depthE ⟨T.h,T.x,T.c⟩ n).1.h.toNat) (fun k hk=>rdOf_h_s T n ok k hk) (rdOf_h_e T n ok) (by intro h;cases h)
theorem rdOf_x (T:Ten) (n:Nod) (ok:DpOk T n):VC Tryz.prog 149 ([ten .i8 T,nod n]) (.tup [ten .i32 ⟨(depthE ⟨T.h,T.x,T.c⟩ n).1.h,(depthE ⟨T.h,T.x,T.c⟩ n).1.x,(depthE ⟨T.h,T.x,T.c⟩ n).1.c,gH (dF T n) T.c.toNat (depthE ⟨T.h,T.x,T.c⟩ n).1.x.toNat (depthE ⟨T.h,T.x,T.c⟩ n).1.h.toNat⟩,i64 0]):=by
 have ok1:=ok.ok
 have okn:=ok.okn
 have q2:=ok.r
 have q3:=ok.e
 have g3:=ok.n.sc
 have oz0 := @refTRight_v (T) ok1
 have oz2 := @refDepthShape_v (Shp.mk T.h T.x T.c) (n) (by (exact Shp.mk_ok ok1.h ok1.x ok1.c)) okn
 have oz7 := @rdOf_h (T) (n) ok
 exact (VC.run (fn:=Tryz.f149) (W:=[.r [] [],.r [] [.callr (rO oz0)],.br false,.r [] [.callr (rO oz2)],.r [] [],.br false,.r [] [],.r [] [],.code [.any (rg [(0,2),(5,1),(7,1),(12,3),(16,9),(27,2)]),.weak 9 (i64 (↑0:Int)),.nilc 900 21 1 8 3,.blk 6 (Blk.var [i64 (depthE (Shp.mk T.h T.x T.c) n).fst.h,i64 (depthE (Shp.mk T.h T.x T.c) n).fst.x,i64 T.c]),.blk 8 (Blk.var [i64 (depthE (Shp.mk T.h T.x T.c) n).fst.h,i64 (depthE (Shp.mk T.h T.x T.c) n).fst.x,i64 T.c,AV.own 900]),.sort] (Exit.exit 0) (zO oz7),.r [] []]) (r:=AV.tup [AV.agg [i64 (depthE (Shp.mk T.h T.x T.c) n).fst.h,i64 (depthE (Shp.mk T.h T.x T.c) n).fst.x,i64 T.c,AV.sl 1 (List.map (row1 IntKind.i32) (gH (dF T n) T.c.toNat (depthE (Shp.mk T.h T.x T.c) n).fst.x.toNat (depthE (Shp.mk T.h T.x T.c) n).fst.h.toNat))],i64 0]) Tryz.func149 (by kernel_rfl) (.c oz0<|.c (show (!tenRight T)=false by (simp;omega))<|.c oz2<|.c (show ((depthE (Shp.mk T.h T.x T.c) n).snd != 0)=false by (simp;omega))<|.c (Weak.int (k:=.i64) (show ((0):Int)=((↑0:Int)) from (by omega)))<|.c (show BlkW (Blk.var [i64 (depthE (Shp.mk T.h T.x T.c) n).fst.h,i64 (depthE (Shp.mk T.h T.x T.c) n).fst.x,i64 (depthE (Shp.mk T.h T.x T.c) n).fst.c]) (Blk.var [i64 (depthE (Shp.mk T.h T.x T.c) n).fst.h,i64 (depthE (Shp.mk T.h T.x T.c) n).fst.x,i64 T.c]) from (BlkW.var (.cons (.refl _) (.cons (.refl _) (.cons (Weak.int (show (((depthE (Shp.mk T.h T.x T.c) n).fst.c):Int)=(T.c) from g3)) .nil)))))<|.c (show BlkW (Blk.var [i64 (depthE (Shp.mk T.h T.x T.c) n).fst.h,i64 (depthE (Shp.mk T.h T.x T.c) n).fst.x,i64 (depthE (Shp.mk T.h T.x T.c) n).fst.c,AV.own 900]) (Blk.var [i64 (depthE (Shp.mk T.h T.x T.c) n).fst.h,i64 (depthE (Shp.mk T.h T.x T.c) n).fst.x,i64 T.c,AV.own 900]) from (BlkW.var (.cons (.refl _) (.cons (.refl _) (.cons (Weak.int (show (((depthE (Shp.mk T.h T.x T.c) n).fst.c):Int)=(T.c) from g3)) (.cons (.refl _) .nil))))))<|.c oz7<|.n)).weak (WeakL.refl _) (Weak.tup (.cons (Weak.agg (.cons (.refl _) (.cons (.refl _) (.cons (Weak.int (show ((T.c):Int)=((depthE (Shp.mk T.h T.x T.c) n).fst.c) from (by omega))) (.cons (.refl _) .nil))))) (.cons (.refl _) .nil)))
abbrev ten0:Ten:=⟨0,0,0,[]⟩
structure TRt (T:Ten):Prop where
 h1:1≤T.h
 h16:T.h≤16
 x1:1≤T.x
 x16:T.x≤16
 c1:1≤T.c
 c2:T.c≤1024
 el:T.h*T.x*T.c≤1024
 dl:(T.d.length:Int)=T.h*T.x*T.c
 en:elems T.h T.x T.c=T.h*T.x*T.c
theorem tenRight.rt {T:Ten} (h:tenRight T=true):TRt T:=by
 unfold tenRight at h
 simp only [Bool.and_eq_true,decide_eq_true_eq] at h
 have c:=elems_ok h.1
 have e:elems T.h T.x T.c=T.h*T.x*T.c:=by
  have h1:=h.1
  unfold elems at h1 ⊢
  split
  ·rfl
  ·rename_i hn;rw [if_neg hn] at h1;omega
 exact ⟨by omega,by omega,by omega,by omega,by omega,by omega,by omega,by omega,e⟩
theorem TRt.place {T:Ten} (r:TRt T) {h w c:Int} (hi:inT T h w) (c0:0≤c) (c1:c<T.c):0≤h*T.x∧h*T.x≤1024∧0≤(h*T.x+w)*T.c∧(h*T.x+w)*T.c+c<T.d.length:=by
 obtain ⟨h0,h1,w0,w1⟩:=hi
 obtain ⟨q1,q2,q3,q4,q5,q6,q7,q8,_⟩:=r
 have a1:=idx_bd h0 h1 w0 w1
 have a2:=idx_bd a1.1 a1.2 c0 c1
 have a3:0≤h*T.x:=Int.mul_nonneg h0 (by omega)
 have a4:h*T.x≤16*16:=Int.mul_le_mul (by omega) (by omega) (by omega) (by omega)
 have a5:0≤(h*T.x+w)*T.c:=Int.mul_nonneg (by omega) (by omega)
 exact ⟨a3,by omega,a5,by omega⟩
def pixE (T:Ten) (h w c z:Int):Int:=if inT T h w then T.d.getD ((h*T.x+w)*T.c+c).toNat 0 else z
theorem pix8 {T:Ten} (ok:T.Ok) {z:Int} (hz:In8 z) (h w c:Int):In8 (pixE T h w c z):=by
 unfold pixE;split
 ·exact gt8 ok.d _
 ·exact hz
theorem pixel_v (T:Ten) (h w c z:Int) (r:TRt T) (h0 : -4≤h) (h1:h≤20) (w0 : -4≤w) (w1:w≤20) (c0:0≤c) (c1:c<T.c):VC Tryz.prog 195 ([ten .i8 T,i64 h,i64 w,i64 c,i8 z]) (i8 (pixE T h w c z)):=by
 have q1:=fun (a:inT T h w)=>r.place a c0 c1
 have q2:=r.el
 have q3:=r.dl
 rcases bft (decide (h<0) || decide (h≥T.h) || decide (w<0) || decide (w≥T.x)) with hc0 | hc0
 ·have gc0:((h<0∨h≥T.h)∨w<0)∨w≥T.x:=by first | (simp only [Bool.or_eq_true,Bool.or_eq_false_iff,Bool.and_eq_true,Bool.and_eq_false_iff,Bool.not_eq_true',Bool.not_eq_false',decide_eq_true_eq,decide_eq_false_iff_not,beq_iff_eq,bne_iff_ne,ne_eq,beq_eq_false_iff_ne,bne_eq_false_iff_eq,eqNums,Bool.and_true] at hc0;first | exact hc0 | omega) | simpa using hc0 | (simp at hc0 ⊢;omega) | (apply cbc;intro hn;simp_all [eqNums];done) | (apply cbc;intro hn;simp [eqNums] at hc0 hn;omega)
  exact (VC.run (fn:=Tryz.f195) (W:=[.r [] [],.r [] [.op false,.op false,.op false,.op false,.op false,.sel 1,.op false,.op false,.sel 1,.op false,.op false,.op false,.op false,.op false,.sel 1],.br true,.r [] []]) (r:=i8 z) Tryz.func195 (by kernel_rfl) (.c hc0<|.n)).weak (WeakL.refl _) (Weak.int (show ((z):Int)=(pixE T h w c z) from (by (unfold pixE inT;rw [if_neg (by omega)]))))
 ·have gc0:((¬h<0∧¬h≥T.h)∧¬w<0)∧¬w≥T.x:=by first | (simp only [Bool.or_eq_true,Bool.or_eq_false_iff,Bool.and_eq_true,Bool.and_eq_false_iff,Bool.not_eq_true',Bool.not_eq_false',decide_eq_true_eq,decide_eq_false_iff_not,beq_iff_eq,bne_iff_ne,ne_eq,beq_eq_false_iff_ne,bne_eq_false_iff_eq,eqNums,Bool.and_true] at hc0;first | exact hc0 | omega) | simpa using hc0 | (simp at hc0 ⊢;omega) | (apply cbc;intro hn;simp_all [eqNums];done) | (apply cbc;intro hn;simp [eqNums] at hc0 hn;omega)
  have oz1 := @get_v (T) (h) (w) (c) (by omega) (by omega) (by omega) (by omega) (by omega) c0 (by omega) (by omega)
  exact (VC.run (fn:=Tryz.f195) (W:=[.r [] [],.r [] [.op false,.op false,.op false,.op false,.op false,.sel 1,.op false,.op false,.sel 1,.op false,.op false,.op false,.op false,.op false,.sel 1],.br false,.r [] [.callr (rO oz1)]]) (r:=i8 (T.d.getD ((h*T.x+w)*T.c+c).toNat 0)) Tryz.func195 (by kernel_rfl) (.c hc0<|.c oz1<|.n)).weak (WeakL.refl _) (Weak.int (show ((T.d.getD ((h*T.x+w)*T.c+c).toNat 0):Int)=(pixE T h w c z) from (by (unfold pixE inT;rw [if_pos (by omega)]))))
abbrev movF (T:Ten) (a b z:Int) (h w c:Nat):Int:=pixE T ((h:Int)-a) ((w:Int)-b) c z
theorem gH_in8 {f:Nat→Nat→Nat→Int} (hf:∀ h w c,In8 (f h w c)) (m x:Nat):∀ y,∀ v∈gH f m x y,In8 v
 | 0=>by simp [gH]
 | y+1=>by
  have gW8:∀ w,∀ v∈gW f m y w,In8 v:=by
   intro w
   induction w with
   | zero=>simp [gW]
   | succ w ih =>
    intro v hv
    rw [gW,List.mem_append] at hv
    rcases hv with hv | hv
    ·exact ih v hv
    ·unfold gO at hv
     obtain ⟨c,_,rfl⟩:=List.mem_map.1 hv
     exact hf _ _ _
  intro v hv
  rw [gH,List.mem_append] at hv
  rcases hv with hv | hv
  ·exact gH_in8 hf m x y v hv
  ·exact gW8 x v hv
structure MvOk (T:Ten) (s:Shp) (a b:Int):Prop where
 r:TRt T
 h1:1≤s.h
 h2:s.h≤16
 x1:1≤s.x
 x2:s.x≤16
 c:s.c=T.c
 el:s.h.toNat*(s.x.toNat*s.c.toNat)≤2000
 a0:0≤a
 a4:a≤4
 b0:0≤b
 b4:b≤4
noncomputable def move_c_I (T:Ten) (s:Shp) (a b z:Int) (h w:Nat) (k:Nat):VS:=stt 51 [(2,i64 a),(3,i64 b),(4,i8 z),(5,.ptr 5 0 0),(6,.ptr 6 0 0),(10,.ptr 10 0 0),(11,.ptr 11 0 0),(12,i64 h),(13,i64 w),(14,i64 k)] [(5,.var (shpC s)),(6,.var [i64 T.h,i64 T.x,i64 T.c,ints .i8 T.d]),(10,.var [i64 0,i64 0,i64 0,nilv]),(11,.var [i64 s.h,i64 s.x,i64 s.c,.own 900]),(900,.slc 38 1 ((gH (movF T a b z) s.c.toNat s.x.toNat h++(gW (movF T a b z) s.c.toNat h w++gO (movF T a b z) h w k)).map (row1 .i8)))]
noncomputable def move_c_Z (T:Ten) (s:Shp) (a b z:Int) (h w:Nat):VS:=move_c_I T s a b z h w (s.c.toNat)
theorem move_c_s (T:Ten) (s:Shp) (a b z:Int) (h w:Nat) (ok:MvOk T s a b) (hh:h<s.h.toNat) (hw:w<s.x.toNat) (k:Nat) (hk:k<s.c.toNat):VT Tryz.prog (fnC Tryz.f147 [1,1,0,1,0,0,1,0,0,1,0,0,1,0,0,1,0,0]) (move_c_I T s a b z h w k) .normal (move_c_I T s a b z h w (k+1)):=by
 obtain ⟨r,g1,g2,g3,g4,g5,g6,g7,g8,g9,g10⟩:=id ok
 have q1:=r.c1
 have q2:=r.c2
 have q3:=g_len (f:=movF T a b z) hh hw g6
 have q4:=gO_len (movF T a b z) h w k
 have oz3 := @pixel_v (T) ((↑h:Int)-a) ((↑w:Int)-b) ((↑k:Int)) (z) r (by omega) (by omega) (by omega) (by omega) (by omega) (by omega)
 exact VT.run (W:=[.r [] [],.br true,.r [] [.n ((↑h:Int)-a),.n ((↑w:Int)-b),.callr (rO oz3)],.r [] [.n ((↑k:Int)+1)]]) (G:=[.any (rg [(29,21)]),.drop [47],.ren 48 900,.weak 14 (i64 (↑(k+1):Int)),.blk 900 (Blk.slc 38 1 (List.map (row1 IntKind.i8) (gH (movF T a b z) s.c.toNat s.x.toNat h++(gW (movF T a b z) s.c.toNat h w++gO (movF T a b z) h w (k+1))))),.sort]) (by kernel_rfl) (.c (decide_eq_true (p:=((↑k:Int)<s.c)) (by omega))<|.c (i6n ((↑h:Int)-a) (by omega))<|.c (i6n ((↑w:Int)-b) (by omega))<|.c oz3<|.c (show ((List.map (row1 IntKind.i8) (gH (movF T a b z) s.c.toNat s.x.toNat h++(gW (movF T a b z) s.c.toNat h w++gO (movF T a b z) h w k))).length+1)*1≤140737488355328 by (simp;omega))<|.c (show (List.map (row1 IntKind.i8) (gH (movF T a b z) s.c.toNat s.x.toNat h++(gW (movF T a b z) s.c.toNat h w++gO (movF T a b z) h w k))).length+1≤9223372036854775807 by (simp;omega))<|.c (i6n ((↑k:Int)+1) (by omega))<|.c (Weak.int (k:=.i64) (show (((↑k:Int)+1):Int)=((↑(k+1):Int)) from (by omega)))<|.c (show BlkW (Blk.slc 38 1 (List.map (row1 IntKind.i8) (gH (movF T a b z) s.c.toNat s.x.toNat h++(gW (movF T a b z) s.c.toNat h w++gO (movF T a b z) h w k))++[[i8 (pixE T ((↑h:Int)-a) ((↑w:Int)-b) (↑k:Int) z)]])) (Blk.slc 38 1 (List.map (row1 IntKind.i8) (gH (movF T a b z) s.c.toNat s.x.toNat h++(gW (movF T a b z) s.c.toNat h w++gO (movF T a b z) h w (k+1))))) from (BlkW.rows (rows_to (row1 IntKind.i8) (r:=List.map (row1 IntKind.i8) (gH (movF T a b z) s.c.toNat s.x.toNat h++(gW (movF T a b z) s.c.toNat h w++gO (movF T a b z) h w k))++[[i8 (pixE T ((↑h:Int)-a) ((↑w:Int)-b) (↑k:Int) z)]]) (l:=gH (movF T a b z) s.c.toNat s.x.toNat h++(gW (movF T a b z) s.c.toNat h w++gO (movF T a b z) h w k)++[pixE T ((↑h:Int)-a) ((↑w:Int)-b) (↑k:Int) z]) (m:=gH (movF T a b z) s.c.toNat s.x.toNat h++(gW (movF T a b z) s.c.toNat h w++gO (movF T a b z) h w (k+1))) (by first | (simp only [List.map_append,List.map_cons,List.map_nil,List.map_set,List.map_replicate,List.map_take,List.map_drop];done) | rfl | (simp only [List.map_append,List.map_cons,List.map_nil,List.map_set,List.map_replicate,List.map_take,List.map_drop];rfl)) (show (gH (movF T a b z) s.c.toNat s.x.toNat h++(gW (movF T a b z) s.c.toNat h w++gO (movF T a b z) h w k)++[pixE T ((↑h:Int)-a) ((↑w:Int)-b) (↑k:Int) z])=(gH (movF T a b z) s.c.toNat s.x.toNat h++(gW (movF T a b z) s.c.toNat h w++gO (movF T a b z) h w (k+1))) from (by (rw [gO_succ];simp))))))<|.n)
theorem move_c_e (T:Ten) (s:Shp) (a b z:Int) (h w:Nat) (ok:MvOk T s a b) (hh:h<s.h.toNat) (hw:w<s.x.toNat):VT Tryz.prog (fnC Tryz.f147 [1,1,0,1,0,0,1,0,0,1,0,0,1,0,0,1,0,0]) (move_c_I T s a b z h w (s.c.toNat)) (.exit 4) (move_c_Z T s a b z h w):=by
 obtain ⟨r,g1,g2,g3,g4,g5,g6,g7,g8,g9,g10⟩:=id ok
 have q1:=r.c1
 have q2:=r.c2
 exact VT.run (W:=[.r [] [],.br false]) (G:=[.any (rg [(29,4)]),.sort]) (by kernel_rfl) (.c (decide_eq_false (p:=((↑s.c.toNat:Int)<s.c)) (by omega))<|.n)
theorem move_c (T:Ten) (s:Shp) (a b z:Int) (h w:Nat) (ok:MvOk T s a b) (hh:h<s.h.toNat) (hw:w<s.x.toNat):VT Tryz.prog (fnC Tryz.f147 [1,1,0,1,0,0,1,0,0,1,0,0,1,0,0,1,0]) (move_c_I T s a b z h w 0) (.exit 4) (move_c_Z T s a b z h w) :=
 VT.loop (fun k=>move_c_I T s a b z h w k) (s.c.toNat) (fun k hk=>move_c_s T s a b z h w ok hh hw k hk) (move_c_e T s a b z h w ok hh hw) (by intro h;cases h)
noncomputable def move_w_I (T:Ten) (s:Shp) (a b z:Int) (h:Nat) (k:Nat):VS:=stt 51 [(2,i64 a),(3,i64 b),(4,i8 z),(5,.ptr 5 0 0),(6,.ptr 6 0 0),(10,.ptr 10 0 0),(11,.ptr 11 0 0),(12,i64 h),(13,i64 k)] [(5,.var (shpC s)),(6,.var [i64 T.h,i64 T.x,i64 T.c,ints .i8 T.d]),(10,.var [i64 0,i64 0,i64 0,nilv]),(11,.var [i64 s.h,i64 s.x,i64 s.c,.own 900]),(900,.slc 38 1 ((gH (movF T a b z) s.c.toNat s.x.toNat h++gW (movF T a b z) s.c.toNat h k).map (row1 .i8)))]
noncomputable def move_w_Z (T:Ten) (s:Shp) (a b z:Int) (h:Nat):VS:=move_w_I T s a b z h (s.x.toNat)
theorem move_w_s (T:Ten) (s:Shp) (a b z:Int) (h:Nat) (ok:MvOk T s a b) (hh:h<s.h.toNat) (k:Nat) (hk:k<s.x.toNat):VT Tryz.prog (fnC Tryz.f147 [1,1,0,1,0,0,1,0,0,1,0,0]) (move_w_I T s a b z h k) .normal (move_w_I T s a b z h (k+1)):=by
 obtain ⟨r,g1,g2,g3,g4,g5,g6,g7,g8,g9,g10⟩:=id ok
 have oz3 := @move_c (T) (s) (a) (b) (z) (h) (k) ok hh hk
 exact VT.run (W:=[.r [] [],.br true,.r [] [],.code [.any (rg [(23,4)]),.weak 14 (i64 (↑0:Int)),.blk 900 (Blk.slc 38 1 (List.map (row1 IntKind.i8) (gH (movF T a b z) s.c.toNat s.x.toNat h++(gW (movF T a b z) s.c.toNat h k++gO (movF T a b z) h k 0)))),.sort] (Exit.exit 4) (zO oz3),.r [] [.n ((↑k:Int)+1)]]) (G:=[.any [14,27,28],.weak 13 (i64 (↑(k+1):Int)),.blk 900 (Blk.slc 38 1 (List.map (row1 IntKind.i8) (gH (movF T a b z) s.c.toNat s.x.toNat h++gW (movF T a b z) s.c.toNat h (k+1)))),.sort]) (by kernel_rfl) (.c (decide_eq_true (p:=((↑k:Int)<s.x)) (by omega))<|.c (Weak.int (k:=.i64) (show ((0):Int)=((↑0:Int)) from (by omega)))<|.c (show BlkW (Blk.slc 38 1 (List.map (row1 IntKind.i8) (gH (movF T a b z) s.c.toNat s.x.toNat h++gW (movF T a b z) s.c.toNat h k))) (Blk.slc 38 1 (List.map (row1 IntKind.i8) (gH (movF T a b z) s.c.toNat s.x.toNat h++(gW (movF T a b z) s.c.toNat h k++gO (movF T a b z) h k 0)))) from (BlkW.rows (rows_to (row1 IntKind.i8) (r:=List.map (row1 IntKind.i8) (gH (movF T a b z) s.c.toNat s.x.toNat h++gW (movF T a b z) s.c.toNat h k)) (l:=gH (movF T a b z) s.c.toNat s.x.toNat h++gW (movF T a b z) s.c.toNat h k) (m:=gH (movF T a b z) s.c.toNat s.x.toNat h++(gW (movF T a b z) s.c.toNat h k++gO (movF T a b z) h k 0)) rfl (show (gH (movF T a b z) s.c.toNat s.x.toNat h++gW (movF T a b z) s.c.toNat h k)=(gH (movF T a b z) s.c.toNat s.x.toNat h++(gW (movF T a b z) s.c.toNat h k++gO (movF T a b z) h k 0)) from (by (simp [gO];done))))))<|.c oz3<|.c (i6n ((↑k:Int)+1) (by omega))<|.c (Weak.int (k:=.i64) (show (((↑k:Int)+1):Int)=((↑(k+1):Int)) from (by omega)))<|.c (show BlkW (Blk.slc 38 1 (List.map (row1 IntKind.i8) (gH (movF T a b z) s.c.toNat s.x.toNat h++(gW (movF T a b z) s.c.toNat h k++gO (movF T a b z) h k s.c.toNat)))) (Blk.slc 38 1 (List.map (row1 IntKind.i8) (gH (movF T a b z) s.c.toNat s.x.toNat h++gW (movF T a b z) s.c.toNat h (k+1)))) from (BlkW.rows (rows_to (row1 IntKind.i8) (r:=List.map (row1 IntKind.i8) (gH (movF T a b z) s.c.toNat s.x.toNat h++(gW (movF T a b z) s.c.toNat h k++gO (movF T a b z) h k s.c.toNat))) (l:=gH (movF T a b z) s.c.toNat s.x.toNat h++(gW (movF T a b z) s.c.toNat h k++gO (movF T a b z) h k s.c.toNat)) (m:=gH (movF T a b z) s.c.toNat s.x.toNat h++gW (movF T a b z) s.c.toNat h (k+1)) rfl (show (gH (movF T a b z) s.c.toNat s.x.toNat h++(gW (movF T a b z) s.c.toNat h k++gO (movF T a b z) h k s.c.toNat))=(gH (movF T a b z) s.c.toNat s.x.toNat h++gW (movF T a b z) s.c.toNat h (k+1)) from (by rfl)))))<|.n)
theorem move_w_e (T:Ten) (s:Shp) (a b z:Int) (h:Nat) (ok:MvOk T s a b) (hh:h<s.h.toNat):VT Tryz.prog (fnC Tryz.f147 [1,1,0,1,0,0,1,0,0,1,0,0]) (move_w_I T s a b z h (s.x.toNat)) (.exit 2) (move_w_Z T s a b z h):=by
 obtain ⟨r,g1,g2,g3,g4,g5,g6,g7,g8,g9,g10⟩:=id ok
 exact VT.run (W:=[.r [] [],.br false]) (G:=[.any (rg [(23,4)]),.sort]) (by kernel_rfl) (.c (decide_eq_false (p:=((↑s.x.toNat:Int)<s.x)) (by omega))<|.n)
theorem move_w (T:Ten) (s:Shp) (a b z:Int) (h:Nat) (ok:MvOk T s a b) (hh:h<s.h.toNat):VT Tryz.prog (fnC Tryz.f147 [1,1,0,1,0,0,1,0,0,1,0]) (move_w_I T s a b z h 0) (.exit 2) (move_w_Z T s a b z h) :=
 VT.loop (fun k=>move_w_I T s a b z h k) (s.x.toNat) (fun k hk=>move_w_s T s a b z h ok hh k hk) (move_w_e T s a b z h ok hh) (by intro h;cases h)
noncomputable def move_h_I (T:Ten) (s:Shp) (a b z:Int) (k:Nat):VS:=stt 51 [(2,i64 a),(3,i64 b),(4,i8 z),(5,.ptr 5 0 0),(6,.ptr 6 0 0),(10,.ptr 10 0 0),(11,.ptr 11 0 0),(12,i64 k)] [(5,.var (shpC s)),(6,.var [i64 T.h,i64 T.x,i64 T.c,ints .i8 T.d]),(10,.var [i64 0,i64 0,i64 0,nilv]),(11,.var [i64 s.h,i64 s.x,i64 s.c,.own 900]),(900,.slc 38 1 ((gH (movF T a b z) s.c.toNat s.x.toNat k).map (row1 .i8)))]
noncomputable def move_h_Z (T:Ten) (s:Shp) (a b z:Int):VS:=move_h_I T s a b z (s.h.toNat)
theorem move_h_s (T:Ten) (s:Shp) (a b z:Int) (ok:MvOk T s a b) (k:Nat) (hk:k<s.h.toNat):VT Tryz.prog (fnC Tryz.f147 [1,1,0,1,0,0]) (move_h_I T s a b z k) .normal (move_h_I T s a b z (k+1)):=by
 obtain ⟨r,g1,g2,g3,g4,g5,g6,g7,g8,g9,g10⟩:=id ok
 have oz3 := @move_w (T) (s) (a) (b) (z) (k) ok hk
 exact VT.run (W:=[.r [] [],.br true,.r [] [],.code [.any (rg [(17,4)]),.weak 13 (i64 (↑0:Int)),.blk 900 (Blk.slc 38 1 (List.map (row1 IntKind.i8) (gH (movF T a b z) s.c.toNat s.x.toNat k++gW (movF T a b z) s.c.toNat k 0))),.sort] (Exit.exit 2) (zO oz3),.r [] [.n ((↑k:Int)+1)]]) (G:=[.any [13,21,22],.weak 12 (i64 (↑(k+1):Int)),.blk 900 (Blk.slc 38 1 (List.map (row1 IntKind.i8) (gH (movF T a b z) s.c.toNat s.x.toNat (k+1)))),.sort]) (by kernel_rfl) (.c (decide_eq_true (p:=((↑k:Int)<s.h)) (by omega))<|.c (Weak.int (k:=.i64) (show ((0):Int)=((↑0:Int)) from (by omega)))<|.c (show BlkW (Blk.slc 38 1 (List.map (row1 IntKind.i8) (gH (movF T a b z) s.c.toNat s.x.toNat k))) (Blk.slc 38 1 (List.map (row1 IntKind.i8) (gH (movF T a b z) s.c.toNat s.x.toNat k++gW (movF T a b z) s.c.toNat k 0))) from (BlkW.rows (rows_to (row1 IntKind.i8) (r:=List.map (row1 IntKind.i8) (gH (movF T a b z) s.c.toNat s.x.toNat k)) (l:=gH (movF T a b z) s.c.toNat s.x.toNat k) (m:=gH (movF T a b z) s.c.toNat s.x.toNat k++gW (movF T a b z) s.c.toNat k 0) rfl (show (gH (movF T a b z) s.c.toNat s.x.toNat k)=(gH (movF T a b z) s.c.toNat s.x.toNat k++gW (movF T a b z) s.c.toNat k 0) from (by (simp [gW];done))))))<|.c oz3<|.c (i6n ((↑k:Int)+1) (by omega))<|.c (Weak.int (k:=.i64) (show (((↑k:Int)+1):Int)=((↑(k+1):Int)) from (by omega)))<|.c (show BlkW (Blk.slc 38 1 (List.map (row1 IntKind.i8) (gH (movF T a b z) s.c.toNat s.x.toNat k++gW (movF T a b z) s.c.toNat k s.x.toNat))) (Blk.slc 38 1 (List.map (row1 IntKind.i8) (gH (movF T a b z) s.c.toNat s.x.toNat (k+1)))) from (BlkW.rows (rows_to (row1 IntKind.i8) (r:=List.map (row1 IntKind.i8) (gH (movF T a b z) s.c.toNat s.x.toNat k++gW (movF T a b z) s.c.toNat k s.x.toNat)) (l:=gH (movF T a b z) s.c.toNat s.x.toNat k++gW (movF T a b z) s.c.toNat k s.x.toNat) (m:=gH (movF T a b z) s.c.toNat s.x.toNat (k+1)) rfl (show (gH (movF T a b z) s.c.toNat s.x.toNat k++gW (movF T a b z) s.c.toNat k s.x.toNat)=(gH (movF T a b z) s.c.toNat s.x.toNat (k+1)) from (by rfl)))))<|.n)
theorem move_h_e (T:Ten) (s:Shp) (a b z:Int) (ok:MvOk T s a b):VT Tryz.prog (fnC Tryz.f147 [1,1,0,1,0,0]) (move_h_I T s a b z (s.h.toNat)) (.exit 0) (move_h_Z T s a b z):=by
 obtain ⟨r,g1,g2,g3,g4,g5,g6,g7,g8,g9,g10⟩:=id ok
 exact VT.run (W:=[.r [] [],.br false]) (G:=[.any (rg [(17,4)]),.sort]) (by kernel_rfl) (.c (decide_eq_false (p:=((↑s.h.toNat:Int)<s.h)) (by omega))<|.n)
theorem move_h (T:Ten) (s:Shp) (a b z:Int) (ok:MvOk T s a b):VT Tryz.prog (fnC Tryz.f147 [1,1,0,1,0]) (move_h_I T s a b z 0) (.exit 0) (move_h_Z T s a b z) :=
 VT.loop (fun k=>move_h_I T s a b z k) (s.h.toNat) (fun k hk=>move_h_s T s a b z ok k hk) (move_h_e T s a b z ok) (by intro h;cases h)
theorem move_v (T:Ten) (s:Shp) (a b z:Int) (ok:MvOk T s a b):VC Tryz.prog 147 ([shp s,ten .i8 T,i64 a,i64 b,i8 z]) (ten .i8 ⟨s.h,s.x,s.c,gH (movF T a b z) s.c.toNat s.x.toNat s.h.toNat⟩):=by
 have oz1 := @move_h (T) (s) (a) (b) (z) ok
 exact VC.run (fn:=Tryz.f147) (W:=[.r [] [],.r [] [],.r [] [],.code [.any [0,1,15,16],.weak 12 (i64 (↑0:Int)),.nilc 900 38 1 11 3,.sort] (Exit.exit 0) (zO oz1),.r [] []]) Tryz.func147 (by kernel_rfl) (.c (Weak.int (k:=.i64) (show ((0):Int)=((↑0:Int)) from (by omega)))<|.c oz1<|.n)
def padOf (T:Ten) (p z:Int):Ten×Int:=if elems (T.h+2*p) (T.x+2*p) T.c=0 then (ten0,5) else (⟨T.h+2*p,T.x+2*p,T.c,gH (movF T p p z) T.c.toNat (T.x+2*p).toNat (T.h+2*p).toNat⟩,0)
theorem mv_of {T:Ten} (r:TRt T) {p:Int} (p0:0≤p) (p4:p≤4) (h:elems (T.h+2*p) (T.x+2*p) T.c≠0):MvOk T ⟨T.h+2*p,T.x+2*p,T.c⟩ p p:=by
 have hb:=elems_bd (T.h+2*p) (T.x+2*p) T.c
 have c:=elems_ok (h:=T.h+2*p) (x:=T.x+2*p) (c:=T.c) (by omega)
 obtain ⟨q1,q2,q3,q4,q5,q6,q7,q8,q9⟩:=id r
 refine ⟨r,by dsimp only;omega,by dsimp only;omega,by dsimp only;omega,by dsimp only;omega,rfl,?_,p0,p4,p0,p4⟩
 have:(((T.h+2*p).toNat*((T.x+2*p).toNat*T.c.toNat):Nat):Int)=(T.h+2*p)*(T.x+2*p)*T.c:=by
  rw [Int.natCast_mul,Int.natCast_mul,Int.toNat_of_nonneg (by omega),Int.toNat_of_nonneg (by omega),Int.toNat_of_nonneg (by omega),Int.mul_assoc]
 dsimp only;omega
theorem resize_v (T:Ten) (p z:Int) (r:TRt T) (p0:0≤p) (p4:p≤4):VC Tryz.prog 85 ([ten .i8 T,i64 p,i8 z]) (.tup [ten .i8 (padOf T p z).1,i64 (padOf T p z).2]):=by
 obtain ⟨q1,q2,q3,q4,q5,q6,q7,q8,q9⟩:=id r
 have m := @mv_of T r p p0 p4
 have oz0:=(i6n (2*p) (by omega))
 have oz1:=(i6n (T.h+2*p) (by omega))
 have oz3:=(i6n (T.x+2*p) (by omega))
 have oz4 := @refElems_v (T.h+2*p) (T.x+2*p) (T.c) (by omega) (by omega) (by omega)
 rcases bft (elems (T.h+2*p) (T.x+2*p) T.c==0) with hc0 | hc0
 ·have gc0:elems (T.h+2*p) (T.x+2*p) T.c=0:=bet hc0
  exact (VC.run (fn:=Tryz.f85) (W:=[.r [] [],.r [] [.n (nO oz0),.n (nO oz1),.n (nO oz0),.n (nO oz3)],.r [] [.callr (rO oz4)],.br true,.r [] []]) (r:=AV.tup [AV.agg [i64 0,i64 0,i64 0,AV.lit (Value.slice none 0 0)],i64 5]) Tryz.func85 (by kernel_rfl) (.c oz0<|.c oz1<|.c oz0<|.c oz3<|.c oz4<|.c hc0<|.n)).weak (WeakL.refl _) (Weak.tup (.cons (Weak.agg (.cons (Weak.int (show ((0):Int)=((padOf T p z).fst.h) from (by (unfold padOf;rw [if_pos (by simp_all)])))) (.cons (Weak.int (show ((0):Int)=((padOf T p z).fst.x) from (by (unfold padOf;rw [if_pos (by simp_all)])))) (.cons (Weak.int (show ((0):Int)=((padOf T p z).fst.c) from (by (unfold padOf;rw [if_pos (by simp_all)])))) (.cons (Weak.nilr (show []=(List.map (row1 IntKind.i8) (padOf T p z).fst.d) from (by (unfold padOf;rw [if_pos (by simp_all)];rfl)))) .nil))))) (.cons (Weak.int (show ((5):Int)=((padOf T p z).snd) from (by (unfold padOf;rw [if_pos (by simp_all)])))) .nil)))
 ·have gc0:¬elems (T.h+2*p) (T.x+2*p) T.c=0:=bef hc0
  have oz6 := @move_v (T) (Shp.mk (T.h+2*p) (T.x+2*p) T.c) (p) (p) (z) (by (exact m (by simp_all)))
  exact (VC.run (fn:=Tryz.f85) (W:=[.r [] [],.r [] [.n (nO oz0),.n (nO oz1),.n (nO oz0),.n (nO oz3)],.r [] [.callr (rO oz4)],.br false,.r [] [.callr (rO oz6)]]) (r:=AV.tup [AV.agg [i64 (Ten.mk (T.h+2*p) (T.x+2*p) T.c (gH (movF T p p z) T.c.toNat (T.x+2*p).toNat (T.h+2*p).toNat)).h,i64 (Ten.mk (T.h+2*p) (T.x+2*p) T.c (gH (movF T p p z) T.c.toNat (T.x+2*p).toNat (T.h+2*p).toNat)).x,i64 (Ten.mk (T.h+2*p) (T.x+2*p) T.c (gH (movF T p p z) T.c.toNat (T.x+2*p).toNat (T.h+2*p).toNat)).c,AV.sl 1 (List.map (row1 IntKind.i8) (Ten.mk (T.h+2*p) (T.x+2*p) T.c (gH (movF T p p z) T.c.toNat (T.x+2*p).toNat (T.h+2*p).toNat)).d)],i64 0]) Tryz.func85 (by kernel_rfl) (.c oz0<|.c oz1<|.c oz0<|.c oz3<|.c oz4<|.c hc0<|.c oz6<|.n)).weak (WeakL.refl _) (Weak.tup (.cons (Weak.agg (.cons (Weak.int (show (((Ten.mk (T.h+2*p) (T.x+2*p) T.c (gH (movF T p p z) T.c.toNat (T.x+2*p).toNat (T.h+2*p).toNat)).h):Int)=((padOf T p z).fst.h) from (by (unfold padOf;rw [if_neg (by simp_all)])))) (.cons (Weak.int (show (((Ten.mk (T.h+2*p) (T.x+2*p) T.c (gH (movF T p p z) T.c.toNat (T.x+2*p).toNat (T.h+2*p).toNat)).x):Int)=((padOf T p z).fst.x) from (by (unfold padOf;rw [if_neg (by simp_all)])))) (.cons (Weak.int (show (((Ten.mk (T.h+2*p) (T.x+2*p) T.c (gH (movF T p p z) T.c.toNat (T.x+2*p).toNat (T.h+2*p).toNat)).c):Int)=((padOf T p z).fst.c) from (by (unfold padOf;rw [if_neg (by simp_all)])))) (.cons (Weak.rows (rows_to (row1 IntKind.i8) (r:=List.map (row1 IntKind.i8) (Ten.mk (T.h+2*p) (T.x+2*p) T.c (gH (movF T p p z) T.c.toNat (T.x+2*p).toNat (T.h+2*p).toNat)).d) (l:=(Ten.mk (T.h+2*p) (T.x+2*p) T.c (gH (movF T p p z) T.c.toNat (T.x+2*p).toNat (T.h+2*p).toNat)).d) (m:=(padOf T p z).fst.d) rfl (show ((Ten.mk (T.h+2*p) (T.x+2*p) T.c (gH (movF T p p z) T.c.toNat (T.x+2*p).toNat (T.h+2*p).toNat)).d)=((padOf T p z).fst.d) from (by (unfold padOf;rw [if_neg (by simp_all)]))))) .nil))))) (.cons (Weak.int (show ((0):Int)=((padOf T p z).snd) from (by (unfold padOf;rw [if_neg (by simp_all)])))) .nil)))
def mayE (T:Ten) (p:Int):Int:=if tenRight T=true then (if 0≤p∧p≤4 then 0 else 2) else 5
theorem may_v (T:Ten) (p:Int) (ok:T.Ok):VC Tryz.prog 84 ([ten .i8 T,i64 p]) (i64 (mayE T p)):=by
 have oz0 := @refTRight_v (T) ok
 rcases bft (!tenRight T) with hc0 | hc0
 ·have gc0:tenRight T=false:=by first | exact hc0 | exact of_decide_eq_true hc0 | exact of_decide_eq_false hc0 | simpa [eqNums] using hc0 | (simp [eqNums] at hc0 ⊢;first | done | assumption | omega)
  exact (VC.run (fn:=Tryz.f84) (W:=[.r [] [],.r [] [.callr (rO oz0)],.br true,.r [] []]) (r:=i64 5) Tryz.func84 (by kernel_rfl) (.c oz0<|.c hc0<|.n)).weak (WeakL.refl _) (Weak.int (show ((5):Int)=(mayE T p) from (by (unfold mayE;rw [if_neg (by simp_all)]))))
 ·have gc0:tenRight T=true:=by first | exact hc0 | exact of_decide_eq_true hc0 | exact of_decide_eq_false hc0 | simpa [eqNums] using hc0 | (simp [eqNums] at hc0 ⊢;first | done | assumption | omega)
  rcases bft (decide (p<0) || decide (p > 4)) with hc1 | hc1
  ·have gc1:p<0∨p > 4:=by first | (simp only [Bool.or_eq_true,Bool.or_eq_false_iff,Bool.and_eq_true,Bool.and_eq_false_iff,Bool.not_eq_true',Bool.not_eq_false',decide_eq_true_eq,decide_eq_false_iff_not,beq_iff_eq,bne_iff_ne,ne_eq,beq_eq_false_iff_ne,bne_eq_false_iff_eq,eqNums,Bool.and_true] at hc1;first | exact hc1 | omega) | simpa using hc1 | (simp at hc1 ⊢;omega) | (apply cbc;intro hn;simp_all [eqNums];done) | (apply cbc;intro hn;simp [eqNums] at hc1 hn;omega)
   exact (VC.run (fn:=Tryz.f84) (W:=[.r [] [],.r [] [.callr (rO oz0)],.br false,.r [] [.op false,.op false,.sel 1],.br true,.r [] []]) (r:=i64 2) Tryz.func84 (by kernel_rfl) (.c oz0<|.c hc0<|.c hc1<|.n)).weak (WeakL.refl _) (Weak.int (show ((2):Int)=(mayE T p) from (by (unfold mayE;rw [if_pos (by simp_all),if_neg (by omega)]))))
  ·have gc1:¬p<0∧¬p > 4:=by first | (simp only [Bool.or_eq_true,Bool.or_eq_false_iff,Bool.and_eq_true,Bool.and_eq_false_iff,Bool.not_eq_true',Bool.not_eq_false',decide_eq_true_eq,decide_eq_false_iff_not,beq_iff_eq,bne_iff_ne,ne_eq,beq_eq_false_iff_ne,bne_eq_false_iff_eq,eqNums,Bool.and_true] at hc1;first | exact hc1 | omega) | simpa using hc1 | (simp at hc1 ⊢;omega) | (apply cbc;intro hn;simp_all [eqNums];done) | (apply cbc;intro hn;simp [eqNums] at hc1 hn;omega)
   exact (VC.run (fn:=Tryz.f84) (W:=[.r [] [],.r [] [.callr (rO oz0)],.br false,.r [] [.op false,.op false,.sel 1],.br false,.r [] []]) (r:=i64 0) Tryz.func84 (by kernel_rfl) (.c oz0<|.c hc0<|.c hc1<|.n)).weak (WeakL.refl _) (Weak.int (show ((0):Int)=(mayE T p) from (by (unfold mayE;rw [if_pos (by simp_all),if_pos (by omega)]))))
def winJ (T:Ten) (y x c:Int) (A:List Int):Nat→List Int
 | 0=>A
 | j+1=>winJ T y x c A j++(if inT T y (x+j) then [T.d.getD ((y*T.x+(x+j))*T.c+c).toNat 0] else [])
def winI (T:Ten) (k:Nat) (y x c:Int):Nat→List Int
 | 0=>[]
 | i+1=>winJ T (y+i) x c (winI T k y x c i) k
abbrev winL (T:Ten) (n:Nod) (h w c:Int):List Int:=winI T n.nk.toNat (h*n.ns-n.np) (w*n.ns-n.np) c n.nk.toNat
theorem winJ_len (T:Ten) (y x c:Int) (A:List Int):∀ j,(winJ T y x c A j).length≤A.length+j
 | 0=>Nat.le_refl _
 | j+1=>by have:=winJ_len T y x c A j;rw [winJ,List.length_append];split<;>simp<;>omega
theorem winI_len (T:Ten) (k:Nat) (y x c:Int):∀ i,(winI T k y x c i).length≤i*k
 | 0=>by simp [winI]
 | i+1=>by have h1:=winI_len T k y x c i;have h2:=winJ_len T (y+i) x c (winI T k y x c i) k;rw [winI,Nat.add_mul];omega
theorem winJ_yes {T:Ten} {y x c:Int} {A:List Int} {j:Nat} (h:inT T y (x+j)):winJ T y x c A (j+1)=winJ T y x c A j++[T.d.getD ((y*T.x+(x+j))*T.c+c).toNat 0]:=by rw [winJ,if_pos h]
theorem winJ_no {T:Ten} {y x c:Int} {A:List Int} {j:Nat} (h:¬ inT T y (x+j)):winJ T y x c A (j+1)=winJ T y x c A j:=by rw [winJ,if_neg h,List.append_nil]
theorem winJ_8 {T:Ten} (ok:T.Ok) (y x c:Int) {A:List Int} (hA:∀ v∈A,In8 v):∀ j,∀ v∈winJ T y x c A j,In8 v
 | 0=>hA
 | j+1=>by
  intro v hv
  rw [winJ,List.mem_append] at hv
  rcases hv with hv | hv
  ·exact winJ_8 ok y x c hA j v hv
  ·split at hv
   ·rw [List.mem_singleton] at hv;subst hv;exact gt8 ok.d _
   ·simp at hv
theorem winI_8 {T:Ten} (ok:T.Ok) (k:Nat) (y x c:Int):∀ i,∀ v∈winI T k y x c i,In8 v
 | 0=>by simp [winI]
 | i+1=>winJ_8 ok _ x c (winI_8 ok k y x c i) k
structure WnOk (T:Ten) (n:Nod) (h w c:Int):Prop where
 r:TRt T
 k1:1≤n.nk
 k5:n.nk≤5
 s1:1≤n.ns
 s4:n.ns≤4
 p0:0≤n.np
 p4:n.np≤4
 h0:0≤h
 h1:h≤100
 w0:0≤w
 w1:w≤100
 c0:0≤c
 c1:c<T.c
noncomputable def win_j_I (T:Ten) (n:Nod) (h w c:Int) (i:Nat) (A:List Int) (k:Nat):VS:=stt 75 [(2,i64 h),(3,i64 w),(4,i64 c),(5,.ptr 5 0 0),(6,.ptr 6 0 0),(11,.own 900),(12,i64 i),(13,i64 k)] [(5,.var [i64 T.h,i64 T.x,i64 T.c,ints .i8 T.d]),(6,.var (nodC n)),(900,.slc 38 1 ((winJ T (h*n.ns-n.np+i) (w*n.ns-n.np) c A k).map (row1 .i8)))]
noncomputable def win_j_Z (T:Ten) (n:Nod) (h w c:Int) (i:Nat) (A:List Int):VS:=win_j_I T n h w c i A (n.nk.toNat)
theorem win_j_s (T:Ten) (n:Nod) (h w c:Int) (i:Nat) (A:List Int) (ok:WnOk T n h w c) (hi:i<n.nk.toNat) (hA:A.length≤25) (k:Nat) (hk:k<n.nk.toNat):VT Tryz.prog (fnC Tryz.f144 [1,1,0,1,0,0,1,0,0,1,0,0]) (win_j_I T n h w c i A k) .normal (win_j_I T n h w c i A (k+1)):=by
 obtain ⟨r,k1,k5,s1,s4,p0,p4,h0,h1,w0,w1,c0,c1⟩:=id ok
 have g1:=mul_bd (A:=100) (B:=4) h0 h1 (show 0≤n.ns by omega) s4
 have g2:=mul_bd (A:=100) (B:=4) w0 w1 (show 0≤n.ns by omega) s4
 have g3:=winJ_len T (h*n.ns-n.np+i) (w*n.ns-n.np) c A k
 have g4:(List.map (row1 .i8) (winJ T (h*n.ns-n.np+i) (w*n.ns-n.np) c A k)).length≤60:=by rw [List.length_map];omega
 have g5:=fun (a:inT T (h*n.ns-n.np+i) (w*n.ns-n.np+k))=>r.place a c0 c1
 have g6:h*n.ns+i-n.np=h*n.ns-n.np+i:=by omega
 have g7:w*n.ns+k-n.np=w*n.ns-n.np+k:=by omega
 have g8:=r.el
 have g9:=r.dl
 have ga:=r.x16
 have gb:=r.h16
 have y1 := @winJ_yes T (h*n.ns-n.np+i) (w*n.ns-n.np) c A k
 have y2 := @winJ_no T (h*n.ns-n.np+i) (w*n.ns-n.np) c A k
 rw [←g6,←g7] at g5
 rw [←g7] at y1 y2
 have oz0:=(decide_eq_true (p:=((↑k:Int)<n.nk)) (by omega))
 have oz1:=(i6n (h*n.ns) (by omega))
 have oz2:=(i6n (h*n.ns+(↑i:Int)) (by omega))
 have oz3:=(i6n (h*n.ns+(↑i:Int)-n.np) (by omega))
 have oz4:=(i6n (w*n.ns) (by omega))
 have oz5:=(i6n (w*n.ns+(↑k:Int)) (by omega))
 have oz6:=(i6n (w*n.ns+(↑k:Int)-n.np) (by omega))
 rcases bft (decide (h*n.ns+(↑i:Int)-n.np≥0)&&decide (h*n.ns+(↑i:Int)-n.np<T.h)&&decide (w*n.ns+(↑k:Int)-n.np≥0)&&decide (w*n.ns+(↑k:Int)-n.np<T.x)) with hc0 | hc0
 ·have gc0:((h*n.ns+(↑i:Int)-n.np≥0∧h*n.ns+(↑i:Int)-n.np<T.h)∧w*n.ns+(↑k:Int)-n.np≥0)∧w*n.ns+(↑k:Int)-n.np<T.x:=by first | (simp only [Bool.or_eq_true,Bool.or_eq_false_iff,Bool.and_eq_true,Bool.and_eq_false_iff,Bool.not_eq_true',Bool.not_eq_false',decide_eq_true_eq,decide_eq_false_iff_not,beq_iff_eq,bne_iff_ne,ne_eq,beq_eq_false_iff_ne,bne_eq_false_iff_eq,eqNums,Bool.and_true] at hc0;first | exact hc0 | omega) | simpa using hc0 | (simp at hc0 ⊢;omega) | (apply cbc;intro hn;simp_all [eqNums];done) | (apply cbc;intro hn;simp [eqNums] at hc0 hn;omega)
  have oz8 := @get_v (T) (h*n.ns+(↑i:Int)-n.np) (w*n.ns+(↑k:Int)-n.np) (c) (by omega) (by omega) (by omega) (by omega) (by omega) c0 (by omega) (by omega)
  exact VT.run (W:=[.r [] [],.br true,.r [] [.n (nO oz1),.n (nO oz2),.n (nO oz3),.n (nO oz4),.n (nO oz5),.n (nO oz6)],.r [] [.op false,.op false,.op false,.op false,.op false,.sel 2,.op false,.op false,.sel 2,.op false,.op false,.op false,.op false,.op false,.sel 2],.br true,.r [] [.callr (rO oz8)],.r [] [.n ((↑k:Int)+1)]]) (G:=[.any (rg [(14,2),(22,27),(54,2),(58,2),(65,9)]),.drop [72],.ren 73 900,.weak 13 (i64 (↑(k+1):Int)),.blk 900 (Blk.slc 38 1 (List.map (row1 IntKind.i8) (winJ T (h*n.ns-n.np+(↑i:Int)) (w*n.ns-n.np) c A (k+1)))),.sort]) (by kernel_rfl) (.c oz0<|.c oz1<|.c oz2<|.c oz3<|.c oz4<|.c oz5<|.c oz6<|.c hc0<|.c oz8<|.c (show ((List.map (row1 IntKind.i8) (winJ T (h*n.ns-n.np+(↑i:Int)) (w*n.ns-n.np) c A k)).length+1)*1≤140737488355328 by omega)<|.c (show (List.map (row1 IntKind.i8) (winJ T (h*n.ns-n.np+(↑i:Int)) (w*n.ns-n.np) c A k)).length+1≤9223372036854775807 by omega)<|.c (i6n ((↑k:Int)+1) (by omega))<|.c (Weak.int (k:=.i64) (show (((↑k:Int)+1):Int)=((↑(k+1):Int)) from (by omega)))<|.c (show BlkW (Blk.slc 38 1 (List.map (row1 IntKind.i8) (winJ T (h*n.ns-n.np+(↑i:Int)) (w*n.ns-n.np) c A k)++[[i8 (T.d.getD (((h*n.ns+(↑i:Int)-n.np)*T.x+(w*n.ns+(↑k:Int)-n.np))*T.c+c).toNat 0)]])) (Blk.slc 38 1 (List.map (row1 IntKind.i8) (winJ T (h*n.ns-n.np+(↑i:Int)) (w*n.ns-n.np) c A (k+1)))) from (BlkW.rows (rows_to (row1 IntKind.i8) (r:=List.map (row1 IntKind.i8) (winJ T (h*n.ns-n.np+(↑i:Int)) (w*n.ns-n.np) c A k)++[[i8 (T.d.getD (((h*n.ns+(↑i:Int)-n.np)*T.x+(w*n.ns+(↑k:Int)-n.np))*T.c+c).toNat 0)]]) (l:=winJ T (h*n.ns-n.np+(↑i:Int)) (w*n.ns-n.np) c A k++[T.d.getD (((h*n.ns+(↑i:Int)-n.np)*T.x+(w*n.ns+(↑k:Int)-n.np))*T.c+c).toNat 0]) (m:=winJ T (h*n.ns-n.np+(↑i:Int)) (w*n.ns-n.np) c A (k+1)) (by first | (simp only [List.map_append,List.map_cons,List.map_nil,List.map_set,List.map_replicate,List.map_take,List.map_drop];done) | rfl | (simp only [List.map_append,List.map_cons,List.map_nil,List.map_set,List.map_replicate,List.map_take,List.map_drop];rfl)) (show (winJ T (h*n.ns-n.np+(↑i:Int)) (w*n.ns-n.np) c A k++[T.d.getD (((h*n.ns+(↑i:Int)-n.np)*T.x+(w*n.ns+(↑k:Int)-n.np))*T.c+c).toNat 0])=(winJ T (h*n.ns-n.np+(↑i:Int)) (w*n.ns-n.np) c A (k+1)) from (by (rw [y1 (by unfold inT;omega),g6]))))))<|.n)
 ·have gc0:((¬h*n.ns+(↑i:Int)-n.np≥0∨¬h*n.ns+(↑i:Int)-n.np<T.h)∨¬w*n.ns+(↑k:Int)-n.np≥0)∨¬w*n.ns+(↑k:Int)-n.np<T.x:=by first | (simp only [Bool.or_eq_true,Bool.or_eq_false_iff,Bool.and_eq_true,Bool.and_eq_false_iff,Bool.not_eq_true',Bool.not_eq_false',decide_eq_true_eq,decide_eq_false_iff_not,beq_iff_eq,bne_iff_ne,ne_eq,beq_eq_false_iff_ne,bne_eq_false_iff_eq,eqNums,Bool.and_true] at hc0;first | exact hc0 | omega) | simpa using hc0 | (simp at hc0 ⊢;omega) | (apply cbc;intro hn;simp_all [eqNums];done) | (apply cbc;intro hn;simp [eqNums] at hc0 hn;omega)
  exact VT.run (W:=[.r [] [],.br true,.r [] [.n (nO oz1),.n (nO oz2),.n (nO oz3),.n (nO oz4),.n (nO oz5),.n (nO oz6)],.r [] [.op false,.op false,.op false,.op false,.op false,.sel 2,.op false,.op false,.sel 2,.op false,.op false,.op false,.op false,.op false,.sel 2],.br false,.r [] [.n ((↑k:Int)+1)]]) (G:=[.any (rg [(14,2),(22,27),(54,2),(58,2),(65,1)]),.weak 13 (i64 (↑(k+1):Int)),.blk 900 (Blk.slc 38 1 (List.map (row1 IntKind.i8) (winJ T (h*n.ns-n.np+(↑i:Int)) (w*n.ns-n.np) c A (k+1)))),.sort]) (by kernel_rfl) (.c oz0<|.c oz1<|.c oz2<|.c oz3<|.c oz4<|.c oz5<|.c oz6<|.c hc0<|.c (i6n ((↑k:Int)+1) (by omega))<|.c (Weak.int (k:=.i64) (show (((↑k:Int)+1):Int)=((↑(k+1):Int)) from (by omega)))<|.c (show BlkW (Blk.slc 38 1 (List.map (row1 IntKind.i8) (winJ T (h*n.ns-n.np+(↑i:Int)) (w*n.ns-n.np) c A k))) (Blk.slc 38 1 (List.map (row1 IntKind.i8) (winJ T (h*n.ns-n.np+(↑i:Int)) (w*n.ns-n.np) c A (k+1)))) from (BlkW.rows (rows_to (row1 IntKind.i8) (r:=List.map (row1 IntKind.i8) (winJ T (h*n.ns-n.np+(↑i:Int)) (w*n.ns-n.np) c A k)) (l:=winJ T (h*n.ns-n.np+(↑i:Int)) (w*n.ns-n.np) c A k) (m:=winJ T (h*n.ns-n.np+(↑i:Int)) (w*n.ns-n.np) c A (k+1)) rfl (show (winJ T (h*n.ns-n.np+(↑i:Int)) (w*n.ns-n.np) c A k)=(winJ T (h*n.ns-n.np+(↑i:Int)) (w*n.ns-n.np) c A (k+1)) from (by (rw [y2 (by unfold inT;omega)]))))))<|.n)
theorem win_j_e (T:Ten) (n:Nod) (h w c:Int) (i:Nat) (A:List Int) (ok:WnOk T n h w c) (hi:i<n.nk.toNat) (hA:A.length≤25):VT Tryz.prog (fnC Tryz.f144 [1,1,0,1,0,0,1,0,0,1,0,0]) (win_j_I T n h w c i A (n.nk.toNat)) (.exit 2) (win_j_Z T n h w c i A):=by
 obtain ⟨r,k1,k5,s1,s4,p0,p4,h0,h1,w0,w1,c0,c1⟩:=id ok
 exact VT.run (W:=[.r [] [],.br false]) (G:=[.any (rg [(22,4)]),.sort]) (by kernel_rfl) (.c (decide_eq_false (p:=((↑n.nk.toNat:Int)<n.nk)) (by omega))<|.n)
theorem win_j (T:Ten) (n:Nod) (h w c:Int) (i:Nat) (A:List Int) (ok:WnOk T n h w c) (hi:i<n.nk.toNat) (hA:A.length≤25):VT Tryz.prog (fnC Tryz.f144 [1,1,0,1,0,0,1,0,0,1,0]) (win_j_I T n h w c i A 0) (.exit 2) (win_j_Z T n h w c i A) :=
 VT.loop (fun k=>win_j_I T n h w c i A k) (n.nk.toNat) (fun k hk=>win_j_s T n h w c i A ok hi hA k hk) (win_j_e T n h w c i A ok hi hA) (by intro h;cases h)
noncomputable def win_i_I (T:Ten) (n:Nod) (h w c:Int) (k:Nat):VS:=stt 75 [(2,i64 h),(3,i64 w),(4,i64 c),(5,.ptr 5 0 0),(6,.ptr 6 0 0),(11,.own 900),(12,i64 k)] [(5,.var [i64 T.h,i64 T.x,i64 T.c,ints .i8 T.d]),(6,.var (nodC n)),(900,.slc 38 1 ((winI T n.nk.toNat (h*n.ns-n.np) (w*n.ns-n.np) c k).map (row1 .i8)))]
noncomputable def win_i_Z (T:Ten) (n:Nod) (h w c:Int):VS:=win_i_I T n h w c (n.nk.toNat)
theorem win_i_s (T:Ten) (n:Nod) (h w c:Int) (ok:WnOk T n h w c) (k:Nat) (hk:k<n.nk.toNat):VT Tryz.prog (fnC Tryz.f144 [1,1,0,1,0,0]) (win_i_I T n h w c k) .normal (win_i_I T n h w c (k+1)):=by
 obtain ⟨r,k1,k5,s1,s4,p0,p4,h0,h1,w0,w1,c0,c1⟩:=id ok
 have g1:=winI_len T n.nk.toNat (h*n.ns-n.np) (w*n.ns-n.np) c k
 have g2:k*n.nk.toNat≤5*5:=Nat.mul_le_mul (by omega) (by omega)
 have oz3 := @win_j (T) (n) (h) (w) (c) (k) (winI T n.nk.toNat (h*n.ns-n.np) (w*n.ns-n.np) c k) ok hk (by omega)
 exact VT.run (W:=[.r [] [],.br true,.r [] [],.code [.any (rg [(16,4)]),.weak 13 (i64 (↑0:Int)),.blk 900 (Blk.slc 38 1 (List.map (row1 IntKind.i8) (winJ T (h*n.ns-n.np+(↑k:Int)) (w*n.ns-n.np) c (winI T n.nk.toNat (h*n.ns-n.np) (w*n.ns-n.np) c k) 0))),.sort] (Exit.exit 2) (zO oz3),.r [] [.n ((↑k:Int)+1)]]) (G:=[.any [13,20,21],.weak 12 (i64 (↑(k+1):Int)),.blk 900 (Blk.slc 38 1 (List.map (row1 IntKind.i8) (winI T n.nk.toNat (h*n.ns-n.np) (w*n.ns-n.np) c (k+1)))),.sort]) (by kernel_rfl) (.c (decide_eq_true (p:=((↑k:Int)<n.nk)) (by omega))<|.c (Weak.int (k:=.i64) (show ((0):Int)=((↑0:Int)) from (by omega)))<|.c (show BlkW (Blk.slc 38 1 (List.map (row1 IntKind.i8) (winI T n.nk.toNat (h*n.ns-n.np) (w*n.ns-n.np) c k))) (Blk.slc 38 1 (List.map (row1 IntKind.i8) (winJ T (h*n.ns-n.np+(↑k:Int)) (w*n.ns-n.np) c (winI T n.nk.toNat (h*n.ns-n.np) (w*n.ns-n.np) c k) 0))) from (BlkW.rows (rows_to (row1 IntKind.i8) (r:=List.map (row1 IntKind.i8) (winI T n.nk.toNat (h*n.ns-n.np) (w*n.ns-n.np) c k)) (l:=winI T n.nk.toNat (h*n.ns-n.np) (w*n.ns-n.np) c k) (m:=winJ T (h*n.ns-n.np+(↑k:Int)) (w*n.ns-n.np) c (winI T n.nk.toNat (h*n.ns-n.np) (w*n.ns-n.np) c k) 0) rfl (show (winI T n.nk.toNat (h*n.ns-n.np) (w*n.ns-n.np) c k)=(winJ T (h*n.ns-n.np+(↑k:Int)) (w*n.ns-n.np) c (winI T n.nk.toNat (h*n.ns-n.np) (w*n.ns-n.np) c k) 0) from (by rfl)))))<|.c oz3<|.c (i6n ((↑k:Int)+1) (by omega))<|.c (Weak.int (k:=.i64) (show (((↑k:Int)+1):Int)=((↑(k+1):Int)) from (by omega)))<|.c (show BlkW (Blk.slc 38 1 (List.map (row1 IntKind.i8) (winJ T (h*n.ns-n.np+(↑k:Int)) (w*n.ns-n.np) c (winI T n.nk.toNat (h*n.ns-n.np) (w*n.ns-n.np) c k) n.nk.toNat))) (Blk.slc 38 1 (List.map (row1 IntKind.i8) (winI T n.nk.toNat (h*n.ns-n.np) (w*n.ns-n.np) c (k+1)))) from (BlkW.rows (rows_to (row1 IntKind.i8) (r:=List.map (row1 IntKind.i8) (winJ T (h*n.ns-n.np+(↑k:Int)) (w*n.ns-n.np) c (winI T n.nk.toNat (h*n.ns-n.np) (w*n.ns-n.np) c k) n.nk.toNat)) (l:=winJ T (h*n.ns-n.np+(↑k:Int)) (w*n.ns-n.np) c (winI T n.nk.toNat (h*n.ns-n.np) (w*n.ns-n.np) c k) n.nk.toNat) (m:=winI T n.nk.toNat (h*n.ns-n.np) (w*n.ns-n.np) c (k+1)) rfl (show (winJ T (h*n.ns-n.np+(↑k:Int)) (w*n.ns-n.np) c (winI T n.nk.toNat (h*n.ns-n.np) (w*n.ns-n.np) c k) n.nk.toNat)=(winI T n.nk.toNat (h*n.ns-n.np) (w*n.ns-n.np) c (k+1)) from (by (rw [winI]))))))<|.n)
theorem win_i_e (T:Ten) (n:Nod) (h w c:Int) (ok:WnOk T n h w c):VT Tryz.prog (fnC Tryz.f144 [1,1,0,1,0,0]) (win_i_I T n h w c (n.nk.toNat)) (.exit 0) (win_i_Z T n h w c):=by
 obtain ⟨r,k1,k5,s1,s4,p0,p4,h0,h1,w0,w1,c0,c1⟩:=id ok
 exact VT.run (W:=[.r [] [],.br false]) (G:=[.any (rg [(16,4)]),.sort]) (by kernel_rfl) (.c (decide_eq_false (p:=((↑n.nk.toNat:Int)<n.nk)) (by omega))<|.n)
theorem win_i (T:Ten) (n:Nod) (h w c:Int) (ok:WnOk T n h w c):VT Tryz.prog (fnC Tryz.f144 [1,1,0,1,0]) (win_i_I T n h w c 0) (.exit 0) (win_i_Z T n h w c) :=
 VT.loop (fun k=>win_i_I T n h w c k) (n.nk.toNat) (fun k hk=>win_i_s T n h w c ok k hk) (win_i_e T n h w c ok) (by intro h;cases h)
theorem window_v (T:Ten) (n:Nod) (h w c:Int) (ok:WnOk T n h w c):VC Tryz.prog 144 ([ten .i8 T,nod n,i64 h,i64 w,i64 c]) (ints .i8 (winL T n h w c)):=by
 have oz1 := @win_i (T) (n) (h) (w) (c) ok
 exact VC.run (fn:=Tryz.f144) (W:=[.r [] [],.r [] [],.r [] [],.code [.any [0,1,10],.weak 12 (i64 (↑0:Int)),.nils 11 900 38 1,.sort] (Exit.exit 0) (zO oz1),.r [] []]) Tryz.func144 (by kernel_rfl) (.c (Weak.int (k:=.i64) (show ((0):Int)=((↑0:Int)) from (by omega)))<|.c oz1<|.n)
def nearP (a m:Int):Int:=if m-a % m≤a % m then a / m+1 else a / m
def nearE (s m:Int):Int:=if m<1 then 0 else if s<0 then -(nearP (-s) m) else nearP s m
theorem nearP_bd {a m:Int} (h0:0≤a) (h1:a≤1000000) (hm:1≤m):0≤a / m∧a / m≤1000000∧0≤a % m∧a % m<m:=by
 have q1:=Int.ediv_nonneg h0 (show 0≤m by omega)
 have q2:=Int.ediv_le_self m h0
 have q3:=Int.emod_nonneg a (show m≠0 by omega)
 have q4:=Int.emod_lt_of_pos a (show 0<m by omega)
 omega
theorem near_v (s m:Int) (h0 : -1000000≤s) (h1:s≤1000000) (m1:m≤1000000):VC Tryz.prog 194 ([i64 s,i64 m]) (i64 (nearE s m)):=by
 have q1:=fun (a:0≤s) (b:1≤m)=>nearP_bd a h1 b
 have q2:=fun (a:0 ≤ -s) (b:1≤m)=>nearP_bd a (by omega) b
 rw [show -s=0-s by omega] at q2
 rcases bft (decide (m<1)) with hc0 | hc0
 ·have gc0:=of_decide_eq_true hc0
  exact (VC.run (fn:=Tryz.f194) (W:=[.r [] [],.r [] [],.br true,.r [] []]) (r:=i64 0) Tryz.func194 (by kernel_rfl) (.c hc0<|.n)).weak (WeakL.refl _) (Weak.int (show ((0):Int)=(nearE s m) from (by (unfold nearE;rw [if_pos (by omega)]))))
 ·have gc0:=of_decide_eq_false hc0
  rcases bft (decide (s<0)) with hc1 | hc1
  ·have gc1:=of_decide_eq_true hc1
   have oz2:=(i6n (0-s) (by omega))
   have oz3:=(show m≠0 by omega)
   have oz4:=(show IntKind.i64.wrap ((0-s).tdiv m)=(0-s) / m from (Eq.trans (congrArg _ (Int.tdiv_eq_ediv_of_nonneg (by omega))) (by exact i6n _ (by omega))))
   have oz6:=(show (0-s).tmod m=(0-s) % m from (Int.tmod_eq_emod_of_nonneg (by omega)))
   have oz9:=(i6n (m-(0-s) % m) (by omega))
   rcases bft (decide ((0-s) % m≥m-(0-s) % m)) with hc2 | hc2
   ·have gc2:=of_decide_eq_true hc2
    exact (VC.run (fn:=Tryz.f194) (W:=[.r [] [],.r [] [],.br false,.r [] [],.r [] [],.br true,.r [] [.n (nO oz2)],.r [] [.n ((0-s) / m)],.r [] [.n ((0-s) % m),.n ((0-s) % m),.n (nO oz9)],.br true,.r [] [.n ((0-s) / m+1)],.r [] [],.br true,.r [] [.n (0-((0-s) / m+1))]]) (r:=i64 (0-((0-s) / m+1))) Tryz.func194 (by kernel_rfl) (.c hc0<|.c hc1<|.c oz2<|.c oz3<|.c oz4<|.c oz3<|.c oz6<|.c oz3<|.c oz6<|.c oz9<|.c hc2<|.c (i6n ((0-s) / m+1) (by omega))<|.c hc1<|.c (i6n (0-((0-s) / m+1)) (by omega))<|.n)).weak (WeakL.refl _) (Weak.int (show ((0-((0-s) / m+1)):Int)=(nearE s m) from (by (unfold nearE nearP;rw [if_neg (by omega),if_pos (by omega),show -s=0-s by omega,if_pos (by omega)];omega))))
   ·have gc2:=of_decide_eq_false hc2
    exact (VC.run (fn:=Tryz.f194) (W:=[.r [] [],.r [] [],.br false,.r [] [],.r [] [],.br true,.r [] [.n (nO oz2)],.r [] [.n ((0-s) / m)],.r [] [.n ((0-s) % m),.n ((0-s) % m),.n (nO oz9)],.br false,.r [] [],.br true,.r [] [.n (0-(0-s) / m)]]) (r:=i64 (0-(0-s) / m)) Tryz.func194 (by kernel_rfl) (.c hc0<|.c hc1<|.c oz2<|.c oz3<|.c oz4<|.c oz3<|.c oz6<|.c oz3<|.c oz6<|.c oz9<|.c hc2<|.c hc1<|.c (i6n (0-(0-s) / m) (by omega))<|.n)).weak (WeakL.refl _) (Weak.int (show ((0-(0-s) / m):Int)=(nearE s m) from (by (unfold nearE nearP;rw [if_neg (by omega),if_pos (by omega),show -s=0-s by omega,if_neg (by omega)];omega))))
  ·have gc1:=of_decide_eq_false hc1
   have oz2:=(show m≠0 by omega)
   have oz3:=(show IntKind.i64.wrap (s.tdiv m)=s / m from (Eq.trans (congrArg _ (Int.tdiv_eq_ediv_of_nonneg (by omega))) (by exact i6n _ (by omega))))
   have oz5:=(show s.tmod m=s % m from (Int.tmod_eq_emod_of_nonneg (by omega)))
   have oz8:=(i6n (m-s % m) (by omega))
   rcases bft (decide (s % m≥m-s % m)) with hc2 | hc2
   ·have gc2:=of_decide_eq_true hc2
    exact (VC.run (fn:=Tryz.f194) (W:=[.r [] [],.r [] [],.br false,.r [] [],.r [] [],.br false,.r [] [.n (s / m)],.r [] [.n (s % m),.n (s % m),.n (nO oz8)],.br true,.r [] [.n (s / m+1)],.r [] [],.br false,.r [] []]) (r:=i64 (s / m+1)) Tryz.func194 (by kernel_rfl) (.c hc0<|.c hc1<|.c oz2<|.c oz3<|.c oz2<|.c oz5<|.c oz2<|.c oz5<|.c oz8<|.c hc2<|.c (i6n (s / m+1) (by omega))<|.c hc1<|.n)).weak (WeakL.refl _) (Weak.int (show ((s / m+1):Int)=(nearE s m) from (by (unfold nearE nearP;rw [if_neg (by omega),if_neg (by omega),if_pos (by omega)]))))
   ·have gc2:=of_decide_eq_false hc2
    exact (VC.run (fn:=Tryz.f194) (W:=[.r [] [],.r [] [],.br false,.r [] [],.r [] [],.br false,.r [] [.n (s / m)],.r [] [.n (s % m),.n (s % m),.n (nO oz8)],.br false,.r [] [],.br false,.r [] []]) (r:=i64 (s / m)) Tryz.func194 (by kernel_rfl) (.c hc0<|.c hc1<|.c oz2<|.c oz3<|.c oz2<|.c oz5<|.c oz2<|.c oz5<|.c oz8<|.c hc2<|.c hc1<|.n)).weak (WeakL.refl _) (Weak.int (show ((s / m):Int)=(nearE s m) from (by (unfold nearE nearP;rw [if_neg (by omega),if_neg (by omega),if_neg (by omega)]))))
def sumL (l:List Int) (k:Nat):Int:=sumN (fun i=>l.getD i 0) k
def meanE (l:List Int):Int:=IntKind.i8.wrap (nearE (sumL l l.length) l.length)
theorem sumL_bd {l:List Int} (h:∀ v∈l,In8 v) (k:Nat) : -(k*128)≤sumL l k∧sumL l k≤k*128:=sumN_bd (B:=128) k fun i _=>by have:=gt8 h i;omega
noncomputable def mean_l_I (l:List Int) (k:Nat):VS:=stt 23 [(0,ints .i8 l),(3,i64 (sumL l k)),(4,i64 k)] []
noncomputable def mean_l_Z (l:List Int):VS:=mean_l_I l (l.length)
theorem mean_l_s (l:List Int) (hl:l.length≤1000) (h:∀ v∈l,In8 v) (k:Nat) (hk:k<l.length):VT Tryz.prog (fnC Tryz.f146 [1,1,0,1,0,0]) (mean_l_I l k) .normal (mean_l_I l (k+1)):=by
 have q1:=sumL_bd h k
 have q2:=gt8 h k
 have q3:sumL l (k+1)=sumL l k+l.getD k 0:=rfl
 exact VT.run (W:=[.r [] [],.br true,.r [] [.row [i8 (l.getD k 0)],.n (l.getD k 0),.n (sumL l k+l.getD k 0)],.r [] [.n ((↑k:Int)+1)]]) (G:=[.any (rg [(5,13)]),.weak 3 (i64 (sumL l (k+1))),.weak 4 (i64 (↑(k+1):Int)),.sort]) (by kernel_rfl) (.c (show decide ((↑k:Int)<(↑(List.map (row1 IntKind.i8) l).length:Int))=true by (simp;omega))<|.c (show 0≤(↑k:Int) by omega)<|.c (map_at (row1 IntKind.i8) (0) (l:=l) (i:=k) hk)<|.c (i6n (l.getD k 0) (by omega))<|.c (i6n (sumL l k+l.getD k 0) (by omega))<|.c (i6n ((↑k:Int)+1) (by omega))<|.c (Weak.int (k:=.i64) (show ((sumL l k+l.getD k 0):Int)=(sumL l (k+1)) from (by omega)))<|.c (Weak.int (k:=.i64) (show (((↑k:Int)+1):Int)=((↑(k+1):Int)) from (by omega)))<|.n)
theorem mean_l_e (l:List Int) (hl:l.length≤1000) (h:∀ v∈l,In8 v):VT Tryz.prog (fnC Tryz.f146 [1,1,0,1,0,0]) (mean_l_I l (l.length)) (.exit 0) (mean_l_Z l):=by
 exact VT.run (W:=[.r [] [],.br false]) (G:=[.any [5,6,7,8],.sort]) (by kernel_rfl) (.c (show decide ((↑l.length:Int)<(↑(List.map (row1 IntKind.i8) l).length:Int))=false by (simp;done))<|.n)
theorem mean_l (l:List Int) (hl:l.length≤1000) (h:∀ v∈l,In8 v):VT Tryz.prog (fnC Tryz.f146 [1,1,0,1,0]) (mean_l_I l 0) (.exit 0) (mean_l_Z l) :=
 VT.loop (fun k=>mean_l_I l k) (l.length) (fun k hk=>mean_l_s l hl h k hk) (mean_l_e l hl h) (by intro h;cases h)
theorem mean_v (l:List Int) (hl:l.length≤1000) (h:∀ v∈l,In8 v):VC Tryz.prog 146 ([ints .i8 l]) (i8 (meanE l)):=by
 have q1:=sumL_bd h l.length
 have oz2 := @mean_l (l) hl h
 have oz3 := @near_v (sumL l l.length) ((↑(List.map (row1 IntKind.i8) l).length:Int)) (by omega) (by omega) (by (simp;omega))
 exact (VC.run (fn:=Tryz.f146) (W:=[.r [] [],.r [] [],.r [] [],.code [.any [2],.weak 3 (i64 (sumL l 0)),.weak 4 (i64 (↑0:Int)),.sort] (Exit.exit 0) (zO oz2),.r [] [.callr (rO oz3),.w]]) (r:=i8 (IntKind.i8.wrap (nearE (sumL l l.length) (↑(List.map (row1 IntKind.i8) l).length:Int)))) Tryz.func146 (by kernel_rfl) (.c (Weak.int (k:=.i64) (show ((0):Int)=(sumL l 0) from (by rfl)))<|.c (Weak.int (k:=.i64) (show ((0):Int)=((↑0:Int)) from (by omega)))<|.c oz2<|.c oz3<|.n)).weak (WeakL.refl _) (Weak.int (show ((IntKind.i8.wrap (nearE (sumL l l.length) (↑(List.map (row1 IntKind.i8) l).length:Int))):Int)=(meanE l) from (by (unfold meanE;rw [List.length_map]))))
def poolF (T:Ten) (n:Nod) (s:Shp) (m:Bool) (i:Nat):Int :=
 if m=true then reachHi (winL T n ((i:Int) / s.c / s.x) ((i:Int) / s.c % s.x) ((i:Int) % s.c)) (winL T n ((i:Int) / s.c / s.x) ((i:Int) / s.c % s.x) ((i:Int) % s.c)).length
 else meanE (winL T n ((i:Int) / s.c / s.x) ((i:Int) / s.c % s.x) ((i:Int) % s.c))
abbrev plS (T:Ten) (n:Nod):Shp:=(slideE ⟨T.h,T.x,T.c⟩ n.nk n.ns n.np T.c).1
def poolL (T:Ten) (n:Nod) (m:Bool) (k:Nat):List Int:=(List.range k).map (poolF T n (plS T n) m)
theorem poolL_succ (T:Ten) (n:Nod) (m:Bool) (k:Nat):poolL T n m (k+1)=poolL T n m k++[poolF T n (plS T n) m k]:=by simp [poolL,List.range_succ]
theorem poolL_len (T:Ten) (n:Nod) (m:Bool) (k:Nat):(poolL T n m k).length=k:=by simp [poolL]
structure PlOk (T:Ten) (n:Nod):Prop where
 ok:T.Ok
 okn:n.Ok
 r:tenRight T=true
 e:(slideE ⟨T.h,T.x,T.c⟩ n.nk n.ns n.np T.c).2=0
structure PlN (T:Ten) (n:Nod):Prop where
 r:TRt T
 k1:1≤n.nk
 k5:n.nk≤5
 s1:1≤n.ns
 s4:n.ns≤4
 p0:0≤n.np
 p4:n.np≤4
 pk:n.np<n.nk
 hk:n.nk≤T.h+2*n.np
 xk:n.nk≤T.x+2*n.np
 sh:(plS T n).h=(T.h+2*n.np-n.nk) / n.ns+1
 sx:(plS T n).x=(T.x+2*n.np-n.nk) / n.ns+1
 sc:(plS T n).c=T.c
 h1:1≤(plS T n).h
 h2:(plS T n).h≤16
 x1:1≤(plS T n).x
 x2:(plS T n).x≤16
 en:elems (plS T n).h (plS T n).x (plS T n).c=(plS T n).h*(plS T n).x*(plS T n).c
 el:(plS T n).h*(plS T n).x*(plS T n).c≤1024
theorem PlOk.n {T:Ten} {n:Nod} (h:PlOk T n):PlN T n:=by
 obtain ⟨a1,a2,a3,a4,a5,a6,a7,a8,a9,a10,a11,a12⟩:=slideE_ok h.e
 have c:=elems_ok a12
 have r:=tenRight.rt h.r
 dsimp only at *
 have e1:(plS T n).h=(T.h+2*n.np-n.nk) / n.ns+1:=by unfold plS;rw [a11]
 have e2:(plS T n).x=(T.x+2*n.np-n.nk) / n.ns+1:=by unfold plS;rw [a11]
 have e3:(plS T n).c=T.c:=by unfold plS;rw [a11]
 rw [←e1,←e2,←e3] at c
 exact ⟨r,a2,a3,a4,a5,a6,a7,a8,by omega,by omega,e1,e2,e3,by omega,by omega,by omega,by omega,by omega,by omega⟩
theorem at_num {i h x c:Int} (i0:0≤i) (i1:i<h*x*c) (hx:1≤x) (hc:1≤c):0≤i / c / x∧i / c / x<h∧0≤i / c % x∧i / c % x<x∧0≤i % c∧i % c<c∧0≤i / c∧i / c≤i:=by
 have q1:=Int.ediv_nonneg i0 (show 0≤c by omega)
 have q2:=Int.ediv_nonneg q1 (show 0≤x by omega)
 have q3:i / c<h*x:=Int.ediv_lt_of_lt_mul (by omega) i1
 have q4:i / c / x<h:=Int.ediv_lt_of_lt_mul (by omega) q3
 exact ⟨q2,q4,Int.emod_nonneg _ (by omega),Int.emod_lt_of_pos _ (by omega),Int.emod_nonneg _ (by omega),Int.emod_lt_of_pos _ (by omega),q1,Int.ediv_le_self c i0⟩
noncomputable def pool_l_I (T:Ten) (n:Nod) (m:Bool) (k:Nat):VS:=stt 87 [(2,bv m),(3,.ptr 3 0 0),(4,.ptr 4 0 0),(6,.ptr 6 0 0),(8,.ptr 8 0 0),(10,.ptr 10 0 0),(11,i64 k)] [(3,.var [i64 T.h,i64 T.x,i64 T.c,ints .i8 T.d]),(4,.var (nodC n)),(6,.var [i64 0,i64 0,i64 0,nilv]),(8,.var [i64 (plS T n).h,i64 (plS T n).x,i64 (plS T n).c]),(10,.var [i64 (plS T n).h,i64 (plS T n).x,i64 (plS T n).c,.own 900]),(900,.slc 38 1 ((poolL T n m k).map (row1 .i8)))]
noncomputable def pool_l_Z (T:Ten) (n:Nod) (m:Bool):VS:=pool_l_I T n m ((elems (plS T n).h (plS T n).x (plS T n).c).toNat)
theorem pool_l_s (T:Ten) (n:Nod) (m:Bool) (ok:PlOk T n) (k:Nat) (hk:k<(elems (plS T n).h (plS T n).x (plS T n).c).toNat):VT Tryz.prog (fnC Tryz.f81 [1,1,1,1,1,0,1,0,0]) (pool_l_I T n m k) .normal (pool_l_I T n m (k+1)):=by
 obtain ⟨r,k1,k5,s1,s4,p0,p4,pk,hk',xk,sh,sx,sc,h1,h2,x1,x2,en,el⟩:=ok.n
 have g1:=r.c1
 have gz:=r.c2
 have g2:=at_num (i:=(k:Int)) (h:=(plS T n).h) (x:=(plS T n).x) (c:=(plS T n).c) (by omega) (by omega) x1 (by omega)
 have g3:WnOk T n ((k:Int) / (plS T n).c / (plS T n).x) ((k:Int) / (plS T n).c % (plS T n).x) ((k:Int) % (plS T n).c):=⟨r,k1,k5,s1,s4,p0,p4,by omega,by omega,by omega,by omega,by omega,by omega⟩
 have g4:=winI_8 ok.ok n.nk.toNat ((k:Int) / (plS T n).c / (plS T n).x*n.ns-n.np) ((k:Int) / (plS T n).c % (plS T n).x*n.ns-n.np) ((k:Int) % (plS T n).c) n.nk.toNat
 have g5:=winI_len T n.nk.toNat ((k:Int) / (plS T n).c / (plS T n).x*n.ns-n.np) ((k:Int) / (plS T n).c % (plS T n).x*n.ns-n.np) ((k:Int) % (plS T n).c) n.nk.toNat
 have g6:n.nk.toNat*n.nk.toNat≤5*5:=Nat.mul_le_mul (by omega) (by omega)
 have g7:=poolL_len T n m k
 have g8:(winL T n ((k:Int) / (plS T n).c / (plS T n).x) ((k:Int) / (plS T n).c % (plS T n).x) ((k:Int) % (plS T n).c)).length≤25:=Nat.le_trans g5 g6
 have oz0 := @refElems_v ((plS T n).h) ((plS T n).x) ((plS T n).c) (by omega) (by omega) (by omega)
 have oz1:=(decide_eq_true (p:=((↑k:Int)<elems (plS T n).h (plS T n).x (plS T n).c)) (by omega))
 have oz2:=(show (plS T n).c≠0 by omega)
 have oz3:=(show IntKind.i64.wrap ((↑k:Int).tdiv (plS T n).c)=(↑k:Int) / (plS T n).c from (Eq.trans (congrArg _ (Int.tdiv_eq_ediv_of_nonneg (by omega))) (by exact i6n _ (by omega))))
 have oz4:=(show (plS T n).x≠0 by omega)
 have oz5:=(show IntKind.i64.wrap (((↑k:Int) / (plS T n).c).tdiv (plS T n).x)=(↑k:Int) / (plS T n).c / (plS T n).x from (Eq.trans (congrArg _ (Int.tdiv_eq_ediv_of_nonneg (by omega))) (by exact i6n _ (by omega))))
 have oz9:=(show ((↑k:Int) / (plS T n).c).tmod (plS T n).x=(↑k:Int) / (plS T n).c % (plS T n).x from (Int.tmod_eq_emod_of_nonneg (by omega)))
 have oz11:=(show (↑k:Int).tmod (plS T n).c=(↑k:Int) % (plS T n).c from (Int.tmod_eq_emod_of_nonneg (by omega)))
 have oz12 := @window_v (T) (n) ((↑k:Int) / (plS T n).c / (plS T n).x) ((↑k:Int) / (plS T n).c % (plS T n).x) ((↑k:Int) % (plS T n).c) g3
 rcases bft (m) with hc0 | hc0
 ·have gc0:m=true:=by first | exact hc0 | exact of_decide_eq_true hc0 | exact of_decide_eq_false hc0 | simpa [eqNums] using hc0 | (simp [eqNums] at hc0 ⊢;first | done | assumption | omega)
  have oz14 := @reach_v (winL T n ((↑k:Int) / (plS T n).c / (plS T n).x) ((↑k:Int) / (plS T n).c % (plS T n).x) ((↑k:Int) % (plS T n).c)) (by omega)
  exact VT.run (W:=[.r [] [.callr (rO oz0)],.br true,.r [] [.n ((↑k:Int) / (plS T n).c),.n ((↑k:Int) / (plS T n).c / (plS T n).x),.n ((↑k:Int) / (plS T n).c),.n ((↑k:Int) / (plS T n).c % (plS T n).x),.n ((↑k:Int) % (plS T n).c),.callr (rO oz12)],.r [] [],.br true,.r [] [.callr (rO oz14)],.r [] [],.r [] [.n ((↑k:Int)+1)]]) (G:=[.any (rg [(12,3),(40,39)]),.drop [76],.ren 77 900,.weak 11 (i64 (↑(k+1):Int)),.blk 900 (Blk.slc 38 1 (List.map (row1 IntKind.i8) (poolL T n m (k+1)))),.sort]) (by kernel_rfl) (.c oz0<|.c oz1<|.c oz2<|.c oz3<|.c oz4<|.c oz5<|.c oz2<|.c oz3<|.c oz4<|.c oz9<|.c oz2<|.c oz11<|.c oz12<|.c hc0<|.c oz14<|.c (show ((List.map (row1 IntKind.i8) (poolL T n m k)).length+1)*1≤140737488355328 by (simp;omega))<|.c (show (List.map (row1 IntKind.i8) (poolL T n m k)).length+1≤9223372036854775807 by (simp;omega))<|.c (i6n ((↑k:Int)+1) (by omega))<|.c (Weak.int (k:=.i64) (show (((↑k:Int)+1):Int)=((↑(k+1):Int)) from (by omega)))<|.c (show BlkW (Blk.slc 38 1 (List.map (row1 IntKind.i8) (poolL T n m k)++[[i8 (reachHi (winL T n ((↑k:Int) / (plS T n).c / (plS T n).x) ((↑k:Int) / (plS T n).c % (plS T n).x) ((↑k:Int) % (plS T n).c)) (winL T n ((↑k:Int) / (plS T n).c / (plS T n).x) ((↑k:Int) / (plS T n).c % (plS T n).x) ((↑k:Int) % (plS T n).c)).length)]])) (Blk.slc 38 1 (List.map (row1 IntKind.i8) (poolL T n m (k+1)))) from (BlkW.rows (rows_to (row1 IntKind.i8) (r:=List.map (row1 IntKind.i8) (poolL T n m k)++[[i8 (reachHi (winL T n ((↑k:Int) / (plS T n).c / (plS T n).x) ((↑k:Int) / (plS T n).c % (plS T n).x) ((↑k:Int) % (plS T n).c)) (winL T n ((↑k:Int) / (plS T n).c / (plS T n).x) ((↑k:Int) / (plS T n).c % (plS T n).x) ((↑k:Int) % (plS T n).c)).length)]]) (l:=poolL T n m k++[reachHi (winL T n ((↑k:Int) / (plS T n).c / (plS T n).x) ((↑k:Int) / (plS T n).c % (plS T n).x) ((↑k:Int) % (plS T n).c)) (winL T n ((↑k:Int) / (plS T n).c / (plS T n).x) ((↑k:Int) / (plS T n).c % (plS T n).x) ((↑k:Int) % (plS T n).c)).length]) (m:=poolL T n m (k+1)) (by first | (simp only [List.map_append,List.map_cons,List.map_nil,List.map_set,List.map_replicate,List.map_take,List.map_drop];done) | rfl | (simp only [List.map_append,List.map_cons,List.map_nil,List.map_set,List.map_replicate,List.map_take,List.map_drop];rfl)) (show (poolL T n m k++[reachHi (winL T n ((↑k:Int) / (plS T n).c / (plS T n).x) ((↑k:Int) / (plS T n).c % (plS T n).x) ((↑k:Int) % (plS T n).c)) (winL T n ((↑k:Int) / (plS T n).c / (plS T n).x) ((↑k:Int) / (plS T n).c % (plS T n).x) ((↑k:Int) % (plS T n).c)).length])=(poolL T n m (k+1)) from (by (rw [poolL_succ,poolF,if_pos (by assumption)]))))))<|.n)
 ·have gc0:m=false:=by first | exact hc0 | exact of_decide_eq_true hc0 | exact of_decide_eq_false hc0 | simpa [eqNums] using hc0 | (simp [eqNums] at hc0 ⊢;first | done | assumption | omega)
  have oz14 := @mean_v (winL T n ((↑k:Int) / (plS T n).c / (plS T n).x) ((↑k:Int) / (plS T n).c % (plS T n).x) ((↑k:Int) % (plS T n).c)) (by omega) g4
  exact VT.run (W:=[.r [] [.callr (rO oz0)],.br true,.r [] [.n ((↑k:Int) / (plS T n).c),.n ((↑k:Int) / (plS T n).c / (plS T n).x),.n ((↑k:Int) / (plS T n).c),.n ((↑k:Int) / (plS T n).c % (plS T n).x),.n ((↑k:Int) % (plS T n).c),.callr (rO oz12)],.r [] [],.br false,.r [] [.callr (rO oz14)],.r [] [.n ((↑k:Int)+1)]]) (G:=[.any (rg [(12,1),(40,28),(79,7)]),.drop [83],.ren 84 900,.weak 11 (i64 (↑(k+1):Int)),.blk 900 (Blk.slc 38 1 (List.map (row1 IntKind.i8) (poolL T n m (k+1)))),.sort]) (by kernel_rfl) (.c oz0<|.c oz1<|.c oz2<|.c oz3<|.c oz4<|.c oz5<|.c oz2<|.c oz3<|.c oz4<|.c oz9<|.c oz2<|.c oz11<|.c oz12<|.c hc0<|.c oz14<|.c (show ((List.map (row1 IntKind.i8) (poolL T n m k)).length+1)*1≤140737488355328 by (simp;omega))<|.c (show (List.map (row1 IntKind.i8) (poolL T n m k)).length+1≤9223372036854775807 by (simp;omega))<|.c (i6n ((↑k:Int)+1) (by omega))<|.c (Weak.int (k:=.i64) (show (((↑k:Int)+1):Int)=((↑(k+1):Int)) from (by omega)))<|.c (show BlkW (Blk.slc 38 1 (List.map (row1 IntKind.i8) (poolL T n m k)++[[i8 (meanE (winL T n ((↑k:Int) / (plS T n).c / (plS T n).x) ((↑k:Int) / (plS T n).c % (plS T n).x) ((↑k:Int) % (plS T n).c)))]])) (Blk.slc 38 1 (List.map (row1 IntKind.i8) (poolL T n m (k+1)))) from (BlkW.rows (rows_to (row1 IntKind.i8) (r:=List.map (row1 IntKind.i8) (poolL T n m k)++[[i8 (meanE (winL T n ((↑k:Int) / (plS T n).c / (plS T n).x) ((↑k:Int) / (plS T n).c % (plS T n).x) ((↑k:Int) % (plS T n).c)))]]) (l:=poolL T n m k++[meanE (winL T n ((↑k:Int) / (plS T n).c / (plS T n).x) ((↑k:Int) / (plS T n).c % (plS T n).x) ((↑k:Int) % (plS T n).c))]) (m:=poolL T n m (k+1)) (by first | (simp only [List.map_append,List.map_cons,List.map_nil,List.map_set,List.map_replicate,List.map_take,List.map_drop];done) | rfl | (simp only [List.map_append,List.map_cons,List.map_nil,List.map_set,List.map_replicate,List.map_take,List.map_drop];rfl)) (show (poolL T n m k++[meanE (winL T n ((↑k:Int) / (plS T n).c / (plS T n).x) ((↑k:Int) / (plS T n).c % (plS T n).x) ((↑k:Int) % (plS T n).c))])=(poolL T n m (k+1)) from (by (rw [poolL_succ,poolF,if_neg (by simp_all)]))))))<|.n)
theorem pool_l_e (T:Ten) (n:Nod) (m:Bool) (ok:PlOk T n):VT Tryz.prog (fnC Tryz.f81 [1,1,1,1,1,0,1,0,0]) (pool_l_I T n m ((elems (plS T n).h (plS T n).x (plS T n).c).toNat)) (.exit 0) (pool_l_Z T n m):=by
 obtain ⟨r,k1,k5,s1,s4,p0,p4,pk,hk',xk,sh,sx,sc,h1,h2,x1,x2,en,el⟩:=ok.n
 have g1:=r.c1
 have gz:=r.c2
 have g9:1≤(plS T n).h*(plS T n).x*(plS T n).c:=by exact Int.mul_pos (Int.mul_pos (by omega) (by omega)) (by omega)
 have oz0 := @refElems_v ((plS T n).h) ((plS T n).x) ((plS T n).c) (by omega) (by omega) (by omega)
 exact VT.run (W:=[.r [] [.callr (rO oz0)],.br false]) (G:=[.any (rg [(40,4)]),.sort]) (by kernel_rfl) (.c oz0<|.c (decide_eq_false (p:=((↑(elems (plS T n).h (plS T n).x (plS T n).c).toNat:Int)<elems (plS T n).h (plS T n).x (plS T n).c)) (by omega))<|.n)
theorem pool_l (T:Ten) (n:Nod) (m:Bool) (ok:PlOk T n):VT Tryz.prog (fnC Tryz.f81 [1,1,1,1,1,0,1,0]) (pool_l_I T n m 0) (.exit 0) (pool_l_Z T n m) :=
 VT.loop (fun k=>pool_l_I T n m k) ((elems (plS T n).h (plS T n).x (plS T n).c).toNat) (fun k hk=>pool_l_s T n m ok k hk) (pool_l_e T n m ok) (by intro h;cases h)
def poolOf (T:Ten) (n:Nod) (m:Bool):Ten×Int:=if tenRight T=true then (if (slideE ⟨T.h,T.x,T.c⟩ n.nk n.ns n.np T.c).2=0 then (⟨(plS T n).h,(plS T n).x,(plS T n).c,poolL T n m (elems (plS T n).h (plS T n).x (plS T n).c).toNat⟩,0) else (ten0,(slideE ⟨T.h,T.x,T.c⟩ n.nk n.ns n.np T.c).2)) else (ten0,5)
theorem pool_y (T:Ten) (n:Nod) (m:Bool) (ok:PlOk T n):VC Tryz.prog 81 ([ten .i8 T,nod n,bv m]) (.tup [ten .i8 (poolOf T n m).1,i64 (poolOf T n m).2]):=by
 have ok1:=ok.ok
 have okc:=ok1.c
 have g1:=ok.e
 have g2:=ok.r
 have g3:=ok.n.en
 have oz0 := @refTRight_v (T) ok1
 have oz2 := @refSlide_v (Shp.mk T.h T.x T.c) (n.nk) (n.ns) (n.np) (T.c) (by (exact Shp.mk_ok ok1.h ok1.x ok1.c)) okc
 have oz5 := @pool_l (T) (n) (m) ok
 exact (VC.run (fn:=Tryz.f81) (W:=[.r [] [],.r [] [.callr (rO oz0)],.br false,.r [] [.callr (rO oz2)],.r [] [],.br false,.r [] [],.r [] [],.code [.any (rg [(0,2),(7,1),(9,1),(15,3),(19,17),(38,2)]),.weak 11 (i64 (↑0:Int)),.nilc 900 38 1 10 3,.sort] (Exit.exit 0) (zO oz5),.r [] []]) (r:=AV.tup [AV.agg [i64 (plS T n).h,i64 (plS T n).x,i64 (plS T n).c,AV.sl 1 (List.map (row1 IntKind.i8) (poolL T n m (elems (plS T n).h (plS T n).x (plS T n).c).toNat))],i64 0]) Tryz.func81 (by kernel_rfl) (.c oz0<|.c (show (!tenRight T)=false by (simp;omega))<|.c oz2<|.c (show ((slideE (Shp.mk T.h T.x T.c) n.nk n.ns n.np T.c).snd != 0)=false by (simp;omega))<|.c (Weak.int (k:=.i64) (show ((0):Int)=((↑0:Int)) from (by omega)))<|.c oz5<|.n)).weak (WeakL.refl _) (Weak.tup (.cons (Weak.agg (.cons (Weak.int (show (((plS T n).h):Int)=((poolOf T n m).fst.h) from (by (unfold poolOf;rw [if_pos g2,if_pos g1])))) (.cons (Weak.int (show (((plS T n).x):Int)=((poolOf T n m).fst.x) from (by (unfold poolOf;rw [if_pos g2,if_pos g1])))) (.cons (Weak.int (show (((plS T n).c):Int)=((poolOf T n m).fst.c) from (by (unfold poolOf;rw [if_pos g2,if_pos g1])))) (.cons (Weak.rows (rows_to (row1 IntKind.i8) (r:=List.map (row1 IntKind.i8) (poolL T n m (elems (plS T n).h (plS T n).x (plS T n).c).toNat)) (l:=poolL T n m (elems (plS T n).h (plS T n).x (plS T n).c).toNat) (m:=(poolOf T n m).fst.d) rfl (show (poolL T n m (elems (plS T n).h (plS T n).x (plS T n).c).toNat)=((poolOf T n m).fst.d) from (by (unfold poolOf;rw [if_pos g2,if_pos g1]))))) .nil))))) (.cons (Weak.int (show ((0):Int)=((poolOf T n m).snd) from (by (unfold poolOf;rw [if_pos g2,if_pos g1])))) .nil)))
theorem pool_n (T:Ten) (n:Nod) (m:Bool) (ok:T.Ok) (okn:n.Ok) (hn:tenRight T=false∨(slideE ⟨T.h,T.x,T.c⟩ n.nk n.ns n.np T.c).2≠0):VC Tryz.prog 81 ([ten .i8 T,nod n,bv m]) (.tup [ten .i8 (poolOf T n m).1,i64 (poolOf T n m).2]):=by
 have okc:=ok.c
 have oz0 := @refTRight_v (T) ok
 rcases bft (!tenRight T) with hc0 | hc0
 ·have gc0:tenRight T=false:=by first | exact hc0 | exact of_decide_eq_true hc0 | exact of_decide_eq_false hc0 | simpa [eqNums] using hc0 | (simp [eqNums] at hc0 ⊢;first | done | assumption | omega)
  exact (VC.run (fn:=Tryz.f81) (W:=[.r [] [],.r [] [.callr (rO oz0)],.br true,.r [] []]) (r:=AV.tup [AV.agg [i64 0,i64 0,i64 0,AV.lit (Value.slice none 0 0)],i64 5]) Tryz.func81 (by kernel_rfl) (.c oz0<|.c hc0<|.n)).weak (WeakL.refl _) (Weak.tup (.cons (Weak.agg (.cons (Weak.int (show ((0):Int)=((poolOf T n m).fst.h) from (by (unfold poolOf;rw [if_neg (by simp_all)];first | done | rfl)))) (.cons (Weak.int (show ((0):Int)=((poolOf T n m).fst.x) from (by (unfold poolOf;rw [if_neg (by simp_all)];first | done | rfl)))) (.cons (Weak.int (show ((0):Int)=((poolOf T n m).fst.c) from (by (unfold poolOf;rw [if_neg (by simp_all)];first | done | rfl)))) (.cons (Weak.nilr (show []=(List.map (row1 IntKind.i8) (poolOf T n m).fst.d) from (by (unfold poolOf;rw [if_neg (by simp_all)];first | done | rfl)))) .nil))))) (.cons (Weak.int (show ((5):Int)=((poolOf T n m).snd) from (by (unfold poolOf;rw [if_neg (by simp_all)];first | done | rfl)))) .nil)))
 ·have gc0:tenRight T=true:=by first | exact hc0 | exact of_decide_eq_true hc0 | exact of_decide_eq_false hc0 | simpa [eqNums] using hc0 | (simp [eqNums] at hc0 ⊢;first | done | assumption | omega)
  have oz2 := @refSlide_v (Shp.mk T.h T.x T.c) (n.nk) (n.ns) (n.np) (T.c) (by (exact Shp.mk_ok ok.h ok.x ok.c)) okc
  exact (VC.run (fn:=Tryz.f81) (W:=[.r [] [],.r [] [.callr (rO oz0)],.br false,.r [] [.callr (rO oz2)],.r [] [],.br true,.r [] []]) (r:=AV.tup [AV.agg [i64 0,i64 0,i64 0,AV.lit (Value.slice none 0 0)],i64 (slideE (Shp.mk T.h T.x T.c) n.nk n.ns n.np T.c).snd]) Tryz.func81 (by kernel_rfl) (.c oz0<|.c hc0<|.c oz2<|.c (show ((slideE (Shp.mk T.h T.x T.c) n.nk n.ns n.np T.c).snd != 0)=true by (rcases hn with hn | hn<;>simp_all;done))<|.n)).weak (WeakL.refl _) (Weak.tup (.cons (Weak.agg (.cons (Weak.int (show ((0):Int)=((poolOf T n m).fst.h) from (by (unfold poolOf;rw [if_pos (by simp_all),if_neg (by rcases hn with hn | hn<;>simp_all)];first | done | rfl)))) (.cons (Weak.int (show ((0):Int)=((poolOf T n m).fst.x) from (by (unfold poolOf;rw [if_pos (by simp_all),if_neg (by rcases hn with hn | hn<;>simp_all)];first | done | rfl)))) (.cons (Weak.int (show ((0):Int)=((poolOf T n m).fst.c) from (by (unfold poolOf;rw [if_pos (by simp_all),if_neg (by rcases hn with hn | hn<;>simp_all)];first | done | rfl)))) (.cons (Weak.nilr (show []=(List.map (row1 IntKind.i8) (poolOf T n m).fst.d) from (by (unfold poolOf;rw [if_pos (by simp_all),if_neg (by rcases hn with hn | hn<;>simp_all)];first | done | rfl)))) .nil))))) (.cons (Weak.int (show (((slideE (Shp.mk T.h T.x T.c) n.nk n.ns n.np T.c).snd):Int)=((poolOf T n m).snd) from (by (unfold poolOf;rw [if_pos (by simp_all),if_neg (by rcases hn with hn | hn<;>simp_all)];first | done | rfl)))) .nil)))
theorem pool_v (T:Ten) (n:Nod) (m:Bool) (ok:T.Ok) (okn:n.Ok):VC Tryz.prog 81 [ten .i8 T,nod n,bv m] (.tup [ten .i8 (poolOf T n m).1,i64 (poolOf T n m).2]):=by
 cases hr:tenRight T with
 | false=>exact pool_n T n m ok okn (.inl hr)
 | true =>
  by_cases he:(slideE ⟨T.h,T.x,T.c⟩ n.nk n.ns n.np T.c).2=0
  ·exact pool_y T n m ⟨ok,okn,hr,he⟩
  ·exact pool_n T n m ok okn (.inr he)
theorem split_div {a b c:Int} (hb:0≤b) (hc:b<c):(a*c+b) / c=a∧(a*c+b) % c=b:=by
 constructor
 ·rw [Int.add_comm,Int.add_mul_ediv_right _ _ (by omega),Int.ediv_eq_zero_of_lt hb hc];omega
 ·rw [Int.add_comm,Int.add_mul_emod_self_right,Int.emod_eq_of_lt hb hc]
theorem dAcc_j {T:Ten} {n:Nod} (ok:DpOk T n) (h w c:Int) (i:Nat) (h0:dAcc T n h w c (i*n.nk.toNat)=IntKind.i32.wrap (accN (n.b.getD c.toNat 0) (drow T n h w c) i)) :
  ∀ j,j≤n.nk.toNat→dAcc T n h w c (i*n.nk.toNat+j)=IntKind.i32.wrap (accN (n.b.getD c.toNat 0) (drow T n h w c) i+sumN (dcell T n h w c i) j)
 | 0,_=>by rw [Nat.add_zero,h0,sumN,Int.add_zero]
 | j+1,hj=>by
  have k1:=ok.n.k1
  rw [←Nat.add_assoc,dAcc,dAcc_j ok h w c i h0 j (by omega),sumN,dcell]
  have e:((i*n.nk.toNat+j:Nat):Int)=(i:Int)*n.nk+(j:Int):=by rw [Int.natCast_add,Int.natCast_mul,Int.toNat_of_nonneg (by omega)]
  obtain ⟨e1,e2⟩:=split_div (a:=(i:Int)) (b:=(j:Int)) (c:=n.nk) (by omega) (by omega)
  rw [e,e1,e2]
  split
  ·rw [w32_add,Int.add_assoc]
  ·rw [Int.add_zero]
theorem dAcc_i {T:Ten} {n:Nod} (ok:DpOk T n) (h w c:Int):∀ i,dAcc T n h w c (i*n.nk.toNat)=IntKind.i32.wrap (accN (n.b.getD c.toNat 0) (drow T n h w c) i)
 | 0=>by rw [Nat.zero_mul,dAcc,accN,IntWalk.i32_in _ (gt32 ok.okn.b _)]
 | i+1=>by rw [Nat.add_mul,Nat.one_mul,dAcc_j ok h w c i (dAcc_i ok h w c i) _ (Nat.le_refl _),accN];rfl
theorem dAcc_eq {T:Ten} {n:Nod} (ok:DpOk T n) (h w c:Int):dAcc T n h w c (n.nk*n.nk).toNat=IntKind.i32.wrap (dE T n h w c):=by
 have k1:=ok.n.k1
 have:(n.nk*n.nk).toNat=n.nk.toNat*n.nk.toNat:=by
  apply Int.ofNat_inj.1
  rw [Int.natCast_mul,Int.toNat_of_nonneg (Int.mul_nonneg (by omega) (by omega)),Int.toNat_of_nonneg (by omega)]
 rw [this,dAcc_i ok];rfl
theorem g_row {F:Nat→Int} {f:Nat→Nat→Nat→Int} {m x h:Nat} (hF:∀ w c,w<x→c<m→F ((h*x+w)*m+c)=f h w c) (h0:(List.range (h*(x*m))).map F=gH f m x h) :
  ∀ w,w≤x→(List.range (h*(x*m)+w*m)).map F=gH f m x h++gW f m h w
 | 0,_=>by simp [gW,h0]
 | w+1,hw=>by
  rw [Nat.add_mul,Nat.one_mul,←Nat.add_assoc,List.range_add,List.map_append,g_row hF h0 w (by omega),gW,List.append_assoc,List.map_map]
  congr 2
  unfold gO
  apply List.map_congr_left
  intro c hc
  rw [←hF w c (by omega) (List.mem_range.1 hc)]
  simp only [Function.comp]
  congr 1
  rw [Nat.add_mul,Nat.mul_assoc]
theorem g_all {F:Nat→Int} {f:Nat→Nat→Nat→Int} {m x:Nat}:∀ h,(∀ h' w c,h'<h→w<x→c<m→F ((h'*x+w)*m+c)=f h' w c)→(List.range (h*(x*m))).map F=gH f m x h
 | 0,_=>by simp [gH]
 | h+1,hF=>by
  rw [Nat.add_mul,Nat.one_mul,g_row (fun w c hw hc=>hF h w c (by omega) hw hc) (g_all h fun h' w c hh=>hF h' w c (by omega)) x (Nat.le_refl _),gH]
theorem dL_eq {T:Ten} {n:Nod} (ok:DpOk T n):dL T n=gH (dF T n) T.c.toNat (depthE ⟨T.h,T.x,T.c⟩ n).1.x.toNat (depthE ⟨T.h,T.x,T.c⟩ n).1.h.toNat:=by
 have nn:=ok.n
 have h1:=nn.he
 have h2:=nn.xe
 have h3:=nn.c1
 unfold dL
 have e:dN T n=(depthE ⟨T.h,T.x,T.c⟩ n).1.h.toNat*((depthE ⟨T.h,T.x,T.c⟩ n).1.x.toNat*T.c.toNat):=by
  unfold dN
  apply Int.ofNat_inj.1
  rw [Int.natCast_mul,Int.natCast_mul,Int.toNat_of_nonneg (Int.mul_nonneg (Int.mul_nonneg (by omega) (by omega)) (by omega)),Int.toNat_of_nonneg (by omega),Int.toNat_of_nonneg (by omega),Int.toNat_of_nonneg (by omega),Int.mul_assoc]
 rw [e]
 refine g_all _ fun h w c hh hw hc=>?_
 have e0:(((h*(depthE ⟨T.h,T.x,T.c⟩ n).1.x.toNat+w)*T.c.toNat+c:Nat):Int)=((h:Int)*(depthE ⟨T.h,T.x,T.c⟩ n).1.x+(w:Int))*T.c+(c:Int):=by
  rw [Int.natCast_add,Int.natCast_mul,Int.natCast_add,Int.natCast_mul,Int.toNat_of_nonneg (by omega),Int.toNat_of_nonneg (by omega)]
 obtain ⟨e1,e2⟩:=split_div (a:=(h:Int)*(depthE ⟨T.h,T.x,T.c⟩ n).1.x+(w:Int)) (b:=(c:Int)) (c:=T.c) (by omega) (by omega)
 obtain ⟨e3,e4⟩:=split_div (a:=(h:Int)) (b:=(w:Int)) (c:=(depthE ⟨T.h,T.x,T.c⟩ n).1.x) (by omega) (by omega)
 simp only [e0,e1,e2,e3,e4]
 exact dAcc_eq ok _ _ _
def depthOf (T:Ten) (n:Nod):Ten×Int:=if tenRight T=false then (⟨0,0,0,[]⟩,5) else if (depthE ⟨T.h,T.x,T.c⟩ n).2≠0 then (⟨0,0,0,[]⟩,(depthE ⟨T.h,T.x,T.c⟩ n).2) else (⟨(depthE ⟨T.h,T.x,T.c⟩ n).1.h,(depthE ⟨T.h,T.x,T.c⟩ n).1.x,(depthE ⟨T.h,T.x,T.c⟩ n).1.c,dL T n⟩,0)
theorem rdOf_n (T:Ten) (n:Nod) (ok:T.Ok) (okn:n.Ok) (hn:tenRight T=false∨(depthE ⟨T.h,T.x,T.c⟩ n).2≠0):VC Tryz.prog 149 ([ten .i8 T,nod n]) (.tup [ten .i32 (depthOf T n).1,i64 (depthOf T n).2]):=by
 have oz0 := @refTRight_v (T) ok
 rcases bft (!tenRight T) with hc0 | hc0
 ·have gc0:tenRight T=false:=by first | exact hc0 | exact of_decide_eq_true hc0 | exact of_decide_eq_false hc0 | simpa [eqNums] using hc0 | (simp [eqNums] at hc0 ⊢;first | done | assumption | omega)
  exact (VC.run (fn:=Tryz.f149) (W:=[.r [] [],.r [] [.callr (rO oz0)],.br true,.r [] []]) (r:=AV.tup [AV.agg [i64 0,i64 0,i64 0,AV.lit (Value.slice none 0 0)],i64 5]) Tryz.func149 (by kernel_rfl) (.c oz0<|.c hc0<|.n)).weak (WeakL.refl _) (Weak.tup (.cons (Weak.agg (.cons (Weak.int (show ((0):Int)=((depthOf T n).fst.h) from (by (simp only [depthOf];rw [if_pos (by simp_all)];first | done | rfl)))) (.cons (Weak.int (show ((0):Int)=((depthOf T n).fst.x) from (by (simp only [depthOf];rw [if_pos (by simp_all)];first | done | rfl)))) (.cons (Weak.int (show ((0):Int)=((depthOf T n).fst.c) from (by (simp only [depthOf];rw [if_pos (by simp_all)];first | done | rfl)))) (.cons (Weak.nilr (show []=(List.map (row1 IntKind.i32) (depthOf T n).fst.d) from (by (simp only [depthOf];rw [if_pos (by simp_all)];first | done | rfl)))) .nil))))) (.cons (Weak.int (show ((5):Int)=((depthOf T n).snd) from (by (simp only [depthOf];rw [if_pos (by simp_all)];first | done | rfl)))) .nil)))
 ·have gc0:tenRight T=true:=by first | exact hc0 | exact of_decide_eq_true hc0 | exact of_decide_eq_false hc0 | simpa [eqNums] using hc0 | (simp [eqNums] at hc0 ⊢;first | done | assumption | omega)
  have oz2 := @refDepthShape_v (Shp.mk T.h T.x T.c) (n) (by (exact Shp.mk_ok ok.h ok.x ok.c)) okn
  exact (VC.run (fn:=Tryz.f149) (W:=[.r [] [],.r [] [.callr (rO oz0)],.br false,.r [] [.callr (rO oz2)],.r [] [],.br true,.r [] []]) (r:=AV.tup [AV.agg [i64 0,i64 0,i64 0,AV.lit (Value.slice none 0 0)],i64 (depthE (Shp.mk T.h T.x T.c) n).snd]) Tryz.func149 (by kernel_rfl) (.c oz0<|.c hc0<|.c oz2<|.c (show ((depthE (Shp.mk T.h T.x T.c) n).snd != 0)=true by (rcases hn with hn | hn<;>simp_all;done))<|.n)).weak (WeakL.refl _) (Weak.tup (.cons (Weak.agg (.cons (Weak.int (show ((0):Int)=((depthOf T n).fst.h) from (by (simp only [depthOf];rw [if_neg (by simp_all),if_pos (by rcases hn with hn | hn<;>simp_all)];first | done | rfl)))) (.cons (Weak.int (show ((0):Int)=((depthOf T n).fst.x) from (by (simp only [depthOf];rw [if_neg (by simp_all),if_pos (by rcases hn with hn | hn<;>simp_all)];first | done | rfl)))) (.cons (Weak.int (show ((0):Int)=((depthOf T n).fst.c) from (by (simp only [depthOf];rw [if_neg (by simp_all),if_pos (by rcases hn with hn | hn<;>simp_all)];first | done | rfl)))) (.cons (Weak.nilr (show []=(List.map (row1 IntKind.i32) (depthOf T n).fst.d) from (by (simp only [depthOf];rw [if_neg (by simp_all),if_pos (by rcases hn with hn | hn<;>simp_all)];first | done | rfl)))) .nil))))) (.cons (Weak.int (show (((depthE (Shp.mk T.h T.x T.c) n).snd):Int)=((depthOf T n).snd) from (by (simp only [depthOf];rw [if_neg (by simp_all),if_pos (by rcases hn with hn | hn<;>simp_all)];first | done | rfl)))) .nil)))
theorem rdOf_v (T:Ten) (n:Nod) (ok:T.Ok) (okn:n.Ok):VC Tryz.prog 149 [ten .i8 T,nod n] (.tup [ten .i32 (depthOf T n).1,i64 (depthOf T n).2]):=by
 cases hr:tenRight T with
 | false=>exact rdOf_n T n ok okn (.inl hr)
 | true =>
  by_cases he:(depthE ⟨T.h,T.x,T.c⟩ n).2=0
  ·have h:=rdOf_x T n ⟨ok,okn,hr,he⟩
   have e:depthOf T n=(⟨(depthE ⟨T.h,T.x,T.c⟩ n).1.h,(depthE ⟨T.h,T.x,T.c⟩ n).1.x,(depthE ⟨T.h,T.x,T.c⟩ n).1.c,dL T n⟩,0):=by
    unfold depthOf
    rw [if_neg (by simp [hr]),if_neg (by simpa using he)]
   rw [e];rw [dL_eq ⟨ok,okn,hr,he⟩];exact h
  ·exact rdOf_n T n ok okn (.inr he)
theorem depthOf_len (T:Ten) (n:Nod) (ok:T.Ok) (okn:n.Ok):(depthOf T n).1.d.length≤1024:=by
 unfold depthOf
 split
 ·simp
 ·split
  ·simp
  ·rename_i h1 h2
   have nn:=DpOk.n (T:=T) (n:=n) ⟨ok,okn,by simpa using h1,by simpa using h2⟩
   rw [dL_len]
   have h3:=nn.el
   unfold dN;omega
def dnT (x w:List Int) (z o:Int) (i:Nat):Int:=w.getD (o*x.length+i).toNat 0*(x.getD i 0-z)
def dnS (x w b:List Int) (z o:Int):Int:=accN (b.getD o.toNat 0) (dnT x w z o) x.length
theorem dnT_bd {x w:List Int} (hx:∀ v∈x,In8 v) (hw:∀ v∈w,In8 v) {z:Int} (hz:In8 z) (o:Int) (i:Nat) : -32640≤dnT x w z o i∧dnT x w z o i≤32640:=by
 have h1:=gt8 hw (o*x.length+i).toNat
 have h2:=gt8 hx i
 have:=prod_bd h1 (b:=x.getD i 0-z) (by omega)
 unfold dnT;omega
noncomputable def dense_s_I (x w b:List Int) (z o:Int) (k:Nat):VS:=stt 46 [(0,ints .i8 x),(1,ints .i8 w),(3,i8 z),(4,i64 o),(11,i64 (accN (b.getD o.toNat 0) (dnT x w z o) k)),(12,i64 k)] []
noncomputable def dense_s_Z (x w b:List Int) (z o:Int):VS:=dense_s_I x w b z o (x.length)
theorem dense_s_s (x w b:List Int) (z o:Int) (hx:∀ v∈x,In8 v) (hw:∀ v∈w,In8 v) (hb:∀ v∈b,In32 v) (hz:In8 z) (o0:0≤o) (o1:o<b.length) (xl:x.length≤1024) (hl:w.length=x.length*b.length) (wl:w.length≤16384) (k:Nat) (hk:k<x.length):VT Tryz.prog (fnC Tryz.f207 [1,1,0,1,0,0]) (dense_s_I x w b z o k) .normal (dense_s_I x w b z o (k+1)):=by
 have g1:=dnT_bd hx hw hz o k
 have g2:=sumN_bd (B:=32640) (f:=dnT x w z o) k fun i _=>dnT_bd hx hw hz o i
 have g3:=accN_eq (b.getD o.toNat 0) (dnT x w z o) k
 have g4:=gt32 hb o.toNat
 have g5:=gt8 hw (o*x.length+k).toNat
 have g6:=gt8 hx k
 have g7:=idx_bd (a:=o) (m:=b.length) (b:=(k:Int)) (n:=x.length) o0 o1 (by omega) (by omega)
 have g8:((b.length:Int)*x.length)=(w.length:Int):=by rw [hl,Int.natCast_mul,Int.mul_comm]
 have g9:0≤o*x.length:=Int.mul_nonneg o0 (by omega)
 have ga:(List.map (row1 .i8) x).length=x.length:=List.length_map _
 have gb:=prod_bd g5 (b:=x.getD k 0-z) (by omega)
 have gc:accN (b.getD o.toNat 0) (dnT x w z o) (k+1)=accN (b.getD o.toNat 0) (dnT x w z o) k+w.getD (o*x.length+k).toNat 0*(x.getD k 0-z):=rfl
 rw [←ga] at g5 gb g7 g8 g9 gc
 have gd:IntKind.i64.wrap (o*((List.map (row1 .i8) x).length:Int))=o*((List.map (row1 .i8) x).length:Int):=i6n _ (by omega)
 have ge:IntKind.i64.wrap (o*((List.map (row1 .i8) x).length:Int)+k)=o*((List.map (row1 .i8) x).length:Int)+k:=i6n _ (by omega)
 have oz4:=(map_at (row1 IntKind.i8) (0) (l:=w) (i:=(o*(↑(List.map (row1 IntKind.i8) x).length:Int)+(↑k:Int)).toNat) (by omega))
 have oz5:=(i6n (w.getD (o*(↑(List.map (row1 IntKind.i8) x).length:Int)+(↑k:Int)).toNat 0) (by omega))
 have oz11:=(i6n (w.getD (o*(↑(List.map (row1 IntKind.i8) x).length:Int)+(↑k:Int)).toNat 0*(x.getD k 0-z)) (by omega))
 have oz12:=(i6n (accN (b.getD o.toNat 0) (dnT x w z o) k+w.getD (o*(↑(List.map (row1 IntKind.i8) x).length:Int)+(↑k:Int)).toNat 0*(x.getD k 0-z)) (by omega))
 have oz14:=(Weak.int (k:=.i64) (show ((accN (b.getD o.toNat 0) (dnT x w z o) k+w.getD (o*(↑(List.map (row1 IntKind.i8) x).length:Int)+(↑k:Int)).toNat 0*(x.getD k 0-z)):Int)=(accN (b.getD o.toNat 0) (dnT x w z o) (k+1)) from (by omega)))
 exact VT.run (W:=[.r [] [],.br true,.r [] [.n (nO gd),.n (nO ge),.row (sO oz4),.n (nO oz5),.row [i8 (x.getD k 0)],.n (x.getD k 0),.n z,.n (x.getD k 0-z),.n (nO oz11),.n (nO oz12)],.r [] [.n ((↑k:Int)+1)]]) (G:=[.any (rg [(18,27)]),.weak 11 (wO oz14),.weak 12 (i64 (↑(k+1):Int)),.sort]) (by kernel_rfl) (.c (decide_eq_true (p:=((↑k:Int)<(↑(List.map (row1 IntKind.i8) x).length:Int))) (by omega))<|.c gd<|.c ge<|.c (show 0≤o*(↑(List.map (row1 IntKind.i8) x).length:Int)+(↑k:Int) by omega)<|.c oz4<|.c oz5<|.c (show 0≤(↑k:Int) by omega)<|.c (map_at (row1 IntKind.i8) (0) (l:=x) (i:=k) hk)<|.c (i6n (x.getD k 0) (by omega))<|.c (i6n z (by omega))<|.c (i6n (x.getD k 0-z) (by omega))<|.c oz11<|.c oz12<|.c (i6n ((↑k:Int)+1) (by omega))<|.c oz14<|.c (Weak.int (k:=.i64) (show (((↑k:Int)+1):Int)=((↑(k+1):Int)) from (by omega)))<|.n)
theorem dense_s_e (x w b:List Int) (z o:Int) (hx:∀ v∈x,In8 v) (hw:∀ v∈w,In8 v) (hb:∀ v∈b,In32 v) (hz:In8 z) (o0:0≤o) (o1:o<b.length) (xl:x.length≤1024) (hl:w.length=x.length*b.length) (wl:w.length≤16384):VT Tryz.prog (fnC Tryz.f207 [1,1,0,1,0,0]) (dense_s_I x w b z o (x.length)) (.exit 0) (dense_s_Z x w b z o):=by
 exact VT.run (W:=[.r [] [],.br false]) (G:=[.any (rg [(18,4)]),.sort]) (by kernel_rfl) (.c (show decide ((↑x.length:Int)<(↑(List.map (row1 IntKind.i8) x).length:Int))=false by (simp;done))<|.n)
theorem dense_s (x w b:List Int) (z o:Int) (hx:∀ v∈x,In8 v) (hw:∀ v∈w,In8 v) (hb:∀ v∈b,In32 v) (hz:In8 z) (o0:0≤o) (o1:o<b.length) (xl:x.length≤1024) (hl:w.length=x.length*b.length) (wl:w.length≤16384):VT Tryz.prog (fnC Tryz.f207 [1,1,0,1,0]) (dense_s_I x w b z o 0) (.exit 0) (dense_s_Z x w b z o) :=
 VT.loop (fun k=>dense_s_I x w b z o k) (x.length) (fun k hk=>dense_s_s x w b z o hx hw hb hz o0 o1 xl hl wl k hk) (dense_s_e x w b z o hx hw hb hz o0 o1 xl hl wl) (by intro h;cases h)
theorem denseS_v (x w b:List Int) (z o:Int) (hx:∀ v∈x,In8 v) (hw:∀ v∈w,In8 v) (hb:∀ v∈b,In32 v) (hz:In8 z) (o0:0≤o) (o1:o<b.length) (xl:x.length≤1024) (hl:w.length=x.length*b.length) (wl:w.length≤16384):VC Tryz.prog 207 ([ints .i8 x,ints .i8 w,ints .i32 b,i8 z,i64 o]) (i64 (dnS x w b z o)):=by
 have g4:=gt32 hb o.toNat
 have oz4 := @dense_s (x) (w) (b) (z) (o) hx hw hb hz o0 o1 xl hl wl
 exact (VC.run (fn:=Tryz.f207) (W:=[.r [] [],.r [] [.row [i32 (b.getD o.toNat 0)],.n (b.getD o.toNat 0)],.r [] [],.code [.any [2,10,13,14,15,16,17],.weak 12 (i64 (↑0:Int)),.sort] (Exit.exit 0) (zO oz4),.r [] []]) (r:=i64 (accN (b.getD o.toNat 0) (dnT x w z o) x.length)) Tryz.func207 (by kernel_rfl) (.c o0<|.c (map_at (row1 IntKind.i32) (0) (l:=b) (i:=o.toNat) (by omega))<|.c (i6n (b.getD o.toNat 0) (by omega))<|.c (Weak.int (k:=.i64) (show ((0):Int)=((↑0:Int)) from (by omega)))<|.c oz4<|.n)).weak (WeakL.refl _) (Weak.int (show ((accN (b.getD o.toNat 0) (dnT x w z o) x.length):Int)=(dnS x w b z o) from (by rfl)))
def lineL (x w b:List Int) (z:Int) (k:Nat):List Int:=(List.range k).map fun o:Nat=>IntKind.i32.wrap (dnS x w b z o)
theorem lineL_succ (x w b:List Int) (z:Int) (k:Nat):lineL x w b z (k+1)=lineL x w b z k++[IntKind.i32.wrap (dnS x w b z k)]:=by simp [lineL,List.range_succ]
theorem lineL_len (x w b:List Int) (z:Int) (k:Nat):(lineL x w b z k).length=k:=by simp [lineL]
noncomputable def line_l_I (x w b:List Int) (z:Int) (k:Nat):VS:=stt 46 [(0,ints .i8 x),(1,ints .i8 w),(2,ints .i32 b),(3,i8 z),(9,.own 900),(10,i64 k)] [(900,.slc 21 1 ((lineL x w b z k).map (row1 .i32)))]
noncomputable def line_l_Z (x w b:List Int) (z:Int):VS:=line_l_I x w b z (b.length)
theorem line_l_s (x w b:List Int) (z:Int) (hx:∀ v∈x,In8 v) (hw:∀ v∈w,In8 v) (hb:∀ v∈b,In32 v) (hz:In8 z) (xl:x.length≤1024) (hl:w.length=x.length*b.length) (wl:w.length≤16384) (bl:b.length≤1024) (k:Nat) (hk:k<b.length):VT Tryz.prog (fnC Tryz.f166 [1,1,1,0,1,0,0]) (line_l_I x w b z k) .normal (line_l_I x w b z (k+1)):=by
 have g1:=lineL_len x w b z k
 have oz1 := @denseS_v (x) (w) (b) (z) ((↑k:Int)) hx hw hb hz (by omega) (by omega) xl hl wl
 exact VT.run (W:=[.r [] [],.br true,.r [] [.callr (rO oz1),.w],.r [] [.n ((↑k:Int)+1)]]) (G:=[.any (rg [(29,16)]),.drop [43],.ren 44 900,.weak 10 (i64 (↑(k+1):Int)),.blk 900 (Blk.slc 21 1 (List.map (row1 IntKind.i32) (lineL x w b z (k+1)))),.sort]) (by kernel_rfl) (.c (show decide ((↑k:Int)<(↑(List.map (row1 IntKind.i32) b).length:Int))=true by (simp;omega))<|.c oz1<|.c (show ((List.map (row1 IntKind.i32) (lineL x w b z k)).length+1)*4≤140737488355328 by (simp;omega))<|.c (show (List.map (row1 IntKind.i32) (lineL x w b z k)).length+1≤9223372036854775807 by (simp;omega))<|.c (i6n ((↑k:Int)+1) (by omega))<|.c (Weak.int (k:=.i64) (show (((↑k:Int)+1):Int)=((↑(k+1):Int)) from (by omega)))<|.c (show BlkW (Blk.slc 21 1 (List.map (row1 IntKind.i32) (lineL x w b z k)++[[i32 (IntKind.i32.wrap (dnS x w b z (↑k:Int)))]])) (Blk.slc 21 1 (List.map (row1 IntKind.i32) (lineL x w b z (k+1)))) from (BlkW.rows (rows_to (row1 IntKind.i32) (r:=List.map (row1 IntKind.i32) (lineL x w b z k)++[[i32 (IntKind.i32.wrap (dnS x w b z (↑k:Int)))]]) (l:=lineL x w b z k++[IntKind.i32.wrap (dnS x w b z (↑k:Int))]) (m:=lineL x w b z (k+1)) (by first | (simp only [List.map_append,List.map_cons,List.map_nil,List.map_set,List.map_replicate,List.map_take,List.map_drop];done) | rfl | (simp only [List.map_append,List.map_cons,List.map_nil,List.map_set,List.map_replicate,List.map_take,List.map_drop];rfl)) (show (lineL x w b z k++[IntKind.i32.wrap (dnS x w b z (↑k:Int))])=(lineL x w b z (k+1)) from (by (rw [lineL_succ]))))))<|.n)
theorem line_l_e (x w b:List Int) (z:Int) (hx:∀ v∈x,In8 v) (hw:∀ v∈w,In8 v) (hb:∀ v∈b,In32 v) (hz:In8 z) (xl:x.length≤1024) (hl:w.length=x.length*b.length) (wl:w.length≤16384) (bl:b.length≤1024):VT Tryz.prog (fnC Tryz.f166 [1,1,1,0,1,0,0]) (line_l_I x w b z (b.length)) (.exit 0) (line_l_Z x w b z):=by
 exact VT.run (W:=[.r [] [],.br false]) (G:=[.any (rg [(29,4)]),.sort]) (by kernel_rfl) (.c (show decide ((↑b.length:Int)<(↑(List.map (row1 IntKind.i32) b).length:Int))=false by (simp;done))<|.n)
theorem line_l (x w b:List Int) (z:Int) (hx:∀ v∈x,In8 v) (hw:∀ v∈w,In8 v) (hb:∀ v∈b,In32 v) (hz:In8 z) (xl:x.length≤1024) (hl:w.length=x.length*b.length) (wl:w.length≤16384) (bl:b.length≤1024):VT Tryz.prog (fnC Tryz.f166 [1,1,1,0,1,0]) (line_l_I x w b z 0) (.exit 0) (line_l_Z x w b z) :=
 VT.loop (fun k=>line_l_I x w b z k) (b.length) (fun k hk=>line_l_s x w b z hx hw hb hz xl hl wl bl k hk) (line_l_e x w b z hx hw hb hz xl hl wl bl) (by intro h;cases h)
theorem line_v (x w b:List Int) (z:Int) (hx:∀ v∈x,In8 v) (hw:∀ v∈w,In8 v) (hb:∀ v∈b,In32 v) (hz:In8 z) (x0:x≠[]) (b0:b≠[]) (xl:x.length≤1024) (hl:w.length=x.length*b.length) (wl:w.length≤16384) (bl:b.length≤1024):VC Tryz.prog 166 ([ints .i8 x,ints .i8 w,ints .i32 b,i8 z]) (ints .i32 (lineL x w b z b.length)):=by
 have g1:(x.length:Int)*b.length=w.length:=by rw [hl,Int.natCast_mul]
 have g2:x.length≠0:=by simpa using x0
 have g3:b.length≠0:=by simpa using b0
 have g4:(List.map (row1 .i8) x).length=x.length:=List.length_map _
 have g5:(List.map (row1 .i32) b).length=b.length:=List.length_map _
 have g6:(List.map (row1 .i8) w).length=w.length:=List.length_map _
 have g7:((List.map (row1 .i8) x).length:Int)*((List.map (row1 .i32) b).length:Int)=w.length:=by rw [g4,g5];exact g1
 have oz0:=(show ((↑(List.map (row1 IntKind.i8) x).length:Int)==0)=false by (refine decide_eq_false ?_;omega))
 have oz4:=(show ((↑(List.map (row1 IntKind.i32) b).length:Int)==0)=false by (refine decide_eq_false ?_;omega))
 have oz11:=(i6n ((↑(List.map (row1 IntKind.i8) x).length:Int)*(↑(List.map (row1 IntKind.i32) b).length:Int)) (by omega))
 have oz16 := @line_l (x) (w) (b) (z) hx hw hb hz xl hl wl bl
 exact VC.run (fn:=Tryz.f166) (W:=[.r [] [],.r [] [.br true,.br true,.br true,.br false,.br true,.br true,.br true,.br true,.br true,.br true,.br true,.n (nO oz11),.br true,.br false],.br false,.r [] [],.r [] [],.code [.any (rg [(8,1),(11,18)]),.weak 10 (i64 (↑0:Int)),.nils 9 900 21 1,.sort] (Exit.exit 0) (zO oz16),.r [] []]) Tryz.func166 (by kernel_rfl) (.c oz0<|.c oz0<|.c oz0<|.c oz0<|.c oz4<|.c oz4<|.c oz4<|.c oz4<|.c oz4<|.c oz4<|.c oz4<|.c oz11<|.c oz4<|.c oz4<|.c (show ((↑(List.map (row1 IntKind.i8) w).length:Int) != (↑(List.map (row1 IntKind.i8) x).length:Int)*(↑(List.map (row1 IntKind.i32) b).length:Int))=false by (simp;omega))<|.c (Weak.int (k:=.i64) (show ((0):Int)=((↑0:Int)) from (by omega)))<|.c oz16<|.n)
def denseOf (T:Ten) (n:Nod):Ten×Int:=if tenRight T=false then (ten0,5) else if (denseE ⟨T.h,T.x,T.c⟩ n).2≠0 then (ten0,(denseE ⟨T.h,T.x,T.c⟩ n).2) else (⟨(denseE ⟨T.h,T.x,T.c⟩ n).1.h,(denseE ⟨T.h,T.x,T.c⟩ n).1.x,(denseE ⟨T.h,T.x,T.c⟩ n).1.c,lineL T.d n.w n.b n.za n.b.length⟩,0)
theorem denseE_ok {t:Shp} {n:Nod} (h:(denseE t n).2=0):0<elems t.h t.x t.c∧1≤n.no∧n.no≤1024∧(n.w.length:Int)=n.no*elems t.h t.x t.c∧n.w.length≤16384∧(n.b.length:Int)=n.no∧(denseE t n).1=⟨1,1,n.no⟩:=by
 unfold denseE at h ⊢
 have e0:=elems_in t.h t.x t.c
 have e1:=elems_in 1 1 n.no
 split at h
 ·simp at h
 ·split at h
  ·simp at h
  ·rename_i h1 h2
   rw [if_neg h1,if_neg h2]
   have c:=elems_ok (h:=1) (x:=1) (c:=n.no) (by omega)
   exact ⟨by omega,by omega,by omega,by omega,by omega,by omega,rfl⟩
structure DnOk (T:Ten) (n:Nod):Prop where
 ok:T.Ok
 okn:n.Ok
 r:tenRight T=true
 e:(denseE ⟨T.h,T.x,T.c⟩ n).2=0
theorem DnOk.n {T:Ten} {n:Nod} (h:DnOk T n):T.d≠[]∧n.b≠[]∧T.d.length≤1024∧n.w.length=T.d.length*n.b.length∧n.w.length≤16384∧n.b.length≤1024:=by
 obtain ⟨e1,e2,e3,e4,e5,e6,e7⟩:=denseE_ok h.e
 have r:=tenRight.rt h.r
 have r1:=r.dl
 have r2:=r.en
 have r3:=r.el
 dsimp only at *
 refine ⟨?_,?_,by omega,?_,e5,by omega⟩
 ·intro h0;rw [h0] at r1;simp at r1;omega
 ·intro h0;rw [h0] at e6;simp at e6;omega
 ·apply Int.ofNat_inj.1
  rw [Int.natCast_mul,e4,r2,←r1,←e6,Int.mul_comm]
theorem dense_y (T:Ten) (n:Nod) (ok:DnOk T n):VC Tryz.prog 150 ([ten .i8 T,nod n]) (.tup [ten .i32 (denseOf T n).1,i64 (denseOf T n).2]):=by
 obtain ⟨o1,o2,o3,o4⟩:=id ok
 obtain ⟨g1,g2,g3,g4,g5,g6⟩:=ok.n
 have k1:=o1.d
 have k2:=o2.w
 have k3:=o2.b
 have k4:=o2.za
 have oz0 := @refTRight_v (T) o1
 have oz2 := @refDenseShape_v (Shp.mk T.h T.x T.c) (n) (by (exact Shp.mk_ok o1.h o1.x o1.c)) o2
 have oz4 := @line_v (T.d) (n.w) (n.b) (n.za) k1 k2 k3 k4 g1 g2 g3 g4 g5 g6
 exact (VC.run (fn:=Tryz.f150) (W:=[.r [] [],.r [] [.callr (rO oz0)],.br false,.r [] [.callr (rO oz2)],.r [] [],.br false,.r [] [.callr (rO oz4)]]) (r:=AV.tup [AV.agg [i64 (denseE (Shp.mk T.h T.x T.c) n).fst.h,i64 (denseE (Shp.mk T.h T.x T.c) n).fst.x,i64 (denseE (Shp.mk T.h T.x T.c) n).fst.c,AV.sl 1 (List.map (row1 IntKind.i32) (lineL T.d n.w n.b n.za n.b.length))],i64 0]) Tryz.func150 (by kernel_rfl) (.c oz0<|.c (show (!tenRight T)=false by (simp;omega))<|.c oz2<|.c (show ((denseE (Shp.mk T.h T.x T.c) n).snd != 0)=false by (simp;omega))<|.c oz4<|.n)).weak (WeakL.refl _) (Weak.tup (.cons (Weak.agg (.cons (Weak.int (show (((denseE (Shp.mk T.h T.x T.c) n).fst.h):Int)=((denseOf T n).fst.h) from (by (unfold denseOf;rw [if_neg (by simp [o3]),if_neg (by simp [o4])])))) (.cons (Weak.int (show (((denseE (Shp.mk T.h T.x T.c) n).fst.x):Int)=((denseOf T n).fst.x) from (by (unfold denseOf;rw [if_neg (by simp [o3]),if_neg (by simp [o4])])))) (.cons (Weak.int (show (((denseE (Shp.mk T.h T.x T.c) n).fst.c):Int)=((denseOf T n).fst.c) from (by (unfold denseOf;rw [if_neg (by simp [o3]),if_neg (by simp [o4])])))) (.cons (Weak.rows (rows_to (row1 IntKind.i32) (r:=List.map (row1 IntKind.i32) (lineL T.d n.w n.b n.za n.b.length)) (l:=lineL T.d n.w n.b n.za n.b.length) (m:=(denseOf T n).fst.d) rfl (show (lineL T.d n.w n.b n.za n.b.length)=((denseOf T n).fst.d) from (by (unfold denseOf;rw [if_neg (by simp [o3]),if_neg (by simp [o4])]))))) .nil))))) (.cons (Weak.int (show ((0):Int)=((denseOf T n).snd) from (by (unfold denseOf;rw [if_neg (by simp [o3]),if_neg (by simp [o4])])))) .nil)))
theorem dense_n (T:Ten) (n:Nod) (ok:T.Ok) (okn:n.Ok) (hn:tenRight T=false∨(denseE ⟨T.h,T.x,T.c⟩ n).2≠0):VC Tryz.prog 150 ([ten .i8 T,nod n]) (.tup [ten .i32 (denseOf T n).1,i64 (denseOf T n).2]):=by
 have oz0 := @refTRight_v (T) ok
 rcases bft (!tenRight T) with hc0 | hc0
 ·have gc0:tenRight T=false:=by first | exact hc0 | exact of_decide_eq_true hc0 | exact of_decide_eq_false hc0 | simpa [eqNums] using hc0 | (simp [eqNums] at hc0 ⊢;first | done | assumption | omega)
  exact (VC.run (fn:=Tryz.f150) (W:=[.r [] [],.r [] [.callr (rO oz0)],.br true,.r [] []]) (r:=AV.tup [AV.agg [i64 0,i64 0,i64 0,AV.lit (Value.slice none 0 0)],i64 5]) Tryz.func150 (by kernel_rfl) (.c oz0<|.c hc0<|.n)).weak (WeakL.refl _) (Weak.tup (.cons (Weak.agg (.cons (Weak.int (show ((0):Int)=((denseOf T n).fst.h) from (by (simp only [denseOf];rw [if_pos (by simp_all)];first | done | rfl)))) (.cons (Weak.int (show ((0):Int)=((denseOf T n).fst.x) from (by (simp only [denseOf];rw [if_pos (by simp_all)];first | done | rfl)))) (.cons (Weak.int (show ((0):Int)=((denseOf T n).fst.c) from (by (simp only [denseOf];rw [if_pos (by simp_all)];first | done | rfl)))) (.cons (Weak.nilr (show []=(List.map (row1 IntKind.i32) (denseOf T n).fst.d) from (by (simp only [denseOf];rw [if_pos (by simp_all)];first | done | rfl)))) .nil))))) (.cons (Weak.int (show ((5):Int)=((denseOf T n).snd) from (by (simp only [denseOf];rw [if_pos (by simp_all)];first | done | rfl)))) .nil)))
 ·have gc0:tenRight T=true:=by first | exact hc0 | exact of_decide_eq_true hc0 | exact of_decide_eq_false hc0 | simpa [eqNums] using hc0 | (simp [eqNums] at hc0 ⊢;first | done | assumption | omega)
  have oz2 := @refDenseShape_v (Shp.mk T.h T.x T.c) (n) (by (exact Shp.mk_ok ok.h ok.x ok.c)) okn
  exact (VC.run (fn:=Tryz.f150) (W:=[.r [] [],.r [] [.callr (rO oz0)],.br false,.r [] [.callr (rO oz2)],.r [] [],.br true,.r [] []]) (r:=AV.tup [AV.agg [i64 0,i64 0,i64 0,AV.lit (Value.slice none 0 0)],i64 (denseE (Shp.mk T.h T.x T.c) n).snd]) Tryz.func150 (by kernel_rfl) (.c oz0<|.c hc0<|.c oz2<|.c (show ((denseE (Shp.mk T.h T.x T.c) n).snd != 0)=true by (rcases hn with hn | hn<;>simp_all;done))<|.n)).weak (WeakL.refl _) (Weak.tup (.cons (Weak.agg (.cons (Weak.int (show ((0):Int)=((denseOf T n).fst.h) from (by (simp only [denseOf];rw [if_neg (by simp_all),if_pos (by rcases hn with hn | hn<;>simp_all)];first | done | rfl)))) (.cons (Weak.int (show ((0):Int)=((denseOf T n).fst.x) from (by (simp only [denseOf];rw [if_neg (by simp_all),if_pos (by rcases hn with hn | hn<;>simp_all)];first | done | rfl)))) (.cons (Weak.int (show ((0):Int)=((denseOf T n).fst.c) from (by (simp only [denseOf];rw [if_neg (by simp_all),if_pos (by rcases hn with hn | hn<;>simp_all)];first | done | rfl)))) (.cons (Weak.nilr (show []=(List.map (row1 IntKind.i32) (denseOf T n).fst.d) from (by (simp only [denseOf];rw [if_neg (by simp_all),if_pos (by rcases hn with hn | hn<;>simp_all)];first | done | rfl)))) .nil))))) (.cons (Weak.int (show (((denseE (Shp.mk T.h T.x T.c) n).snd):Int)=((denseOf T n).snd) from (by (simp only [denseOf];rw [if_neg (by simp_all),if_pos (by rcases hn with hn | hn<;>simp_all)];first | done | rfl)))) .nil)))
theorem dense_v (T:Ten) (n:Nod) (ok:T.Ok) (okn:n.Ok):VC Tryz.prog 150 [ten .i8 T,nod n] (.tup [ten .i32 (denseOf T n).1,i64 (denseOf T n).2]):=by
 cases hr:tenRight T with
 | false=>exact dense_n T n ok okn (.inl hr)
 | true =>
  by_cases he:(denseE ⟨T.h,T.x,T.c⟩ n).2=0
  ·exact dense_y T n ⟨ok,okn,hr,he⟩
  ·exact dense_n T n ok okn (.inr he)
def sumOf (T:Ten) (n:Nod):Ten×Int:=if n.kd=1 then convOf T n else if n.kd=2 then depthOf T n else if n.kd=3 then denseOf T n else (ten0,6)
theorem rsum_v (T:Ten) (n:Nod) (ok:T.Ok) (okn:n.Ok):VC Tryz.prog 86 ([nod n,ten .i8 T]) (.tup [ten .i32 (sumOf T n).1,i64 (sumOf T n).2]):=by
 rcases bft (n.kd==1) with hc0 | hc0
 ·have gc0:n.kd=1:=bet hc0
  have oz1 := @rcOf_v (T) (n) ok okn
  exact (VC.run (fn:=Tryz.f86) (W:=[.r [] [],.r [] [],.br true,.r [] [.callr (rO oz1)]]) (r:=AV.tup [AV.agg [i64 (convOf T n).fst.h,i64 (convOf T n).fst.x,i64 (convOf T n).fst.c,AV.sl 1 (List.map (row1 IntKind.i32) (convOf T n).fst.d)],i64 (convOf T n).snd]) Tryz.func86 (by kernel_rfl) (.c hc0<|.c oz1<|.n)).weak (WeakL.refl _) (Weak.tup (.cons (Weak.agg (.cons (Weak.int (show (((convOf T n).fst.h):Int)=((sumOf T n).fst.h) from (by (unfold sumOf;rw [if_pos (by omega)])))) (.cons (Weak.int (show (((convOf T n).fst.x):Int)=((sumOf T n).fst.x) from (by (unfold sumOf;rw [if_pos (by omega)])))) (.cons (Weak.int (show (((convOf T n).fst.c):Int)=((sumOf T n).fst.c) from (by (unfold sumOf;rw [if_pos (by omega)])))) (.cons (Weak.rows (rows_to (row1 IntKind.i32) (r:=List.map (row1 IntKind.i32) (convOf T n).fst.d) (l:=(convOf T n).fst.d) (m:=(sumOf T n).fst.d) rfl (show ((convOf T n).fst.d)=((sumOf T n).fst.d) from (by (unfold sumOf;rw [if_pos (by omega)]))))) .nil))))) (.cons (Weak.int (show (((convOf T n).snd):Int)=((sumOf T n).snd) from (by (unfold sumOf;rw [if_pos (by omega)])))) .nil)))
 ·have gc0:¬n.kd=1:=bef hc0
  rcases bft (n.kd==2) with hc1 | hc1
  ·have gc1:n.kd=2:=bet hc1
   have oz2 := @rdOf_v (T) (n) ok okn
   exact (VC.run (fn:=Tryz.f86) (W:=[.r [] [],.r [] [],.br false,.r [] [],.br true,.r [] [.callr (rO oz2)]]) (r:=AV.tup [AV.agg [i64 (depthOf T n).fst.h,i64 (depthOf T n).fst.x,i64 (depthOf T n).fst.c,AV.sl 1 (List.map (row1 IntKind.i32) (depthOf T n).fst.d)],i64 (depthOf T n).snd]) Tryz.func86 (by kernel_rfl) (.c hc0<|.c hc1<|.c oz2<|.n)).weak (WeakL.refl _) (Weak.tup (.cons (Weak.agg (.cons (Weak.int (show (((depthOf T n).fst.h):Int)=((sumOf T n).fst.h) from (by (unfold sumOf;rw [if_neg (by omega),if_pos (by omega)])))) (.cons (Weak.int (show (((depthOf T n).fst.x):Int)=((sumOf T n).fst.x) from (by (unfold sumOf;rw [if_neg (by omega),if_pos (by omega)])))) (.cons (Weak.int (show (((depthOf T n).fst.c):Int)=((sumOf T n).fst.c) from (by (unfold sumOf;rw [if_neg (by omega),if_pos (by omega)])))) (.cons (Weak.rows (rows_to (row1 IntKind.i32) (r:=List.map (row1 IntKind.i32) (depthOf T n).fst.d) (l:=(depthOf T n).fst.d) (m:=(sumOf T n).fst.d) rfl (show ((depthOf T n).fst.d)=((sumOf T n).fst.d) from (by (unfold sumOf;rw [if_neg (by omega),if_pos (by omega)]))))) .nil))))) (.cons (Weak.int (show (((depthOf T n).snd):Int)=((sumOf T n).snd) from (by (unfold sumOf;rw [if_neg (by omega),if_pos (by omega)])))) .nil)))
  ·have gc1:¬n.kd=2:=bef hc1
   rcases bft (n.kd==3) with hc2 | hc2
   ·have gc2:n.kd=3:=bet hc2
    have oz3 := @dense_v (T) (n) ok okn
    exact (VC.run (fn:=Tryz.f86) (W:=[.r [] [],.r [] [],.br false,.r [] [],.br false,.r [] [],.br true,.r [] [.callr (rO oz3)]]) (r:=AV.tup [AV.agg [i64 (denseOf T n).fst.h,i64 (denseOf T n).fst.x,i64 (denseOf T n).fst.c,AV.sl 1 (List.map (row1 IntKind.i32) (denseOf T n).fst.d)],i64 (denseOf T n).snd]) Tryz.func86 (by kernel_rfl) (.c hc0<|.c hc1<|.c hc2<|.c oz3<|.n)).weak (WeakL.refl _) (Weak.tup (.cons (Weak.agg (.cons (Weak.int (show (((denseOf T n).fst.h):Int)=((sumOf T n).fst.h) from (by (unfold sumOf;rw [if_neg (by omega),if_neg (by omega),if_pos (by omega)])))) (.cons (Weak.int (show (((denseOf T n).fst.x):Int)=((sumOf T n).fst.x) from (by (unfold sumOf;rw [if_neg (by omega),if_neg (by omega),if_pos (by omega)])))) (.cons (Weak.int (show (((denseOf T n).fst.c):Int)=((sumOf T n).fst.c) from (by (unfold sumOf;rw [if_neg (by omega),if_neg (by omega),if_pos (by omega)])))) (.cons (Weak.rows (rows_to (row1 IntKind.i32) (r:=List.map (row1 IntKind.i32) (denseOf T n).fst.d) (l:=(denseOf T n).fst.d) (m:=(sumOf T n).fst.d) rfl (show ((denseOf T n).fst.d)=((sumOf T n).fst.d) from (by (unfold sumOf;rw [if_neg (by omega),if_neg (by omega),if_pos (by omega)]))))) .nil))))) (.cons (Weak.int (show (((denseOf T n).snd):Int)=((sumOf T n).snd) from (by (unfold sumOf;rw [if_neg (by omega),if_neg (by omega),if_pos (by omega)])))) .nil)))
   ·have gc2:¬n.kd=3:=bef hc2
    exact (VC.run (fn:=Tryz.f86) (W:=[.r [] [],.r [] [],.br false,.r [] [],.br false,.r [] [],.br false,.r [] []]) (r:=AV.tup [AV.agg [i64 0,i64 0,i64 0,AV.lit (Value.slice none 0 0)],i64 6]) Tryz.func86 (by kernel_rfl) (.c hc0<|.c hc1<|.c hc2<|.n)).weak (WeakL.refl _) (Weak.tup (.cons (Weak.agg (.cons (Weak.int (show ((0):Int)=((sumOf T n).fst.h) from (by (unfold sumOf;rw [if_neg (by omega),if_neg (by omega),if_neg (by omega)])))) (.cons (Weak.int (show ((0):Int)=((sumOf T n).fst.x) from (by (unfold sumOf;rw [if_neg (by omega),if_neg (by omega),if_neg (by omega)])))) (.cons (Weak.int (show ((0):Int)=((sumOf T n).fst.c) from (by (unfold sumOf;rw [if_neg (by omega),if_neg (by omega),if_neg (by omega)])))) (.cons (Weak.nilr (show []=(List.map (row1 IntKind.i32) (sumOf T n).fst.d) from (by (unfold sumOf;rw [if_neg (by omega),if_neg (by omega),if_neg (by omega)];rfl)))) .nil))))) (.cons (Weak.int (show ((6):Int)=((sumOf T n).snd) from (by (unfold sumOf;rw [if_neg (by omega),if_neg (by omega),if_neg (by omega)])))) .nil)))
theorem map_take {α β:Type} (f:α→β) (l:List α) (d:α) {k:Nat} (hk:k<l.length):(l.take (k+1)).map f=(l.take k).map f++[f (l.getD k d)]:=by
 rw [List.take_add_one,List.getD_eq_getElem?_getD,List.getElem?_eq_getElem hk];simp only [Option.toList_some,List.map_append,List.map_cons,List.map_nil,Option.getD_some]
def actOf (T:Ten) (n:Nod):Ten×Int:=if tenRight T=false then (ten0,5) else if rightQ n.qm n.qs=false then (ten0,7) else (⟨T.h,T.x,T.c,T.d.map fun v=>oneN v n⟩,0)
noncomputable def ract_l_I (T:Ten) (n:Nod) (k:Nat):VS:=stt 40 [(2,.ptr 2 0 0),(3,.ptr 3 0 0),(4,.ptr 4 0 0),(6,.ptr 6 0 0),(7,i64 k)] [(2,.var [i64 T.h,i64 T.x,i64 T.c,ints .i8 T.d]),(3,.var (nodC n)),(4,.var [i64 0,i64 0,i64 0,nilv]),(6,.var [i64 T.h,i64 T.x,i64 T.c,.own 900]),(900,.slc 38 1 (((T.d.take k).map fun v=>oneN v n).map (row1 .i8)))]
noncomputable def ract_l_Z (T:Ten) (n:Nod):VS:=ract_l_I T n (T.d.length)
theorem ract_l_s (T:Ten) (n:Nod) (ok:T.Ok) (okn:n.Ok) (hl:T.d.length≤1024) (k:Nat) (hk:k<T.d.length):VT Tryz.prog (fnC Tryz.f83 [1,1,1,1,0,1,0,0]) (ract_l_I T n k) .normal (ract_l_I T n (k+1)):=by
 have g1:=gt8 ok.d k
 have g2:=map_take (fun v=>oneN v n) T.d 0 hk
 have g3:(List.map (row1 .i8) ((T.d.take k).map fun v=>oneN v n)).length=k:=by rw [List.length_map,List.length_map,List.length_take];omega
 have oz3 := @refActOne_v (T.d.getD k 0) (n) okn g1
 exact VT.run (W:=[.r [] [],.br true,.r [] [.row [i8 (T.d.getD k 0)],.callr (rO oz3)],.r [] [.n ((↑k:Int)+1)]]) (G:=[.any (rg [(20,19)]),.drop [36],.ren 37 900,.weak 7 (i64 (↑(k+1):Int)),.blk 900 (Blk.slc 38 1 (List.map (row1 IntKind.i8) (List.map (fun (v:Int)=>oneN v n) (List.take (k+1) T.d)))),.sort]) (by kernel_rfl) (.c (show decide ((↑k:Int)<(↑(List.map (row1 IntKind.i8) T.d).length:Int))=true by (simp;omega))<|.c (show 0≤(↑k:Int) by omega)<|.c (map_at (row1 IntKind.i8) (0) (l:=T.d) (i:=k) hk)<|.c oz3<|.c (show ((List.map (row1 IntKind.i8) (List.map (fun (v:Int)=>oneN v n) (List.take k T.d))).length+1)*1≤140737488355328 by omega)<|.c (show (List.map (row1 IntKind.i8) (List.map (fun (v:Int)=>oneN v n) (List.take k T.d))).length+1≤9223372036854775807 by omega)<|.c (i6n ((↑k:Int)+1) (by omega))<|.c (Weak.int (k:=.i64) (show (((↑k:Int)+1):Int)=((↑(k+1):Int)) from (by omega)))<|.c (show BlkW (Blk.slc 38 1 (List.map (row1 IntKind.i8) (List.map (fun (v:Int)=>oneN v n) (List.take k T.d))++[[i8 (oneN (T.d.getD k 0) n)]])) (Blk.slc 38 1 (List.map (row1 IntKind.i8) (List.map (fun (v:Int)=>oneN v n) (List.take (k+1) T.d)))) from (BlkW.rows (rows_to (row1 IntKind.i8) (r:=List.map (row1 IntKind.i8) (List.map (fun (v:Int)=>oneN v n) (List.take k T.d))++[[i8 (oneN (T.d.getD k 0) n)]]) (l:=List.map (fun (v:Int)=>oneN v n) (List.take k T.d)++[oneN (T.d.getD k 0) n]) (m:=List.map (fun (v:Int)=>oneN v n) (List.take (k+1) T.d)) (by first | (simp only [List.map_append,List.map_cons,List.map_nil,List.map_set,List.map_replicate,List.map_take,List.map_drop];done) | rfl | (simp only [List.map_append,List.map_cons,List.map_nil,List.map_set,List.map_replicate,List.map_take,List.map_drop];rfl)) (show (List.map (fun (v:Int)=>oneN v n) (List.take k T.d)++[oneN (T.d.getD k 0) n])=(List.map (fun (v:Int)=>oneN v n) (List.take (k+1) T.d)) from (by (rw [g2]))))))<|.n)
theorem ract_l_e (T:Ten) (n:Nod) (ok:T.Ok) (okn:n.Ok) (hl:T.d.length≤1024):VT Tryz.prog (fnC Tryz.f83 [1,1,1,1,0,1,0,0]) (ract_l_I T n (T.d.length)) (.exit 0) (ract_l_Z T n):=by
 exact VT.run (W:=[.r [] [],.br false]) (G:=[.any (rg [(20,5)]),.sort]) (by kernel_rfl) (.c (show decide ((↑T.d.length:Int)<(↑(List.map (row1 IntKind.i8) T.d).length:Int))=false by (simp;done))<|.n)
theorem ract_l (T:Ten) (n:Nod) (ok:T.Ok) (okn:n.Ok) (hl:T.d.length≤1024):VT Tryz.prog (fnC Tryz.f83 [1,1,1,1,0,1,0]) (ract_l_I T n 0) (.exit 0) (ract_l_Z T n) :=
 VT.loop (fun k=>ract_l_I T n k) (T.d.length) (fun k hk=>ract_l_s T n ok okn hl k hk) (ract_l_e T n ok okn hl) (by intro h;cases h)
theorem ract_v (T:Ten) (n:Nod) (ok:T.Ok) (okn:n.Ok):VC Tryz.prog 83 ([ten .i8 T,nod n]) (.tup [ten .i8 (actOf T n).1,i64 (actOf T n).2]):=by
 have g1 := @tenRight.rt T
 have g2:=fun h=>(g1 h).dl
 have g3:=fun h=>(g1 h).el
 have gk:(!tenRight T)=false→T.d.length≤1024:=fun h=>by
  have h1:tenRight T=true:=by cases e:tenRight T with
   | true=>rfl
   | false=>rw [e] at h;cases h
  have:=g2 h1;have:=g3 h1;omega
 have oz0 := @refTRight_v (T) ok
 rcases bft (!tenRight T) with hc0 | hc0
 ·have gc0:tenRight T=false:=by first | exact hc0 | exact of_decide_eq_true hc0 | exact of_decide_eq_false hc0 | simpa [eqNums] using hc0 | (simp [eqNums] at hc0 ⊢;first | done | assumption | omega)
  exact (VC.run (fn:=Tryz.f83) (W:=[.r [] [],.r [] [.callr (rO oz0)],.br true,.r [] []]) (r:=AV.tup [AV.agg [i64 0,i64 0,i64 0,AV.lit (Value.slice none 0 0)],i64 5]) Tryz.func83 (by kernel_rfl) (.c oz0<|.c hc0<|.n)).weak (WeakL.refl _) (Weak.tup (.cons (Weak.agg (.cons (Weak.int (show ((0):Int)=((actOf T n).fst.h) from (by (simp only [actOf];rw [if_pos (by simp_all)];first | done | rfl)))) (.cons (Weak.int (show ((0):Int)=((actOf T n).fst.x) from (by (simp only [actOf];rw [if_pos (by simp_all)];first | done | rfl)))) (.cons (Weak.int (show ((0):Int)=((actOf T n).fst.c) from (by (simp only [actOf];rw [if_pos (by simp_all)];first | done | rfl)))) (.cons (Weak.nilr (show []=(List.map (row1 IntKind.i8) (actOf T n).fst.d) from (by (simp only [actOf];rw [if_pos (by simp_all)];first | done | rfl)))) .nil))))) (.cons (Weak.int (show ((5):Int)=((actOf T n).snd) from (by (simp only [actOf];rw [if_pos (by simp_all)];first | done | rfl)))) .nil)))
 ·have gc0:tenRight T=true:=by first | exact hc0 | exact of_decide_eq_true hc0 | exact of_decide_eq_false hc0 | simpa [eqNums] using hc0 | (simp [eqNums] at hc0 ⊢;first | done | assumption | omega)
  have oz2 := @refRight_v (n.qm) (n.qs) (n.qz)
  rcases bft (!rightQ n.qm n.qs) with hc1 | hc1
  ·have gc1:rightQ n.qm n.qs=false:=by first | exact hc1 | exact of_decide_eq_true hc1 | exact of_decide_eq_false hc1 | simpa [eqNums] using hc1 | (simp [eqNums] at hc1 ⊢;first | done | assumption | omega)
   exact (VC.run (fn:=Tryz.f83) (W:=[.r [] [],.r [] [.callr (rO oz0)],.br false,.r [] [.callr (rO oz2)],.br true,.r [] []]) (r:=AV.tup [AV.agg [i64 0,i64 0,i64 0,AV.lit (Value.slice none 0 0)],i64 7]) Tryz.func83 (by kernel_rfl) (.c oz0<|.c hc0<|.c oz2<|.c hc1<|.n)).weak (WeakL.refl _) (Weak.tup (.cons (Weak.agg (.cons (Weak.int (show ((0):Int)=((actOf T n).fst.h) from (by (simp only [actOf];rw [if_neg (by simp_all),if_pos (by simp_all)];first | done | rfl)))) (.cons (Weak.int (show ((0):Int)=((actOf T n).fst.x) from (by (simp only [actOf];rw [if_neg (by simp_all),if_pos (by simp_all)];first | done | rfl)))) (.cons (Weak.int (show ((0):Int)=((actOf T n).fst.c) from (by (simp only [actOf];rw [if_neg (by simp_all),if_pos (by simp_all)];first | done | rfl)))) (.cons (Weak.nilr (show []=(List.map (row1 IntKind.i8) (actOf T n).fst.d) from (by (simp only [actOf];rw [if_neg (by simp_all),if_pos (by simp_all)];first | done | rfl)))) .nil))))) (.cons (Weak.int (show ((7):Int)=((actOf T n).snd) from (by (simp only [actOf];rw [if_neg (by simp_all),if_pos (by simp_all)];first | done | rfl)))) .nil)))
  ·have gc1:rightQ n.qm n.qs=true:=by first | exact hc1 | exact of_decide_eq_true hc1 | exact of_decide_eq_false hc1 | simpa [eqNums] using hc1 | (simp [eqNums] at hc1 ⊢;first | done | assumption | omega)
   have oz5 := @ract_l (T) (n) ok okn (by (exact gk (by assumption)))
   exact (VC.run (fn:=Tryz.f83) (W:=[.r [] [],.r [] [.callr (rO oz0)],.br false,.r [] [.callr (rO oz2)],.br false,.r [] [],.r [] [],.code [.any [0,1,5,8,9,10,12,13,14,15,17,18,19],.weak 7 (i64 (↑0:Int)),.nilc 900 38 1 6 3,.sort] (Exit.exit 0) (zO oz5),.r [] []]) (r:=AV.tup [AV.agg [i64 T.h,i64 T.x,i64 T.c,AV.sl 1 (List.map (row1 IntKind.i8) (List.map (fun (v:Int)=>oneN v n) (List.take T.d.length T.d)))],i64 0]) Tryz.func83 (by kernel_rfl) (.c oz0<|.c hc0<|.c oz2<|.c hc1<|.c (Weak.int (k:=.i64) (show ((0):Int)=((↑0:Int)) from (by omega)))<|.c oz5<|.n)).weak (WeakL.refl _) (Weak.tup (.cons (Weak.agg (.cons (Weak.int (show ((T.h):Int)=((actOf T n).fst.h) from (by (simp only [actOf];rw [if_neg (by simp_all),if_neg (by simp_all)];first | done | rfl)))) (.cons (Weak.int (show ((T.x):Int)=((actOf T n).fst.x) from (by (simp only [actOf];rw [if_neg (by simp_all),if_neg (by simp_all)];first | done | rfl)))) (.cons (Weak.int (show ((T.c):Int)=((actOf T n).fst.c) from (by (simp only [actOf];rw [if_neg (by simp_all),if_neg (by simp_all)];first | done | rfl)))) (.cons (Weak.rows (rows_to (row1 IntKind.i8) (r:=List.map (row1 IntKind.i8) (List.map (fun (v:Int)=>oneN v n) (List.take T.d.length T.d))) (l:=List.map (fun (v:Int)=>oneN v n) (List.take T.d.length T.d)) (m:=(actOf T n).fst.d) rfl (show (List.map (fun (v:Int)=>oneN v n) (List.take T.d.length T.d))=((actOf T n).fst.d) from (by (simp only [actOf];rw [if_neg (by simp_all),if_neg (by simp_all),List.take_length]))))) .nil))))) (.cons (Weak.int (show ((0):Int)=((actOf T n).snd) from (by (simp only [actOf];rw [if_neg (by simp_all),if_neg (by simp_all)];first | done | rfl)))) .nil)))
def heldN (n:Nod) (v:Int):Int:=heldQ v n.qm n.qs n.qz n.lo n.hi
noncomputable def rall_l_I (l:List Int) (n:Nod) (k:Nat):VS:=stt 33 [(0,ints .i32 l),(2,i8 n.lo),(3,i8 n.hi),(5,.ptr 5 0 0),(9,.own 900),(10,i64 k)] [(5,.var [i32 n.qm,i64 n.qs,i8 n.qz]),(900,.slc 38 1 (((l.take k).map (heldN n)).map (row1 .i8)))]
noncomputable def rall_l_Z (l:List Int) (n:Nod):VS:=rall_l_I l n (l.length)
theorem rall_l_s (l:List Int) (n:Nod) (ok:n.Ok) (hl:l.length≤1024) (hd:∀ v∈l,In32 v) (hq:rightQ n.qm n.qs=true) (k:Nat) (hk:k<l.length):VT Tryz.prog (fnC Tryz.f151 [1,1,0,1,0,0]) (rall_l_I l n k) .normal (rall_l_I l n (k+1)):=by
 have g1:=gt32 hd k
 have g2:=map_take (heldN n) l 0 hk
 have g3:(List.map (row1 .i8) ((l.take k).map (heldN n))).length=k:=by rw [List.length_map,List.length_map,List.length_take];omega
 have g4:(List.map (row1 .i32) l).length=l.length:=List.length_map _
 have ok_qm:=ok.qm
 have ok_qz:=ok.qz
 have ok_lo:=ok.lo
 have ok_hi:=ok.hi
 have oz0:=(decide_eq_true (p:=((↑k:Int)<(↑(List.map (row1 IntKind.i32) l).length:Int))) (by omega))
 have oz2 := @refRight_v (n.qm) (n.qs) (n.qz)
 have oz7 := @refHeld_v (l.getD k 0) (n.qm) (n.qs) (n.qz) (n.lo) (n.hi) g1 ok_qm ok_qz ok_lo ok_hi
 exact VT.run (W:=[.r [] [.br true,.br true,.callr (rO oz2),.br true],.br true,.r [] [.row [i32 (l.getD k 0)],.callr (rO oz7)],.r [] [.n ((↑k:Int)+1)]]) (G:=[.any (rg [(11,21)]),.drop [30],.ren 31 900,.weak 10 (i64 (↑(k+1):Int)),.blk 900 (Blk.slc 38 1 (List.map (row1 IntKind.i8) (List.map (heldN n) (List.take (k+1) l)))),.sort]) (by kernel_rfl) (.c oz0<|.c oz0<|.c oz2<|.c oz0<|.c hq<|.c (show 0≤(↑k:Int) by omega)<|.c (map_at (row1 IntKind.i32) (0) (l:=l) (i:=k) hk)<|.c oz7<|.c (show ((List.map (row1 IntKind.i8) (List.map (heldN n) (List.take k l))).length+1)*1≤140737488355328 by omega)<|.c (show (List.map (row1 IntKind.i8) (List.map (heldN n) (List.take k l))).length+1≤9223372036854775807 by omega)<|.c (i6n ((↑k:Int)+1) (by omega))<|.c (Weak.int (k:=.i64) (show (((↑k:Int)+1):Int)=((↑(k+1):Int)) from (by omega)))<|.c (show BlkW (Blk.slc 38 1 (List.map (row1 IntKind.i8) (List.map (heldN n) (List.take k l))++[[i8 (heldQ (l.getD k 0) n.qm n.qs n.qz n.lo n.hi)]])) (Blk.slc 38 1 (List.map (row1 IntKind.i8) (List.map (heldN n) (List.take (k+1) l)))) from (BlkW.rows (rows_to (row1 IntKind.i8) (r:=List.map (row1 IntKind.i8) (List.map (heldN n) (List.take k l))++[[i8 (heldQ (l.getD k 0) n.qm n.qs n.qz n.lo n.hi)]]) (l:=List.map (heldN n) (List.take k l)++[heldQ (l.getD k 0) n.qm n.qs n.qz n.lo n.hi]) (m:=List.map (heldN n) (List.take (k+1) l)) (by first | (simp only [List.map_append,List.map_cons,List.map_nil,List.map_set,List.map_replicate,List.map_take,List.map_drop];done) | rfl | (simp only [List.map_append,List.map_cons,List.map_nil,List.map_set,List.map_replicate,List.map_take,List.map_drop];rfl)) (show (List.map (heldN n) (List.take k l)++[heldQ (l.getD k 0) n.qm n.qs n.qz n.lo n.hi])=(List.map (heldN n) (List.take (k+1) l)) from (by (rw [g2];rfl))))))<|.n)
theorem rall_l_e (l:List Int) (n:Nod) (ok:n.Ok) (hl:l.length≤1024) (hd:∀ v∈l,In32 v) (hq:rightQ n.qm n.qs=true):VT Tryz.prog (fnC Tryz.f151 [1,1,0,1,0,0]) (rall_l_I l n (l.length)) (.exit 0) (rall_l_Z l n):=by
 have g4:(List.map (row1 .i32) l).length=l.length:=List.length_map _
 have oz0:=(show decide ((↑l.length:Int)<(↑(List.map (row1 IntKind.i32) l).length:Int)) = !true by (refine decide_eq_false ?_;omega))
 exact VT.run (W:=[.r [] [.br false,.br false,.br false],.br false]) (G:=[.any (rg [(11,8)]),.sort]) (by kernel_rfl) (.c oz0<|.c oz0<|.c (decide_eq_false (p:=((↑l.length:Int)<(↑(List.map (row1 IntKind.i32) l).length:Int))) (by omega))<|.c (show false=false by with_reducible rfl)<|.n)
theorem rall_l (l:List Int) (n:Nod) (ok:n.Ok) (hl:l.length≤1024) (hd:∀ v∈l,In32 v) (hq:rightQ n.qm n.qs=true):VT Tryz.prog (fnC Tryz.f151 [1,1,0,1,0]) (rall_l_I l n 0) (.exit 0) (rall_l_Z l n) :=
 VT.loop (fun k=>rall_l_I l n k) (l.length) (fun k hk=>rall_l_s l n ok hl hd hq k hk) (rall_l_e l n ok hl hd hq) (by intro h;cases h)
theorem rall_v (l:List Int) (n:Nod) (ok:n.Ok) (hl:l.length≤1024) (hd:∀ v∈l,In32 v) (hq:rightQ n.qm n.qs=true):VC Tryz.prog 151 ([ints .i32 l,.agg [i32 n.qm,i64 n.qs,i8 n.qz],i8 n.lo,i8 n.hi]) (ints .i8 (l.map (heldN n))):=by
 have oz1 := @rall_l (l) (n) ok hl hd hq
 exact (VC.run (fn:=Tryz.f151) (W:=[.r [] [],.r [] [],.r [] [],.code [.any [1,8],.weak 10 (i64 (↑0:Int)),.nils 9 900 38 1,.sort] (Exit.exit 0) (zO oz1),.r [] []]) (r:=AV.sl 1 (List.map (row1 IntKind.i8) (List.map (heldN n) (List.take l.length l)))) Tryz.func151 (by kernel_rfl) (.c (Weak.int (k:=.i64) (show ((0):Int)=((↑0:Int)) from (by omega)))<|.c oz1<|.n)).weak (WeakL.refl _) (Weak.rows (rows_to (row1 IntKind.i8) (r:=List.map (row1 IntKind.i8) (List.map (heldN n) (List.take l.length l))) (l:=List.map (heldN n) (List.take l.length l)) (m:=List.map (heldN n) l) rfl (show (List.map (heldN n) (List.take l.length l))=(List.map (heldN n) l) from (by (simp;done)))))
def putOf (A:Ten) (n:Nod):Ten×Int:=if elems A.h A.x A.c=0∨elems A.h A.x A.c≠(A.d.length:Int) then (ten0,5) else if rightQ n.qm n.qs=false then (ten0,7) else (⟨A.h,A.x,A.c,A.d.map (heldN n)⟩,0)
structure Ten.Ok32 (T:Ten):Prop where
 h:In64 T.h
 x:In64 T.x
 c:In64 T.c
 d:∀ v∈T.d,In32 v
theorem rput_v (A:Ten) (n:Nod) (ok:A.Ok32) (okn:n.Ok):VC Tryz.prog 87 ([ten .i32 A,nod n]) (.tup [ten .i8 (putOf A n).1,i64 (putOf A n).2]):=by
 obtain ⟨oh,ox,oc,g2⟩:=id ok
 have g1:=elems_in A.h A.x A.c
 have g3:(List.map (row1 .i32) A.d).length=A.d.length:=List.length_map _
 have gk:(elems A.h A.x A.c==0 || elems A.h A.x A.c != ((List.map (row1 .i32) A.d).length:Int))=false→A.d.length≤1024:=fun h=>by
  simp only [Bool.or_eq_false_iff,bne_eq_false_iff_eq] at h;omega
 have oz0 := @refElems_v (A.h) (A.x) (A.c) oh ox oc
 rcases bft (elems A.h A.x A.c==0 || elems A.h A.x A.c != (↑(List.map (row1 IntKind.i32) A.d).length:Int)) with hc0 | hc0
 ·have gc0:elems A.h A.x A.c=0∨¬elems A.h A.x A.c=(↑(List.map (row1 IntKind.i32) A.d).length:Int):=by first | (simp only [Bool.or_eq_true,Bool.or_eq_false_iff,Bool.and_eq_true,Bool.and_eq_false_iff,Bool.not_eq_true',Bool.not_eq_false',decide_eq_true_eq,decide_eq_false_iff_not,beq_iff_eq,bne_iff_ne,ne_eq,beq_eq_false_iff_ne,bne_eq_false_iff_eq,eqNums,Bool.and_true] at hc0;first | exact hc0 | omega) | simpa using hc0 | (simp at hc0 ⊢;omega) | (apply cbc;intro hn;simp_all [eqNums];done) | (apply cbc;intro hn;simp [eqNums] at hc0 hn;omega)
  exact (VC.run (fn:=Tryz.f87) (W:=[.r [] [],.r [] [.callr (rO oz0),.op false,.op false,.op false,.callr (rO oz0),.op false,.op false,.op false,.op false,.sel 1],.br true,.r [] []]) (r:=AV.tup [AV.agg [i64 0,i64 0,i64 0,AV.lit (Value.slice none 0 0)],i64 5]) Tryz.func87 (by kernel_rfl) (.c oz0<|.c oz0<|.c hc0<|.n)).weak (WeakL.refl _) (Weak.tup (.cons (Weak.agg (.cons (Weak.int (show ((0):Int)=((putOf A n).fst.h) from (by (simp only [putOf];rw [if_pos (by simp_all)];first | done | rfl)))) (.cons (Weak.int (show ((0):Int)=((putOf A n).fst.x) from (by (simp only [putOf];rw [if_pos (by simp_all)];first | done | rfl)))) (.cons (Weak.int (show ((0):Int)=((putOf A n).fst.c) from (by (simp only [putOf];rw [if_pos (by simp_all)];first | done | rfl)))) (.cons (Weak.nilr (show []=(List.map (row1 IntKind.i8) (putOf A n).fst.d) from (by (simp only [putOf];rw [if_pos (by simp_all)];first | done | rfl)))) .nil))))) (.cons (Weak.int (show ((5):Int)=((putOf A n).snd) from (by (simp only [putOf];rw [if_pos (by simp_all)];first | done | rfl)))) .nil)))
 ·have gc0:¬elems A.h A.x A.c=0∧elems A.h A.x A.c=(↑(List.map (row1 IntKind.i32) A.d).length:Int):=by first | (simp only [Bool.or_eq_true,Bool.or_eq_false_iff,Bool.and_eq_true,Bool.and_eq_false_iff,Bool.not_eq_true',Bool.not_eq_false',decide_eq_true_eq,decide_eq_false_iff_not,beq_iff_eq,bne_iff_ne,ne_eq,beq_eq_false_iff_ne,bne_eq_false_iff_eq,eqNums,Bool.and_true] at hc0;first | exact hc0 | omega) | simpa using hc0 | (simp at hc0 ⊢;omega) | (apply cbc;intro hn;simp_all [eqNums];done) | (apply cbc;intro hn;simp [eqNums] at hc0 hn;omega)
  have oz3 := @refRight_v (n.qm) (n.qs) (n.qz)
  rcases bft (!rightQ n.qm n.qs) with hc1 | hc1
  ·have gc1:rightQ n.qm n.qs=false:=by first | exact hc1 | exact of_decide_eq_true hc1 | exact of_decide_eq_false hc1 | simpa [eqNums] using hc1 | (simp [eqNums] at hc1 ⊢;first | done | assumption | omega)
   exact (VC.run (fn:=Tryz.f87) (W:=[.r [] [],.r [] [.callr (rO oz0),.op false,.op false,.op false,.callr (rO oz0),.op false,.op false,.op false,.op false,.sel 1],.br false,.r [] [.callr (rO oz3)],.br true,.r [] []]) (r:=AV.tup [AV.agg [i64 0,i64 0,i64 0,AV.lit (Value.slice none 0 0)],i64 7]) Tryz.func87 (by kernel_rfl) (.c oz0<|.c oz0<|.c hc0<|.c oz3<|.c hc1<|.n)).weak (WeakL.refl _) (Weak.tup (.cons (Weak.agg (.cons (Weak.int (show ((0):Int)=((putOf A n).fst.h) from (by (simp only [putOf];rw [if_neg (by simp_all),if_pos (by simp_all)];first | done | rfl)))) (.cons (Weak.int (show ((0):Int)=((putOf A n).fst.x) from (by (simp only [putOf];rw [if_neg (by simp_all),if_pos (by simp_all)];first | done | rfl)))) (.cons (Weak.int (show ((0):Int)=((putOf A n).fst.c) from (by (simp only [putOf];rw [if_neg (by simp_all),if_pos (by simp_all)];first | done | rfl)))) (.cons (Weak.nilr (show []=(List.map (row1 IntKind.i8) (putOf A n).fst.d) from (by (simp only [putOf];rw [if_neg (by simp_all),if_pos (by simp_all)];first | done | rfl)))) .nil))))) (.cons (Weak.int (show ((7):Int)=((putOf A n).snd) from (by (simp only [putOf];rw [if_neg (by simp_all),if_pos (by simp_all)];first | done | rfl)))) .nil)))
  ·have gc1:rightQ n.qm n.qs=true:=by first | exact hc1 | exact of_decide_eq_true hc1 | exact of_decide_eq_false hc1 | simpa [eqNums] using hc1 | (simp [eqNums] at hc1 ⊢;first | done | assumption | omega)
   have oz5 := @rall_v (A.d) (n) okn (by omega) g2 gc1
   exact (VC.run (fn:=Tryz.f87) (W:=[.r [] [],.r [] [.callr (rO oz0),.op false,.op false,.op false,.callr (rO oz0),.op false,.op false,.op false,.op false,.sel 1],.br false,.r [] [.callr (rO oz3)],.br false,.r [] [.callr (rO oz5)]]) (r:=AV.tup [AV.agg [i64 A.h,i64 A.x,i64 A.c,AV.sl 1 (List.map (row1 IntKind.i8) (List.map (heldN n) A.d))],i64 0]) Tryz.func87 (by kernel_rfl) (.c oz0<|.c oz0<|.c hc0<|.c oz3<|.c hc1<|.c oz5<|.n)).weak (WeakL.refl _) (Weak.tup (.cons (Weak.agg (.cons (Weak.int (show ((A.h):Int)=((putOf A n).fst.h) from (by (simp only [putOf];rw [if_neg (by simp_all),if_neg (by simp_all)];first | done | rfl)))) (.cons (Weak.int (show ((A.x):Int)=((putOf A n).fst.x) from (by (simp only [putOf];rw [if_neg (by simp_all),if_neg (by simp_all)];first | done | rfl)))) (.cons (Weak.int (show ((A.c):Int)=((putOf A n).fst.c) from (by (simp only [putOf];rw [if_neg (by simp_all),if_neg (by simp_all)];first | done | rfl)))) (.cons (Weak.rows (rows_to (row1 IntKind.i8) (r:=List.map (row1 IntKind.i8) (List.map (heldN n) A.d)) (l:=List.map (heldN n) A.d) (m:=(putOf A n).fst.d) rfl (show (List.map (heldN n) A.d)=((putOf A n).fst.d) from (by (simp only [putOf];rw [if_neg (by simp_all),if_neg (by simp_all)];first | done | rfl))))) .nil))))) (.cons (Weak.int (show ((0):Int)=((putOf A n).snd) from (by (simp only [putOf];rw [if_neg (by simp_all),if_neg (by simp_all)];first | done | rfl)))) .nil)))
def joinOf (T U:Ten) (n:Nod):Ten×Int:=if (tenRight T&&tenRight U&&decide (T.h=U.h∧T.x=U.x∧T.c=U.c))=false then (ten0,5) else if (rightQ n.qm n.qs&&rightQ n.rm n.rs)=false then (ten0,7) else (⟨T.h,T.x,T.c,(List.range T.d.length).map fun i=>joinE (T.d.getD i 0) (U.d.getD i 0) n⟩,0)
noncomputable def rjoin_l_I (T U:Ten) (n:Nod) (k:Nat):VS:=stt 65 [(3,.ptr 3 0 0),(4,.ptr 4 0 0),(5,.ptr 5 0 0),(6,.ptr 6 0 0),(8,.ptr 8 0 0),(9,i64 k)] [(3,.var [i64 T.h,i64 T.x,i64 T.c,ints .i8 T.d]),(4,.var [i64 U.h,i64 U.x,i64 U.c,ints .i8 U.d]),(5,.var (nodC n)),(6,.var [i64 0,i64 0,i64 0,nilv]),(8,.var [i64 T.h,i64 T.x,i64 T.c,.own 900]),(900,.slc 38 1 (((List.range k).map fun i=>joinE (T.d.getD i 0) (U.d.getD i 0) n).map (row1 .i8)))]
noncomputable def rjoin_l_Z (T U:Ten) (n:Nod):VS:=rjoin_l_I T U n (T.d.length)
theorem rjoin_l_s (T U:Ten) (n:Nod) (ok:T.Ok) (oku:U.Ok) (okn:n.Ok) (hl:T.d.length≤1024) (hu:U.d.length=T.d.length) (k:Nat) (hk:k<T.d.length):VT Tryz.prog (fnC Tryz.f82 [1,1,1,1,0,1,0,0]) (rjoin_l_I T U n k) .normal (rjoin_l_I T U n (k+1)):=by
 have g1:=gt8 ok.d k
 have g2:=gt8 oku.d k
 have g3:(List.map (row1 .i8) ((List.range k).map fun i=>joinE (T.d.getD i 0) (U.d.getD i 0) n)).length=k:=by rw [List.length_map,List.length_map,List.length_range]
 have oz1:=(show 0≤(↑k:Int) by omega)
 have oz5 := @refJoinOne_v (T.d.getD k 0) (U.d.getD k 0) (n) okn g1 g2
 exact VT.run (W:=[.r [] [],.br true,.r [] [.row [i8 (T.d.getD k 0)],.row [i8 (U.d.getD k 0)],.callr (rO oz5)],.r [] [.n ((↑k:Int)+1)]]) (G:=[.any (rg [(40,24)]),.drop [61],.ren 62 900,.weak 9 (i64 (↑(k+1):Int)),.blk 900 (Blk.slc 38 1 (List.map (row1 IntKind.i8) (List.map (fun (i:Nat)=>joinE (T.d.getD i 0) (U.d.getD i 0) n) (List.range (k+1))))),.sort]) (by kernel_rfl) (.c (show decide ((↑k:Int)<(↑(List.map (row1 IntKind.i8) T.d).length:Int))=true by (simp;omega))<|.c oz1<|.c (map_at (row1 IntKind.i8) (0) (l:=T.d) (i:=k) hk)<|.c oz1<|.c (map_at (row1 IntKind.i8) (0) (l:=U.d) (i:=k) (by omega))<|.c oz5<|.c (show ((List.map (row1 IntKind.i8) (List.map (fun (i:Nat)=>joinE (T.d.getD i 0) (U.d.getD i 0) n) (List.range k))).length+1)*1≤140737488355328 by omega)<|.c (show (List.map (row1 IntKind.i8) (List.map (fun (i:Nat)=>joinE (T.d.getD i 0) (U.d.getD i 0) n) (List.range k))).length+1≤9223372036854775807 by omega)<|.c (i6n ((↑k:Int)+1) (by omega))<|.c (Weak.int (k:=.i64) (show (((↑k:Int)+1):Int)=((↑(k+1):Int)) from (by omega)))<|.c (show BlkW (Blk.slc 38 1 (List.map (row1 IntKind.i8) (List.map (fun (i:Nat)=>joinE (T.d.getD i 0) (U.d.getD i 0) n) (List.range k))++[[i8 (joinE (T.d.getD k 0) (U.d.getD k 0) n)]])) (Blk.slc 38 1 (List.map (row1 IntKind.i8) (List.map (fun (i:Nat)=>joinE (T.d.getD i 0) (U.d.getD i 0) n) (List.range (k+1))))) from (BlkW.rows (rows_to (row1 IntKind.i8) (r:=List.map (row1 IntKind.i8) (List.map (fun (i:Nat)=>joinE (T.d.getD i 0) (U.d.getD i 0) n) (List.range k))++[[i8 (joinE (T.d.getD k 0) (U.d.getD k 0) n)]]) (l:=List.map (fun (i:Nat)=>joinE (T.d.getD i 0) (U.d.getD i 0) n) (List.range k)++[joinE (T.d.getD k 0) (U.d.getD k 0) n]) (m:=List.map (fun (i:Nat)=>joinE (T.d.getD i 0) (U.d.getD i 0) n) (List.range (k+1))) (by first | (simp only [List.map_append,List.map_cons,List.map_nil,List.map_set,List.map_replicate,List.map_take,List.map_drop];done) | rfl | (simp only [List.map_append,List.map_cons,List.map_nil,List.map_set,List.map_replicate,List.map_take,List.map_drop];rfl)) (show (List.map (fun (i:Nat)=>joinE (T.d.getD i 0) (U.d.getD i 0) n) (List.range k)++[joinE (T.d.getD k 0) (U.d.getD k 0) n])=(List.map (fun (i:Nat)=>joinE (T.d.getD i 0) (U.d.getD i 0) n) (List.range (k+1))) from (by (rw [List.range_succ,List.map_append];rfl))))))<|.n)
theorem rjoin_l_e (T U:Ten) (n:Nod) (ok:T.Ok) (oku:U.Ok) (okn:n.Ok) (hl:T.d.length≤1024) (hu:U.d.length=T.d.length):VT Tryz.prog (fnC Tryz.f82 [1,1,1,1,0,1,0,0]) (rjoin_l_I T U n (T.d.length)) (.exit 0) (rjoin_l_Z T U n):=by
 exact VT.run (W:=[.r [] [],.br false]) (G:=[.any (rg [(40,5)]),.sort]) (by kernel_rfl) (.c (show decide ((↑T.d.length:Int)<(↑(List.map (row1 IntKind.i8) T.d).length:Int))=false by (simp;done))<|.n)
theorem rjoin_l (T U:Ten) (n:Nod) (ok:T.Ok) (oku:U.Ok) (okn:n.Ok) (hl:T.d.length≤1024) (hu:U.d.length=T.d.length):VT Tryz.prog (fnC Tryz.f82 [1,1,1,1,0,1,0]) (rjoin_l_I T U n 0) (.exit 0) (rjoin_l_Z T U n) :=
 VT.loop (fun k=>rjoin_l_I T U n k) (T.d.length) (fun k hk=>rjoin_l_s T U n ok oku okn hl hu k hk) (rjoin_l_e T U n ok oku okn hl hu) (by intro h;cases h)
theorem rjoin_v (T U:Ten) (n:Nod) (ok:T.Ok) (oku:U.Ok) (okn:n.Ok):VC Tryz.prog 82 ([ten .i8 T,ten .i8 U,nod n]) (.tup [ten .i8 (joinOf T U n).1,i64 (joinOf T U n).2]):=by
 have g1 := @tenRight.rt T
 have g2:=fun h=>(g1 h).dl
 have g3:=fun h=>(g1 h).el
 have k1 := @tenRight.rt U
 have k2:=fun h=>(k1 h).dl
 have gq:(!rightQ n.qm n.qs || !rightQ n.rm n.rs)=true→(rightQ n.qm n.qs&&rightQ n.rm n.rs)=false:=by cases rightQ n.qm n.qs<;>cases rightQ n.rm n.rs<;>simp
 have gk:(!tenRight T || !tenRight U || !eqNums [(IntKind.i64,T.h,U.h),(IntKind.i64,T.x,U.x),(IntKind.i64,T.c,U.c)])=false→T.d.length≤1024∧U.d.length=T.d.length:=fun h=>by
  simp only [Bool.or_eq_false_iff,Bool.not_eq_false',eqNums,Bool.and_eq_true,beq_iff_eq] at h
  obtain ⟨⟨h1,h2⟩,h3,h4,h5,_⟩:=h
  have a1:=g2 h1;have a2:=g3 h1;have a3:=k2 h2
  rw [←h3,←h4,←h5] at a3
  exact ⟨by omega,by omega⟩
 have gj:(!tenRight T || !tenRight U || !eqNums [(IntKind.i64,T.h,U.h),(IntKind.i64,T.x,U.x),(IntKind.i64,T.c,U.c)]) = !(tenRight T&&tenRight U&&decide (T.h=U.h∧T.x=U.x∧T.c=U.c)):=by
  have e:eqNums [(IntKind.i64,T.h,U.h),(IntKind.i64,T.x,U.x),(IntKind.i64,T.c,U.c)]=decide (T.h=U.h∧T.x=U.x∧T.c=U.c):=by
   rw [Bool.eq_iff_iff];simp [eqNums]
  rw [e];cases tenRight T<;>cases tenRight U<;>simp
 have gz:(!tenRight T || !tenRight U || !eqNums [(IntKind.i64,T.h,U.h),(IntKind.i64,T.x,U.x),(IntKind.i64,T.c,U.c)])=true→(tenRight T&&tenRight U&&decide (T.h=U.h∧T.x=U.x∧T.c=U.c))=false:=fun h=>by rw [gj] at h;simpa only [Bool.not_eq_true'] using h
 have gn:(!tenRight T || !tenRight U || !eqNums [(IntKind.i64,T.h,U.h),(IntKind.i64,T.x,U.x),(IntKind.i64,T.c,U.c)])=false→¬ (tenRight T&&tenRight U&&decide (T.h=U.h∧T.x=U.x∧T.c=U.c))=false:=fun h=>by rw [gj] at h;simp only [Bool.not_eq_false'] at h;rw [h];simp
 have oz0 := @refTRight_v (T) ok
 have oz1 := @refTRight_v (U) oku
 have oz2:=(show BinTo Tryz.prog BinOp.neq 24 (Operand.tmp 20) (Operand.tmp 22) (Value.agg #[Value.int IntKind.i64 T.h,Value.int IntKind.i64 T.x,Value.int IntKind.i64 T.c]) (Value.agg #[Value.int IntKind.i64 U.h,Value.int IntKind.i64 U.x,Value.int IntKind.i64 U.c]) (Value.bool !eqNums [(IntKind.i64,T.h,U.h),(IntKind.i64,T.x,U.x),(IntKind.i64,T.c,U.c)]) from ((bin_nums (l:=[(IntKind.i64,T.h,U.h),(IntKind.i64,T.x,U.x),(IntKind.i64,T.c,U.c)]) (by kernel_rfl) (by kernel_rfl) (by kernel_rfl) (by kernel_rfl) _ _).2))
 rcases bft (!tenRight T || !tenRight U || !eqNums [(IntKind.i64,T.h,U.h),(IntKind.i64,T.x,U.x),(IntKind.i64,T.c,U.c)]) with hc0 | hc0
 ·have gc0:(tenRight T=false∨tenRight U=false)∨¬(T.h=U.h∧T.x=U.x∧T.c=U.c):=by first | (simp only [Bool.or_eq_true,Bool.or_eq_false_iff,Bool.and_eq_true,Bool.and_eq_false_iff,Bool.not_eq_true',Bool.not_eq_false',decide_eq_true_eq,decide_eq_false_iff_not,beq_iff_eq,bne_iff_ne,ne_eq,beq_eq_false_iff_ne,bne_eq_false_iff_eq,eqNums,Bool.and_true] at hc0;first | exact hc0 | omega) | simpa using hc0 | (simp at hc0 ⊢;omega) | (apply cbc;intro hn;simp_all [eqNums];done) | (apply cbc;intro hn;simp [eqNums] at hc0 hn;omega)
  exact (VC.run (fn:=Tryz.f82) (W:=[.r [] [],.r [] [.callr (rO oz0),.op false,.op false,.callr (rO oz1),.op false,.sel 1,.op false,.op false,.op false,.op false,.op false,.v (Value.bool !eqNums [(IntKind.i64,T.h,U.h),(IntKind.i64,T.x,U.x),(IntKind.i64,T.c,U.c)]),.sel 1],.br true,.r [] []]) (r:=AV.tup [AV.agg [i64 0,i64 0,i64 0,AV.lit (Value.slice none 0 0)],i64 5]) Tryz.func82 (by kernel_rfl) (.c oz0<|.c oz1<|.c oz2<|.c hc0<|.n)).weak (WeakL.refl _) (Weak.tup (.cons (Weak.agg (.cons (Weak.int (show ((0):Int)=((joinOf T U n).fst.h) from (by (simp only [joinOf];rw [if_pos (gz (by assumption))];first | done | rfl)))) (.cons (Weak.int (show ((0):Int)=((joinOf T U n).fst.x) from (by (simp only [joinOf];rw [if_pos (gz (by assumption))];first | done | rfl)))) (.cons (Weak.int (show ((0):Int)=((joinOf T U n).fst.c) from (by (simp only [joinOf];rw [if_pos (gz (by assumption))];first | done | rfl)))) (.cons (Weak.nilr (show []=(List.map (row1 IntKind.i8) (joinOf T U n).fst.d) from (by (simp only [joinOf];rw [if_pos (gz (by assumption))];first | done | rfl)))) .nil))))) (.cons (Weak.int (show ((5):Int)=((joinOf T U n).snd) from (by (simp only [joinOf];rw [if_pos (gz (by assumption))];first | done | rfl)))) .nil)))
 ·have gc0:(tenRight T=true∧tenRight U=true)∧T.h=U.h∧T.x=U.x∧T.c=U.c:=by first | (simp only [Bool.or_eq_true,Bool.or_eq_false_iff,Bool.and_eq_true,Bool.and_eq_false_iff,Bool.not_eq_true',Bool.not_eq_false',decide_eq_true_eq,decide_eq_false_iff_not,beq_iff_eq,bne_iff_ne,ne_eq,beq_eq_false_iff_ne,bne_eq_false_iff_eq,eqNums,Bool.and_true] at hc0;first | exact hc0 | omega) | simpa using hc0 | (simp at hc0 ⊢;omega) | (apply cbc;intro hn;simp_all [eqNums];done) | (apply cbc;intro hn;simp [eqNums] at hc0 hn;omega)
  have oz4 := @refRight_v (n.qm) (n.qs) (n.qz)
  have oz5 := @refRight_v (n.rm) (n.rs) (n.rz)
  rcases bft (!rightQ n.qm n.qs || !rightQ n.rm n.rs) with hc1 | hc1
  ·have gc1:rightQ n.qm n.qs=false∨rightQ n.rm n.rs=false:=by first | (simp only [Bool.or_eq_true,Bool.or_eq_false_iff,Bool.and_eq_true,Bool.and_eq_false_iff,Bool.not_eq_true',Bool.not_eq_false',decide_eq_true_eq,decide_eq_false_iff_not,beq_iff_eq,bne_iff_ne,ne_eq,beq_eq_false_iff_ne,bne_eq_false_iff_eq,eqNums,Bool.and_true] at hc1;first | exact hc1 | omega) | simpa using hc1 | (simp at hc1 ⊢;omega) | (apply cbc;intro hn;simp_all [eqNums];done) | (apply cbc;intro hn;simp [eqNums] at hc1 hn;omega)
   exact (VC.run (fn:=Tryz.f82) (W:=[.r [] [],.r [] [.callr (rO oz0),.op false,.op false,.callr (rO oz1),.op false,.sel 1,.op false,.op false,.op false,.op false,.op false,.v (Value.bool !eqNums [(IntKind.i64,T.h,U.h),(IntKind.i64,T.x,U.x),(IntKind.i64,T.c,U.c)]),.sel 1],.br false,.r [] [.callr (rO oz4),.op false,.op false,.op false,.callr (rO oz5),.op false,.sel 1],.br true,.r [] []]) (r:=AV.tup [AV.agg [i64 0,i64 0,i64 0,AV.lit (Value.slice none 0 0)],i64 7]) Tryz.func82 (by kernel_rfl) (.c oz0<|.c oz1<|.c oz2<|.c hc0<|.c oz4<|.c oz5<|.c hc1<|.n)).weak (WeakL.refl _) (Weak.tup (.cons (Weak.agg (.cons (Weak.int (show ((0):Int)=((joinOf T U n).fst.h) from (by (simp only [joinOf];rw [if_neg (gn (by assumption)),if_pos (gq (by assumption))];first | done | rfl)))) (.cons (Weak.int (show ((0):Int)=((joinOf T U n).fst.x) from (by (simp only [joinOf];rw [if_neg (gn (by assumption)),if_pos (gq (by assumption))];first | done | rfl)))) (.cons (Weak.int (show ((0):Int)=((joinOf T U n).fst.c) from (by (simp only [joinOf];rw [if_neg (gn (by assumption)),if_pos (gq (by assumption))];first | done | rfl)))) (.cons (Weak.nilr (show []=(List.map (row1 IntKind.i8) (joinOf T U n).fst.d) from (by (simp only [joinOf];rw [if_neg (gn (by assumption)),if_pos (gq (by assumption))];first | done | rfl)))) .nil))))) (.cons (Weak.int (show ((7):Int)=((joinOf T U n).snd) from (by (simp only [joinOf];rw [if_neg (gn (by assumption)),if_pos (gq (by assumption))];first | done | rfl)))) .nil)))
  ·have gc1:rightQ n.qm n.qs=true∧rightQ n.rm n.rs=true:=by first | (simp only [Bool.or_eq_true,Bool.or_eq_false_iff,Bool.and_eq_true,Bool.and_eq_false_iff,Bool.not_eq_true',Bool.not_eq_false',decide_eq_true_eq,decide_eq_false_iff_not,beq_iff_eq,bne_iff_ne,ne_eq,beq_eq_false_iff_ne,bne_eq_false_iff_eq,eqNums,Bool.and_true] at hc1;first | exact hc1 | omega) | simpa using hc1 | (simp at hc1 ⊢;omega) | (apply cbc;intro hn;simp_all [eqNums];done) | (apply cbc;intro hn;simp [eqNums] at hc1 hn;omega)
   have oz8 := @rjoin_l (T) (U) (n) ok oku okn (by (exact (gk (by assumption)).1)) (by (exact (gk (by assumption)).2))
   exact (VC.run (fn:=Tryz.f82) (W:=[.r [] [],.r [] [.callr (rO oz0),.op false,.op false,.callr (rO oz1),.op false,.sel 1,.op false,.op false,.op false,.op false,.op false,.v (Value.bool !eqNums [(IntKind.i64,T.h,U.h),(IntKind.i64,T.x,U.x),(IntKind.i64,T.c,U.c)]),.sel 1],.br false,.r [] [.callr (rO oz4),.op false,.op false,.op false,.callr (rO oz5),.op false,.sel 1],.br false,.r [] [],.r [] [],.code [.any (rg [(0,3),(7,1),(10,4),(17,2),(24,1),(26,5),(35,1),(37,3)]),.weak 9 (i64 (↑0:Int)),.nilc 900 38 1 8 3,.sort] (Exit.exit 0) (zO oz8),.r [] []]) (r:=AV.tup [AV.agg [i64 T.h,i64 T.x,i64 T.c,AV.sl 1 (List.map (row1 IntKind.i8) (List.map (fun (i:Nat)=>joinE (T.d.getD i 0) (U.d.getD i 0) n) (List.range T.d.length)))],i64 0]) Tryz.func82 (by kernel_rfl) (.c oz0<|.c oz1<|.c oz2<|.c hc0<|.c oz4<|.c oz5<|.c hc1<|.c (Weak.int (k:=.i64) (show ((0):Int)=((↑0:Int)) from (by omega)))<|.c oz8<|.n)).weak (WeakL.refl _) (Weak.tup (.cons (Weak.agg (.cons (Weak.int (show ((T.h):Int)=((joinOf T U n).fst.h) from (by (simp only [joinOf];rw [if_neg (gn (by assumption)),if_neg (by cases e1:rightQ n.qm n.qs<;>cases e2:rightQ n.rm n.rs<;>simp_all)];first | done | rfl)))) (.cons (Weak.int (show ((T.x):Int)=((joinOf T U n).fst.x) from (by (simp only [joinOf];rw [if_neg (gn (by assumption)),if_neg (by cases e1:rightQ n.qm n.qs<;>cases e2:rightQ n.rm n.rs<;>simp_all)];first | done | rfl)))) (.cons (Weak.int (show ((T.c):Int)=((joinOf T U n).fst.c) from (by (simp only [joinOf];rw [if_neg (gn (by assumption)),if_neg (by cases e1:rightQ n.qm n.qs<;>cases e2:rightQ n.rm n.rs<;>simp_all)];first | done | rfl)))) (.cons (Weak.rows (rows_to (row1 IntKind.i8) (r:=List.map (row1 IntKind.i8) (List.map (fun (i:Nat)=>joinE (T.d.getD i 0) (U.d.getD i 0) n) (List.range T.d.length))) (l:=List.map (fun (i:Nat)=>joinE (T.d.getD i 0) (U.d.getD i 0) n) (List.range T.d.length)) (m:=(joinOf T U n).fst.d) rfl (show (List.map (fun (i:Nat)=>joinE (T.d.getD i 0) (U.d.getD i 0) n) (List.range T.d.length))=((joinOf T U n).fst.d) from (by (simp only [joinOf];rw [if_neg (gn (by assumption)),if_neg (by cases e1:rightQ n.qm n.qs<;>cases e2:rightQ n.rm n.rs<;>simp_all)];first | done | rfl))))) .nil))))) (.cons (Weak.int (show ((0):Int)=((joinOf T U n).snd) from (by (simp only [joinOf];rw [if_neg (gn (by assumption)),if_neg (by cases e1:rightQ n.qm n.qs<;>cases e2:rightQ n.rm n.rs<;>simp_all)];first | done | rfl)))) .nil)))
end Go.Proofs.YtgecmooedhnenaaGreat
