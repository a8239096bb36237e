/- A part of this claim. No condition. -/
import Derived.Test.YtdfihaminnmgpaaGreatPruneBundlesG5
set_option maxRecDepth 100000
set_option maxHeartbeats 2000000
set_option linter.unusedVariables false
set_option linter.unusedSimpArgs false
set_option linter.unnecessarySimpa false
namespace Go.Proofs.YtdfihaminnmgpaaGreat
open Go.RowKit
open BlkW renaming rows→BU_
open Bool renaming and_eq_true→O_,and_eq_false_iff→P_,or_eq_false_iff→Q_,not_eq_false'→T_,not_eq_true'→U_,or_eq_true→X_,and_true→B_
open Exit renaming exit→AA_
open Int renaming toNat_of_nonneg→AB_,mul_nonneg→BK_,tdiv_eq_ediv_of_nonneg→BE_,natCast_mul→BF_,tmod_eq_emod_of_nonneg→CK_,mul_le_mul_of_nonneg_right→CQ_,mul_le_mul→CI_
open IntWalk renaming i32_in→CV_
open List renaming map→K_,length_map→S_,map_replicate→A_,map_append→C_,map_cons→D_,map_take→AK_,map_drop→AL_,map_nil→AM_,map_set→AN_,length_append→AX_,range→BM_,mem_append→CW_
open Nat renaming le_refl→AT_,mul_le_mul_right→AF_,add_mul→BI_
open Tryz renaming prog→N_
open Value renaming slice→AY_
open Weak renaming int→M_,tup→AS_,agg→AV_,rows→CM_,nilr→CJ_,bool→DK_
open WeakL renaming refl→Y_
theorem ifn_lt {p:Prop} [Decidable p] {a k:Nat} (h:k<if p then a else 0):p∧k<a:=by
 by_cases hp:p
 ·rw[i_ hp] at h;exact ⟨hp,h⟩
 ·rw[j_ hp] at h;omega
def accN (v:Int) (f:Nat→Int):Nat→Int
 | 0=>v
 | k+1=>accN v f k+f k
theorem accN_eq (v:Int) (f:Nat→Int):∀ k,accN v f k=v+sumN f k
 | 0=>by simp[accN,sumN]
 | k+1=>by rw[accN,sumN,accN_eq v f k];omega
theorem get_v (T:Ten) (h w c:Int) (h0:0≤h*T.x) (h1:h*T.x≤1024) (w0:0≤w) (w1:w≤1024) (g0:0≤(h*T.x+w)*T.c) (c0:0≤c) (g1:(h*T.x+w)*T.c+c<T.d.length) (dl:T.d.length≤1024):VC N_ 196 ([ten .i8 T,i64 h,i64 w,i64 c]) (i8 (T.d.getD ((h*T.x+w)*T.c+c).toNat 0)):=by
 have oz5:=(map_at (row1 .i8) (0) (l:=T.d) (i:=((h*T.x+w)*T.c+c).toNat) (by omega))
 exact cR_ [r_,.r [] [.n (h*T.x),.n (h*T.x+w),.n ((h*T.x+w)*T.c),.n ((h*T.x+w)*T.c+c),.row (sO oz5)]] _ Tryz.func196 (.d6 (i6n (h*T.x) (by omega)) (i6n (h*T.x+w) (by omega)) (i6n ((h*T.x+w)*T.c) (by omega)) (i6n ((h*T.x+w)*T.c+c) (by omega)) (s_ (0≤(h*T.x+w)*T.c+c)) oz5)
abbrev inT (T:Ten) (y x:Int):Prop:=0≤y∧y<T.h∧0≤x∧x<T.x
noncomputable def rcSum_c_I (T:Ten) (n:Nod) (h w o i j y x v:Int) (k:Nat):VS:=stt 118 [(2,i64 h),(3,i64 w),(4,i64 o),(5,.ptr 5 0 0),(6,.ptr 6 0 0),(11,i64 (accN v (cterm T n (((o*n.nk+i)*n.nk+j)*T.c) ((y*T.x+x)*T.c)) k)),(12,i64 i),(13,i64 j),(14,i64 y),(15,i64 x),(16,i64 k)] [(5,.var [i64 T.h,i64 T.x,i64 T.c,ints .i8 T.d]),(6,.var (nodC n))]
noncomputable def rcSum_c_Z (T:Ten) (n:Nod) (h w o i j y x v:Int):VS:=rcSum_c_I T n h w o i j y x v (if inT T y x then T.c.toNat else 0)
theorem rcSum_c_s (T:Ten) (n:Nod) (h w o i j y x v:Int) (ok:CvOk T n) (o0:0≤o) (o1:o<n.no) (i0:0≤i) (i1:i<n.nk) (j0:0≤j) (j1:j<n.nk) (v0 : -1000000000000≤v) (v1:v≤1000000000000) (k:Nat) (hk:k<if inT T y x then T.c.toNat else 0):VT N_ (fnC Tryz.f199 [1,1,0,1,0,0,1,0,0,1,0,0,1,0,0,1,1,0,0]) (rcSum_c_I T n h w o i j y x v k) .normal (rcSum_c_I T n h w o i j y x v (k+1)):=by
 have nn:=ok.n
 obtain ⟨⟨y0,y1,x0,x1⟩,hk'⟩:=ifn_lt hk
 have g1:=wat nn o0 o1 i0 i1
 have g2:=dat nn y0 y1
 have c1:=nn.c1
 have k5:=nn.k5
 have g3:=nn.w2
 have g4:=nn.d2
 have g5:((o*n.nk+i)*n.nk+j)*T.c+T.c≤(o*n.nk+i)*n.nk*T.c+n.nk*T.c:=by
  rw[←Int.add_mul]
  have:=CQ_ (s_ ((o*n.nk+i)*n.nk+j+1≤(o*n.nk+i)*n.nk+n.nk)) (s_ (0≤T.c))
  rw[Int.add_mul _ 1,Int.one_mul] at this;exact this
 have g6:0≤((o*n.nk+i)*n.nk+j)*T.c:=BK_ (by omega) (by omega)
 have g7:=idx_bd (a:=y*T.x+x) (m:=y*T.x+T.x) (b:=T.c-1) (n:=T.c) (by omega) (by omega) (by omega) (by omega)
 have g8:0≤(y*T.x+x)*T.c:=BK_ (by omega) (by omega)
 have g11:(y*T.x+T.x)*1≤(y*T.x+T.x)*T.c:=Int.mul_le_mul_of_nonneg_left (by omega) (by omega)
 have h1:=gt8 ok.okn.w (((o*n.nk+i)*n.nk+j)*T.c+(k:Int)).toNat
 have h2:=gt8 ok.ok.d ((y*T.x+x)*T.c+(k:Int)).toNat
 have h3 : -128≤n.za∧n.za≤127:=ok.okn.za
 have h4:=prod_bd h1 (b:=T.d.getD ((y*T.x+x)*T.c+(k:Int)).toNat 0-n.za) (by omega)
 have g9:=sumN_bd (B:=32640) (f:=cterm T n (((o*n.nk+i)*n.nk+j)*T.c) ((y*T.x+x)*T.c)) k fun c _=>cterm_bd ok.ok ok.okn _ _ c
 have g10:(T.c:Int)≤1024:=by omega
 have g12:=accN_eq v (cterm T n (((o*n.nk+i)*n.nk+j)*T.c) ((y*T.x+x)*T.c)) k
 have oz0:=(decide_eq_true (p:=((↑k:Int)<T.c)) (by omega))
 have oz3:=(decide_eq_true (p:=(y≥0)) (by omega))
 have oz9:=(decide_eq_true (p:=(y<T.h)) (by omega))
 have oz12:=(decide_eq_true (p:=(x≥0)) (by omega))
 have oz23:=(i6n (((o*n.nk+i)*n.nk+j)*T.c) (by omega))
 have oz24:=(i6n (((o*n.nk+i)*n.nk+j)*T.c+(↑k:Int)) (by omega))
 have oz26:=(map_at (row1 .i8) (0) (l:=n.w) (i:=(((o*n.nk+i)*n.nk+j)*T.c+(↑k:Int)).toNat) (by omega))
 have oz27:=(i6n (n.w.getD (((o*n.nk+i)*n.nk+j)*T.c+(↑k:Int)).toNat 0) (by omega))
 have oz28:=@get_v (T) (y) (x) ((↑k:Int)) (by omega) (by omega) x0 (by omega) g8 (by omega) (by omega) g4
 have oz29:=(i6n (T.d.getD ((y*T.x+x)*T.c+(↑k:Int)).toNat 0) (by omega))
 have oz31:=(i6n (T.d.getD ((y*T.x+x)*T.c+(↑k:Int)).toNat 0-n.za) (by omega))
 have oz32:=(i6n (n.w.getD (((o*n.nk+i)*n.nk+j)*T.c+(↑k:Int)).toNat 0*(T.d.getD ((y*T.x+x)*T.c+(↑k:Int)).toNat 0-n.za)) (by omega))
 have oz33:=(i6n (accN v (cterm T n (((o*n.nk+i)*n.nk+j)*T.c) ((y*T.x+x)*T.c)) k+n.w.getD (((o*n.nk+i)*n.nk+j)*T.c+(↑k:Int)).toNat 0*(T.d.getD ((y*T.x+x)*T.c+(↑k:Int)).toNat 0-n.za)) (by omega))
 have oz35:=(M_ (k:=.i64) (show ((accN v (cterm T n (((o*n.nk+i)*n.nk+j)*T.c) ((y*T.x+x)*T.c)) k+n.w.getD (((o*n.nk+i)*n.nk+j)*T.c+(↑k:Int)).toNat 0*(T.d.getD ((y*T.x+x)*T.c+(↑k:Int)).toNat 0-n.za)):Int)=(accN v (cterm T n (((o*n.nk+i)*n.nk+j)*T.c) ((y*T.x+x)*T.c)) (k+1)) from (by rfl)))
 exact tR_ [.r [] [e_,e_,e_,e_,e_,e_,e_,e_,e_,e_,e_,e_,e_,e_,e_,e_,e_,e_],b_,.r [] [.n (o*n.nk),.n (o*n.nk+i),.n ((o*n.nk+i)*n.nk),.n ((o*n.nk+i)*n.nk+j),.n (nO oz23),.n (nO oz24),.row (sO oz26),.n (nO oz27),cr oz28,.n (nO oz29),.n n.za,.n (nO oz31),.n (nO oz32),.n (nO oz33)],.r [] [.n ((↑k:Int)+1)]] [.any (rg [(53,64)]),.weak 11 (wO oz35),.weak 16 (i64 (↑(k+1):Int)),.sort] (.c8 oz0 oz0 oz0 oz3 oz3 oz3 oz3 oz3<|.c8 oz3 oz9 oz9 oz9 oz12 oz12 oz12 oz12<|.c8 oz12 oz12 (decide_eq_true (p:=(x<T.x)) (by omega)) (i6n (o*n.nk) (by omega)) (i6n (o*n.nk+i) (by omega)) (i6n ((o*n.nk+i)*n.nk) (by omega)) (i6n ((o*n.nk+i)*n.nk+j) (by omega)) oz23<|.c8 oz24 (s_ (0≤((o*n.nk+i)*n.nk+j)*T.c+(↑k:Int))) oz26 oz27 oz28 oz29 (i6n n.za (by omega)) oz31<|.d5 oz32 oz33 (i6n ((↑k:Int)+1) (by omega)) oz35 (wS_ k))
theorem rcSum_c_e (T:Ten) (n:Nod) (h w o i j y x v:Int) (ok:CvOk T n) (o0:0≤o) (o1:o<n.no) (i0:0≤i) (i1:i<n.nk) (j0:0≤j) (j1:j<n.nk) (v0 : -1000000000000≤v) (v1:v≤1000000000000):VT N_ (fnC Tryz.f199 [1,1,0,1,0,0,1,0,0,1,0,0,1,0,0,1,1,0,0]) (rcSum_c_I T n h w o i j y x v (if inT T y x then T.c.toNat else 0)) (.exit 4) (rcSum_c_Z T n h w o i j y x v):=by
 have hin:(0≤y∧y<T.h∧0≤x∧x<T.x)→(if inT T y x then T.c.toNat else 0)=T.c.toNat:=fun h=>i_ h
 exact tR_ [.r [] [o_,o_,.sel 2,o_,o_,o_,o_,o_,.sel 2,o_,o_,.sel 2,o_,o_,o_,o_,o_,.sel 2],d_] [.any (rg [(53,27)]),.sort] (.d (show (decide ((↑(if inT T y x then T.c.toNat else 0):Int)<T.c)&&decide (y≥0)&&decide (y<T.h)&&decide (x≥0)&&decide (x<T.x))=false by (simp;omega)))
theorem rcSum_c (T:Ten) (n:Nod) (h w o i j y x v:Int) (ok:CvOk T n) (o0:0≤o) (o1:o<n.no) (i0:0≤i) (i1:i<n.nk) (j0:0≤j) (j1:j<n.nk) (v0 : -1000000000000≤v) (v1:v≤1000000000000):VT N_ (fnC Tryz.f199 [1,1,0,1,0,0,1,0,0,1,0,0,1,0,0,1,1,0]) (rcSum_c_I T n h w o i j y x v 0) (.exit 4) (rcSum_c_Z T n h w o i j y x v) :=
 VT.loop (fun k=>rcSum_c_I T n h w o i j y x v k) (if inT T y x then T.c.toNat else 0) (fun k hk=>rcSum_c_s T n h w o i j y x v ok o0 o1 i0 i1 j0 j1 v0 v1 k hk) (rcSum_c_e T n h w o i j y x v ok o0 o1 i0 i1 j0 j1 v0 v1) (by intro h;cases h)
def colE (T:Ten) (n:Nod) (o i y x:Int) (j:Nat):Int:=sumN (cterm T n (((o*n.nk+i)*n.nk+(j:Int))*T.c) ((y*T.x+(x+(j:Int)))*T.c)) (if inT T y (x+(j:Int)) then T.c.toNat else 0)
theorem colE_bd {T:Ten} {n:Nod} (ok:CvOk T n) (o i y x:Int) (j:Nat) : -33423360≤colE T n o i y x j∧colE T n o i y x j≤33423360:=by
 have nn:=ok.n
 have g9:=sumN_bd (B:=32640) (f:=cterm T n (((o*n.nk+i)*n.nk+(j:Int))*T.c) ((y*T.x+(x+(j:Int)))*T.c)) (if inT T y (x+(j:Int)) then T.c.toNat else 0) fun c _=>cterm_bd ok.ok ok.okn _ _ c
 have g10:=nn.c1
 have g11:=nn.dl
 have g12:=nn.d2
 have a:=mul_bd (a:=1) (A:=T.h*T.x) (b:=T.c) (B:=T.c) (by omega) (by have:=nn.h1;have:=nn.x1;exact CI_ (a:=1) (b:=1) (by omega) (by omega) (by omega) (by omega)) (by omega) (by omega)
 unfold colE
 split at g9
 ·rename_i h;rw[i_ h];omega
 ·rename_i h;rw[j_ h];omega
noncomputable def rcSum_j_I (T:Ten) (n:Nod) (h w o i v:Int) (k:Nat):VS:=stt 118 [(2,i64 h),(3,i64 w),(4,i64 o),(5,.ptr 5 0 0),(6,.ptr 6 0 0),(11,i64 (accN v (colE T n o i (h*n.ns+i-n.np) (w*n.ns-n.np)) k)),(12,i64 i),(13,i64 k)] [(5,.var [i64 T.h,i64 T.x,i64 T.c,ints .i8 T.d]),(6,.var (nodC n))]
noncomputable def rcSum_j_Z (T:Ten) (n:Nod) (h w o i v:Int):VS:=rcSum_j_I T n h w o i v (n.nk.toNat)
theorem rcSum_j_s (T:Ten) (n:Nod) (h w o i v:Int) (ok:CvOk T n) (o0:0≤o) (o1:o<n.no) (h0:0≤h) (h1:h≤1000) (w0:0≤w) (w1:w≤1000) (i0:0≤i) (i1:i<n.nk) (v0 : -100000000000≤v) (v1:v≤100000000000) (k:Nat) (hk:k<n.nk.toNat):VT N_ (fnC Tryz.f199 [1,1,0,1,0,0,1,0,0,1,0,0]) (rcSum_j_I T n h w o i v k) .normal (rcSum_j_I T n h w o i v (k+1)):=by
 have nn:=ok.n
 have g1:=nn.k1
 have g2:=nn.k5
 have g8:=nn.s1
 have g9:=nn.s4
 have g10:=nn.p0
 have g11:=nn.p4
 have g13:=mul_bd (A:=1000) (B:=4) h0 h1 (s_ (0≤n.ns)) g9
 have g14:=mul_bd (A:=1000) (B:=4) w0 w1 (s_ (0≤n.ns)) g9
 have g15:=sumN_bd (B:=33423360) (f:=colE T n o i (h*n.ns+i-n.np) (w*n.ns-n.np)) k fun j _=>colE_bd ok _ _ _ _ j
 have g17:=accN_eq v (colE T n o i (h*n.ns+i-n.np) (w*n.ns-n.np)) k
 have g16:w*n.ns+(k:Int)-n.np=w*n.ns-n.np+(k:Int):=by omega
 have oz8:=@rcSum_c (T) (n) (h) (w) (o) (i) ((↑k:Int)) (h*n.ns+i-n.np) (w*n.ns+(↑k:Int)-n.np) (accN v (colE T n o i (h*n.ns+i-n.np) (w*n.ns-n.np)) k) ok o0 o1 i0 i1 (by omega) (by omega) (by omega) (by omega)
 have oz10:=(M_ (k:=.i64) (show ((accN (accN v (colE T n o i (h*n.ns+i-n.np) (w*n.ns-n.np)) k) (cterm T n (((o*n.nk+i)*n.nk+(↑k:Int))*T.c) (((h*n.ns+i-n.np)*T.x+(w*n.ns+(↑k:Int)-n.np))*T.c)) (if inT T (h*n.ns+i-n.np) (w*n.ns+(↑k:Int)-n.np) then T.c.toNat else 0)):Int)=(accN v (colE T n o i (h*n.ns+i-n.np) (w*n.ns-n.np)) (k+1)) from (by (rw[accN,colE,←g16,accN_eq]))))
 exact tR_ [r_,b_,.r [] [.n (h*n.ns),.n (h*n.ns+i),.n (h*n.ns+i-n.np),.n (w*n.ns),.n (w*n.ns+(↑k:Int)),.n (w*n.ns+(↑k:Int)-n.np)],r_,.code [.any (rg [(29,4),(35,18)]),.weak 16 (i64 (↑0:Int)),.sort] (AA_ 4) (zO oz8),.r [] [.n ((↑k:Int)+1)]] [.any [14,15,16,33,34],.weak 11 (wO oz10),.weak 13 (i64 (↑(k+1):Int)),.sort] (.c8 (decide_eq_true (p:=((↑k:Int)<n.nk)) (by omega)) (i6n (h*n.ns) (by omega)) (i6n (h*n.ns+i) (by omega)) (i6n (h*n.ns+i-n.np) (by omega)) (i6n (w*n.ns) (by omega)) (i6n (w*n.ns+(↑k:Int)) (by omega)) (i6n (w*n.ns+(↑k:Int)-n.np) (by omega)) w0_<|.d4 oz8 (i6n ((↑k:Int)+1) (by omega)) oz10 (wS_ k))
theorem rcSum_j_e (T:Ten) (n:Nod) (h w o i v:Int) (ok:CvOk T n) (o0:0≤o) (o1:o<n.no) (h0:0≤h) (h1:h≤1000) (w0:0≤w) (w1:w≤1000) (i0:0≤i) (i1:i<n.nk) (v0 : -100000000000≤v) (v1:v≤100000000000):VT N_ (fnC Tryz.f199 [1,1,0,1,0,0,1,0,0,1,0,0]) (rcSum_j_I T n h w o i v (n.nk.toNat)) (.exit 2) (rcSum_j_Z T n h w o i v):=by
 have nn:=ok.n
 have g1:=nn.k1
 exact tR_ [r_,d_] [.any (rg [(29,4)]),.sort] (.d (decide_eq_false (p:=((↑n.nk.toNat:Int)<n.nk)) (by omega)))
theorem rcSum_j (T:Ten) (n:Nod) (h w o i v:Int) (ok:CvOk T n) (o0:0≤o) (o1:o<n.no) (h0:0≤h) (h1:h≤1000) (w0:0≤w) (w1:w≤1000) (i0:0≤i) (i1:i<n.nk) (v0 : -100000000000≤v) (v1:v≤100000000000):VT N_ (fnC Tryz.f199 [1,1,0,1,0,0,1,0,0,1,0]) (rcSum_j_I T n h w o i v 0) (.exit 2) (rcSum_j_Z T n h w o i v) :=
 VT.loop (fun k=>rcSum_j_I T n h w o i v k) (n.nk.toNat) (fun k hk=>rcSum_j_s T n h w o i v ok o0 o1 h0 h1 w0 w1 i0 i1 v0 v1 k hk) (rcSum_j_e T n h w o i v ok o0 o1 h0 h1 w0 w1 i0 i1 v0 v1) (by intro h;cases h)
def rowE (T:Ten) (n:Nod) (h w o:Int) (i:Nat):Int:=sumN (colE T n o i (h*n.ns+(i:Int)-n.np) (w*n.ns-n.np)) n.nk.toNat
theorem rowE_bd {T:Ten} {n:Nod} (ok:CvOk T n) (h w o:Int) (i:Nat) : -167116800≤rowE T n h w o i∧rowE T n h w o i≤167116800:=by
 have g15:=sumN_bd (B:=33423360) (f:=colE T n o i (h*n.ns+i-n.np) (w*n.ns-n.np)) n.nk.toNat fun j _=>colE_bd ok _ _ _ _ j
 have g1:=ok.n.k5
 have g2:=ok.n.k1
 unfold rowE
 omega
def sumE (T:Ten) (n:Nod) (h w o:Int):Int:=accN (n.b.getD o.toNat 0) (rowE T n h w o) n.nk.toNat
noncomputable def rcSum_i_I (T:Ten) (n:Nod) (h w o:Int) (k:Nat):VS:=stt 118 [(2,i64 h),(3,i64 w),(4,i64 o),(5,.ptr 5 0 0),(6,.ptr 6 0 0),(11,i64 (accN (n.b.getD o.toNat 0) (rowE T n h w o) k)),(12,i64 k)] [(5,.var [i64 T.h,i64 T.x,i64 T.c,ints .i8 T.d]),(6,.var (nodC n))]
noncomputable def rcSum_i_Z (T:Ten) (n:Nod) (h w o:Int):VS:=rcSum_i_I T n h w o (n.nk.toNat)
theorem rcSum_i_s (T:Ten) (n:Nod) (h w o:Int) (ok:CvOk T n) (o0:0≤o) (o1:o<n.no) (h0:0≤h) (h1:h≤1000) (w0:0≤w) (w1:w≤1000) (k:Nat) (hk:k<n.nk.toNat):VT N_ (fnC Tryz.f199 [1,1,0,1,0,0]) (rcSum_i_I T n h w o k) .normal (rcSum_i_I T n h w o (k+1)):=by
 have nn:=ok.n
 have g1:=nn.k1
 have g2:=nn.k5
 have g3:=gt32 ok.okn.b o.toNat
 have g4:=accN_eq (n.b.getD o.toNat 0) (rowE T n h w o) k
 have g5:=sumN_bd (B:=167116800) (f:=rowE T n h w o) k fun i _=>rowE_bd ok _ _ _ i
 have oz2:=@rcSum_j (T) (n) (h) (w) (o) ((↑k:Int)) (accN (n.b.getD o.toNat 0) (rowE T n h w o) k) ok o0 o1 h0 h1 w0 w1 (by omega) (by omega) (by omega) (by omega)
 have oz4:=(M_ (k:=.i64) (show ((accN (accN (n.b.getD o.toNat 0) (rowE T n h w o) k) (colE T n o (↑k:Int) (h*n.ns+(↑k:Int)-n.np) (w*n.ns-n.np)) n.nk.toNat):Int)=(accN (n.b.getD o.toNat 0) (rowE T n h w o) (k+1)) from (by (rw[accN,rowE,accN_eq]))))
 exact tR_ [r_,b_,r_,.code [.any (rg [(23,4)]),.weak 13 (i64 (↑0:Int)),.sort] (AA_ 2) (zO oz2),.r [] [.n ((↑k:Int)+1)]] [.any [13,27,28],.weak 11 (wO oz4),.weak 12 (i64 (↑(k+1):Int)),.sort] (.d6 (decide_eq_true (p:=((↑k:Int)<n.nk)) (by omega)) w0_ oz2 (i6n ((↑k:Int)+1) (by omega)) oz4 (wS_ k))
theorem rcSum_i_e (T:Ten) (n:Nod) (h w o:Int) (ok:CvOk T n) (o0:0≤o) (o1:o<n.no) (h0:0≤h) (h1:h≤1000) (w0:0≤w) (w1:w≤1000):VT N_ (fnC Tryz.f199 [1,1,0,1,0,0]) (rcSum_i_I T n h w o (n.nk.toNat)) (.exit 0) (rcSum_i_Z T n h w o):=by
 have nn:=ok.n
 have g1:=nn.k1
 exact tR_ [r_,d_] [.any (rg [(23,4)]),.sort] (.d (decide_eq_false (p:=((↑n.nk.toNat:Int)<n.nk)) (by omega)))
theorem rcSum_i (T:Ten) (n:Nod) (h w o:Int) (ok:CvOk T n) (o0:0≤o) (o1:o<n.no) (h0:0≤h) (h1:h≤1000) (w0:0≤w) (w1:w≤1000):VT N_ (fnC Tryz.f199 [1,1,0,1,0]) (rcSum_i_I T n h w o 0) (.exit 0) (rcSum_i_Z T n h w o) :=
 VT.loop (fun k=>rcSum_i_I T n h w o k) (n.nk.toNat) (fun k hk=>rcSum_i_s T n h w o ok o0 o1 h0 h1 w0 w1 k hk) (rcSum_i_e T n h w o ok o0 o1 h0 h1 w0 w1) (by intro h;cases h)
theorem rcSum_v (T:Ten) (n:Nod) (h w o:Int) (ok:CvOk T n) (o0:0≤o) (o1:o<n.no) (h0:0≤h) (h1:h≤1000) (w0:0≤w) (w1:w≤1000):VC N_ 199 ([ten .i8 T,nod n,i64 h,i64 w,i64 o]) (i64 (sumE T n h w o)):=by
 have g1:=ok.n.bl
 have g3:=gt32 ok.okn.b o.toNat
 have oz3:=(M_ (k:=.i64) (show ((n.b.getD o.toNat 0):Int)=(accN (n.b.getD o.toNat 0) (rowE T n h w o) 0) from (by rfl)))
 have oz5:=@rcSum_i (T) (n) (h) (w) (o) ok o0 o1 h0 h1 w0 w1
 exact (cR_ [r_,.r [] [.row [i32 (n.b.getD o.toNat 0)],.n (n.b.getD o.toNat 0)],r_,.code [.any (rg [(0,2),(10,1),(17,6)]),.weak 11 (wO oz3),.weak 12 (i64 (↑0:Int)),.sort] (AA_ 0) (zO oz5),r_] (i64 (accN (n.b.getD o.toNat 0) (rowE T n h w o) n.nk.toNat)) Tryz.func199 (.d6 o0 (map_at (row1 .i32) (0) (l:=n.b) (i:=o.toNat) (by omega)) (i6n (n.b.getD o.toNat 0) (by omega)) oz3 w0_ oz5)).weak (Y_ _) (M_ (by rfl))
def refO (T:Ten) (n:Nod) (h w:Nat) (o:Nat):List Int:=(BM_ o).map fun (o:Nat)=>IntKind.i32.wrap (sumE T n h w o)
def refW (T:Ten) (n:Nod) (h:Nat):Nat→List Int
 | 0=>[]
 | w+1=>refW T n h w++refO T n h w n.no.toNat
def refH (T:Ten) (n:Nod):Nat→List Int
 | 0=>[]
 | h+1=>refH T n h++refW T n h (convE ⟨T.h,T.x,T.c⟩ n).1.x.toNat
theorem refW_len (T:Ten) (n:Nod) (h:Nat):∀ w,(refW T n h w).length=w*n.no.toNat
 | 0=>by simp[refW]
 | w+1=>by rw[refW,AX_,refW_len T n h w,BI_];simp[refO]
theorem refH_len (T:Ten) (n:Nod):∀ h,(refH T n h).length=h*((convE ⟨T.h,T.x,T.c⟩ n).1.x.toNat*n.no.toNat)
 | 0=>by simp[refH]
 | h+1=>by rw[refH,AX_,refH_len T n h,refW_len,BI_];simp
theorem ref_bd {T:Ten} {n:Nod} (nn:CvN T n) {h w:Nat} (hh:h<(convE ⟨T.h,T.x,T.c⟩ n).1.h.toNat) (hw:w<(convE ⟨T.h,T.x,T.c⟩ n).1.x.toNat):(refH T n h).length+(refW T n h w).length+n.no.toNat≤40000:=by
 rw[refH_len,refW_len]
 have h1:=nn.he
 have h2:=nn.xe
 have h3:=nn.o1
 have h4:=nn.o2
 have a1:(convE ⟨T.h,T.x,T.c⟩ n).1.x.toNat*n.no.toNat≤16*1024:=Nat.mul_le_mul (by omega) (by omega)
 have h5:=nn.el
 have hx:((convE ⟨T.h,T.x,T.c⟩ n).1.h.toNat*((convE ⟨T.h,T.x,T.c⟩ n).1.x.toNat*n.no.toNat):Nat)≤1024:=by
  have:(((convE ⟨T.h,T.x,T.c⟩ n).1.h.toNat*((convE ⟨T.h,T.x,T.c⟩ n).1.x.toNat*n.no.toNat):Nat):Int)=(convE ⟨T.h,T.x,T.c⟩ n).1.h*(convE ⟨T.h,T.x,T.c⟩ n).1.x*n.no:=by
   rw[BF_,BF_,AB_ (by omega),AB_ (by omega),AB_ (by omega),Int.mul_assoc]
  omega
 have a2:h*((convE ⟨T.h,T.x,T.c⟩ n).1.x.toNat*n.no.toNat)≤(convE ⟨T.h,T.x,T.c⟩ n).1.h.toNat*((convE ⟨T.h,T.x,T.c⟩ n).1.x.toNat*n.no.toNat):=AF_ _ (by omega)
 have a3:w*n.no.toNat≤16*1024:=Nat.mul_le_mul (by omega) (by omega)
 omega
noncomputable def rcOf_o_I (T:Ten) (n:Nod) (h w:Nat) (k:Nat):VS:=stt 60 [(2,.ptr 2 0 0),(3,.ptr 3 0 0),(4,.ptr 4 0 0),(6,.ptr 6 0 0),(8,.ptr 8 0 0),(9,i64 h),(10,i64 w),(11,i64 k)] [(2,.var [i64 T.h,i64 T.x,i64 T.c,ints .i8 T.d]),(3,.var (nodC n)),(4,.var [i64 0,i64 0,i64 0,nilv]),(6,.var [i64 (convE ⟨T.h,T.x,T.c⟩ n).1.h,i64 (convE ⟨T.h,T.x,T.c⟩ n).1.x,i64 (convE ⟨T.h,T.x,T.c⟩ n).1.c]),(8,.var [i64 (convE ⟨T.h,T.x,T.c⟩ n).1.h,i64 (convE ⟨T.h,T.x,T.c⟩ n).1.x,i64 (convE ⟨T.h,T.x,T.c⟩ n).1.c,.own 900]),(900,.slc 21 1 ((refH T n h++(refW T n h w++refO T n h w k)).map (row1 .i32)))]
noncomputable def rcOf_o_Z (T:Ten) (n:Nod) (h w:Nat):VS:=rcOf_o_I T n h w (n.no.toNat)
theorem rcOf_o_s (T:Ten) (n:Nod) (h w:Nat) (ok:CvOk T n) (h1:h<(convE ⟨T.h,T.x,T.c⟩ n).1.h.toNat) (w1:w<(convE ⟨T.h,T.x,T.c⟩ n).1.x.toNat) (k:Nat) (hk:k<n.no.toNat):VT N_ (fnC Tryz.f177 [1,1,1,1,1,0,1,0,0,1,0,0,1,0,0,1,0,0,1,0,0]) (rcOf_o_I T n h w k) .normal (rcOf_o_I T n h w (k+1)):=by
 have nn:=ok.n
 have g1:=nn.he
 have g2:=nn.xe
 have g3:=nn.sc
 have g4:=nn.o1
 have g5:=nn.o2
 have g6:=ref_bd nn h1 w1
 have g7:(refO T n h w k).length=k:=by simp[refO]
 have oz1:=@rcSum_v (T) (n) ((↑h:Int)) ((↑w:Int)) ((↑k:Int)) ok (by omega) (by omega) (by omega) (by omega) (by omega) (by omega)
 exact tR_ [r_,b_,.r [] [cr oz1,.w],.r [] [.n ((↑k:Int)+1)]] [.any (rg [(41,18)]),.drop [56],.ren 57 900,.weak 11 (i64 (↑(k+1):Int)),.blk 900 (Blk.slc 21 1 (K_ (row1 .i32) (refH T n h++(refW T n h w++refO T n h w (k+1))))),.sort] (.d7 (decide_eq_true (p:=((↑k:Int)<(convE (Shp.mk T.h T.x T.c) n).fst.c)) (by omega)) oz1 (show ((K_ (row1 .i32) (refH T n h++(refW T n h w++refO T n h w k))).length+1)*4≤140737488355328 by (simp;omega)) (show (K_ (row1 .i32) (refH T n h++(refW T n h w++refO T n h w k))).length+1≤9223372036854775807 by (simp;omega)) (i6n ((↑k:Int)+1) (by omega)) (wS_ k) (show BlkW (Blk.slc 21 1 (K_ (row1 .i32) (refH T n h++(refW T n h w++refO T n h w k))++[[i32 (IntKind.i32.wrap (sumE T n (↑h:Int) (↑w:Int) (↑k:Int)))]])) (Blk.slc 21 1 (K_ (row1 .i32) (refH T n h++(refW T n h w++refO T n h w (k+1))))) from (BU_ (e:=21) (z:=1) (rows_to (row1 .i32) (r:=K_ (row1 .i32) (refH T n h++(refW T n h w++refO T n h w k))++[[i32 (IntKind.i32.wrap (sumE T n (↑h:Int) (↑w:Int) (↑k:Int)))]]) (l:=refH T n h++(refW T n h w++refO T n h w k)++[IntKind.i32.wrap (sumE T n (↑h:Int) (↑w:Int) (↑k:Int))]) (m:=refH T n h++(refW T n h w++refO T n h w (k+1))) (by first|(simp only[C_,D_,AM_,AN_,A_,AK_,AL_];done)|rfl|(simp only[C_,D_,AM_,AN_,A_,AK_,AL_];rfl)) (show (refH T n h++(refW T n h w++refO T n h w k)++[IntKind.i32.wrap (sumE T n (↑h:Int) (↑w:Int) (↑k:Int))])=(refH T n h++(refW T n h w++refO T n h w (k+1))) from (by (rw[refO,refO,List.range_succ,C_];simp)))))))
theorem rcOf_o_e (T:Ten) (n:Nod) (h w:Nat) (ok:CvOk T n) (h1:h<(convE ⟨T.h,T.x,T.c⟩ n).1.h.toNat) (w1:w<(convE ⟨T.h,T.x,T.c⟩ n).1.x.toNat):VT N_ (fnC Tryz.f177 [1,1,1,1,1,0,1,0,0,1,0,0,1,0,0,1,0,0,1,0,0]) (rcOf_o_I T n h w (n.no.toNat)) (.exit 4) (rcOf_o_Z T n h w):=by
 have nn:=ok.n
 have g1:=nn.he
 have g2:=nn.xe
 have g3:=nn.sc
 have g4:=nn.o1
 have g5:=nn.o2
 exact tR_ [r_,d_] [.any (rg [(41,4)]),.sort] (.d (decide_eq_false (p:=((↑n.no.toNat:Int)<(convE (Shp.mk T.h T.x T.c) n).fst.c)) (by omega)))
theorem rcOf_o (T:Ten) (n:Nod) (h w:Nat) (ok:CvOk T n) (h1:h<(convE ⟨T.h,T.x,T.c⟩ n).1.h.toNat) (w1:w<(convE ⟨T.h,T.x,T.c⟩ n).1.x.toNat):VT N_ (fnC Tryz.f177 [1,1,1,1,1,0,1,0,0,1,0,0,1,0,0,1,0,0,1,0]) (rcOf_o_I T n h w 0) (.exit 4) (rcOf_o_Z T n h w) :=
 VT.loop (fun k=>rcOf_o_I T n h w k) (n.no.toNat) (fun k hk=>rcOf_o_s T n h w ok h1 w1 k hk) (rcOf_o_e T n h w ok h1 w1) (by intro h;cases h)
noncomputable def rcOf_w_I (T:Ten) (n:Nod) (h:Nat) (k:Nat):VS:=stt 60 [(2,.ptr 2 0 0),(3,.ptr 3 0 0),(4,.ptr 4 0 0),(6,.ptr 6 0 0),(8,.ptr 8 0 0),(9,i64 h),(10,i64 k)] [(2,.var [i64 T.h,i64 T.x,i64 T.c,ints .i8 T.d]),(3,.var (nodC n)),(4,.var [i64 0,i64 0,i64 0,nilv]),(6,.var [i64 (convE ⟨T.h,T.x,T.c⟩ n).1.h,i64 (convE ⟨T.h,T.x,T.c⟩ n).1.x,i64 (convE ⟨T.h,T.x,T.c⟩ n).1.c]),(8,.var [i64 (convE ⟨T.h,T.x,T.c⟩ n).1.h,i64 (convE ⟨T.h,T.x,T.c⟩ n).1.x,i64 (convE ⟨T.h,T.x,T.c⟩ n).1.c,.own 900]),(900,.slc 21 1 ((refH T n h++refW T n h k).map (row1 .i32)))]
noncomputable def rcOf_w_Z (T:Ten) (n:Nod) (h:Nat):VS:=rcOf_w_I T n h ((convE ⟨T.h,T.x,T.c⟩ n).1.x.toNat)
theorem rcOf_w_s (T:Ten) (n:Nod) (h:Nat) (ok:CvOk T n) (h1:h<(convE ⟨T.h,T.x,T.c⟩ n).1.h.toNat) (k:Nat) (hk:k<(convE ⟨T.h,T.x,T.c⟩ n).1.x.toNat):VT N_ (fnC Tryz.f177 [1,1,1,1,1,0,1,0,0,1,0,0,1,0,0]) (rcOf_w_I T n h k) .normal (rcOf_w_I T n h (k+1)):=by
 have nn:=ok.n
 have g1:=nn.he
 have g2:=nn.xe
 have g3:=nn.sc
 have g4:=nn.o1
 have g5:=nn.o2
 have oz3:=@rcOf_o (T) (n) (h) (k) ok h1 hk
 exact tR_ [r_,b_,r_,.code [.any (rg [(35,4)]),.weak 11 (i64 (↑0:Int)),.blk 900 (Blk.slc 21 1 (K_ (row1 .i32) (refH T n h++(refW T n h k++refO T n h k 0)))),.sort] (AA_ 4) (zO oz3),.r [] [.n ((↑k:Int)+1)]] [.any [11,39,40],.weak 10 (i64 (↑(k+1):Int)),.blk 900 (Blk.slc 21 1 (K_ (row1 .i32) (refH T n h++refW T n h (k+1)))),.sort] (.d7 (decide_eq_true (p:=((↑k:Int)<(convE (Shp.mk T.h T.x T.c) n).fst.x)) (by omega)) w0_ (show BlkW (Blk.slc 21 1 (K_ (row1 .i32) (refH T n h++refW T n h k))) (Blk.slc 21 1 (K_ (row1 .i32) (refH T n h++(refW T n h k++refO T n h k 0)))) from (BU_ (e:=21) (z:=1) (rows_to (row1 .i32) (r:=K_ (row1 .i32) (refH T n h++refW T n h k)) (l:=refH T n h++refW T n h k) (m:=refH T n h++(refW T n h k++refO T n h k 0)) rfl (show (refH T n h++refW T n h k)=(refH T n h++(refW T n h k++refO T n h k 0)) from (by (simp[refO];done)))))) oz3 (i6n ((↑k:Int)+1) (by omega)) (wS_ k) (show BlkW (Blk.slc 21 1 (K_ (row1 .i32) (refH T n h++(refW T n h k++refO T n h k n.no.toNat)))) (Blk.slc 21 1 (K_ (row1 .i32) (refH T n h++refW T n h (k+1)))) from (BU_ (e:=21) (z:=1) (rows_to (row1 .i32) (r:=K_ (row1 .i32) (refH T n h++(refW T n h k++refO T n h k n.no.toNat))) (l:=refH T n h++(refW T n h k++refO T n h k n.no.toNat)) (m:=refH T n h++refW T n h (k+1)) rfl (show (refH T n h++(refW T n h k++refO T n h k n.no.toNat))=(refH T n h++refW T n h (k+1)) from (by rfl))))))
theorem rcOf_w_e (T:Ten) (n:Nod) (h:Nat) (ok:CvOk T n) (h1:h<(convE ⟨T.h,T.x,T.c⟩ n).1.h.toNat):VT N_ (fnC Tryz.f177 [1,1,1,1,1,0,1,0,0,1,0,0,1,0,0]) (rcOf_w_I T n h ((convE ⟨T.h,T.x,T.c⟩ n).1.x.toNat)) (.exit 2) (rcOf_w_Z T n h):=by
 have nn:=ok.n
 have g1:=nn.he
 have g2:=nn.xe
 have g3:=nn.sc
 have g4:=nn.o1
 have g5:=nn.o2
 exact tR_ [r_,d_] [.any (rg [(35,4)]),.sort] (.d (decide_eq_false (p:=((↑(convE (Shp.mk T.h T.x T.c) n).fst.x.toNat:Int)<(convE (Shp.mk T.h T.x T.c) n).fst.x)) (by omega)))
theorem rcOf_w (T:Ten) (n:Nod) (h:Nat) (ok:CvOk T n) (h1:h<(convE ⟨T.h,T.x,T.c⟩ n).1.h.toNat):VT N_ (fnC Tryz.f177 [1,1,1,1,1,0,1,0,0,1,0,0,1,0]) (rcOf_w_I T n h 0) (.exit 2) (rcOf_w_Z T n h) :=
 VT.loop (fun k=>rcOf_w_I T n h k) ((convE ⟨T.h,T.x,T.c⟩ n).1.x.toNat) (fun k hk=>rcOf_w_s T n h ok h1 k hk) (rcOf_w_e T n h ok h1) (by intro h;cases h)
noncomputable def rcOf_h_I (T:Ten) (n:Nod) (k:Nat):VS:=stt 60 [(2,.ptr 2 0 0),(3,.ptr 3 0 0),(4,.ptr 4 0 0),(6,.ptr 6 0 0),(8,.ptr 8 0 0),(9,i64 k)] [(2,.var [i64 T.h,i64 T.x,i64 T.c,ints .i8 T.d]),(3,.var (nodC n)),(4,.var [i64 0,i64 0,i64 0,nilv]),(6,.var [i64 (convE ⟨T.h,T.x,T.c⟩ n).1.h,i64 (convE ⟨T.h,T.x,T.c⟩ n).1.x,i64 (convE ⟨T.h,T.x,T.c⟩ n).1.c]),(8,.var [i64 (convE ⟨T.h,T.x,T.c⟩ n).1.h,i64 (convE ⟨T.h,T.x,T.c⟩ n).1.x,i64 (convE ⟨T.h,T.x,T.c⟩ n).1.c,.own 900]),(900,.slc 21 1 ((refH T n k).map (row1 .i32)))]
noncomputable def rcOf_h_Z (T:Ten) (n:Nod):VS:=rcOf_h_I T n ((convE ⟨T.h,T.x,T.c⟩ n).1.h.toNat)
theorem rcOf_h_s (T:Ten) (n:Nod) (ok:CvOk T n) (k:Nat) (hk:k<(convE ⟨T.h,T.x,T.c⟩ n).1.h.toNat):VT N_ (fnC Tryz.f177 [1,1,1,1,1,0,1,0,0]) (rcOf_h_I T n k) .normal (rcOf_h_I T n (k+1)):=by
 have nn:=ok.n
 have g1:=nn.he
 have g2:=nn.xe
 have g3:=nn.sc
 have g4:=nn.o1
 have g5:=nn.o2
 have oz3:=@rcOf_w (T) (n) (k) ok hk
 exact tR_ [r_,b_,r_,.code [.any (rg [(29,4)]),.weak 10 (i64 (↑0:Int)),.blk 900 (Blk.slc 21 1 (K_ (row1 .i32) (refH T n k++refW T n k 0))),.sort] (AA_ 2) (zO oz3),.r [] [.n ((↑k:Int)+1)]] [.any [10,33,34],.weak 9 (i64 (↑(k+1):Int)),.blk 900 (Blk.slc 21 1 (K_ (row1 .i32) (refH T n (k+1)))),.sort] (.d7 (decide_eq_true (p:=((↑k:Int)<(convE (Shp.mk T.h T.x T.c) n).fst.h)) (by omega)) w0_ (show BlkW (Blk.slc 21 1 (K_ (row1 .i32) (refH T n k))) (Blk.slc 21 1 (K_ (row1 .i32) (refH T n k++refW T n k 0))) from (BU_ (e:=21) (z:=1) (rows_to (row1 .i32) (r:=K_ (row1 .i32) (refH T n k)) (l:=refH T n k) (m:=refH T n k++refW T n k 0) rfl (show (refH T n k)=(refH T n k++refW T n k 0) from (by (simp[refW];done)))))) oz3 (i6n ((↑k:Int)+1) (by omega)) (wS_ k) (show BlkW (Blk.slc 21 1 (K_ (row1 .i32) (refH T n k++refW T n k (convE (Shp.mk T.h T.x T.c) n).fst.x.toNat))) (Blk.slc 21 1 (K_ (row1 .i32) (refH T n (k+1)))) from (BU_ (e:=21) (z:=1) (rows_to (row1 .i32) (r:=K_ (row1 .i32) (refH T n k++refW T n k (convE (Shp.mk T.h T.x T.c) n).fst.x.toNat)) (l:=refH T n k++refW T n k (convE (Shp.mk T.h T.x T.c) n).fst.x.toNat) (m:=refH T n (k+1)) rfl (show (refH T n k++refW T n k (convE (Shp.mk T.h T.x T.c) n).fst.x.toNat)=(refH T n (k+1)) from (by rfl))))))
theorem rcOf_h_e (T:Ten) (n:Nod) (ok:CvOk T n):VT N_ (fnC Tryz.f177 [1,1,1,1,1,0,1,0,0]) (rcOf_h_I T n ((convE ⟨T.h,T.x,T.c⟩ n).1.h.toNat)) (.exit 0) (rcOf_h_Z T n):=by
 have nn:=ok.n
 have g1:=nn.he
 have g2:=nn.xe
 have g3:=nn.sc
 have g4:=nn.o1
 have g5:=nn.o2
 exact tR_ [r_,d_] [.any (rg [(29,4)]),.sort] (.d (decide_eq_false (p:=((↑(convE (Shp.mk T.h T.x T.c) n).fst.h.toNat:Int)<(convE (Shp.mk T.h T.x T.c) n).fst.h)) (by omega)))
theorem rcOf_h (T:Ten) (n:Nod) (ok:CvOk T n):VT N_ (fnC Tryz.f177 [1,1,1,1,1,0,1,0]) (rcOf_h_I T n 0) (.exit 0) (rcOf_h_Z T n) :=
 VT.loop (fun k=>rcOf_h_I T n k) ((convE ⟨T.h,T.x,T.c⟩ n).1.h.toNat) (fun k hk=>rcOf_h_s T n ok k hk) (rcOf_h_e T n ok) (by intro h;cases h)
theorem rcOf_x (T:Ten) (n:Nod) (ok:CvOk T n):VC N_ 177 ([ten .i8 T,nod n]) (.tup [ten .i32 ⟨(convE ⟨T.h,T.x,T.c⟩ n).1.h,(convE ⟨T.h,T.x,T.c⟩ n).1.x,(convE ⟨T.h,T.x,T.c⟩ n).1.c,refH T n (convE ⟨T.h,T.x,T.c⟩ n).1.h.toNat⟩,i64 0]):=by
 have ok1:=ok.ok
 have okn:=ok.okn
 have q2:=ok.r
 have q3:=ok.e
 have oz0:=@refTRight_v (T) ok1
 have oz2:=@refConvShape_v (Shp.mk T.h T.x T.c) (n) (by (exact Shp.mk_ok ok1.h ok1.x ok1.c)) okn
 have oz5:=@rcOf_h (T) (n) ok
 exact cR_ [r_,.r [] [cr oz0],d_,.r [] [cr oz2],r_,d_,r_,r_,.code [.any (rg [(0,2),(5,1),(7,1),(12,3),(16,9),(27,2)]),.weak 9 (i64 (↑0:Int)),.nilc 900 21 1 8 3,.sort] (AA_ 0) (zO oz5),r_] _ Tryz.func177 (.d6 oz0 (show (!tenRight T)=false by (simp;omega)) oz2 (show ((convE (Shp.mk T.h T.x T.c) n).snd != 0)=false by (simp;omega)) w0_ oz5)
theorem w32_add (a b:Int):IntKind.i32.wrap (IntKind.i32.wrap a+b)=IntKind.i32.wrap (a+b):=by
 simp only[IntKind.wrap_i32];omega
theorem w32_add2 (a b:Int):IntKind.i32.wrap (IntKind.i32.wrap a+IntKind.i32.wrap b)=IntKind.i32.wrap (a+b):=by
 simp only[IntKind.wrap_i32];omega
theorem acc32_eq (v:Int) (f:Nat→Int):∀ k,acc32 (IntKind.i32.wrap v) f k=IntKind.i32.wrap (v+sumN f k)
 | 0=>by simp[acc32,sumN]
 | k+1=>by rw[acc32,acc32_eq v f k,w32_add,sumN,Int.add_assoc]
theorem rowAcc_eq {T:Ten} {n:Nod} (o i h w:Int) (h0:0≤h) (h1:h<T.h):∀ j,rowAcc T n ((o*n.nk+i)*n.nk*T.c) h w j=IntKind.i32.wrap (sumN (colE T n o i h w) j)
 | 0=>by simp only[rowAcc,sumN];rfl
 | j+1=>by
  rw[rowAcc,sumN,rowAcc_eq o i h w h0 h1 j,colE]
  by_cases hx:0≤w+(j:Int)∧w+(j:Int)<T.x
  ·rw[i_ hx,i_ ⟨h0,h1,hx.1,hx.2⟩,acc32_eq,←Int.add_mul]
  ·rw[j_ hx,j_ (fun q=>hx ⟨q.2.2.1,q.2.2.2⟩)]
   simp[sumN]
theorem sumAcc_eq {T:Ten} {n:Nod} (ok:CvOk T n) (h w o:Int):∀ i,sumAcc T n h w o i=IntKind.i32.wrap (accN (n.b.getD o.toNat 0) (rowE T n h w o) i)
 | 0=>by
  rw[sumAcc,accN,CV_ _ (gt32 ok.okn.b _)]
 | i+1=>by
  rw[sumAcc,accN,sumAcc_eq ok h w o i]
  by_cases hy:0≤h*n.ns+(i:Int)-n.np∧h*n.ns+(i:Int)-n.np<T.h
  ·rw[i_ hy,rowAcc_eq o i _ _ hy.1 hy.2,w32_add2];rfl
  ·rw[j_ hy]
   have:rowE T n h w o i=0:=by
    unfold rowE
    refine sumN_zero _ fun j _=>?_
    unfold colE
    rw[j_ (fun q=>hy ⟨q.1,q.2.1⟩)];rfl
   rw[this,Int.add_zero]
theorem cvS_eq {T:Ten} {n:Nod} (ok:CvOk T n) (h w o:Int):cvS T n h w o=IntKind.i32.wrap (sumE T n h w o):=sumAcc_eq ok h w o _
theorem outL_ref {T:Ten} {n:Nod} (ok:CvOk T n) (h:Nat):∀ w,w≤(convE ⟨T.h,T.x,T.c⟩ n).1.x.toNat→outL T n (h*(convE ⟨T.h,T.x,T.c⟩ n).1.x.toNat)=refH T n h→outL T n (h*(convE ⟨T.h,T.x,T.c⟩ n).1.x.toNat+w)=refH T n h++refW T n h w
 | 0,_,h0=>by rw[Nat.add_zero,h0];simp[refW]
 | w+1,hw,h0=>by
  have hx:=ok.n.xe
  rw[←Nat.add_assoc,outL,outL_ref ok h w (by omega) h0,refW,List.append_assoc]
  congr 2
  unfold refO
  apply List.map_congr_left
  intro o _
  have e1:((h*(convE ⟨T.h,T.x,T.c⟩ n).1.x.toNat+w:Nat):Int)=(h:Int)*(convE ⟨T.h,T.x,T.c⟩ n).1.x+(w:Int):=by
   rw[Int.natCast_add,BF_,AB_ (by omega)]
  have e2:((h:Int)*(convE ⟨T.h,T.x,T.c⟩ n).1.x+(w:Int))/(convE ⟨T.h,T.x,T.c⟩ n).1.x=h:=by
   rw[Int.add_comm,Int.add_mul_ediv_right _ _ (by omega),Int.ediv_eq_zero_of_lt (by omega) (by omega)];omega
  have e3:((h:Int)*(convE ⟨T.h,T.x,T.c⟩ n).1.x+(w:Int)) % (convE ⟨T.h,T.x,T.c⟩ n).1.x=w:=by
   rw[Int.add_comm,Int.add_mul_emod_self_right,Int.emod_eq_of_lt (by omega) (by omega)]
  rw[e1,e2,e3,cvS_eq ok]
theorem outL_all {T:Ten} {n:Nod} (ok:CvOk T n):∀ h,outL T n (h*(convE ⟨T.h,T.x,T.c⟩ n).1.x.toNat)=refH T n h
 | 0=>by simp[outL,refH]
 | h+1=>by rw[BI_,Nat.one_mul,outL_ref ok h _ (AT_ _) (outL_all ok h),refH]
theorem outL_fin {T:Ten} {n:Nod} (ok:CvOk T n):outL T n ((convE ⟨T.h,T.x,T.c⟩ n).1.h*(convE ⟨T.h,T.x,T.c⟩ n).1.x).toNat=refH T n (convE ⟨T.h,T.x,T.c⟩ n).1.h.toNat:=by
 have h1:=ok.n.he
 have h2:=ok.n.xe
 rw[←outL_all ok]
 congr 1
 apply Int.ofNat_inj.1
 rw[BF_,AB_ (BK_ (by omega) (by omega)),AB_ (by omega),AB_ (by omega)]
theorem rcOf_n (T:Ten) (n:Nod) (ok:T.Ok) (okn:n.Ok) (hn:tenRight T=false∨(convE ⟨T.h,T.x,T.c⟩ n).2≠0):VC N_ 177 ([ten .i8 T,nod n]) (.tup [ten .i32 (convOf T n).1,i64 (convOf T n).2]):=by
 have oz0:=@refTRight_v (T) ok
 rcases bft (!tenRight T) with hc0|hc0
 ·have gc0:tenRight T=false:=by first|exact hc0|exact of_decide_eq_true hc0|exact of_decide_eq_false hc0|simpa [eqNums] using hc0|(simp[eqNums] at hc0 ⊢;first|done|assumption|omega)
  exact (cR_ [r_,.r [] [cr oz0],b_,r_] (AV.tup [AV.agg [i64 0,i64 0,i64 0,AV.lit (AY_ none 0 0)],i64 5]) Tryz.func177 (.d2 oz0 hc0)).weak (Y_ _) (AS_ (.cons (AV_ (.cons (M_ (by (simp only[convOf];rw[i_ (by simp_all)];first|done|rfl))) (.cons (M_ (by (simp only[convOf];rw[i_ (by simp_all)];first|done|rfl))) (.cons (M_ (by (simp only[convOf];rw[i_ (by simp_all)];first|done|rfl))) (.cons (CJ_ (show []=(K_ (row1 .i32) (convOf T n).fst.d) from (by (simp only[convOf];rw[i_ (by simp_all)];first|done|rfl)))) .nil))))) (.cons (M_ (by (simp only[convOf];rw[i_ (by simp_all)];first|done|rfl))) .nil)))
 ·have gc0:tenRight T=true:=by first|exact hc0|exact of_decide_eq_true hc0|exact of_decide_eq_false hc0|simpa [eqNums] using hc0|(simp[eqNums] at hc0 ⊢;first|done|assumption|omega)
  have oz2:=@refConvShape_v (Shp.mk T.h T.x T.c) (n) (by (exact Shp.mk_ok ok.h ok.x ok.c)) okn
  exact (cR_ [r_,.r [] [cr oz0],d_,.r [] [cr oz2],r_,b_,r_] (AV.tup [AV.agg [i64 0,i64 0,i64 0,AV.lit (AY_ none 0 0)],i64 (convE (Shp.mk T.h T.x T.c) n).snd]) Tryz.func177 (.d4 oz0 hc0 oz2 (show ((convE (Shp.mk T.h T.x T.c) n).snd != 0)=true by (rcases hn with hn|hn<;>simp_all;done)))).weak (Y_ _) (AS_ (.cons (AV_ (.cons (M_ (by (simp only[convOf];rw[j_ (by simp_all),i_ (by rcases hn with hn|hn<;>simp_all)];first|done|rfl))) (.cons (M_ (by (simp only[convOf];rw[j_ (by simp_all),i_ (by rcases hn with hn|hn<;>simp_all)];first|done|rfl))) (.cons (M_ (by (simp only[convOf];rw[j_ (by simp_all),i_ (by rcases hn with hn|hn<;>simp_all)];first|done|rfl))) (.cons (CJ_ (show []=(K_ (row1 .i32) (convOf T n).fst.d) from (by (simp only[convOf];rw[j_ (by simp_all),i_ (by rcases hn with hn|hn<;>simp_all)];first|done|rfl)))) .nil))))) (.cons (M_ (by (simp only[convOf];rw[j_ (by simp_all),i_ (by rcases hn with hn|hn<;>simp_all)];first|done|rfl))) .nil)))
theorem rcOf_v (T:Ten) (n:Nod) (ok:T.Ok) (okn:n.Ok):VC N_ 177 [ten .i8 T,nod n] (.tup [ten .i32 (convOf T n).1,i64 (convOf T n).2]):=by
 cases hr:tenRight T with
 | false=>exact rcOf_n T n ok okn (.inl hr)
 | true =>
  by_cases he:(convE ⟨T.h,T.x,T.c⟩ n).2=0
  ·have h:=rcOf_x T n ⟨ok,okn,hr,he⟩
   have e:convOf T n=(⟨(convE ⟨T.h,T.x,T.c⟩ n).1.h,(convE ⟨T.h,T.x,T.c⟩ n).1.x,(convE ⟨T.h,T.x,T.c⟩ n).1.c,refH T n (convE ⟨T.h,T.x,T.c⟩ n).1.h.toNat⟩,0):=by
    unfold convOf
    rw[j_ (by simp[hr]),j_ (by simpa using he),outL_fin ⟨ok,okn,hr,he⟩]
   rw[e];exact h
  ·exact rcOf_n T n ok okn (.inr he)
theorem place_bd {t:Shp} (q:0<elems t.h t.x t.c) {h w c:Int} (h0:0≤h) (h1:h<t.h) (w0:0≤w) (w1:w<t.x) (c0:0≤c) (c1:c<t.c) :
  (0≤h*t.x∧h*t.x≤1024)∧(0≤(h*t.x+w)*t.c∧(h*t.x+w)*t.c≤1024)∧(0≤(h*t.x+w)*t.c+c∧(h*t.x+w)*t.c+c<elems t.h t.x t.c):=by
 obtain ⟨q1,q2,q3,q4,q5,q6,q7,q8⟩:=elems_ok q
 have a:=idx_bd (a:=h) (m:=t.h) (b:=w) (n:=t.x) h0 h1 w0 w1
 have a0:0≤h*t.x:=BK_ h0 (by omega)
 have b:=idx_bd (a:=h*t.x+w) (m:=t.h*t.x) (b:=c) (n:=t.c) (by omega) (by omega) c0 c1
 have b0:0≤(h*t.x+w)*t.c:=BK_ (by omega) (by omega)
 have d:=mul_bd (a:=t.h) (A:=16) (b:=t.x) (B:=16) (by omega) (by omega) (by omega) (by omega)
 omega
theorem in8x {a:Int} (h : -128≤a∧a≤127) : -9223372036854775808≤a∧a≤9223372036854775807:=by omega
theorem sub8 {a z:Int} (h : -128≤a∧a≤127) (h' : -128≤z∧z≤127) : -255≤a-z∧a-z≤255:=by omega
theorem prod8w {a b z:Int} (h : -128≤a∧a≤127) (h' : -128≤b∧b≤127) (hz : -128≤z∧z≤127) : -2147483648≤a*(b-z)∧a*(b-z)≤2147483647:=by
 have:=prod_bd h (sub8 h' hz);omega
structure DpOk (T:Ten) (n:Nod):Prop where
 ok:T.Ok
 okn:n.Ok
 r:tenRight T=true
 e:(depthE ⟨T.h,T.x,T.c⟩ n).2=0
theorem depthE_ok {t:Shp} {n:Nod} (h:(depthE t n).2=0):(slideE t n.nk n.ns n.np t.c).2=0∧(n.w.length:Int)=t.c*n.nk*n.nk∧n.w.length≤16384∧(n.b.length:Int)=t.c∧(depthE t n).1=(slideE t n.nk n.ns n.np t.c).1:=by
 unfold depthE at h ⊢
 split at h
 ·rename_i h1;exact absurd h h1
 ·split at h
  ·simp at h
  ·rename_i h1 h2
   rw[j_ h1,j_ h2]
   exact ⟨by omega,by omega,by omega,by omega,rfl⟩
structure DpN (T:Ten) (n:Nod):Prop where
 q:0<elems T.h T.x T.c
 h1:1≤T.h
 h16:T.h≤16
 x1:1≤T.x
 x16:T.x≤16
 c1:1≤T.c
 c2:T.c≤1024
 k1:1≤n.nk
 k5:n.nk≤5
 s1:1≤n.ns
 s4:n.ns≤4
 p0:0≤n.np
 p4:n.np≤4
 wl:(n.w.length:Int)=T.c*n.nk*n.nk
 w2:n.w.length≤16384
 bl:(n.b.length:Int)=T.c
 dl:(T.d.length:Int)=elems T.h T.x T.c
 d2:T.d.length≤1024
 sc:(depthE ⟨T.h,T.x,T.c⟩ n).1.c=T.c
 he:1≤(depthE ⟨T.h,T.x,T.c⟩ n).1.h∧(depthE ⟨T.h,T.x,T.c⟩ n).1.h≤16
 xe:1≤(depthE ⟨T.h,T.x,T.c⟩ n).1.x∧(depthE ⟨T.h,T.x,T.c⟩ n).1.x≤16
 el:(depthE ⟨T.h,T.x,T.c⟩ n).1.h*(depthE ⟨T.h,T.x,T.c⟩ n).1.x*T.c≤1024
 en:elems (depthE ⟨T.h,T.x,T.c⟩ n).1.h (depthE ⟨T.h,T.x,T.c⟩ n).1.x (depthE ⟨T.h,T.x,T.c⟩ n).1.c=(depthE ⟨T.h,T.x,T.c⟩ n).1.h*(depthE ⟨T.h,T.x,T.c⟩ n).1.x*T.c
theorem DpOk.n {T:Ten} {n:Nod} (h:DpOk T n):DpN T n:=by
 obtain ⟨ok,okn,r,e⟩:=h
 obtain ⟨e1,e2,e3,e4,e5⟩:=depthE_ok e
 obtain ⟨a1,a2,a3,a4,a5,a6,a7,a8,a9,a10,a11,a12⟩:=slideE_ok e1
 have c:=elems_ok a12
 unfold tenRight at r
 rw[O_,E_,E_] at r
 have b':=elems_ok r.1
 have e5':(depthE ⟨T.h,T.x,T.c⟩ n).1=⟨(T.h+2*n.np-n.nk)/n.ns+1,(T.x+2*n.np-n.nk)/n.ns+1,T.c⟩:=e5.trans a11
 have e2':(n.w.length:Int)=T.c*n.nk*n.nk:=e2
 have e4':(n.b.length:Int)=T.c:=e4
 clear e5 a11 e2 a9 a10 e4
 have c':1≤(T.h+2*n.np-n.nk)/n.ns+1∧(T.h+2*n.np-n.nk)/n.ns+1≤16∧1≤(T.x+2*n.np-n.nk)/n.ns+1∧(T.x+2*n.np-n.nk)/n.ns+1≤16∧1≤T.c∧T.c≤1024∧((T.h+2*n.np-n.nk)/n.ns+1)*((T.x+2*n.np-n.nk)/n.ns+1)*T.c≤1024 ∧
  elems ((T.h+2*n.np-n.nk)/n.ns+1) ((T.x+2*n.np-n.nk)/n.ns+1) T.c=((T.h+2*n.np-n.nk)/n.ns+1)*((T.x+2*n.np-n.nk)/n.ns+1)*T.c:=c
 clear c
 refine ⟨r.1,by omega,by omega,by omega,by omega,by omega,by omega,by omega,by omega,by omega,by omega,by omega,by omega,e2',e3,e4',by omega,by omega,by rw[e5'],?_,?_,?_,?_⟩<;>rw[e5']<;>simp only<;>omega
def dterm (T:Ten) (n:Nod) (c y x:Int) (i:Int):Int:=n.w.getD (c*n.nk*n.nk+i).toNat 0*(T.d.getD ((y*T.x+x)*T.c+c).toNat 0-n.za)
theorem dterm_bd {T:Ten} {n:Nod} (ok:DpOk T n) (c y x i:Int) : -32640≤dterm T n c y x i∧dterm T n c y x i≤32640:=by
 have h1:=gt8 ok.okn.w (c*n.nk*n.nk+i).toNat
 have h2:=gt8 ok.ok.d ((y*T.x+x)*T.c+c).toNat
 have h3 : -128≤n.za∧n.za≤127:=ok.okn.za
 exact prod_bd h1 (b:=T.d.getD ((y*T.x+x)*T.c+c).toNat 0-n.za) (by omega)
def dAcc (T:Ten) (n:Nod) (h w c:Int):Nat→Int
 | 0=>n.b.getD c.toNat 0
 | i+1=>if inT T (h*n.ns+(i:Int)/n.nk-n.np) (w*n.ns+(i:Int) % n.nk-n.np) then IntKind.i32.wrap (dAcc T n h w c i+dterm T n c (h*n.ns+(i:Int)/n.nk-n.np) (w*n.ns+(i:Int) % n.nk-n.np) i) else dAcc T n h w c i
theorem dw_bd {T:Ten} {n:Nod} (nn:DpN T n) {c i:Int} (c0:0≤c) (c1:c<T.c) (i0:0≤i) (i1:i<n.nk*n.nk):(0≤c*n.nk∧c*n.nk≤5120)∧(0≤c*n.nk*n.nk∧c*n.nk*n.nk+i<n.w.length):=by
 have k1:=nn.k1
 have k5:=nn.k5
 have c2:=nn.c2
 have a:=mul_bd (a:=c) (A:=1024) (b:=n.nk) (B:=5) c0 (by omega) (by omega) k5
 have b:=idx_bd (a:=c) (m:=T.c) (b:=i) (n:=n.nk*n.nk) c0 c1 i0 i1
 have e:=nn.wl
 have d:0≤c*n.nk*n.nk:=BK_ (by omega) (by omega)
 rw[Int.mul_assoc] at e
 rw[Int.mul_assoc c n.nk n.nk] at d ⊢
 omega
def dN (T:Ten) (n:Nod):Nat:=((depthE ⟨T.h,T.x,T.c⟩ n).1.h*(depthE ⟨T.h,T.x,T.c⟩ n).1.x*T.c).toNat
def dL (T:Ten) (n:Nod):List Int:=(BM_ (dN T n)).map fun (i:Nat)=>dAcc T n ((i:Int)/T.c/(depthE ⟨T.h,T.x,T.c⟩ n).1.x) ((i:Int)/T.c % (depthE ⟨T.h,T.x,T.c⟩ n).1.x) ((i:Int) % T.c) (n.nk*n.nk).toNat
theorem dL_len (T:Ten) (n:Nod):(dL T n).length=dN T n:=by simp[dL]
theorem place_bdT {a x m:Int} (q:0<elems a x m) {h w c:Int} (h0:0≤h) (h1:h<a) (w0:0≤w) (w1:w<x) (c0:0≤c) (c1:c<m) :
  (0≤h*x∧h*x≤1024)∧(0≤(h*x+w)*m∧(h*x+w)*m≤1024)∧(0≤(h*x+w)*m+c∧(h*x+w)*m+c<elems a x m):=place_bd (t:=⟨a,x,m⟩) q h0 h1 w0 w1 c0 c1
def dcell (T:Ten) (n:Nod) (h w c i:Int) (j:Nat):Int:=if inT T (h*n.ns+i-n.np) (w*n.ns+(j:Int)-n.np) then dterm T n c (h*n.ns+i-n.np) (w*n.ns+(j:Int)-n.np) (i*n.nk+(j:Int)) else 0
theorem dcell_bd {T:Ten} {n:Nod} (ok:DpOk T n) (h w c i:Int) (j:Nat) : -32640≤dcell T n h w c i j∧dcell T n h w c i j≤32640:=by
 unfold dcell;split
 ·exact dterm_bd ok _ _ _ _
 ·omega
def drow (T:Ten) (n:Nod) (h w c:Int) (i:Nat):Int:=sumN (dcell T n h w c i) n.nk.toNat
theorem drow_bd {T:Ten} {n:Nod} (ok:DpOk T n) (h w c:Int) (i:Nat) : -163200≤drow T n h w c i∧drow T n h w c i≤163200:=by
 have g:=sumN_bd (B:=32640) (f:=dcell T n h w c i) n.nk.toNat fun j _=>dcell_bd ok _ _ _ _ j
 have k1:=ok.n.k1
 have k5:=ok.n.k5
 unfold drow
 omega
def dE (T:Ten) (n:Nod) (h w c:Int):Int:=accN (n.b.getD c.toNat 0) (drow T n h w c) n.nk.toNat
noncomputable def rdSum_j_I (T:Ten) (n:Nod) (h w c i v:Int) (k:Nat):VS:=stt 102 [(2,i64 h),(3,i64 w),(4,i64 c),(5,.ptr 5 0 0),(6,.ptr 6 0 0),(11,i64 (accN v (dcell T n h w c i) k)),(12,i64 i),(13,i64 k)] [(5,.var [i64 T.h,i64 T.x,i64 T.c,ints .i8 T.d]),(6,.var (nodC n))]
noncomputable def rdSum_j_Z (T:Ten) (n:Nod) (h w c i v:Int):VS:=rdSum_j_I T n h w c i v (n.nk.toNat)
theorem rdSum_j_s (T:Ten) (n:Nod) (h w c i v:Int) (ok:DpOk T n) (h0:0≤h) (h1:h≤1000) (w0:0≤w) (w1:w≤1000) (c0:0≤c) (c1:c<T.c) (i0:0≤i) (i1:i<n.nk) (v0 : -100000000000≤v) (v1:v≤100000000000) (k:Nat) (hk:k<n.nk.toNat):VT N_ (fnC Tryz.f200 [1,1,0,1,0,0,1,0,0,1,0,0]) (rdSum_j_I T n h w c i v k) .normal (rdSum_j_I T n h w c i v (k+1)):=by
 have nn:=ok.n
 have g1:=nn.k1
 have g2:=nn.k5
 have g4:=idx_bd (a:=i) (m:=n.nk) (b:=k) (n:=n.nk) i0 i1 (by omega) (by omega)
 have g5:=dw_bd nn c0 c1 (i:=i*n.nk+k) (by omega) (by omega)
 have g6:(c*n.nk+i)*n.nk+(k:Int)=c*n.nk*n.nk+(i*n.nk+(k:Int)):=by rw[Int.add_mul];omega
 have g7:0≤i*n.nk:=BK_ i0 (by omega)
 have g17:(c*n.nk+i)*n.nk=c*n.nk*n.nk+i*n.nk:=by rw[Int.add_mul]
 have g8:=nn.s1
 have g9:=nn.s4
 have g10:=nn.p0
 have g11:=nn.p4
 have g12:=nn.w2
 have g13:=mul_bd (A:=1000) (B:=4) h0 h1 (s_ (0≤n.ns)) g9
 have g14:=mul_bd (A:=1000) (B:=4) w0 w1 (s_ (0≤n.ns)) g9
 have g15:=nn.d2
 have g16:=nn.dl
 have g18:=accN_eq v (dcell T n h w c i) k
 have g19:=sumN_bd (B:=32640) (f:=dcell T n h w c i) k fun j _=>dcell_bd ok _ _ _ _ j
 have h3 : -128≤n.za∧n.za≤127:=ok.okn.za
 have oz0:=(decide_eq_true (p:=((↑k:Int)<n.nk)) (by omega))
 have oz1:=(i6n (h*n.ns) (by omega))
 have oz2:=(i6n (h*n.ns+i) (by omega))
 have oz3:=(i6n (h*n.ns+i-n.np) (by omega))
 have oz4:=(i6n (w*n.ns) (by omega))
 have oz5:=(i6n (w*n.ns+(↑k:Int)) (by omega))
 have oz6:=(i6n (w*n.ns+(↑k:Int)-n.np) (by omega))
 rcases bft (decide (h*n.ns+i-n.np≥0)&&decide (h*n.ns+i-n.np<T.h)&&decide (w*n.ns+(↑k:Int)-n.np≥0)&&decide (w*n.ns+(↑k:Int)-n.np<T.x)) with hc0|hc0
 ·have gc0:((h*n.ns+i-n.np≥0∧h*n.ns+i-n.np<T.h)∧w*n.ns+(↑k:Int)-n.np≥0)∧w*n.ns+(↑k:Int)-n.np<T.x:=gc0_ hc0
  have oz11:=(i6n ((c*n.nk+i)*n.nk+(↑k:Int)) (by omega))
  have oz13:=(map_at (row1 .i8) (0) (l:=n.w) (i:=((c*n.nk+i)*n.nk+(↑k:Int)).toNat) (by omega))
  have oz14:=(show IntKind.i64.wrap (n.w.getD ((c*n.nk+i)*n.nk+(↑k:Int)).toNat 0)=n.w.getD ((c*n.nk+i)*n.nk+(↑k:Int)).toNat 0 by with_reducible exact i6n _ (in8x (gt8 ok.okn.w _)))
  have oz15:=@get_v (T) (h*n.ns+i-n.np) (w*n.ns+(↑k:Int)-n.np) (c) (by (have q2:=place_bdT nn.q (h:=h*n.ns+i-n.np) (w:=w*n.ns+(k:Int)-n.np) (c:=c) (by omega) (by omega) (by omega) (by omega) c0 c1;have q3:=nn.x16;omega)) (by (have q2:=place_bdT nn.q (h:=h*n.ns+i-n.np) (w:=w*n.ns+(k:Int)-n.np) (c:=c) (by omega) (by omega) (by omega) (by omega) c0 c1;have q3:=nn.x16;omega)) (by omega) (by (have q2:=place_bdT nn.q (h:=h*n.ns+i-n.np) (w:=w*n.ns+(k:Int)-n.np) (c:=c) (by omega) (by omega) (by omega) (by omega) c0 c1;have q3:=nn.x16;omega)) (by (have q2:=place_bdT nn.q (h:=h*n.ns+i-n.np) (w:=w*n.ns+(k:Int)-n.np) (c:=c) (by omega) (by omega) (by omega) (by omega) c0 c1;have q3:=nn.x16;omega)) c0 (by (have q2:=place_bdT nn.q (h:=h*n.ns+i-n.np) (w:=w*n.ns+(k:Int)-n.np) (c:=c) (by omega) (by omega) (by omega) (by omega) c0 c1;have q3:=nn.x16;omega)) g15
  have oz16:=(show IntKind.i64.wrap (T.d.getD (((h*n.ns+i-n.np)*T.x+(w*n.ns+(↑k:Int)-n.np))*T.c+c).toNat 0)=T.d.getD (((h*n.ns+i-n.np)*T.x+(w*n.ns+(↑k:Int)-n.np))*T.c+c).toNat 0 by with_reducible exact i6n _ (in8x (gt8 ok.ok.d _)))
  have oz18:=(show IntKind.i64.wrap (T.d.getD (((h*n.ns+i-n.np)*T.x+(w*n.ns+(↑k:Int)-n.np))*T.c+c).toNat 0-n.za)=T.d.getD (((h*n.ns+i-n.np)*T.x+(w*n.ns+(↑k:Int)-n.np))*T.c+c).toNat 0-n.za by with_reducible exact i6n _ (by have:=sub8 (gt8 ok.ok.d (((h*n.ns+i-n.np)*T.x+(w*n.ns+(k:Int)-n.np))*T.c+c).toNat) h3;omega))
  have oz19:=(show IntKind.i64.wrap (n.w.getD ((c*n.nk+i)*n.nk+(↑k:Int)).toNat 0*(T.d.getD (((h*n.ns+i-n.np)*T.x+(w*n.ns+(↑k:Int)-n.np))*T.c+c).toNat 0-n.za))=n.w.getD ((c*n.nk+i)*n.nk+(↑k:Int)).toNat 0*(T.d.getD (((h*n.ns+i-n.np)*T.x+(w*n.ns+(↑k:Int)-n.np))*T.c+c).toNat 0-n.za) by with_reducible exact i6n _ (by have:=prod8w (gt8 ok.okn.w ((c*n.nk+i)*n.nk+(k:Int)).toNat) (gt8 ok.ok.d (((h*n.ns+i-n.np)*T.x+(w*n.ns+(k:Int)-n.np))*T.c+c).toNat) h3;omega))
  have oz20:=(show IntKind.i64.wrap (accN v (dcell T n h w c i) k+n.w.getD ((c*n.nk+i)*n.nk+(↑k:Int)).toNat 0*(T.d.getD (((h*n.ns+i-n.np)*T.x+(w*n.ns+(↑k:Int)-n.np))*T.c+c).toNat 0-n.za))=accN v (dcell T n h w c i) k+n.w.getD ((c*n.nk+i)*n.nk+(↑k:Int)).toNat 0*(T.d.getD (((h*n.ns+i-n.np)*T.x+(w*n.ns+(↑k:Int)-n.np))*T.c+c).toNat 0-n.za) by with_reducible exact i6n _ (by have:=prod8w (gt8 ok.okn.w ((c*n.nk+i)*n.nk+(k:Int)).toNat) (gt8 ok.ok.d (((h*n.ns+i-n.np)*T.x+(w*n.ns+(k:Int)-n.np))*T.c+c).toNat) h3;omega))
  have oz22:=(M_ (k:=.i64) (show ((accN v (dcell T n h w c i) k+n.w.getD ((c*n.nk+i)*n.nk+(↑k:Int)).toNat 0*(T.d.getD (((h*n.ns+i-n.np)*T.x+(w*n.ns+(↑k:Int)-n.np))*T.c+c).toNat 0-n.za)):Int)=(accN v (dcell T n h w c i) (k+1)) from (by (rw[accN,dcell,i_ ⟨by omega,by omega,by omega,by omega⟩,dterm,g6]))))
  exact tR_ [r_,b_,.r [] [.n (nO oz1),.n (nO oz2),.n (nO oz3),.n (nO oz4),.n (nO oz5),.n (nO oz6)],.r [] [o_,o_,o_,o_,o_,.sel 2,o_,o_,.sel 2,o_,o_,o_,o_,o_,.sel 2],b_,.r [] [.n (c*n.nk),.n (c*n.nk+i),.n ((c*n.nk+i)*n.nk),.n (nO oz11),.row (sO oz13),.n (nO oz14),cr oz15,.n (nO oz16),.n n.za,.n (nO oz18),.n (nO oz19),.n (nO oz20)],.r [] [.n ((↑k:Int)+1)]] [.any (rg [(14,2),(28,27),(60,2),(64,2),(71,30)]),.weak 11 (wO oz22),.weak 13 (i64 (↑(k+1):Int)),.sort] (.c8 oz0 oz1 oz2 oz3 oz4 oz5 oz6 hc0<|.c8 (i6n (c*n.nk) (by omega)) (i6n (c*n.nk+i) (by omega)) (i6n ((c*n.nk+i)*n.nk) (by omega)) oz11 (s_ (0≤(c*n.nk+i)*n.nk+(↑k:Int))) oz13 oz14 oz15<|.d8 oz16 (i6n n.za (by omega)) oz18 oz19 oz20 (i6n ((↑k:Int)+1) (by omega)) oz22 (wS_ k))
 ·have gc0:((¬h*n.ns+i-n.np≥0∨¬h*n.ns+i-n.np<T.h)∨¬w*n.ns+(↑k:Int)-n.np≥0)∨¬w*n.ns+(↑k:Int)-n.np<T.x:=gc0_ hc0
  have oz9:=(M_ (k:=.i64) (show ((accN v (dcell T n h w c i) k):Int)=(accN v (dcell T n h w c i) (k+1)) from (by (rw[accN,dcell,j_ (by omega)];omega))))
  exact tR_ [r_,b_,.r [] [.n (nO oz1),.n (nO oz2),.n (nO oz3),.n (nO oz4),.n (nO oz5),.n (nO oz6)],.r [] [o_,o_,o_,o_,o_,.sel 2,o_,o_,.sel 2,o_,o_,o_,o_,o_,.sel 2],d_,.r [] [.n ((↑k:Int)+1)]] [.any (rg [(14,2),(28,27),(60,2),(64,2),(71,1)]),.weak 11 (wO oz9),.weak 13 (i64 (↑(k+1):Int)),.sort] (.c8 oz0 oz1 oz2 oz3 oz4 oz5 oz6 hc0<|.d3 (i6n ((↑k:Int)+1) (by omega)) oz9 (wS_ k))
theorem rdSum_j_e (T:Ten) (n:Nod) (h w c i v:Int) (ok:DpOk T n) (h0:0≤h) (h1:h≤1000) (w0:0≤w) (w1:w≤1000) (c0:0≤c) (c1:c<T.c) (i0:0≤i) (i1:i<n.nk) (v0 : -100000000000≤v) (v1:v≤100000000000):VT N_ (fnC Tryz.f200 [1,1,0,1,0,0,1,0,0,1,0,0]) (rdSum_j_I T n h w c i v (n.nk.toNat)) (.exit 2) (rdSum_j_Z T n h w c i v):=by
 have g1:=ok.n.k1
 exact tR_ [r_,d_] [.any (rg [(28,4)]),.sort] (.d (decide_eq_false (p:=((↑n.nk.toNat:Int)<n.nk)) (by omega)))
theorem rdSum_j (T:Ten) (n:Nod) (h w c i v:Int) (ok:DpOk T n) (h0:0≤h) (h1:h≤1000) (w0:0≤w) (w1:w≤1000) (c0:0≤c) (c1:c<T.c) (i0:0≤i) (i1:i<n.nk) (v0 : -100000000000≤v) (v1:v≤100000000000):VT N_ (fnC Tryz.f200 [1,1,0,1,0,0,1,0,0,1,0]) (rdSum_j_I T n h w c i v 0) (.exit 2) (rdSum_j_Z T n h w c i v) :=
 VT.loop (fun k=>rdSum_j_I T n h w c i v k) (n.nk.toNat) (fun k hk=>rdSum_j_s T n h w c i v ok h0 h1 w0 w1 c0 c1 i0 i1 v0 v1 k hk) (rdSum_j_e T n h w c i v ok h0 h1 w0 w1 c0 c1 i0 i1 v0 v1) (by intro h;cases h)
noncomputable def rdSum_i_I (T:Ten) (n:Nod) (h w c:Int) (k:Nat):VS:=stt 102 [(2,i64 h),(3,i64 w),(4,i64 c),(5,.ptr 5 0 0),(6,.ptr 6 0 0),(11,i64 (accN (n.b.getD c.toNat 0) (drow T n h w c) k)),(12,i64 k)] [(5,.var [i64 T.h,i64 T.x,i64 T.c,ints .i8 T.d]),(6,.var (nodC n))]
noncomputable def rdSum_i_Z (T:Ten) (n:Nod) (h w c:Int):VS:=rdSum_i_I T n h w c (n.nk.toNat)
theorem rdSum_i_s (T:Ten) (n:Nod) (h w c:Int) (ok:DpOk T n) (h0:0≤h) (h1:h≤1000) (w0:0≤w) (w1:w≤1000) (c0:0≤c) (c1:c<T.c) (k:Nat) (hk:k<n.nk.toNat):VT N_ (fnC Tryz.f200 [1,1,0,1,0,0]) (rdSum_i_I T n h w c k) .normal (rdSum_i_I T n h w c (k+1)):=by
 have nn:=ok.n
 have g1:=nn.k1
 have g2:=nn.k5
 have g3:=gt32 ok.okn.b c.toNat
 have g4:=accN_eq (n.b.getD c.toNat 0) (drow T n h w c) k
 have g5:=sumN_bd (B:=163200) (f:=drow T n h w c) k fun i _=>drow_bd ok _ _ _ i
 have oz2:=@rdSum_j (T) (n) (h) (w) (c) ((↑k:Int)) (accN (n.b.getD c.toNat 0) (drow T n h w c) k) ok h0 h1 w0 w1 c0 c1 (by omega) (by omega) (by omega) (by omega)
 have oz4:=(M_ (k:=.i64) (show ((accN (accN (n.b.getD c.toNat 0) (drow T n h w c) k) (dcell T n h w c (↑k:Int)) n.nk.toNat):Int)=(accN (n.b.getD c.toNat 0) (drow T n h w c) (k+1)) from (by (rw[accN,drow,accN_eq]))))
 exact tR_ [r_,b_,r_,.code [.any (rg [(22,4)]),.weak 13 (i64 (↑0:Int)),.sort] (AA_ 2) (zO oz2),.r [] [.n ((↑k:Int)+1)]] [.any [13,26,27],.weak 11 (wO oz4),.weak 12 (i64 (↑(k+1):Int)),.sort] (.d6 (decide_eq_true (p:=((↑k:Int)<n.nk)) (by omega)) w0_ oz2 (i6n ((↑k:Int)+1) (by omega)) oz4 (wS_ k))
theorem rdSum_i_e (T:Ten) (n:Nod) (h w c:Int) (ok:DpOk T n) (h0:0≤h) (h1:h≤1000) (w0:0≤w) (w1:w≤1000) (c0:0≤c) (c1:c<T.c):VT N_ (fnC Tryz.f200 [1,1,0,1,0,0]) (rdSum_i_I T n h w c (n.nk.toNat)) (.exit 0) (rdSum_i_Z T n h w c):=by
 have nn:=ok.n
 have g1:=nn.k1
 exact tR_ [r_,d_] [.any (rg [(22,4)]),.sort] (.d (decide_eq_false (p:=((↑n.nk.toNat:Int)<n.nk)) (by omega)))
theorem rdSum_i (T:Ten) (n:Nod) (h w c:Int) (ok:DpOk T n) (h0:0≤h) (h1:h≤1000) (w0:0≤w) (w1:w≤1000) (c0:0≤c) (c1:c<T.c):VT N_ (fnC Tryz.f200 [1,1,0,1,0]) (rdSum_i_I T n h w c 0) (.exit 0) (rdSum_i_Z T n h w c) :=
 VT.loop (fun k=>rdSum_i_I T n h w c k) (n.nk.toNat) (fun k hk=>rdSum_i_s T n h w c ok h0 h1 w0 w1 c0 c1 k hk) (rdSum_i_e T n h w c ok h0 h1 w0 w1 c0 c1) (by intro h;cases h)
theorem rdSum_v (T:Ten) (n:Nod) (h w c:Int) (ok:DpOk T n) (h0:0≤h) (h1:h≤1000) (w0:0≤w) (w1:w≤1000) (c0:0≤c) (c1:c<T.c):VC N_ 200 ([ten .i8 T,nod n,i64 h,i64 w,i64 c]) (i64 (dE T n h w c)):=by
 have g1:=ok.n.bl
 have g3:=gt32 ok.okn.b c.toNat
 have oz3:=(M_ (k:=.i64) (show ((n.b.getD c.toNat 0):Int)=(accN (n.b.getD c.toNat 0) (drow T n h w c) 0) from (by rfl)))
 have oz5:=@rdSum_i (T) (n) (h) (w) (c) ok h0 h1 w0 w1 c0 c1
 exact (cR_ [r_,.r [] [.row [i32 (n.b.getD c.toNat 0)],.n (n.b.getD c.toNat 0)],r_,.code [.any (rg [(0,2),(10,1),(16,6)]),.weak 11 (wO oz3),.weak 12 (i64 (↑0:Int)),.sort] (AA_ 0) (zO oz5),r_] (i64 (accN (n.b.getD c.toNat 0) (drow T n h w c) n.nk.toNat)) Tryz.func200 (.d6 c0 (map_at (row1 .i32) (0) (l:=n.b) (i:=c.toNat) (by omega)) (i6n (n.b.getD c.toNat 0) (by omega)) oz3 w0_ oz5)).weak (Y_ _) (M_ (by rfl))
def gO (f:Nat→Nat→Nat→Int) (h w o:Nat):List Int:=(BM_ o).map (f h w)
def gW (f:Nat→Nat→Nat→Int) (m h:Nat):Nat→List Int
 | 0=>[]
 | w+1=>gW f m h w++gO f h w m
def gH (f:Nat→Nat→Nat→Int) (m x:Nat):Nat→List Int
 | 0=>[]
 | h+1=>gH f m x h++gW f m h x
theorem gO_len (f:Nat→Nat→Nat→Int) (h w o:Nat):(gO f h w o).length=o:=by simp[gO]
theorem gO_succ (f:Nat→Nat→Nat→Int) (h w o:Nat):gO f h w (o+1)=gO f h w o++[f h w o]:=by simp[gO,List.range_succ]
theorem gW_len (f:Nat→Nat→Nat→Int) (m h:Nat):∀ w,(gW f m h w).length=w*m
 | 0=>by simp[gW]
 | w+1=>by rw[gW,AX_,gW_len f m h w,gO_len,BI_];omega
theorem gH_len (f:Nat→Nat→Nat→Int) (m x:Nat):∀ h,(gH f m x h).length=h*(x*m)
 | 0=>by simp[gH]
 | h+1=>by rw[gH,AX_,gH_len f m x h,gW_len,BI_];omega
theorem g_len {f:Nat→Nat→Nat→Int} {m x y h w:Nat} (hh:h<y) (hw:w<x) (b:y*(x*m)≤2000):(gH f m x h).length+(gW f m h w).length+m≤4000:=by
 rw[gH_len,gW_len]
 have a2:h*(x*m)≤y*(x*m):=AF_ _ (by omega)
 have a3:(w+1)*m≤x*m:=AF_ _ (by omega)
 have a4:1*(x*m)≤y*(x*m):=AF_ _ (by omega)
 rw[BI_] at a3
 omega
def dF (T:Ten) (n:Nod) (h w c:Nat):Int:=IntKind.i32.wrap (dE T n h w c)
theorem dN_bd {T:Ten} {n:Nod} (nn:DpN T n):(depthE ⟨T.h,T.x,T.c⟩ n).1.h.toNat*((depthE ⟨T.h,T.x,T.c⟩ n).1.x.toNat*T.c.toNat)≤2000:=by
 have h1:=nn.he
 have h2:=nn.xe
 have h3:=nn.c1
 have h5:=nn.el
 have:(((depthE ⟨T.h,T.x,T.c⟩ n).1.h.toNat*((depthE ⟨T.h,T.x,T.c⟩ n).1.x.toNat*T.c.toNat):Nat):Int)=(depthE ⟨T.h,T.x,T.c⟩ n).1.h*(depthE ⟨T.h,T.x,T.c⟩ n).1.x*T.c:=by
  rw[BF_,BF_,AB_ (by omega),AB_ (by omega),AB_ (by omega),Int.mul_assoc]
 omega
noncomputable def rdOf_o_I (T:Ten) (n:Nod) (h w:Nat) (k:Nat):VS:=stt 60 [(2,.ptr 2 0 0),(3,.ptr 3 0 0),(4,.ptr 4 0 0),(6,.ptr 6 0 0),(8,.ptr 8 0 0),(9,i64 h),(10,i64 w),(11,i64 k)] [(2,.var [i64 T.h,i64 T.x,i64 T.c,ints .i8 T.d]),(3,.var (nodC n)),(4,.var [i64 0,i64 0,i64 0,nilv]),(6,.var [i64 (depthE ⟨T.h,T.x,T.c⟩ n).1.h,i64 (depthE ⟨T.h,T.x,T.c⟩ n).1.x,i64 T.c]),(8,.var [i64 (depthE ⟨T.h,T.x,T.c⟩ n).1.h,i64 (depthE ⟨T.h,T.x,T.c⟩ n).1.x,i64 T.c,.own 900]),(900,.slc 21 1 ((gH (dF T n) T.c.toNat (depthE ⟨T.h,T.x,T.c⟩ n).1.x.toNat h++(gW (dF T n) T.c.toNat h w++gO (dF T n) h w k)).map (row1 .i32)))]
noncomputable def rdOf_o_Z (T:Ten) (n:Nod) (h w:Nat):VS:=rdOf_o_I T n h w (T.c.toNat)
theorem rdOf_o_s (T:Ten) (n:Nod) (h w:Nat) (ok:DpOk T n) (h1:h<(depthE ⟨T.h,T.x,T.c⟩ n).1.h.toNat) (w1:w<(depthE ⟨T.h,T.x,T.c⟩ n).1.x.toNat) (k:Nat) (hk:k<T.c.toNat):VT N_ (fnC Tryz.f178 [1,1,1,1,1,0,1,0,0,1,0,0,1,0,0,1,0,0,1,0,0]) (rdOf_o_I T n h w k) .normal (rdOf_o_I T n h w (k+1)):=by
 have nn:=ok.n
 have g1:=nn.he
 have g2:=nn.xe
 have g3:=nn.sc
 have g4:=nn.c1
 have g5:=nn.c2
 have g6:=g_len (f:=dF T n) h1 w1 (dN_bd nn)
 have g7:=gO_len (dF T n) h w k
 have oz1:=@rdSum_v (T) (n) ((↑h:Int)) ((↑w:Int)) ((↑k:Int)) ok (by omega) (by omega) (by omega) (by omega) (by omega) (by omega)
 exact tR_ [r_,b_,.r [] [cr oz1,.w],.r [] [.n ((↑k:Int)+1)]] [.any (rg [(41,18)]),.drop [56],.ren 57 900,.weak 11 (i64 (↑(k+1):Int)),.blk 900 (Blk.slc 21 1 (K_ (row1 .i32) (gH (dF T n) T.c.toNat (depthE (Shp.mk T.h T.x T.c) n).fst.x.toNat h++(gW (dF T n) T.c.toNat h w++gO (dF T n) h w (k+1))))),.sort] (.d7 (decide_eq_true (p:=((↑k:Int)<T.c)) (by omega)) oz1 (show ((K_ (row1 .i32) (gH (dF T n) T.c.toNat (depthE (Shp.mk T.h T.x T.c) n).fst.x.toNat h++(gW (dF T n) T.c.toNat h w++gO (dF T n) h w k))).length+1)*4≤140737488355328 by (simp;omega)) (show (K_ (row1 .i32) (gH (dF T n) T.c.toNat (depthE (Shp.mk T.h T.x T.c) n).fst.x.toNat h++(gW (dF T n) T.c.toNat h w++gO (dF T n) h w k))).length+1≤9223372036854775807 by (simp;omega)) (i6n ((↑k:Int)+1) (by omega)) (wS_ k) (show BlkW (Blk.slc 21 1 (K_ (row1 .i32) (gH (dF T n) T.c.toNat (depthE (Shp.mk T.h T.x T.c) n).fst.x.toNat h++(gW (dF T n) T.c.toNat h w++gO (dF T n) h w k))++[[i32 (IntKind.i32.wrap (dE T n (↑h:Int) (↑w:Int) (↑k:Int)))]])) (Blk.slc 21 1 (K_ (row1 .i32) (gH (dF T n) T.c.toNat (depthE (Shp.mk T.h T.x T.c) n).fst.x.toNat h++(gW (dF T n) T.c.toNat h w++gO (dF T n) h w (k+1))))) from (BU_ (e:=21) (z:=1) (rows_to (row1 .i32) (r:=K_ (row1 .i32) (gH (dF T n) T.c.toNat (depthE (Shp.mk T.h T.x T.c) n).fst.x.toNat h++(gW (dF T n) T.c.toNat h w++gO (dF T n) h w k))++[[i32 (IntKind.i32.wrap (dE T n (↑h:Int) (↑w:Int) (↑k:Int)))]]) (l:=gH (dF T n) T.c.toNat (depthE (Shp.mk T.h T.x T.c) n).fst.x.toNat h++(gW (dF T n) T.c.toNat h w++gO (dF T n) h w k)++[IntKind.i32.wrap (dE T n (↑h:Int) (↑w:Int) (↑k:Int))]) (m:=gH (dF T n) T.c.toNat (depthE (Shp.mk T.h T.x T.c) n).fst.x.toNat h++(gW (dF T n) T.c.toNat h w++gO (dF T n) h w (k+1))) (by first|(simp only[C_,D_,AM_,AN_,A_,AK_,AL_];done)|rfl|(simp only[C_,D_,AM_,AN_,A_,AK_,AL_];rfl)) (show (gH (dF T n) T.c.toNat (depthE (Shp.mk T.h T.x T.c) n).fst.x.toNat h++(gW (dF T n) T.c.toNat h w++gO (dF T n) h w k)++[IntKind.i32.wrap (dE T n (↑h:Int) (↑w:Int) (↑k:Int))])=(gH (dF T n) T.c.toNat (depthE (Shp.mk T.h T.x T.c) n).fst.x.toNat h++(gW (dF T n) T.c.toNat h w++gO (dF T n) h w (k+1))) from (by (rw[gO_succ];simp[dF])))))))
theorem rdOf_o_e (T:Ten) (n:Nod) (h w:Nat) (ok:DpOk T n) (h1:h<(depthE ⟨T.h,T.x,T.c⟩ n).1.h.toNat) (w1:w<(depthE ⟨T.h,T.x,T.c⟩ n).1.x.toNat):VT N_ (fnC Tryz.f178 [1,1,1,1,1,0,1,0,0,1,0,0,1,0,0,1,0,0,1,0,0]) (rdOf_o_I T n h w (T.c.toNat)) (.exit 4) (rdOf_o_Z T n h w):=by
 have nn:=ok.n
 have g1:=nn.he
 have g2:=nn.xe
 have g3:=nn.sc
 have g4:=nn.c1
 have g5:=nn.c2
 exact tR_ [r_,d_] [.any (rg [(41,4)]),.sort] (.d (decide_eq_false (p:=((↑T.c.toNat:Int)<T.c)) (by omega)))
theorem rdOf_o (T:Ten) (n:Nod) (h w:Nat) (ok:DpOk T n) (h1:h<(depthE ⟨T.h,T.x,T.c⟩ n).1.h.toNat) (w1:w<(depthE ⟨T.h,T.x,T.c⟩ n).1.x.toNat):VT N_ (fnC Tryz.f178 [1,1,1,1,1,0,1,0,0,1,0,0,1,0,0,1,0,0,1,0]) (rdOf_o_I T n h w 0) (.exit 4) (rdOf_o_Z T n h w) :=
 VT.loop (fun k=>rdOf_o_I T n h w k) (T.c.toNat) (fun k hk=>rdOf_o_s T n h w ok h1 w1 k hk) (rdOf_o_e T n h w ok h1 w1) (by intro h;cases h)
noncomputable def rdOf_w_I (T:Ten) (n:Nod) (h:Nat) (k:Nat):VS:=stt 60 [(2,.ptr 2 0 0),(3,.ptr 3 0 0),(4,.ptr 4 0 0),(6,.ptr 6 0 0),(8,.ptr 8 0 0),(9,i64 h),(10,i64 k)] [(2,.var [i64 T.h,i64 T.x,i64 T.c,ints .i8 T.d]),(3,.var (nodC n)),(4,.var [i64 0,i64 0,i64 0,nilv]),(6,.var [i64 (depthE ⟨T.h,T.x,T.c⟩ n).1.h,i64 (depthE ⟨T.h,T.x,T.c⟩ n).1.x,i64 T.c]),(8,.var [i64 (depthE ⟨T.h,T.x,T.c⟩ n).1.h,i64 (depthE ⟨T.h,T.x,T.c⟩ n).1.x,i64 T.c,.own 900]),(900,.slc 21 1 ((gH (dF T n) T.c.toNat (depthE ⟨T.h,T.x,T.c⟩ n).1.x.toNat h++gW (dF T n) T.c.toNat h k).map (row1 .i32)))]
noncomputable def rdOf_w_Z (T:Ten) (n:Nod) (h:Nat):VS:=rdOf_w_I T n h ((depthE ⟨T.h,T.x,T.c⟩ n).1.x.toNat)
theorem rdOf_w_s (T:Ten) (n:Nod) (h:Nat) (ok:DpOk T n) (h1:h<(depthE ⟨T.h,T.x,T.c⟩ n).1.h.toNat) (k:Nat) (hk:k<(depthE ⟨T.h,T.x,T.c⟩ n).1.x.toNat):VT N_ (fnC Tryz.f178 [1,1,1,1,1,0,1,0,0,1,0,0,1,0,0]) (rdOf_w_I T n h k) .normal (rdOf_w_I T n h (k+1)):=by
 have nn:=ok.n
 have g1:=nn.he
 have g2:=nn.xe
 have g3:=nn.sc
 have g4:=nn.c1
 have g5:=nn.c2
 have oz3:=@rdOf_o (T) (n) (h) (k) ok h1 hk
 exact tR_ [r_,b_,r_,.code [.any (rg [(35,4)]),.weak 11 (i64 (↑0:Int)),.blk 900 (Blk.slc 21 1 (K_ (row1 .i32) (gH (dF T n) T.c.toNat (depthE (Shp.mk T.h T.x T.c) n).fst.x.toNat h++(gW (dF T n) T.c.toNat h k++gO (dF T n) h k 0)))),.sort] (AA_ 4) (zO oz3),.r [] [.n ((↑k:Int)+1)]] [.any [11,39,40],.weak 10 (i64 (↑(k+1):Int)),.blk 900 (Blk.slc 21 1 (K_ (row1 .i32) (gH (dF T n) T.c.toNat (depthE (Shp.mk T.h T.x T.c) n).fst.x.toNat h++gW (dF T n) T.c.toNat h (k+1)))),.sort] (.d7 (decide_eq_true (p:=((↑k:Int)<(depthE (Shp.mk T.h T.x T.c) n).fst.x)) (by omega)) w0_ (show BlkW (Blk.slc 21 1 (K_ (row1 .i32) (gH (dF T n) T.c.toNat (depthE (Shp.mk T.h T.x T.c) n).fst.x.toNat h++gW (dF T n) T.c.toNat h k))) (Blk.slc 21 1 (K_ (row1 .i32) (gH (dF T n) T.c.toNat (depthE (Shp.mk T.h T.x T.c) n).fst.x.toNat h++(gW (dF T n) T.c.toNat h k++gO (dF T n) h k 0)))) from (BU_ (e:=21) (z:=1) (rows_to (row1 .i32) (r:=K_ (row1 .i32) (gH (dF T n) T.c.toNat (depthE (Shp.mk T.h T.x T.c) n).fst.x.toNat h++gW (dF T n) T.c.toNat h k)) (l:=gH (dF T n) T.c.toNat (depthE (Shp.mk T.h T.x T.c) n).fst.x.toNat h++gW (dF T n) T.c.toNat h k) (m:=gH (dF T n) T.c.toNat (depthE (Shp.mk T.h T.x T.c) n).fst.x.toNat h++(gW (dF T n) T.c.toNat h k++gO (dF T n) h k 0)) rfl (show (gH (dF T n) T.c.toNat (depthE (Shp.mk T.h T.x T.c) n).fst.x.toNat h++gW (dF T n) T.c.toNat h k)=(gH (dF T n) T.c.toNat (depthE (Shp.mk T.h T.x T.c) n).fst.x.toNat h++(gW (dF T n) T.c.toNat h k++gO (dF T n) h k 0)) from (by (simp[gO];done)))))) oz3 (i6n ((↑k:Int)+1) (by omega)) (wS_ k) (show BlkW (Blk.slc 21 1 (K_ (row1 .i32) (gH (dF T n) T.c.toNat (depthE (Shp.mk T.h T.x T.c) n).fst.x.toNat h++(gW (dF T n) T.c.toNat h k++gO (dF T n) h k T.c.toNat)))) (Blk.slc 21 1 (K_ (row1 .i32) (gH (dF T n) T.c.toNat (depthE (Shp.mk T.h T.x T.c) n).fst.x.toNat h++gW (dF T n) T.c.toNat h (k+1)))) from (BU_ (e:=21) (z:=1) (rows_to (row1 .i32) (r:=K_ (row1 .i32) (gH (dF T n) T.c.toNat (depthE (Shp.mk T.h T.x T.c) n).fst.x.toNat h++(gW (dF T n) T.c.toNat h k++gO (dF T n) h k T.c.toNat))) (l:=gH (dF T n) T.c.toNat (depthE (Shp.mk T.h T.x T.c) n).fst.x.toNat h++(gW (dF T n) T.c.toNat h k++gO (dF T n) h k T.c.toNat)) (m:=gH (dF T n) T.c.toNat (depthE (Shp.mk T.h T.x T.c) n).fst.x.toNat h++gW (dF T n) T.c.toNat h (k+1)) rfl (show (gH (dF T n) T.c.toNat (depthE (Shp.mk T.h T.x T.c) n).fst.x.toNat h++(gW (dF T n) T.c.toNat h k++gO (dF T n) h k T.c.toNat))=(gH (dF T n) T.c.toNat (depthE (Shp.mk T.h T.x T.c) n).fst.x.toNat h++gW (dF T n) T.c.toNat h (k+1)) from (by rfl))))))
theorem rdOf_w_e (T:Ten) (n:Nod) (h:Nat) (ok:DpOk T n) (h1:h<(depthE ⟨T.h,T.x,T.c⟩ n).1.h.toNat):VT N_ (fnC Tryz.f178 [1,1,1,1,1,0,1,0,0,1,0,0,1,0,0]) (rdOf_w_I T n h ((depthE ⟨T.h,T.x,T.c⟩ n).1.x.toNat)) (.exit 2) (rdOf_w_Z T n h):=by
 have nn:=ok.n
 have g1:=nn.he
 have g2:=nn.xe
 have g3:=nn.sc
 have g4:=nn.c1
 have g5:=nn.c2
 exact tR_ [r_,d_] [.any (rg [(35,4)]),.sort] (.d (decide_eq_false (p:=((↑(depthE (Shp.mk T.h T.x T.c) n).fst.x.toNat:Int)<(depthE (Shp.mk T.h T.x T.c) n).fst.x)) (by omega)))
theorem rdOf_w (T:Ten) (n:Nod) (h:Nat) (ok:DpOk T n) (h1:h<(depthE ⟨T.h,T.x,T.c⟩ n).1.h.toNat):VT N_ (fnC Tryz.f178 [1,1,1,1,1,0,1,0,0,1,0,0,1,0]) (rdOf_w_I T n h 0) (.exit 2) (rdOf_w_Z T n h) :=
 VT.loop (fun k=>rdOf_w_I T n h k) ((depthE ⟨T.h,T.x,T.c⟩ n).1.x.toNat) (fun k hk=>rdOf_w_s T n h ok h1 k hk) (rdOf_w_e T n h ok h1) (by intro h;cases h)
noncomputable def rdOf_h_I (T:Ten) (n:Nod) (k:Nat):VS:=stt 60 [(2,.ptr 2 0 0),(3,.ptr 3 0 0),(4,.ptr 4 0 0),(6,.ptr 6 0 0),(8,.ptr 8 0 0),(9,i64 k)] [(2,.var [i64 T.h,i64 T.x,i64 T.c,ints .i8 T.d]),(3,.var (nodC n)),(4,.var [i64 0,i64 0,i64 0,nilv]),(6,.var [i64 (depthE ⟨T.h,T.x,T.c⟩ n).1.h,i64 (depthE ⟨T.h,T.x,T.c⟩ n).1.x,i64 T.c]),(8,.var [i64 (depthE ⟨T.h,T.x,T.c⟩ n).1.h,i64 (depthE ⟨T.h,T.x,T.c⟩ n).1.x,i64 T.c,.own 900]),(900,.slc 21 1 ((gH (dF T n) T.c.toNat (depthE ⟨T.h,T.x,T.c⟩ n).1.x.toNat k).map (row1 .i32)))]
noncomputable def rdOf_h_Z (T:Ten) (n:Nod):VS:=rdOf_h_I T n ((depthE ⟨T.h,T.x,T.c⟩ n).1.h.toNat)
theorem rdOf_h_s (T:Ten) (n:Nod) (ok:DpOk T n) (k:Nat) (hk:k<(depthE ⟨T.h,T.x,T.c⟩ n).1.h.toNat):VT N_ (fnC Tryz.f178 [1,1,1,1,1,0,1,0,0]) (rdOf_h_I T n k) .normal (rdOf_h_I T n (k+1)):=by
 have nn:=ok.n
 have g1:=nn.he
 have g2:=nn.xe
 have g3:=nn.sc
 have g4:=nn.c1
 have g5:=nn.c2
 have oz3:=@rdOf_w (T) (n) (k) ok hk
 exact tR_ [r_,b_,r_,.code [.any (rg [(29,4)]),.weak 10 (i64 (↑0:Int)),.blk 900 (Blk.slc 21 1 (K_ (row1 .i32) (gH (dF T n) T.c.toNat (depthE (Shp.mk T.h T.x T.c) n).fst.x.toNat k++gW (dF T n) T.c.toNat k 0))),.sort] (AA_ 2) (zO oz3),.r [] [.n ((↑k:Int)+1)]] [.any [10,33,34],.weak 9 (i64 (↑(k+1):Int)),.blk 900 (Blk.slc 21 1 (K_ (row1 .i32) (gH (dF T n) T.c.toNat (depthE (Shp.mk T.h T.x T.c) n).fst.x.toNat (k+1)))),.sort] (.d7 (decide_eq_true (p:=((↑k:Int)<(depthE (Shp.mk T.h T.x T.c) n).fst.h)) (by omega)) w0_ (show BlkW (Blk.slc 21 1 (K_ (row1 .i32) (gH (dF T n) T.c.toNat (depthE (Shp.mk T.h T.x T.c) n).fst.x.toNat k))) (Blk.slc 21 1 (K_ (row1 .i32) (gH (dF T n) T.c.toNat (depthE (Shp.mk T.h T.x T.c) n).fst.x.toNat k++gW (dF T n) T.c.toNat k 0))) from (BU_ (e:=21) (z:=1) (rows_to (row1 .i32) (r:=K_ (row1 .i32) (gH (dF T n) T.c.toNat (depthE (Shp.mk T.h T.x T.c) n).fst.x.toNat k)) (l:=gH (dF T n) T.c.toNat (depthE (Shp.mk T.h T.x T.c) n).fst.x.toNat k) (m:=gH (dF T n) T.c.toNat (depthE (Shp.mk T.h T.x T.c) n).fst.x.toNat k++gW (dF T n) T.c.toNat k 0) rfl (show (gH (dF T n) T.c.toNat (depthE (Shp.mk T.h T.x T.c) n).fst.x.toNat k)=(gH (dF T n) T.c.toNat (depthE (Shp.mk T.h T.x T.c) n).fst.x.toNat k++gW (dF T n) T.c.toNat k 0) from (by (simp[gW];done)))))) oz3 (i6n ((↑k:Int)+1) (by omega)) (wS_ k) (show BlkW (Blk.slc 21 1 (K_ (row1 .i32) (gH (dF T n) T.c.toNat (depthE (Shp.mk T.h T.x T.c) n).fst.x.toNat k++gW (dF T n) T.c.toNat k (depthE (Shp.mk T.h T.x T.c) n).fst.x.toNat))) (Blk.slc 21 1 (K_ (row1 .i32) (gH (dF T n) T.c.toNat (depthE (Shp.mk T.h T.x T.c) n).fst.x.toNat (k+1)))) from (BU_ (e:=21) (z:=1) (rows_to (row1 .i32) (r:=K_ (row1 .i32) (gH (dF T n) T.c.toNat (depthE (Shp.mk T.h T.x T.c) n).fst.x.toNat k++gW (dF T n) T.c.toNat k (depthE (Shp.mk T.h T.x T.c) n).fst.x.toNat)) (l:=gH (dF T n) T.c.toNat (depthE (Shp.mk T.h T.x T.c) n).fst.x.toNat k++gW (dF T n) T.c.toNat k (depthE (Shp.mk T.h T.x T.c) n).fst.x.toNat) (m:=gH (dF T n) T.c.toNat (depthE (Shp.mk T.h T.x T.c) n).fst.x.toNat (k+1)) rfl (show (gH (dF T n) T.c.toNat (depthE (Shp.mk T.h T.x T.c) n).fst.x.toNat k++gW (dF T n) T.c.toNat k (depthE (Shp.mk T.h T.x T.c) n).fst.x.toNat)=(gH (dF T n) T.c.toNat (depthE (Shp.mk T.h T.x T.c) n).fst.x.toNat (k+1)) from (by rfl))))))
theorem rdOf_h_e (T:Ten) (n:Nod) (ok:DpOk T n):VT N_ (fnC Tryz.f178 [1,1,1,1,1,0,1,0,0]) (rdOf_h_I T n ((depthE ⟨T.h,T.x,T.c⟩ n).1.h.toNat)) (.exit 0) (rdOf_h_Z T n):=by
 have nn:=ok.n
 have g1:=nn.he
 have g2:=nn.xe
 have g3:=nn.sc
 have g4:=nn.c1
 have g5:=nn.c2
 exact tR_ [r_,d_] [.any (rg [(29,4)]),.sort] (.d (decide_eq_false (p:=((↑(depthE (Shp.mk T.h T.x T.c) n).fst.h.toNat:Int)<(depthE (Shp.mk T.h T.x T.c) n).fst.h)) (by omega)))
theorem rdOf_h (T:Ten) (n:Nod) (ok:DpOk T n):VT N_ (fnC Tryz.f178 [1,1,1,1,1,0,1,0]) (rdOf_h_I T n 0) (.exit 0) (rdOf_h_Z T n) :=
 VT.loop (fun k=>rdOf_h_I T n k) ((depthE ⟨T.h,T.x,T.c⟩ n).1.h.toNat) (fun k hk=>rdOf_h_s T n ok k hk) (rdOf_h_e T n ok) (by intro h;cases h)
theorem rdOf_x (T:Ten) (n:Nod) (ok:DpOk T n):VC N_ 178 ([ten .i8 T,nod n]) (.tup [ten .i32 ⟨(depthE ⟨T.h,T.x,T.c⟩ n).1.h,(depthE ⟨T.h,T.x,T.c⟩ n).1.x,(depthE ⟨T.h,T.x,T.c⟩ n).1.c,gH (dF T n) T.c.toNat (depthE ⟨T.h,T.x,T.c⟩ n).1.x.toNat (depthE ⟨T.h,T.x,T.c⟩ n).1.h.toNat⟩,i64 0]):=by
 have ok1:=ok.ok
 have okn:=ok.okn
 have q2:=ok.r
 have q3:=ok.e
 have g3:=ok.n.sc
 have oz0:=@refTRight_v (T) ok1
 have oz2:=@refDepthShape_v (Shp.mk T.h T.x T.c) (n) (by (exact Shp.mk_ok ok1.h ok1.x ok1.c)) okn
 have oz7:=@rdOf_h (T) (n) ok
 exact (cR_ [r_,.r [] [cr oz0],d_,.r [] [cr oz2],r_,d_,r_,r_,.code [.any (rg [(0,2),(5,1),(7,1),(12,3),(16,9),(27,2)]),.weak 9 (i64 (↑0:Int)),.nilc 900 21 1 8 3,.blk 6 (Blk.var [i64 (depthE (Shp.mk T.h T.x T.c) n).fst.h,i64 (depthE (Shp.mk T.h T.x T.c) n).fst.x,i64 T.c]),.blk 8 (Blk.var [i64 (depthE (Shp.mk T.h T.x T.c) n).fst.h,i64 (depthE (Shp.mk T.h T.x T.c) n).fst.x,i64 T.c,AV.own 900]),.sort] (AA_ 0) (zO oz7),r_] (AV.tup [AV.agg [i64 (depthE (Shp.mk T.h T.x T.c) n).fst.h,i64 (depthE (Shp.mk T.h T.x T.c) n).fst.x,i64 T.c,AV.sl 1 (K_ (row1 .i32) (gH (dF T n) T.c.toNat (depthE (Shp.mk T.h T.x T.c) n).fst.x.toNat (depthE (Shp.mk T.h T.x T.c) n).fst.h.toNat))],i64 0]) Tryz.func178 (.d8 oz0 (show (!tenRight T)=false by (simp;omega)) oz2 (show ((depthE (Shp.mk T.h T.x T.c) n).snd != 0)=false by (simp;omega)) w0_ (show BlkW (Blk.var [i64 (depthE (Shp.mk T.h T.x T.c) n).fst.h,i64 (depthE (Shp.mk T.h T.x T.c) n).fst.x,i64 (depthE (Shp.mk T.h T.x T.c) n).fst.c]) (Blk.var [i64 (depthE (Shp.mk T.h T.x T.c) n).fst.h,i64 (depthE (Shp.mk T.h T.x T.c) n).fst.x,i64 T.c]) from (BlkW.var (m:=[i64 (depthE (Shp.mk T.h T.x T.c) n).fst.h,i64 (depthE (Shp.mk T.h T.x T.c) n).fst.x,i64 T.c]) (.cons (.refl _) (.cons (.refl _) (.cons (M_ (g3)) .nil))))) (show BlkW (Blk.var [i64 (depthE (Shp.mk T.h T.x T.c) n).fst.h,i64 (depthE (Shp.mk T.h T.x T.c) n).fst.x,i64 (depthE (Shp.mk T.h T.x T.c) n).fst.c,AV.own 900]) (Blk.var [i64 (depthE (Shp.mk T.h T.x T.c) n).fst.h,i64 (depthE (Shp.mk T.h T.x T.c) n).fst.x,i64 T.c,AV.own 900]) from (BlkW.var (m:=[i64 (depthE (Shp.mk T.h T.x T.c) n).fst.h,i64 (depthE (Shp.mk T.h T.x T.c) n).fst.x,i64 T.c,AV.own 900]) (.cons (.refl _) (.cons (.refl _) (.cons (M_ (g3)) (.cons (.refl _) .nil)))))) oz7)).weak (Y_ _) (AS_ (.cons (AV_ (.cons (.refl _) (.cons (.refl _) (.cons (M_ (by dsimp only;omega)) (.cons (.refl _) .nil))))) (.cons (.refl _) .nil)))
abbrev ten0:Ten:=⟨0,0,0,[]⟩
structure TRt (T:Ten):Prop where
 h1:1≤T.h
 h16:T.h≤16
 x1:1≤T.x
 x16:T.x≤16
 c1:1≤T.c
 c2:T.c≤1024
 el:T.h*T.x*T.c≤1024
 dl:(T.d.length:Int)=T.h*T.x*T.c
 en:elems T.h T.x T.c=T.h*T.x*T.c
theorem tenRight.rt {T:Ten} (h:tenRight T=true):TRt T:=by
 unfold tenRight at h
 simp only[O_,E_] at h
 have c:=elems_ok h.1
 have e:elems T.h T.x T.c=T.h*T.x*T.c:=by
  have h1:=h.1
  unfold elems at h1 ⊢
  split
  ·rfl
  ·rename_i hn;rw[j_ hn] at h1;omega
 exact ⟨by omega,by omega,by omega,by omega,by omega,by omega,by omega,by omega,e⟩
theorem TRt.place {T:Ten} (r:TRt T) {h w c:Int} (hi:inT T h w) (c0:0≤c) (c1:c<T.c):0≤h*T.x∧h*T.x≤1024∧0≤(h*T.x+w)*T.c∧(h*T.x+w)*T.c+c<T.d.length:=by
 obtain ⟨h0,h1,w0,w1⟩:=hi
 obtain ⟨q1,q2,q3,q4,q5,q6,q7,q8,_⟩:=r
 have a1:=idx_bd h0 h1 w0 w1
 have a2:=idx_bd a1.1 a1.2 c0 c1
 have a3:0≤h*T.x:=BK_ h0 (by omega)
 have a4:h*T.x≤16*16:=CI_ (by omega) (by omega) (by omega) (by omega)
 have a5:0≤(h*T.x+w)*T.c:=BK_ (by omega) (by omega)
 exact ⟨a3,by omega,a5,by omega⟩
def pixE (T:Ten) (h w c z:Int):Int:=if inT T h w then T.d.getD ((h*T.x+w)*T.c+c).toNat 0 else z
theorem pix8 {T:Ten} (ok:T.Ok) {z:Int} (hz:In8 z) (h w c:Int):In8 (pixE T h w c z):=by
 unfold pixE;split
 ·exact gt8 ok.d _
 ·exact hz
theorem pixel_v (T:Ten) (h w c z:Int) (r:TRt T) (h0 : -4≤h) (h1:h≤20) (w0 : -4≤w) (w1:w≤20) (c0:0≤c) (c1:c<T.c):VC N_ 198 ([ten .i8 T,i64 h,i64 w,i64 c,i8 z]) (i8 (pixE T h w c z)):=by
 have q1:=fun (a:inT T h w)=>r.place a c0 c1
 have q2:=r.el
 have q3:=r.dl
 rcases bft (decide (h<0) || decide (h≥T.h) || decide (w<0) || decide (w≥T.x)) with hc0|hc0
 ·have gc0:((h<0∨h≥T.h)∨w<0)∨w≥T.x:=gc0_ hc0
  exact (cR_ [r_,.r [] [o_,o_,o_,o_,o_,.sel 1,o_,o_,.sel 1,o_,o_,o_,o_,o_,.sel 1],b_,r_] (i8 z) Tryz.func198 (.d hc0)).weak (Y_ _) (M_ (by (unfold pixE inT;rw[j_ (by omega)])))
 ·have gc0:((¬h<0∧¬h≥T.h)∧¬w<0)∧¬w≥T.x:=gc0_ hc0
  have oz1:=@get_v (T) (h) (w) (c) (by omega) (by omega) (by omega) (by omega) (by omega) c0 (by omega) (by omega)
  exact (cR_ [r_,.r [] [o_,o_,o_,o_,o_,.sel 1,o_,o_,.sel 1,o_,o_,o_,o_,o_,.sel 1],d_,.r [] [cr oz1]] (i8 (T.d.getD ((h*T.x+w)*T.c+c).toNat 0)) Tryz.func198 (.d2 hc0 oz1)).weak (Y_ _) (M_ (by (unfold pixE inT;rw[i_ (by omega)])))
abbrev movF (T:Ten) (a b z:Int) (h w c:Nat):Int:=pixE T ((h:Int)-a) ((w:Int)-b) c z
theorem gH_in8 {f:Nat→Nat→Nat→Int} (hf:∀ h w c,In8 (f h w c)) (m x:Nat):∀ y,∀ v∈gH f m x y,In8 v
 | 0=>by simp[gH]
 | y+1=>by
  have gW8:∀ w,∀ v∈gW f m y w,In8 v:=by
   intro w
   induction w with
   | zero=>simp[gW]
   | succ w ih =>
    intro v hv
    rw[gW,CW_] at hv
    rcases hv with hv|hv
    ·exact ih v hv
    ·unfold gO at hv
     obtain ⟨c,_,rfl⟩:=List.mem_map.1 hv
     exact hf _ _ _
  intro v hv
  rw[gH,CW_] at hv
  rcases hv with hv|hv
  ·exact gH_in8 hf m x y v hv
  ·exact gW8 x v hv
structure MvOk (T:Ten) (s:Shp) (a b:Int):Prop where
 r:TRt T
 h1:1≤s.h
 h2:s.h≤16
 x1:1≤s.x
 x2:s.x≤16
 c:s.c=T.c
 el:s.h.toNat*(s.x.toNat*s.c.toNat)≤2000
 a0:0≤a
 a4:a≤4
 b0:0≤b
 b4:b≤4
noncomputable def move_c_I (T:Ten) (s:Shp) (a b z:Int) (h w:Nat) (k:Nat):VS:=stt 51 [(2,i64 a),(3,i64 b),(4,i8 z),(5,.ptr 5 0 0),(6,.ptr 6 0 0),(10,.ptr 10 0 0),(11,.ptr 11 0 0),(12,i64 h),(13,i64 w),(14,i64 k)] [(5,.var (shpC s)),(6,.var [i64 T.h,i64 T.x,i64 T.c,ints .i8 T.d]),(10,.var [i64 0,i64 0,i64 0,nilv]),(11,.var [i64 s.h,i64 s.x,i64 s.c,.own 900]),(900,.slc 52 1 ((gH (movF T a b z) s.c.toNat s.x.toNat h++(gW (movF T a b z) s.c.toNat h w++gO (movF T a b z) h w k)).map (row1 .i8)))]
noncomputable def move_c_Z (T:Ten) (s:Shp) (a b z:Int) (h w:Nat):VS:=move_c_I T s a b z h w (s.c.toNat)
theorem move_c_s (T:Ten) (s:Shp) (a b z:Int) (h w:Nat) (ok:MvOk T s a b) (hh:h<s.h.toNat) (hw:w<s.x.toNat) (k:Nat) (hk:k<s.c.toNat):VT N_ (fnC Tryz.f176 [1,1,0,1,0,0,1,0,0,1,0,0,1,0,0,1,0,0]) (move_c_I T s a b z h w k) .normal (move_c_I T s a b z h w (k+1)):=by
 obtain ⟨r,g1,g2,g3,g4,g5,g6,g7,g8,g9,g10⟩:=id ok
 have q1:=r.c1
 have q2:=r.c2
 have q3:=g_len (f:=movF T a b z) hh hw g6
 have q4:=gO_len (movF T a b z) h w k
 have oz3:=@pixel_v (T) ((↑h:Int)-a) ((↑w:Int)-b) ((↑k:Int)) (z) r (by omega) (by omega) (by omega) (by omega) (by omega) (by omega)
 exact tR_ [r_,b_,.r [] [.n ((↑h:Int)-a),.n ((↑w:Int)-b),cr oz3],.r [] [.n ((↑k:Int)+1)]] [.any (rg [(29,21)]),.drop [47],.ren 48 900,.weak 14 (i64 (↑(k+1):Int)),.blk 900 (Blk.slc 52 1 (K_ (row1 .i8) (gH (movF T a b z) s.c.toNat s.x.toNat h++(gW (movF T a b z) s.c.toNat h w++gO (movF T a b z) h w (k+1))))),.sort] (.c8 (decide_eq_true (p:=((↑k:Int)<s.c)) (by omega)) (i6n ((↑h:Int)-a) (by omega)) (i6n ((↑w:Int)-b) (by omega)) oz3 (show ((K_ (row1 .i8) (gH (movF T a b z) s.c.toNat s.x.toNat h++(gW (movF T a b z) s.c.toNat h w++gO (movF T a b z) h w k))).length+1)*1≤140737488355328 by (simp;omega)) (show (K_ (row1 .i8) (gH (movF T a b z) s.c.toNat s.x.toNat h++(gW (movF T a b z) s.c.toNat h w++gO (movF T a b z) h w k))).length+1≤9223372036854775807 by (simp;omega)) (i6n ((↑k:Int)+1) (by omega)) (wS_ k)<|.d (show BlkW (Blk.slc 52 1 (K_ (row1 .i8) (gH (movF T a b z) s.c.toNat s.x.toNat h++(gW (movF T a b z) s.c.toNat h w++gO (movF T a b z) h w k))++[[i8 (pixE T ((↑h:Int)-a) ((↑w:Int)-b) (↑k:Int) z)]])) (Blk.slc 52 1 (K_ (row1 .i8) (gH (movF T a b z) s.c.toNat s.x.toNat h++(gW (movF T a b z) s.c.toNat h w++gO (movF T a b z) h w (k+1))))) from (BU_ (e:=52) (z:=1) (rows_to (row1 .i8) (r:=K_ (row1 .i8) (gH (movF T a b z) s.c.toNat s.x.toNat h++(gW (movF T a b z) s.c.toNat h w++gO (movF T a b z) h w k))++[[i8 (pixE T ((↑h:Int)-a) ((↑w:Int)-b) (↑k:Int) z)]]) (l:=gH (movF T a b z) s.c.toNat s.x.toNat h++(gW (movF T a b z) s.c.toNat h w++gO (movF T a b z) h w k)++[pixE T ((↑h:Int)-a) ((↑w:Int)-b) (↑k:Int) z]) (m:=gH (movF T a b z) s.c.toNat s.x.toNat h++(gW (movF T a b z) s.c.toNat h w++gO (movF T a b z) h w (k+1))) (by first|(simp only[C_,D_,AM_,AN_,A_,AK_,AL_];done)|rfl|(simp only[C_,D_,AM_,AN_,A_,AK_,AL_];rfl)) (show (gH (movF T a b z) s.c.toNat s.x.toNat h++(gW (movF T a b z) s.c.toNat h w++gO (movF T a b z) h w k)++[pixE T ((↑h:Int)-a) ((↑w:Int)-b) (↑k:Int) z])=(gH (movF T a b z) s.c.toNat s.x.toNat h++(gW (movF T a b z) s.c.toNat h w++gO (movF T a b z) h w (k+1))) from (by (rw[gO_succ];simp)))))))
theorem move_c_e (T:Ten) (s:Shp) (a b z:Int) (h w:Nat) (ok:MvOk T s a b) (hh:h<s.h.toNat) (hw:w<s.x.toNat):VT N_ (fnC Tryz.f176 [1,1,0,1,0,0,1,0,0,1,0,0,1,0,0,1,0,0]) (move_c_I T s a b z h w (s.c.toNat)) (.exit 4) (move_c_Z T s a b z h w):=by
 obtain ⟨r,g1,g2,g3,g4,g5,g6,g7,g8,g9,g10⟩:=id ok
 have q1:=r.c1
 have q2:=r.c2
 exact tR_ [r_,d_] [.any (rg [(29,4)]),.sort] (.d (decide_eq_false (p:=((↑s.c.toNat:Int)<s.c)) (by omega)))
theorem move_c (T:Ten) (s:Shp) (a b z:Int) (h w:Nat) (ok:MvOk T s a b) (hh:h<s.h.toNat) (hw:w<s.x.toNat):VT N_ (fnC Tryz.f176 [1,1,0,1,0,0,1,0,0,1,0,0,1,0,0,1,0]) (move_c_I T s a b z h w 0) (.exit 4) (move_c_Z T s a b z h w) :=
 VT.loop (fun k=>move_c_I T s a b z h w k) (s.c.toNat) (fun k hk=>move_c_s T s a b z h w ok hh hw k hk) (move_c_e T s a b z h w ok hh hw) (by intro h;cases h)
noncomputable def move_w_I (T:Ten) (s:Shp) (a b z:Int) (h:Nat) (k:Nat):VS:=stt 51 [(2,i64 a),(3,i64 b),(4,i8 z),(5,.ptr 5 0 0),(6,.ptr 6 0 0),(10,.ptr 10 0 0),(11,.ptr 11 0 0),(12,i64 h),(13,i64 k)] [(5,.var (shpC s)),(6,.var [i64 T.h,i64 T.x,i64 T.c,ints .i8 T.d]),(10,.var [i64 0,i64 0,i64 0,nilv]),(11,.var [i64 s.h,i64 s.x,i64 s.c,.own 900]),(900,.slc 52 1 ((gH (movF T a b z) s.c.toNat s.x.toNat h++gW (movF T a b z) s.c.toNat h k).map (row1 .i8)))]
noncomputable def move_w_Z (T:Ten) (s:Shp) (a b z:Int) (h:Nat):VS:=move_w_I T s a b z h (s.x.toNat)
theorem move_w_s (T:Ten) (s:Shp) (a b z:Int) (h:Nat) (ok:MvOk T s a b) (hh:h<s.h.toNat) (k:Nat) (hk:k<s.x.toNat):VT N_ (fnC Tryz.f176 [1,1,0,1,0,0,1,0,0,1,0,0]) (move_w_I T s a b z h k) .normal (move_w_I T s a b z h (k+1)):=by
 obtain ⟨r,g1,g2,g3,g4,g5,g6,g7,g8,g9,g10⟩:=id ok
 have oz3:=@move_c (T) (s) (a) (b) (z) (h) (k) ok hh hk
 exact tR_ [r_,b_,r_,.code [.any (rg [(23,4)]),.weak 14 (i64 (↑0:Int)),.blk 900 (Blk.slc 52 1 (K_ (row1 .i8) (gH (movF T a b z) s.c.toNat s.x.toNat h++(gW (movF T a b z) s.c.toNat h k++gO (movF T a b z) h k 0)))),.sort] (AA_ 4) (zO oz3),.r [] [.n ((↑k:Int)+1)]] [.any [14,27,28],.weak 13 (i64 (↑(k+1):Int)),.blk 900 (Blk.slc 52 1 (K_ (row1 .i8) (gH (movF T a b z) s.c.toNat s.x.toNat h++gW (movF T a b z) s.c.toNat h (k+1)))),.sort] (.d7 (decide_eq_true (p:=((↑k:Int)<s.x)) (by omega)) w0_ (show BlkW (Blk.slc 52 1 (K_ (row1 .i8) (gH (movF T a b z) s.c.toNat s.x.toNat h++gW (movF T a b z) s.c.toNat h k))) (Blk.slc 52 1 (K_ (row1 .i8) (gH (movF T a b z) s.c.toNat s.x.toNat h++(gW (movF T a b z) s.c.toNat h k++gO (movF T a b z) h k 0)))) from (BU_ (e:=52) (z:=1) (rows_to (row1 .i8) (r:=K_ (row1 .i8) (gH (movF T a b z) s.c.toNat s.x.toNat h++gW (movF T a b z) s.c.toNat h k)) (l:=gH (movF T a b z) s.c.toNat s.x.toNat h++gW (movF T a b z) s.c.toNat h k) (m:=gH (movF T a b z) s.c.toNat s.x.toNat h++(gW (movF T a b z) s.c.toNat h k++gO (movF T a b z) h k 0)) rfl (show (gH (movF T a b z) s.c.toNat s.x.toNat h++gW (movF T a b z) s.c.toNat h k)=(gH (movF T a b z) s.c.toNat s.x.toNat h++(gW (movF T a b z) s.c.toNat h k++gO (movF T a b z) h k 0)) from (by (simp[gO];done)))))) oz3 (i6n ((↑k:Int)+1) (by omega)) (wS_ k) (show BlkW (Blk.slc 52 1 (K_ (row1 .i8) (gH (movF T a b z) s.c.toNat s.x.toNat h++(gW (movF T a b z) s.c.toNat h k++gO (movF T a b z) h k s.c.toNat)))) (Blk.slc 52 1 (K_ (row1 .i8) (gH (movF T a b z) s.c.toNat s.x.toNat h++gW (movF T a b z) s.c.toNat h (k+1)))) from (BU_ (e:=52) (z:=1) (rows_to (row1 .i8) (r:=K_ (row1 .i8) (gH (movF T a b z) s.c.toNat s.x.toNat h++(gW (movF T a b z) s.c.toNat h k++gO (movF T a b z) h k s.c.toNat))) (l:=gH (movF T a b z) s.c.toNat s.x.toNat h++(gW (movF T a b z) s.c.toNat h k++gO (movF T a b z) h k s.c.toNat)) (m:=gH (movF T a b z) s.c.toNat s.x.toNat h++gW (movF T a b z) s.c.toNat h (k+1)) rfl (show (gH (movF T a b z) s.c.toNat s.x.toNat h++(gW (movF T a b z) s.c.toNat h k++gO (movF T a b z) h k s.c.toNat))=(gH (movF T a b z) s.c.toNat s.x.toNat h++gW (movF T a b z) s.c.toNat h (k+1)) from (by rfl))))))
theorem move_w_e (T:Ten) (s:Shp) (a b z:Int) (h:Nat) (ok:MvOk T s a b) (hh:h<s.h.toNat):VT N_ (fnC Tryz.f176 [1,1,0,1,0,0,1,0,0,1,0,0]) (move_w_I T s a b z h (s.x.toNat)) (.exit 2) (move_w_Z T s a b z h):=by
 obtain ⟨r,g1,g2,g3,g4,g5,g6,g7,g8,g9,g10⟩:=id ok
 exact tR_ [r_,d_] [.any (rg [(23,4)]),.sort] (.d (decide_eq_false (p:=((↑s.x.toNat:Int)<s.x)) (by omega)))
theorem move_w (T:Ten) (s:Shp) (a b z:Int) (h:Nat) (ok:MvOk T s a b) (hh:h<s.h.toNat):VT N_ (fnC Tryz.f176 [1,1,0,1,0,0,1,0,0,1,0]) (move_w_I T s a b z h 0) (.exit 2) (move_w_Z T s a b z h) :=
 VT.loop (fun k=>move_w_I T s a b z h k) (s.x.toNat) (fun k hk=>move_w_s T s a b z h ok hh k hk) (move_w_e T s a b z h ok hh) (by intro h;cases h)
noncomputable def move_h_I (T:Ten) (s:Shp) (a b z:Int) (k:Nat):VS:=stt 51 [(2,i64 a),(3,i64 b),(4,i8 z),(5,.ptr 5 0 0),(6,.ptr 6 0 0),(10,.ptr 10 0 0),(11,.ptr 11 0 0),(12,i64 k)] [(5,.var (shpC s)),(6,.var [i64 T.h,i64 T.x,i64 T.c,ints .i8 T.d]),(10,.var [i64 0,i64 0,i64 0,nilv]),(11,.var [i64 s.h,i64 s.x,i64 s.c,.own 900]),(900,.slc 52 1 ((gH (movF T a b z) s.c.toNat s.x.toNat k).map (row1 .i8)))]
noncomputable def move_h_Z (T:Ten) (s:Shp) (a b z:Int):VS:=move_h_I T s a b z (s.h.toNat)
theorem move_h_s (T:Ten) (s:Shp) (a b z:Int) (ok:MvOk T s a b) (k:Nat) (hk:k<s.h.toNat):VT N_ (fnC Tryz.f176 [1,1,0,1,0,0]) (move_h_I T s a b z k) .normal (move_h_I T s a b z (k+1)):=by
 obtain ⟨r,g1,g2,g3,g4,g5,g6,g7,g8,g9,g10⟩:=id ok
 have oz3:=@move_w (T) (s) (a) (b) (z) (k) ok hk
 exact tR_ [r_,b_,r_,.code [.any (rg [(17,4)]),.weak 13 (i64 (↑0:Int)),.blk 900 (Blk.slc 52 1 (K_ (row1 .i8) (gH (movF T a b z) s.c.toNat s.x.toNat k++gW (movF T a b z) s.c.toNat k 0))),.sort] (AA_ 2) (zO oz3),.r [] [.n ((↑k:Int)+1)]] [.any [13,21,22],.weak 12 (i64 (↑(k+1):Int)),.blk 900 (Blk.slc 52 1 (K_ (row1 .i8) (gH (movF T a b z) s.c.toNat s.x.toNat (k+1)))),.sort] (.d7 (decide_eq_true (p:=((↑k:Int)<s.h)) (by omega)) w0_ (show BlkW (Blk.slc 52 1 (K_ (row1 .i8) (gH (movF T a b z) s.c.toNat s.x.toNat k))) (Blk.slc 52 1 (K_ (row1 .i8) (gH (movF T a b z) s.c.toNat s.x.toNat k++gW (movF T a b z) s.c.toNat k 0))) from (BU_ (e:=52) (z:=1) (rows_to (row1 .i8) (r:=K_ (row1 .i8) (gH (movF T a b z) s.c.toNat s.x.toNat k)) (l:=gH (movF T a b z) s.c.toNat s.x.toNat k) (m:=gH (movF T a b z) s.c.toNat s.x.toNat k++gW (movF T a b z) s.c.toNat k 0) rfl (show (gH (movF T a b z) s.c.toNat s.x.toNat k)=(gH (movF T a b z) s.c.toNat s.x.toNat k++gW (movF T a b z) s.c.toNat k 0) from (by (simp[gW];done)))))) oz3 (i6n ((↑k:Int)+1) (by omega)) (wS_ k) (show BlkW (Blk.slc 52 1 (K_ (row1 .i8) (gH (movF T a b z) s.c.toNat s.x.toNat k++gW (movF T a b z) s.c.toNat k s.x.toNat))) (Blk.slc 52 1 (K_ (row1 .i8) (gH (movF T a b z) s.c.toNat s.x.toNat (k+1)))) from (BU_ (e:=52) (z:=1) (rows_to (row1 .i8) (r:=K_ (row1 .i8) (gH (movF T a b z) s.c.toNat s.x.toNat k++gW (movF T a b z) s.c.toNat k s.x.toNat)) (l:=gH (movF T a b z) s.c.toNat s.x.toNat k++gW (movF T a b z) s.c.toNat k s.x.toNat) (m:=gH (movF T a b z) s.c.toNat s.x.toNat (k+1)) rfl (show (gH (movF T a b z) s.c.toNat s.x.toNat k++gW (movF T a b z) s.c.toNat k s.x.toNat)=(gH (movF T a b z) s.c.toNat s.x.toNat (k+1)) from (by rfl))))))
theorem move_h_e (T:Ten) (s:Shp) (a b z:Int) (ok:MvOk T s a b):VT N_ (fnC Tryz.f176 [1,1,0,1,0,0]) (move_h_I T s a b z (s.h.toNat)) (.exit 0) (move_h_Z T s a b z):=by
 obtain ⟨r,g1,g2,g3,g4,g5,g6,g7,g8,g9,g10⟩:=id ok
 exact tR_ [r_,d_] [.any (rg [(17,4)]),.sort] (.d (decide_eq_false (p:=((↑s.h.toNat:Int)<s.h)) (by omega)))
theorem move_h (T:Ten) (s:Shp) (a b z:Int) (ok:MvOk T s a b):VT N_ (fnC Tryz.f176 [1,1,0,1,0]) (move_h_I T s a b z 0) (.exit 0) (move_h_Z T s a b z) :=
 VT.loop (fun k=>move_h_I T s a b z k) (s.h.toNat) (fun k hk=>move_h_s T s a b z ok k hk) (move_h_e T s a b z ok) (by intro h;cases h)
theorem move_v (T:Ten) (s:Shp) (a b z:Int) (ok:MvOk T s a b):VC N_ 176 ([shp s,ten .i8 T,i64 a,i64 b,i8 z]) (ten .i8 ⟨s.h,s.x,s.c,gH (movF T a b z) s.c.toNat s.x.toNat s.h.toNat⟩):=by
 have oz1:=@move_h (T) (s) (a) (b) (z) ok
 exact cR_ [r_,r_,r_,.code [.any [0,1,15,16],.weak 12 (i64 (↑0:Int)),.nilc 900 52 1 11 3,.sort] (AA_ 0) (zO oz1),r_] _ Tryz.func176 (.d2 w0_ oz1)
def padOf (T:Ten) (p z:Int):Ten×Int:=if elems (T.h+2*p) (T.x+2*p) T.c=0 then (ten0,5) else (⟨T.h+2*p,T.x+2*p,T.c,gH (movF T p p z) T.c.toNat (T.x+2*p).toNat (T.h+2*p).toNat⟩,0)
theorem mv_of {T:Ten} (r:TRt T) {p:Int} (p0:0≤p) (p4:p≤4) (h:elems (T.h+2*p) (T.x+2*p) T.c≠0):MvOk T ⟨T.h+2*p,T.x+2*p,T.c⟩ p p:=by
 have hb:=elems_bd (T.h+2*p) (T.x+2*p) T.c
 have c:=elems_ok (h:=T.h+2*p) (x:=T.x+2*p) (c:=T.c) (by omega)
 obtain ⟨q1,q2,q3,q4,q5,q6,q7,q8,q9⟩:=id r
 refine ⟨r,by dsimp only;omega,by dsimp only;omega,by dsimp only;omega,by dsimp only;omega,rfl,?_,p0,p4,p0,p4⟩
 have:(((T.h+2*p).toNat*((T.x+2*p).toNat*T.c.toNat):Nat):Int)=(T.h+2*p)*(T.x+2*p)*T.c:=by
  rw[BF_,BF_,AB_ (by omega),AB_ (by omega),AB_ (by omega),Int.mul_assoc]
 dsimp only;omega
theorem resize_v (T:Ten) (p z:Int) (r:TRt T) (p0:0≤p) (p4:p≤4):VC N_ 146 ([ten .i8 T,i64 p,i8 z]) (.tup [ten .i8 (padOf T p z).1,i64 (padOf T p z).2]):=by
 obtain ⟨q1,q2,q3,q4,q5,q6,q7,q8,q9⟩:=id r
 have m:=@mv_of T r p p0 p4
 have oz0:=(i6n (2*p) (by omega))
 have oz1:=(i6n (T.h+2*p) (by omega))
 have oz3:=(i6n (T.x+2*p) (by omega))
 have oz4:=@refElems_v (T.h+2*p) (T.x+2*p) (T.c) (by omega) (by omega) (by omega)
 rcases bft (elems (T.h+2*p) (T.x+2*p) T.c==0) with hc0|hc0
 ·have gc0:elems (T.h+2*p) (T.x+2*p) T.c=0:=bet hc0
  exact (cR_ [r_,.r [] [.n (nO oz0),.n (nO oz1),.n (nO oz0),.n (nO oz3)],.r [] [cr oz4],b_,r_] (AV.tup [AV.agg [i64 0,i64 0,i64 0,AV.lit (AY_ none 0 0)],i64 5]) Tryz.func146 (.d6 oz0 oz1 oz0 oz3 oz4 hc0)).weak (Y_ _) (AS_ (.cons (AV_ (.cons (M_ (by (unfold padOf;rw[i_ (by simp_all)]))) (.cons (M_ (by (unfold padOf;rw[i_ (by simp_all)]))) (.cons (M_ (by (unfold padOf;rw[i_ (by simp_all)]))) (.cons (CJ_ (show []=(K_ (row1 .i8) (padOf T p z).fst.d) from (by (unfold padOf;rw[i_ (by simp_all)];rfl)))) .nil))))) (.cons (M_ (by (unfold padOf;rw[i_ (by simp_all)]))) .nil)))
 ·have gc0:¬elems (T.h+2*p) (T.x+2*p) T.c=0:=bef hc0
  have oz6:=@move_v (T) (Shp.mk (T.h+2*p) (T.x+2*p) T.c) (p) (p) (z) (by (exact m (by simp_all)))
  exact (cR_ [r_,.r [] [.n (nO oz0),.n (nO oz1),.n (nO oz0),.n (nO oz3)],.r [] [cr oz4],d_,.r [] [cr oz6]] (AV.tup [AV.agg [i64 (Ten.mk (T.h+2*p) (T.x+2*p) T.c (gH (movF T p p z) T.c.toNat (T.x+2*p).toNat (T.h+2*p).toNat)).h,i64 (Ten.mk (T.h+2*p) (T.x+2*p) T.c (gH (movF T p p z) T.c.toNat (T.x+2*p).toNat (T.h+2*p).toNat)).x,i64 (Ten.mk (T.h+2*p) (T.x+2*p) T.c (gH (movF T p p z) T.c.toNat (T.x+2*p).toNat (T.h+2*p).toNat)).c,AV.sl 1 (K_ (row1 .i8) (Ten.mk (T.h+2*p) (T.x+2*p) T.c (gH (movF T p p z) T.c.toNat (T.x+2*p).toNat (T.h+2*p).toNat)).d)],i64 0]) Tryz.func146 (.d7 oz0 oz1 oz0 oz3 oz4 hc0 oz6)).weak (Y_ _) (AS_ (.cons (AV_ (.cons (M_ (by (unfold padOf;rw[j_ (by simp_all)]))) (.cons (M_ (by (unfold padOf;rw[j_ (by simp_all)]))) (.cons (M_ (by (unfold padOf;rw[j_ (by simp_all)]))) (.cons (CM_ (rows_to (row1 .i8) (r:=K_ (row1 .i8) (Ten.mk (T.h+2*p) (T.x+2*p) T.c (gH (movF T p p z) T.c.toNat (T.x+2*p).toNat (T.h+2*p).toNat)).d) (l:=(Ten.mk (T.h+2*p) (T.x+2*p) T.c (gH (movF T p p z) T.c.toNat (T.x+2*p).toNat (T.h+2*p).toNat)).d) (m:=(padOf T p z).fst.d) rfl (show ((Ten.mk (T.h+2*p) (T.x+2*p) T.c (gH (movF T p p z) T.c.toNat (T.x+2*p).toNat (T.h+2*p).toNat)).d)=((padOf T p z).fst.d) from (by (unfold padOf;rw[j_ (by simp_all)]))))) .nil))))) (.cons (M_ (by (unfold padOf;rw[j_ (by simp_all)]))) .nil)))
def mayE (T:Ten) (p:Int):Int:=if tenRight T=true then (if 0≤p∧p≤4 then 0 else 2) else 5
theorem may_v (T:Ten) (p:Int) (ok:T.Ok):VC N_ 145 ([ten .i8 T,i64 p]) (i64 (mayE T p)):=by
 have oz0:=@refTRight_v (T) ok
 rcases bft (!tenRight T) with hc0|hc0
 ·have gc0:tenRight T=false:=by first|exact hc0|exact of_decide_eq_true hc0|exact of_decide_eq_false hc0|simpa [eqNums] using hc0|(simp[eqNums] at hc0 ⊢;first|done|assumption|omega)
  exact (cR_ [r_,.r [] [cr oz0],b_,r_] (i64 5) Tryz.func145 (.d2 oz0 hc0)).weak (Y_ _) (M_ (by (unfold mayE;rw[j_ (by simp_all)])))
 ·have gc0:tenRight T=true:=by first|exact hc0|exact of_decide_eq_true hc0|exact of_decide_eq_false hc0|simpa [eqNums] using hc0|(simp[eqNums] at hc0 ⊢;first|done|assumption|omega)
  rcases bft (decide (p<0) || decide (p>4)) with hc1|hc1
  ·have gc1:p<0∨p>4:=gc0_ hc1
   exact (cR_ [r_,.r [] [cr oz0],d_,.r [] [o_,o_,.sel 1],b_,r_] (i64 2) Tryz.func145 (.d3 oz0 hc0 hc1)).weak (Y_ _) (M_ (by (unfold mayE;rw[i_ (by simp_all),j_ (by omega)])))
  ·have gc1:¬p<0∧¬p>4:=gc0_ hc1
   exact (cR_ [r_,.r [] [cr oz0],d_,.r [] [o_,o_,.sel 1],d_,r_] (i64 0) Tryz.func145 (.d3 oz0 hc0 hc1)).weak (Y_ _) (M_ (by (unfold mayE;rw[i_ (by simp_all),i_ (by omega)])))
theorem split_div {a b c:Int} (hb:0≤b) (hc:b<c):(a*c+b)/c=a∧(a*c+b) % c=b:=by
 constructor
 ·rw[Int.add_comm,Int.add_mul_ediv_right _ _ (by omega),Int.ediv_eq_zero_of_lt hb hc];omega
 ·rw[Int.add_comm,Int.add_mul_emod_self_right,Int.emod_eq_of_lt hb hc]
theorem dAcc_j {T:Ten} {n:Nod} (ok:DpOk T n) (h w c:Int) (i:Nat) (h0:dAcc T n h w c (i*n.nk.toNat)=IntKind.i32.wrap (accN (n.b.getD c.toNat 0) (drow T n h w c) i)) :
  ∀ j,j≤n.nk.toNat→dAcc T n h w c (i*n.nk.toNat+j)=IntKind.i32.wrap (accN (n.b.getD c.toNat 0) (drow T n h w c) i+sumN (dcell T n h w c i) j)
 | 0,_=>by rw[Nat.add_zero,h0,sumN,Int.add_zero]
 | j+1,hj=>by
  have k1:=ok.n.k1
  rw[←Nat.add_assoc,dAcc,dAcc_j ok h w c i h0 j (by omega),sumN,dcell]
  have e:((i*n.nk.toNat+j:Nat):Int)=(i:Int)*n.nk+(j:Int):=by rw[Int.natCast_add,BF_,AB_ (by omega)]
  obtain ⟨e1,e2⟩:=split_div (a:=(i:Int)) (b:=(j:Int)) (c:=n.nk) (by omega) (by omega)
  rw[e,e1,e2]
  split
  ·rw[w32_add,Int.add_assoc]
  ·rw[Int.add_zero]
theorem dAcc_i {T:Ten} {n:Nod} (ok:DpOk T n) (h w c:Int):∀ i,dAcc T n h w c (i*n.nk.toNat)=IntKind.i32.wrap (accN (n.b.getD c.toNat 0) (drow T n h w c) i)
 | 0=>by rw[Nat.zero_mul,dAcc,accN,CV_ _ (gt32 ok.okn.b _)]
 | i+1=>by rw[BI_,Nat.one_mul,dAcc_j ok h w c i (dAcc_i ok h w c i) _ (AT_ _),accN];rfl
theorem dAcc_eq {T:Ten} {n:Nod} (ok:DpOk T n) (h w c:Int):dAcc T n h w c (n.nk*n.nk).toNat=IntKind.i32.wrap (dE T n h w c):=by
 have k1:=ok.n.k1
 have:(n.nk*n.nk).toNat=n.nk.toNat*n.nk.toNat:=by
  apply Int.ofNat_inj.1
  rw[BF_,AB_ (BK_ (by omega) (by omega)),AB_ (by omega)]
 rw[this,dAcc_i ok];rfl
theorem g_row {F:Nat→Int} {f:Nat→Nat→Nat→Int} {m x h:Nat} (hF:∀ w c,w<x→c<m→F ((h*x+w)*m+c)=f h w c) (h0:(BM_ (h*(x*m))).map F=gH f m x h) :
  ∀ w,w≤x→(BM_ (h*(x*m)+w*m)).map F=gH f m x h++gW f m h w
 | 0,_=>by simp[gW,h0]
 | w+1,hw=>by
  rw[BI_,Nat.one_mul,←Nat.add_assoc,List.range_add,C_,g_row hF h0 w (by omega),gW,List.append_assoc,List.map_map]
  congr 2
  unfold gO
  apply List.map_congr_left
  intro c hc
  rw[←hF w c (by omega) (List.mem_range.1 hc)]
  simp only[Function.comp]
  congr 1
  rw[BI_,Nat.mul_assoc]
theorem g_all {F:Nat→Int} {f:Nat→Nat→Nat→Int} {m x:Nat}:∀ h,(∀ h' w c,h'<h→w<x→c<m→F ((h'*x+w)*m+c)=f h' w c)→(BM_ (h*(x*m))).map F=gH f m x h
 | 0,_=>by simp[gH]
 | h+1,hF=>by
  rw[BI_,Nat.one_mul,g_row (fun w c hw hc=>hF h w c (by omega) hw hc) (g_all h fun h' w c hh=>hF h' w c (by omega)) x (AT_ _),gH]
theorem dL_eq {T:Ten} {n:Nod} (ok:DpOk T n):dL T n=gH (dF T n) T.c.toNat (depthE ⟨T.h,T.x,T.c⟩ n).1.x.toNat (depthE ⟨T.h,T.x,T.c⟩ n).1.h.toNat:=by
 have nn:=ok.n
 have h1:=nn.he
 have h2:=nn.xe
 have h3:=nn.c1
 unfold dL
 have e:dN T n=(depthE ⟨T.h,T.x,T.c⟩ n).1.h.toNat*((depthE ⟨T.h,T.x,T.c⟩ n).1.x.toNat*T.c.toNat):=by
  unfold dN
  apply Int.ofNat_inj.1
  rw[BF_,BF_,AB_ (BK_ (BK_ (by omega) (by omega)) (by omega)),AB_ (by omega),AB_ (by omega),AB_ (by omega),Int.mul_assoc]
 rw[e]
 refine g_all _ fun h w c hh hw hc=>?_
 have e0:(((h*(depthE ⟨T.h,T.x,T.c⟩ n).1.x.toNat+w)*T.c.toNat+c:Nat):Int)=((h:Int)*(depthE ⟨T.h,T.x,T.c⟩ n).1.x+(w:Int))*T.c+(c:Int):=by
  rw[Int.natCast_add,BF_,Int.natCast_add,BF_,AB_ (by omega),AB_ (by omega)]
 obtain ⟨e1,e2⟩:=split_div (a:=(h:Int)*(depthE ⟨T.h,T.x,T.c⟩ n).1.x+(w:Int)) (b:=(c:Int)) (c:=T.c) (by omega) (by omega)
 obtain ⟨e3,e4⟩:=split_div (a:=(h:Int)) (b:=(w:Int)) (c:=(depthE ⟨T.h,T.x,T.c⟩ n).1.x) (by omega) (by omega)
 simp only[e0,e1,e2,e3,e4]
 exact dAcc_eq ok _ _ _
def depthOf (T:Ten) (n:Nod):Ten×Int:=if tenRight T=false then (⟨0,0,0,[]⟩,5) else if (depthE ⟨T.h,T.x,T.c⟩ n).2≠0 then (⟨0,0,0,[]⟩,(depthE ⟨T.h,T.x,T.c⟩ n).2) else (⟨(depthE ⟨T.h,T.x,T.c⟩ n).1.h,(depthE ⟨T.h,T.x,T.c⟩ n).1.x,(depthE ⟨T.h,T.x,T.c⟩ n).1.c,dL T n⟩,0)
theorem rdOf_n (T:Ten) (n:Nod) (ok:T.Ok) (okn:n.Ok) (hn:tenRight T=false∨(depthE ⟨T.h,T.x,T.c⟩ n).2≠0):VC N_ 178 ([ten .i8 T,nod n]) (.tup [ten .i32 (depthOf T n).1,i64 (depthOf T n).2]):=by
 have oz0:=@refTRight_v (T) ok
 rcases bft (!tenRight T) with hc0|hc0
 ·have gc0:tenRight T=false:=by first|exact hc0|exact of_decide_eq_true hc0|exact of_decide_eq_false hc0|simpa [eqNums] using hc0|(simp[eqNums] at hc0 ⊢;first|done|assumption|omega)
  exact (cR_ [r_,.r [] [cr oz0],b_,r_] (AV.tup [AV.agg [i64 0,i64 0,i64 0,AV.lit (AY_ none 0 0)],i64 5]) Tryz.func178 (.d2 oz0 hc0)).weak (Y_ _) (AS_ (.cons (AV_ (.cons (M_ (by (simp only[depthOf];rw[i_ (by simp_all)];first|done|rfl))) (.cons (M_ (by (simp only[depthOf];rw[i_ (by simp_all)];first|done|rfl))) (.cons (M_ (by (simp only[depthOf];rw[i_ (by simp_all)];first|done|rfl))) (.cons (CJ_ (show []=(K_ (row1 .i32) (depthOf T n).fst.d) from (by (simp only[depthOf];rw[i_ (by simp_all)];first|done|rfl)))) .nil))))) (.cons (M_ (by (simp only[depthOf];rw[i_ (by simp_all)];first|done|rfl))) .nil)))
 ·have gc0:tenRight T=true:=by first|exact hc0|exact of_decide_eq_true hc0|exact of_decide_eq_false hc0|simpa [eqNums] using hc0|(simp[eqNums] at hc0 ⊢;first|done|assumption|omega)
  have oz2:=@refDepthShape_v (Shp.mk T.h T.x T.c) (n) (by (exact Shp.mk_ok ok.h ok.x ok.c)) okn
  exact (cR_ [r_,.r [] [cr oz0],d_,.r [] [cr oz2],r_,b_,r_] (AV.tup [AV.agg [i64 0,i64 0,i64 0,AV.lit (AY_ none 0 0)],i64 (depthE (Shp.mk T.h T.x T.c) n).snd]) Tryz.func178 (.d4 oz0 hc0 oz2 (show ((depthE (Shp.mk T.h T.x T.c) n).snd != 0)=true by (rcases hn with hn|hn<;>simp_all;done)))).weak (Y_ _) (AS_ (.cons (AV_ (.cons (M_ (by (simp only[depthOf];rw[j_ (by simp_all),i_ (by rcases hn with hn|hn<;>simp_all)];first|done|rfl))) (.cons (M_ (by (simp only[depthOf];rw[j_ (by simp_all),i_ (by rcases hn with hn|hn<;>simp_all)];first|done|rfl))) (.cons (M_ (by (simp only[depthOf];rw[j_ (by simp_all),i_ (by rcases hn with hn|hn<;>simp_all)];first|done|rfl))) (.cons (CJ_ (show []=(K_ (row1 .i32) (depthOf T n).fst.d) from (by (simp only[depthOf];rw[j_ (by simp_all),i_ (by rcases hn with hn|hn<;>simp_all)];first|done|rfl)))) .nil))))) (.cons (M_ (by (simp only[depthOf];rw[j_ (by simp_all),i_ (by rcases hn with hn|hn<;>simp_all)];first|done|rfl))) .nil)))
theorem rdOf_v (T:Ten) (n:Nod) (ok:T.Ok) (okn:n.Ok):VC N_ 178 [ten .i8 T,nod n] (.tup [ten .i32 (depthOf T n).1,i64 (depthOf T n).2]):=by
 cases hr:tenRight T with
 | false=>exact rdOf_n T n ok okn (.inl hr)
 | true =>
  by_cases he:(depthE ⟨T.h,T.x,T.c⟩ n).2=0
  ·have h:=rdOf_x T n ⟨ok,okn,hr,he⟩
   have e:depthOf T n=(⟨(depthE ⟨T.h,T.x,T.c⟩ n).1.h,(depthE ⟨T.h,T.x,T.c⟩ n).1.x,(depthE ⟨T.h,T.x,T.c⟩ n).1.c,dL T n⟩,0):=by
    unfold depthOf
    rw[j_ (by simp[hr]),j_ (by simpa using he)]
   rw[e];rw[dL_eq ⟨ok,okn,hr,he⟩];exact h
  ·exact rdOf_n T n ok okn (.inr he)
theorem depthOf_len (T:Ten) (n:Nod) (ok:T.Ok) (okn:n.Ok):(depthOf T n).1.d.length≤1024:=by
 unfold depthOf
 split
 ·simp
 ·split
  ·simp
  ·rename_i h1 h2
   have nn:=DpOk.n (T:=T) (n:=n) ⟨ok,okn,by simpa using h1,by simpa using h2⟩
   rw[dL_len]
   have h3:=nn.el
   unfold dN;omega
def dnT (x w:List Int) (z o:Int) (i:Nat):Int:=w.getD (o*x.length+i).toNat 0*(x.getD i 0-z)
def dnS (x w b:List Int) (z o:Int):Int:=accN (b.getD o.toNat 0) (dnT x w z o) x.length
theorem dnT_bd {x w:List Int} (hx:∀ v∈x,In8 v) (hw:∀ v∈w,In8 v) {z:Int} (hz:In8 z) (o:Int) (i:Nat) : -32640≤dnT x w z o i∧dnT x w z o i≤32640:=by
 have h1:=gt8 hw (o*x.length+i).toNat
 have h2:=gt8 hx i
 have:=prod_bd h1 (b:=x.getD i 0-z) (by omega)
 unfold dnT;omega
noncomputable def dense_s_I (x w b:List Int) (z o:Int) (k:Nat):VS:=stt 46 [(0,ints .i8 x),(1,ints .i8 w),(3,i8 z),(4,i64 o),(11,i64 (accN (b.getD o.toNat 0) (dnT x w z o) k)),(12,i64 k)] []
noncomputable def dense_s_Z (x w b:List Int) (z o:Int):VS:=dense_s_I x w b z o (x.length)
theorem dense_s_s (x w b:List Int) (z o:Int) (hx:∀ v∈x,In8 v) (hw:∀ v∈w,In8 v) (hb:∀ v∈b,In32 v) (hz:In8 z) (o0:0≤o) (o1:o<b.length) (xl:x.length≤1024) (hl:w.length=x.length*b.length) (wl:w.length≤16384) (k:Nat) (hk:k<x.length):VT N_ (fnC Tryz.f149 [1,1,0,1,0,0]) (dense_s_I x w b z o k) .normal (dense_s_I x w b z o (k+1)):=by
 have g1:=dnT_bd hx hw hz o k
 have g2:=sumN_bd (B:=32640) (f:=dnT x w z o) k fun i _=>dnT_bd hx hw hz o i
 have g3:=accN_eq (b.getD o.toNat 0) (dnT x w z o) k
 have g4:=gt32 hb o.toNat
 have g5:=gt8 hw (o*x.length+k).toNat
 have g6:=gt8 hx k
 have g7:=idx_bd (a:=o) (m:=b.length) (b:=(k:Int)) (n:=x.length) o0 o1 (by omega) (by omega)
 have g8:((b.length:Int)*x.length)=(w.length:Int):=by rw[hl,BF_,Int.mul_comm]
 have g9:0≤o*x.length:=BK_ o0 (by omega)
 have ga:(K_ (row1 .i8) x).length=x.length:=S_ _
 have gb:=prod_bd g5 (b:=x.getD k 0-z) (by omega)
 have gc:accN (b.getD o.toNat 0) (dnT x w z o) (k+1)=accN (b.getD o.toNat 0) (dnT x w z o) k+w.getD (o*x.length+k).toNat 0*(x.getD k 0-z):=rfl
 rw[←ga] at g5 gb g7 g8 g9 gc
 have gd:IntKind.i64.wrap (o*((K_ (row1 .i8) x).length:Int))=o*((K_ (row1 .i8) x).length:Int):=i6n _ (by omega)
 have ge:IntKind.i64.wrap (o*((K_ (row1 .i8) x).length:Int)+k)=o*((K_ (row1 .i8) x).length:Int)+k:=i6n _ (by omega)
 have oz4:=(map_at (row1 .i8) (0) (l:=w) (i:=(o*((K_ (row1 .i8) x).length:Int)+(↑k:Int)).toNat) (by omega))
 have oz5:=(i6n (w.getD (o*((K_ (row1 .i8) x).length:Int)+(↑k:Int)).toNat 0) (by omega))
 have oz11:=(i6n (w.getD (o*((K_ (row1 .i8) x).length:Int)+(↑k:Int)).toNat 0*(x.getD k 0-z)) (by omega))
 have oz12:=(i6n (accN (b.getD o.toNat 0) (dnT x w z o) k+w.getD (o*((K_ (row1 .i8) x).length:Int)+(↑k:Int)).toNat 0*(x.getD k 0-z)) (by omega))
 have oz14:=(M_ (k:=.i64) (show ((accN (b.getD o.toNat 0) (dnT x w z o) k+w.getD (o*((K_ (row1 .i8) x).length:Int)+(↑k:Int)).toNat 0*(x.getD k 0-z)):Int)=(accN (b.getD o.toNat 0) (dnT x w z o) (k+1)) from (by omega)))
 exact tR_ [r_,b_,.r [] [.n (nO gd),.n (nO ge),.row (sO oz4),.n (nO oz5),.row [i8 (x.getD k 0)],.n (x.getD k 0),.n z,.n (x.getD k 0-z),.n (nO oz11),.n (nO oz12)],.r [] [.n ((↑k:Int)+1)]] [.any (rg [(18,27)]),.weak 11 (wO oz14),.weak 12 (i64 (↑(k+1):Int)),.sort] (.c8 (decide_eq_true (p:=((↑k:Int)<((K_ (row1 .i8) x).length:Int))) (by omega)) gd ge (s_ (0≤o*((K_ (row1 .i8) x).length:Int)+(↑k:Int))) oz4 oz5 (s_ (0≤(↑k:Int))) (map_at (row1 .i8) (0) (l:=x) (i:=k) hk)<|.d8 (i6n (x.getD k 0) (by omega)) (i6n z (by omega)) (i6n (x.getD k 0-z) (by omega)) oz11 oz12 (i6n ((↑k:Int)+1) (by omega)) oz14 (wS_ k))
theorem dense_s_e (x w b:List Int) (z o:Int) (hx:∀ v∈x,In8 v) (hw:∀ v∈w,In8 v) (hb:∀ v∈b,In32 v) (hz:In8 z) (o0:0≤o) (o1:o<b.length) (xl:x.length≤1024) (hl:w.length=x.length*b.length) (wl:w.length≤16384):VT N_ (fnC Tryz.f149 [1,1,0,1,0,0]) (dense_s_I x w b z o (x.length)) (.exit 0) (dense_s_Z x w b z o):=by
 exact tR_ [r_,d_] [.any (rg [(18,4)]),.sort] (.d (show decide ((x.length:Int)<((K_ (row1 .i8) x).length:Int))=false by (simp;done)))
theorem dense_s (x w b:List Int) (z o:Int) (hx:∀ v∈x,In8 v) (hw:∀ v∈w,In8 v) (hb:∀ v∈b,In32 v) (hz:In8 z) (o0:0≤o) (o1:o<b.length) (xl:x.length≤1024) (hl:w.length=x.length*b.length) (wl:w.length≤16384):VT N_ (fnC Tryz.f149 [1,1,0,1,0]) (dense_s_I x w b z o 0) (.exit 0) (dense_s_Z x w b z o) :=
 VT.loop (fun k=>dense_s_I x w b z o k) (x.length) (fun k hk=>dense_s_s x w b z o hx hw hb hz o0 o1 xl hl wl k hk) (dense_s_e x w b z o hx hw hb hz o0 o1 xl hl wl) (by intro h;cases h)
theorem denseS_v (x w b:List Int) (z o:Int) (hx:∀ v∈x,In8 v) (hw:∀ v∈w,In8 v) (hb:∀ v∈b,In32 v) (hz:In8 z) (o0:0≤o) (o1:o<b.length) (xl:x.length≤1024) (hl:w.length=x.length*b.length) (wl:w.length≤16384):VC N_ 149 ([ints .i8 x,ints .i8 w,ints .i32 b,i8 z,i64 o]) (i64 (dnS x w b z o)):=by
 have g4:=gt32 hb o.toNat
 have oz4:=@dense_s (x) (w) (b) (z) (o) hx hw hb hz o0 o1 xl hl wl
 exact (cR_ [r_,.r [] [.row [i32 (b.getD o.toNat 0)],.n (b.getD o.toNat 0)],r_,.code [.any [2,10,13,14,15,16,17],.weak 12 (i64 (↑0:Int)),.sort] (AA_ 0) (zO oz4),r_] (i64 (accN (b.getD o.toNat 0) (dnT x w z o) x.length)) Tryz.func149 (.d5 o0 (map_at (row1 .i32) (0) (l:=b) (i:=o.toNat) (by omega)) (i6n (b.getD o.toNat 0) (by omega)) w0_ oz4)).weak (Y_ _) (M_ (by rfl))
def lineL (x w b:List Int) (z:Int) (k:Nat):List Int:=(BM_ k).map fun o:Nat=>IntKind.i32.wrap (dnS x w b z o)
theorem lineL_succ (x w b:List Int) (z:Int) (k:Nat):lineL x w b z (k+1)=lineL x w b z k++[IntKind.i32.wrap (dnS x w b z k)]:=by simp[lineL,List.range_succ]
theorem lineL_len (x w b:List Int) (z:Int) (k:Nat):(lineL x w b z k).length=k:=by simp[lineL]
noncomputable def line_l_I (x w b:List Int) (z:Int) (k:Nat):VS:=stt 46 [(0,ints .i8 x),(1,ints .i8 w),(2,ints .i32 b),(3,i8 z),(9,.own 900),(10,i64 k)] [(900,.slc 21 1 ((lineL x w b z k).map (row1 .i32)))]
noncomputable def line_l_Z (x w b:List Int) (z:Int):VS:=line_l_I x w b z (b.length)
theorem line_l_s (x w b:List Int) (z:Int) (hx:∀ v∈x,In8 v) (hw:∀ v∈w,In8 v) (hb:∀ v∈b,In32 v) (hz:In8 z) (xl:x.length≤1024) (hl:w.length=x.length*b.length) (wl:w.length≤16384) (bl:b.length≤1024) (k:Nat) (hk:k<b.length):VT N_ (fnC Tryz.f122 [1,1,1,0,1,0,0]) (line_l_I x w b z k) .normal (line_l_I x w b z (k+1)):=by
 have g1:=lineL_len x w b z k
 have oz1:=@denseS_v (x) (w) (b) (z) ((↑k:Int)) hx hw hb hz (by omega) (by omega) xl hl wl
 exact tR_ [r_,b_,.r [] [cr oz1,.w],.r [] [.n ((↑k:Int)+1)]] [.any (rg [(29,16)]),.drop [43],.ren 44 900,.weak 10 (i64 (↑(k+1):Int)),.blk 900 (Blk.slc 21 1 (K_ (row1 .i32) (lineL x w b z (k+1)))),.sort] (.d7 (show decide ((↑k:Int)<((K_ (row1 .i32) b).length:Int))=true by (simp;omega)) oz1 (show ((K_ (row1 .i32) (lineL x w b z k)).length+1)*4≤140737488355328 by (simp;omega)) (show (K_ (row1 .i32) (lineL x w b z k)).length+1≤9223372036854775807 by (simp;omega)) (i6n ((↑k:Int)+1) (by omega)) (wS_ k) (show BlkW (Blk.slc 21 1 (K_ (row1 .i32) (lineL x w b z k)++[[i32 (IntKind.i32.wrap (dnS x w b z (↑k:Int)))]])) (Blk.slc 21 1 (K_ (row1 .i32) (lineL x w b z (k+1)))) from (BU_ (e:=21) (z:=1) (rows_to (row1 .i32) (r:=K_ (row1 .i32) (lineL x w b z k)++[[i32 (IntKind.i32.wrap (dnS x w b z (↑k:Int)))]]) (l:=lineL x w b z k++[IntKind.i32.wrap (dnS x w b z (↑k:Int))]) (m:=lineL x w b z (k+1)) (by first|(simp only[C_,D_,AM_,AN_,A_,AK_,AL_];done)|rfl|(simp only[C_,D_,AM_,AN_,A_,AK_,AL_];rfl)) (show (lineL x w b z k++[IntKind.i32.wrap (dnS x w b z (↑k:Int))])=(lineL x w b z (k+1)) from (by (rw[lineL_succ])))))))
theorem line_l_e (x w b:List Int) (z:Int) (hx:∀ v∈x,In8 v) (hw:∀ v∈w,In8 v) (hb:∀ v∈b,In32 v) (hz:In8 z) (xl:x.length≤1024) (hl:w.length=x.length*b.length) (wl:w.length≤16384) (bl:b.length≤1024):VT N_ (fnC Tryz.f122 [1,1,1,0,1,0,0]) (line_l_I x w b z (b.length)) (.exit 0) (line_l_Z x w b z):=by
 exact tR_ [r_,d_] [.any (rg [(29,4)]),.sort] (.d (show decide ((b.length:Int)<((K_ (row1 .i32) b).length:Int))=false by (simp;done)))
theorem line_l (x w b:List Int) (z:Int) (hx:∀ v∈x,In8 v) (hw:∀ v∈w,In8 v) (hb:∀ v∈b,In32 v) (hz:In8 z) (xl:x.length≤1024) (hl:w.length=x.length*b.length) (wl:w.length≤16384) (bl:b.length≤1024):VT N_ (fnC Tryz.f122 [1,1,1,0,1,0]) (line_l_I x w b z 0) (.exit 0) (line_l_Z x w b z) :=
 VT.loop (fun k=>line_l_I x w b z k) (b.length) (fun k hk=>line_l_s x w b z hx hw hb hz xl hl wl bl k hk) (line_l_e x w b z hx hw hb hz xl hl wl bl) (by intro h;cases h)
theorem line_v (x w b:List Int) (z:Int) (hx:∀ v∈x,In8 v) (hw:∀ v∈w,In8 v) (hb:∀ v∈b,In32 v) (hz:In8 z) (x0:x≠[]) (b0:b≠[]) (xl:x.length≤1024) (hl:w.length=x.length*b.length) (wl:w.length≤16384) (bl:b.length≤1024):VC N_ 122 ([ints .i8 x,ints .i8 w,ints .i32 b,i8 z]) (ints .i32 (lineL x w b z b.length)):=by
 have g1:(x.length:Int)*b.length=w.length:=by rw[hl,BF_]
 have g2:x.length≠0:=by simpa using x0
 have g3:b.length≠0:=by simpa using b0
 have g4:(K_ (row1 .i8) x).length=x.length:=S_ _
 have g5:(K_ (row1 .i32) b).length=b.length:=S_ _
 have g6:(K_ (row1 .i8) w).length=w.length:=S_ _
 have g7:((K_ (row1 .i8) x).length:Int)*((K_ (row1 .i32) b).length:Int)=w.length:=by rw[g4,g5];exact g1
 have oz0:=(show (((K_ (row1 .i8) x).length:Int)==0)=false by (refine decide_eq_false ?_;omega))
 have oz4:=(show (((K_ (row1 .i32) b).length:Int)==0)=false by (refine decide_eq_false ?_;omega))
 have oz11:=(i6n (((K_ (row1 .i8) x).length:Int)*((K_ (row1 .i32) b).length:Int)) (by omega))
 have oz16:=@line_l (x) (w) (b) (z) hx hw hb hz xl hl wl bl
 exact cR_ [r_,.r [] [e_,e_,e_,f_,e_,e_,e_,e_,e_,e_,e_,.n (nO oz11),e_,f_],d_,r_,r_,.code [.any (rg [(8,1),(11,18)]),.weak 10 (i64 (↑0:Int)),.nils 9 900 21 1,.sort] (AA_ 0) (zO oz16),r_] _ Tryz.func122 (.c8 oz0 oz0 oz0 oz0 oz4 oz4 oz4 oz4<|.c8 oz4 oz4 oz4 oz11 oz4 oz4 (show (((K_ (row1 .i8) w).length:Int) != ((K_ (row1 .i8) x).length:Int)*((K_ (row1 .i32) b).length:Int))=false by (simp;omega)) w0_<|.d oz16)
def denseOf (T:Ten) (n:Nod):Ten×Int:=if tenRight T=false then (ten0,5) else if (denseE ⟨T.h,T.x,T.c⟩ n).2≠0 then (ten0,(denseE ⟨T.h,T.x,T.c⟩ n).2) else (⟨(denseE ⟨T.h,T.x,T.c⟩ n).1.h,(denseE ⟨T.h,T.x,T.c⟩ n).1.x,(denseE ⟨T.h,T.x,T.c⟩ n).1.c,lineL T.d n.w n.b n.za n.b.length⟩,0)
theorem denseE_ok {t:Shp} {n:Nod} (h:(denseE t n).2=0):0<elems t.h t.x t.c∧1≤n.no∧n.no≤1024∧(n.w.length:Int)=n.no*elems t.h t.x t.c∧n.w.length≤16384∧(n.b.length:Int)=n.no∧(denseE t n).1=⟨1,1,n.no⟩:=by
 unfold denseE at h ⊢
 have e0:=elems_in t.h t.x t.c
 have e1:=elems_in 1 1 n.no
 split at h
 ·simp at h
 ·split at h
  ·simp at h
  ·rename_i h1 h2
   rw[j_ h1,j_ h2]
   have c:=elems_ok (h:=1) (x:=1) (c:=n.no) (by omega)
   exact ⟨by omega,by omega,by omega,by omega,by omega,by omega,rfl⟩
structure DnOk (T:Ten) (n:Nod):Prop where
 ok:T.Ok
 okn:n.Ok
 r:tenRight T=true
 e:(denseE ⟨T.h,T.x,T.c⟩ n).2=0
theorem DnOk.n {T:Ten} {n:Nod} (h:DnOk T n):T.d≠[]∧n.b≠[]∧T.d.length≤1024∧n.w.length=T.d.length*n.b.length∧n.w.length≤16384∧n.b.length≤1024:=by
 obtain ⟨e1,e2,e3,e4,e5,e6,e7⟩:=denseE_ok h.e
 have r:=tenRight.rt h.r
 have r1:=r.dl
 have r2:=r.en
 have r3:=r.el
 dsimp only at *
 refine ⟨?_,?_,by omega,?_,e5,by omega⟩
 ·intro h0;rw[h0] at r1;simp at r1;omega
 ·intro h0;rw[h0] at e6;simp at e6;omega
 ·apply Int.ofNat_inj.1
  rw[BF_,e4,r2,←r1,←e6,Int.mul_comm]
theorem dense_y (T:Ten) (n:Nod) (ok:DnOk T n):VC N_ 179 ([ten .i8 T,nod n]) (.tup [ten .i32 (denseOf T n).1,i64 (denseOf T n).2]):=by
 obtain ⟨o1,o2,o3,o4⟩:=id ok
 obtain ⟨g1,g2,g3,g4,g5,g6⟩:=ok.n
 have k1:=o1.d
 have k2:=o2.w
 have k3:=o2.b
 have k4:=o2.za
 have oz0:=@refTRight_v (T) o1
 have oz2:=@refDenseShape_v (Shp.mk T.h T.x T.c) (n) (by (exact Shp.mk_ok o1.h o1.x o1.c)) o2
 have oz4:=@line_v (T.d) (n.w) (n.b) (n.za) k1 k2 k3 k4 g1 g2 g3 g4 g5 g6
 exact (cR_ [r_,.r [] [cr oz0],d_,.r [] [cr oz2],r_,d_,.r [] [cr oz4]] (AV.tup [AV.agg [i64 (denseE (Shp.mk T.h T.x T.c) n).fst.h,i64 (denseE (Shp.mk T.h T.x T.c) n).fst.x,i64 (denseE (Shp.mk T.h T.x T.c) n).fst.c,AV.sl 1 (K_ (row1 .i32) (lineL T.d n.w n.b n.za n.b.length))],i64 0]) Tryz.func179 (.d5 oz0 (show (!tenRight T)=false by (simp;omega)) oz2 (show ((denseE (Shp.mk T.h T.x T.c) n).snd != 0)=false by (simp;omega)) oz4)).weak (Y_ _) (AS_ (.cons (AV_ (.cons (M_ (by (unfold denseOf;rw[j_ (by simp[o3]),j_ (by simp[o4])]))) (.cons (M_ (by (unfold denseOf;rw[j_ (by simp[o3]),j_ (by simp[o4])]))) (.cons (M_ (by (unfold denseOf;rw[j_ (by simp[o3]),j_ (by simp[o4])]))) (.cons (CM_ (rows_to (row1 .i32) (r:=K_ (row1 .i32) (lineL T.d n.w n.b n.za n.b.length)) (l:=lineL T.d n.w n.b n.za n.b.length) (m:=(denseOf T n).fst.d) rfl (show (lineL T.d n.w n.b n.za n.b.length)=((denseOf T n).fst.d) from (by (unfold denseOf;rw[j_ (by simp[o3]),j_ (by simp[o4])]))))) .nil))))) (.cons (M_ (by (unfold denseOf;rw[j_ (by simp[o3]),j_ (by simp[o4])]))) .nil)))
theorem dense_n (T:Ten) (n:Nod) (ok:T.Ok) (okn:n.Ok) (hn:tenRight T=false∨(denseE ⟨T.h,T.x,T.c⟩ n).2≠0):VC N_ 179 ([ten .i8 T,nod n]) (.tup [ten .i32 (denseOf T n).1,i64 (denseOf T n).2]):=by
 have oz0:=@refTRight_v (T) ok
 rcases bft (!tenRight T) with hc0|hc0
 ·have gc0:tenRight T=false:=by first|exact hc0|exact of_decide_eq_true hc0|exact of_decide_eq_false hc0|simpa [eqNums] using hc0|(simp[eqNums] at hc0 ⊢;first|done|assumption|omega)
  exact (cR_ [r_,.r [] [cr oz0],b_,r_] (AV.tup [AV.agg [i64 0,i64 0,i64 0,AV.lit (AY_ none 0 0)],i64 5]) Tryz.func179 (.d2 oz0 hc0)).weak (Y_ _) (AS_ (.cons (AV_ (.cons (M_ (by (simp only[denseOf];rw[i_ (by simp_all)];first|done|rfl))) (.cons (M_ (by (simp only[denseOf];rw[i_ (by simp_all)];first|done|rfl))) (.cons (M_ (by (simp only[denseOf];rw[i_ (by simp_all)];first|done|rfl))) (.cons (CJ_ (show []=(K_ (row1 .i32) (denseOf T n).fst.d) from (by (simp only[denseOf];rw[i_ (by simp_all)];first|done|rfl)))) .nil))))) (.cons (M_ (by (simp only[denseOf];rw[i_ (by simp_all)];first|done|rfl))) .nil)))
 ·have gc0:tenRight T=true:=by first|exact hc0|exact of_decide_eq_true hc0|exact of_decide_eq_false hc0|simpa [eqNums] using hc0|(simp[eqNums] at hc0 ⊢;first|done|assumption|omega)
  have oz2:=@refDenseShape_v (Shp.mk T.h T.x T.c) (n) (by (exact Shp.mk_ok ok.h ok.x ok.c)) okn
  exact (cR_ [r_,.r [] [cr oz0],d_,.r [] [cr oz2],r_,b_,r_] (AV.tup [AV.agg [i64 0,i64 0,i64 0,AV.lit (AY_ none 0 0)],i64 (denseE (Shp.mk T.h T.x T.c) n).snd]) Tryz.func179 (.d4 oz0 hc0 oz2 (show ((denseE (Shp.mk T.h T.x T.c) n).snd != 0)=true by (rcases hn with hn|hn<;>simp_all;done)))).weak (Y_ _) (AS_ (.cons (AV_ (.cons (M_ (by (simp only[denseOf];rw[j_ (by simp_all),i_ (by rcases hn with hn|hn<;>simp_all)];first|done|rfl))) (.cons (M_ (by (simp only[denseOf];rw[j_ (by simp_all),i_ (by rcases hn with hn|hn<;>simp_all)];first|done|rfl))) (.cons (M_ (by (simp only[denseOf];rw[j_ (by simp_all),i_ (by rcases hn with hn|hn<;>simp_all)];first|done|rfl))) (.cons (CJ_ (show []=(K_ (row1 .i32) (denseOf T n).fst.d) from (by (simp only[denseOf];rw[j_ (by simp_all),i_ (by rcases hn with hn|hn<;>simp_all)];first|done|rfl)))) .nil))))) (.cons (M_ (by (simp only[denseOf];rw[j_ (by simp_all),i_ (by rcases hn with hn|hn<;>simp_all)];first|done|rfl))) .nil)))
theorem dense_v (T:Ten) (n:Nod) (ok:T.Ok) (okn:n.Ok):VC N_ 179 [ten .i8 T,nod n] (.tup [ten .i32 (denseOf T n).1,i64 (denseOf T n).2]):=by
 cases hr:tenRight T with
 | false=>exact dense_n T n ok okn (.inl hr)
 | true =>
  by_cases he:(denseE ⟨T.h,T.x,T.c⟩ n).2=0
  ·exact dense_y T n ⟨ok,okn,hr,he⟩
  ·exact dense_n T n ok okn (.inr he)
def sumOf (T:Ten) (n:Nod):Ten×Int:=if n.kd=1 then convOf T n else if n.kd=2 then depthOf T n else if n.kd=3 then denseOf T n else (ten0,6)
theorem rsum_v (T:Ten) (n:Nod) (ok:T.Ok) (okn:n.Ok):VC N_ 147 ([nod n,ten .i8 T]) (.tup [ten .i32 (sumOf T n).1,i64 (sumOf T n).2]):=by
 rcases bft (n.kd==1) with hc0|hc0
 ·have gc0:n.kd=1:=bet hc0
  have oz1:=@rcOf_v (T) (n) ok okn
  exact (cR_ [r_,r_,b_,.r [] [cr oz1]] (AV.tup [AV.agg [i64 (convOf T n).fst.h,i64 (convOf T n).fst.x,i64 (convOf T n).fst.c,AV.sl 1 (K_ (row1 .i32) (convOf T n).fst.d)],i64 (convOf T n).snd]) Tryz.func147 (.d2 hc0 oz1)).weak (Y_ _) (AS_ (.cons (AV_ (.cons (M_ (by (unfold sumOf;rw[i_ (by omega)]))) (.cons (M_ (by (unfold sumOf;rw[i_ (by omega)]))) (.cons (M_ (by (unfold sumOf;rw[i_ (by omega)]))) (.cons (CM_ (rows_to (row1 .i32) (r:=K_ (row1 .i32) (convOf T n).fst.d) (l:=(convOf T n).fst.d) (m:=(sumOf T n).fst.d) rfl (show ((convOf T n).fst.d)=((sumOf T n).fst.d) from (by (unfold sumOf;rw[i_ (by omega)]))))) .nil))))) (.cons (M_ (by (unfold sumOf;rw[i_ (by omega)]))) .nil)))
 ·have gc0:¬n.kd=1:=bef hc0
  rcases bft (n.kd==2) with hc1|hc1
  ·have gc1:n.kd=2:=bet hc1
   have oz2:=@rdOf_v (T) (n) ok okn
   exact (cR_ [r_,r_,d_,r_,b_,.r [] [cr oz2]] (AV.tup [AV.agg [i64 (depthOf T n).fst.h,i64 (depthOf T n).fst.x,i64 (depthOf T n).fst.c,AV.sl 1 (K_ (row1 .i32) (depthOf T n).fst.d)],i64 (depthOf T n).snd]) Tryz.func147 (.d3 hc0 hc1 oz2)).weak (Y_ _) (AS_ (.cons (AV_ (.cons (M_ (by (unfold sumOf;rw[j_ (by omega),i_ (by omega)]))) (.cons (M_ (by (unfold sumOf;rw[j_ (by omega),i_ (by omega)]))) (.cons (M_ (by (unfold sumOf;rw[j_ (by omega),i_ (by omega)]))) (.cons (CM_ (rows_to (row1 .i32) (r:=K_ (row1 .i32) (depthOf T n).fst.d) (l:=(depthOf T n).fst.d) (m:=(sumOf T n).fst.d) rfl (show ((depthOf T n).fst.d)=((sumOf T n).fst.d) from (by (unfold sumOf;rw[j_ (by omega),i_ (by omega)]))))) .nil))))) (.cons (M_ (by (unfold sumOf;rw[j_ (by omega),i_ (by omega)]))) .nil)))
  ·have gc1:¬n.kd=2:=bef hc1
   rcases bft (n.kd==3) with hc2|hc2
   ·have gc2:n.kd=3:=bet hc2
    have oz3:=@dense_v (T) (n) ok okn
    exact (cR_ [r_,r_,d_,r_,d_,r_,b_,.r [] [cr oz3]] (AV.tup [AV.agg [i64 (denseOf T n).fst.h,i64 (denseOf T n).fst.x,i64 (denseOf T n).fst.c,AV.sl 1 (K_ (row1 .i32) (denseOf T n).fst.d)],i64 (denseOf T n).snd]) Tryz.func147 (.d4 hc0 hc1 hc2 oz3)).weak (Y_ _) (AS_ (.cons (AV_ (.cons (M_ (by (unfold sumOf;rw[j_ (by omega),j_ (by omega),i_ (by omega)]))) (.cons (M_ (by (unfold sumOf;rw[j_ (by omega),j_ (by omega),i_ (by omega)]))) (.cons (M_ (by (unfold sumOf;rw[j_ (by omega),j_ (by omega),i_ (by omega)]))) (.cons (CM_ (rows_to (row1 .i32) (r:=K_ (row1 .i32) (denseOf T n).fst.d) (l:=(denseOf T n).fst.d) (m:=(sumOf T n).fst.d) rfl (show ((denseOf T n).fst.d)=((sumOf T n).fst.d) from (by (unfold sumOf;rw[j_ (by omega),j_ (by omega),i_ (by omega)]))))) .nil))))) (.cons (M_ (by (unfold sumOf;rw[j_ (by omega),j_ (by omega),i_ (by omega)]))) .nil)))
   ·have gc2:¬n.kd=3:=bef hc2
    exact (cR_ [r_,r_,d_,r_,d_,r_,d_,r_] (AV.tup [AV.agg [i64 0,i64 0,i64 0,AV.lit (AY_ none 0 0)],i64 6]) Tryz.func147 (.d3 hc0 hc1 hc2)).weak (Y_ _) (AS_ (.cons (AV_ (.cons (M_ (by (unfold sumOf;rw[j_ (by omega),j_ (by omega),j_ (by omega)]))) (.cons (M_ (by (unfold sumOf;rw[j_ (by omega),j_ (by omega),j_ (by omega)]))) (.cons (M_ (by (unfold sumOf;rw[j_ (by omega),j_ (by omega),j_ (by omega)]))) (.cons (CJ_ (show []=(K_ (row1 .i32) (sumOf T n).fst.d) from (by (unfold sumOf;rw[j_ (by omega),j_ (by omega),j_ (by omega)];rfl)))) .nil))))) (.cons (M_ (by (unfold sumOf;rw[j_ (by omega),j_ (by omega),j_ (by omega)]))) .nil)))
theorem verdE_0 {s:Shp} {w b:List Int} {nd cl:Int} (h:verdE s w b nd cl=0):elems s.h s.x s.c≠0∧(2≤cl∧cl≤16)∧(w.length:Int)=cl*elems s.h s.x s.c∧w.length≤16384∧(b.length:Int)=cl∧0≤nd:=by
 unfold verdE at h
 split at h
 ·cases h
 ·split at h
  ·cases h
  ·split at h
   ·cases h
   ·split at h
    ·cases h
    ·refine ⟨by omega,by omega,?_,by omega,by omega,by omega⟩
     apply cbc;intro q;rename_i z _;exact z (.inl q)
def logL (T:Ten) (w b:List Int):List Int:=lineL T.d w b 0 b.length
def marE (l:List Int):Int:=l.getD (bestE l) 0-l.getD (secE l (bestE l) l.length).toNat 0
abbrev verC (T:Ten) (w b:List Int) (nd:Int):List AV:=[i64 (bestE (logL T w b)),i64 (marE (logL T w b)),ints .i32 (logL T w b),bv (decide (marE (logL T w b)≥nd))]
theorem logL_32 (T:Ten) (w b:List Int):∀ v∈logL T w b,In32 v:=fun v hv=>by
 unfold logL lineL at hv
 obtain ⟨o,_,rfl⟩:=List.mem_map.1 hv
 unfold In32 IntKind.wrap;simp[IntKind.bits,IntKind.signed];omega
theorem look_v (T:Ten) (w b:List Int) (nd cl:Int) (ok:T.Ok) (r:tenRight T=true) (hw:∀ v∈w,In8 v) (hb:∀ v∈b,In32 v) (hn:In32 nd) (hcl:In64 cl) (v:verdE ⟨T.h,T.x,T.c⟩ w b nd cl=0):VC N_ 85 ([ten .i8 T,.agg (hedC w b nd),i64 cl]) (.tup [.agg (verC T w b nd),i64 0]):=by
 obtain ⟨v1,v2,v3,v4,v5,v6⟩:=verdE_0 v
 have t:=tenRight.rt r
 have d1:=t.dl
 have d2:=t.el
 have te:0<elems T.h T.x T.c∧elems T.h T.x T.c=(T.d.length:Int):=by unfold tenRight at r;simp only[O_,E_] at r;exact r
 have v3':(w.length:Int)=cl*elems T.h T.x T.c:=v3
 have s1:(Shp.mk T.h T.x T.c).Ok:=⟨ok.h,ok.x,ok.c⟩
 have s2:=ok.d
 have s3:T.d≠[]:=fun e=>by rw[e] at te;simp at te;omega
 have s4:b≠[]:=fun e=>by rw[e] at v5;simp at v5;omega
 have s5:w.length=T.d.length*b.length:=by
  have:(w.length:Int)=((T.d.length*b.length:Nat):Int):=by rw[BF_,v3',←v5,te.2,Int.mul_comm]
  omega
 have q2:(lineL T.d w b 0 b.length).length=b.length:=lineL_len _ _ _ _ _
 have q1:∀ v∈lineL T.d w b 0 b.length,In32 v:=logL_32 T w b
 have oz0:=@refTRight_v (T) ok
 have oz2:=@refVcheck_v (Shp.mk T.h T.x T.c) (w) (b) (nd) (cl) s1 (by omega) (by omega)
 have oz4:=@line_v (T.d) (w) (b) (0) s2 hw hb (by omega) s3 s4 (by omega) s5 v4 (by omega)
 have oz5:=@margin_v (lineL T.d w b 0 b.length) (by omega) (by omega) q1
 have oz6:=@best_v (lineL T.d w b 0 b.length) (by omega) (by omega)
 exact (cR_ [r_,.r [] [cr oz0],d_,.r [] [cr oz2],r_,d_,.r [] [cr oz4],.r [] [cr oz5],.r [] [cr oz6,.n nd]] (AV.tup [AV.agg [i64 (↑(bestE (lineL T.d w b 0 b.length)):Int),i64 ((lineL T.d w b 0 b.length).getD (bestE (lineL T.d w b 0 b.length)) 0-(lineL T.d w b 0 b.length).getD (secE (lineL T.d w b 0 b.length) (bestE (lineL T.d w b 0 b.length)) (lineL T.d w b 0 b.length).length).toNat 0),AV.sl 1 (K_ (row1 .i32) (lineL T.d w b 0 b.length)),bv (decide ((lineL T.d w b 0 b.length).getD (bestE (lineL T.d w b 0 b.length)) 0-(lineL T.d w b 0 b.length).getD (secE (lineL T.d w b 0 b.length) (bestE (lineL T.d w b 0 b.length)) (lineL T.d w b 0 b.length).length).toNat 0≥nd))],i64 0]) Tryz.func85 (.d8 oz0 (show (!tenRight T)=false by (simp;omega)) oz2 (show (verdE (Shp.mk T.h T.x T.c) w b nd cl != 0)=false by (simp;omega)) oz4 oz5 oz6 (i6n nd (by omega)))).weak (Y_ _) (AS_ (.cons (AV_ (.cons (M_ (by rfl)) (.cons (M_ (by rfl)) (.cons (CM_ (rows_to (row1 .i32) (r:=K_ (row1 .i32) (lineL T.d w b 0 b.length)) (l:=lineL T.d w b 0 b.length) (m:=logL T w b) rfl (show (lineL T.d w b 0 b.length)=(logL T w b) from (by rfl)))) (.cons (DK_ (by rfl)) .nil))))) (.cons (.refl _) .nil)))
def winJ (T:Ten) (y x c:Int) (A:List Int):Nat→List Int
 | 0=>A
 | j+1=>winJ T y x c A j++(if inT T y (x+j) then [T.d.getD ((y*T.x+(x+j))*T.c+c).toNat 0] else [])
def winI (T:Ten) (k:Nat) (y x c:Int):Nat→List Int
 | 0=>[]
 | i+1=>winJ T (y+i) x c (winI T k y x c i) k
abbrev winL (T:Ten) (n:Nod) (h w c:Int):List Int:=winI T n.nk.toNat (h*n.ns-n.np) (w*n.ns-n.np) c n.nk.toNat
theorem winJ_len (T:Ten) (y x c:Int) (A:List Int):∀ j,(winJ T y x c A j).length≤A.length+j
 | 0=>AT_ _
 | j+1=>by have:=winJ_len T y x c A j;rw[winJ,AX_];split<;>simp<;>omega
theorem winI_len (T:Ten) (k:Nat) (y x c:Int):∀ i,(winI T k y x c i).length≤i*k
 | 0=>by simp[winI]
 | i+1=>by have h1:=winI_len T k y x c i;have h2:=winJ_len T (y+i) x c (winI T k y x c i) k;rw[winI,BI_];omega
theorem winJ_yes {T:Ten} {y x c:Int} {A:List Int} {j:Nat} (h:inT T y (x+j)):winJ T y x c A (j+1)=winJ T y x c A j++[T.d.getD ((y*T.x+(x+j))*T.c+c).toNat 0]:=by rw[winJ,i_ h]
theorem winJ_no {T:Ten} {y x c:Int} {A:List Int} {j:Nat} (h:¬ inT T y (x+j)):winJ T y x c A (j+1)=winJ T y x c A j:=by rw[winJ,j_ h,List.append_nil]
theorem winJ_8 {T:Ten} (ok:T.Ok) (y x c:Int) {A:List Int} (hA:∀ v∈A,In8 v):∀ j,∀ v∈winJ T y x c A j,In8 v
 | 0=>hA
 | j+1=>by
  intro v hv
  rw[winJ,CW_] at hv
  rcases hv with hv|hv
  ·exact winJ_8 ok y x c hA j v hv
  ·split at hv
   ·rw[List.mem_singleton] at hv;subst hv;exact gt8 ok.d _
   ·simp at hv
theorem winI_8 {T:Ten} (ok:T.Ok) (k:Nat) (y x c:Int):∀ i,∀ v∈winI T k y x c i,In8 v
 | 0=>by simp[winI]
 | i+1=>winJ_8 ok _ x c (winI_8 ok k y x c i) k
structure WnOk (T:Ten) (n:Nod) (h w c:Int):Prop where
 r:TRt T
 k1:1≤n.nk
 k5:n.nk≤5
 s1:1≤n.ns
 s4:n.ns≤4
 p0:0≤n.np
 p4:n.np≤4
 h0:0≤h
 h1:h≤100
 w0:0≤w
 w1:w≤100
 c0:0≤c
 c1:c<T.c
noncomputable def win_j_I (T:Ten) (n:Nod) (h w c:Int) (i:Nat) (A:List Int) (k:Nat):VS:=stt 75 [(2,i64 h),(3,i64 w),(4,i64 c),(5,.ptr 5 0 0),(6,.ptr 6 0 0),(11,.own 900),(12,i64 i),(13,i64 k)] [(5,.var [i64 T.h,i64 T.x,i64 T.c,ints .i8 T.d]),(6,.var (nodC n)),(900,.slc 52 1 ((winJ T (h*n.ns-n.np+i) (w*n.ns-n.np) c A k).map (row1 .i8)))]
noncomputable def win_j_Z (T:Ten) (n:Nod) (h w c:Int) (i:Nat) (A:List Int):VS:=win_j_I T n h w c i A (n.nk.toNat)
theorem win_j_s (T:Ten) (n:Nod) (h w c:Int) (i:Nat) (A:List Int) (ok:WnOk T n h w c) (hi:i<n.nk.toNat) (hA:A.length≤25) (k:Nat) (hk:k<n.nk.toNat):VT N_ (fnC Tryz.f173 [1,1,0,1,0,0,1,0,0,1,0,0]) (win_j_I T n h w c i A k) .normal (win_j_I T n h w c i A (k+1)):=by
 obtain ⟨r,k1,k5,s1,s4,p0,p4,h0,h1,w0,w1,c0,c1⟩:=id ok
 have g1:=mul_bd (A:=100) (B:=4) h0 h1 (s_ (0≤n.ns)) s4
 have g2:=mul_bd (A:=100) (B:=4) w0 w1 (s_ (0≤n.ns)) s4
 have g3:=winJ_len T (h*n.ns-n.np+i) (w*n.ns-n.np) c A k
 have g4:(K_ (row1 .i8) (winJ T (h*n.ns-n.np+i) (w*n.ns-n.np) c A k)).length≤60:=by rw[S_];omega
 have g5:=fun (a:inT T (h*n.ns-n.np+i) (w*n.ns-n.np+k))=>r.place a c0 c1
 have g6:h*n.ns+i-n.np=h*n.ns-n.np+i:=by omega
 have g7:w*n.ns+k-n.np=w*n.ns-n.np+k:=by omega
 have g8:=r.el
 have g9:=r.dl
 have ga:=r.x16
 have gb:=r.h16
 have y1:=@winJ_yes T (h*n.ns-n.np+i) (w*n.ns-n.np) c A k
 have y2:=@winJ_no T (h*n.ns-n.np+i) (w*n.ns-n.np) c A k
 rw[←g6,←g7] at g5
 rw[←g7] at y1 y2
 have oz0:=(decide_eq_true (p:=((↑k:Int)<n.nk)) (by omega))
 have oz1:=(i6n (h*n.ns) (by omega))
 have oz2:=(i6n (h*n.ns+(↑i:Int)) (by omega))
 have oz3:=(i6n (h*n.ns+(↑i:Int)-n.np) (by omega))
 have oz4:=(i6n (w*n.ns) (by omega))
 have oz5:=(i6n (w*n.ns+(↑k:Int)) (by omega))
 have oz6:=(i6n (w*n.ns+(↑k:Int)-n.np) (by omega))
 rcases bft (decide (h*n.ns+(↑i:Int)-n.np≥0)&&decide (h*n.ns+(↑i:Int)-n.np<T.h)&&decide (w*n.ns+(↑k:Int)-n.np≥0)&&decide (w*n.ns+(↑k:Int)-n.np<T.x)) with hc0|hc0
 ·have gc0:((h*n.ns+(↑i:Int)-n.np≥0∧h*n.ns+(↑i:Int)-n.np<T.h)∧w*n.ns+(↑k:Int)-n.np≥0)∧w*n.ns+(↑k:Int)-n.np<T.x:=gc0_ hc0
  have oz8:=@get_v (T) (h*n.ns+(↑i:Int)-n.np) (w*n.ns+(↑k:Int)-n.np) (c) (by omega) (by omega) (by omega) (by omega) (by omega) c0 (by omega) (by omega)
  exact tR_ [r_,b_,.r [] [.n (nO oz1),.n (nO oz2),.n (nO oz3),.n (nO oz4),.n (nO oz5),.n (nO oz6)],.r [] [o_,o_,o_,o_,o_,.sel 2,o_,o_,.sel 2,o_,o_,o_,o_,o_,.sel 2],b_,.r [] [cr oz8],.r [] [.n ((↑k:Int)+1)]] [.any (rg [(14,2),(22,27),(54,2),(58,2),(65,9)]),.drop [72],.ren 73 900,.weak 13 (i64 (↑(k+1):Int)),.blk 900 (Blk.slc 52 1 (K_ (row1 .i8) (winJ T (h*n.ns-n.np+(↑i:Int)) (w*n.ns-n.np) c A (k+1)))),.sort] (.c8 oz0 oz1 oz2 oz3 oz4 oz5 oz6 hc0<|.d6 oz8 (s_ (((K_ (row1 .i8) (winJ T (h*n.ns-n.np+(↑i:Int)) (w*n.ns-n.np) c A k)).length+1)*1≤140737488355328)) (s_ ((K_ (row1 .i8) (winJ T (h*n.ns-n.np+(↑i:Int)) (w*n.ns-n.np) c A k)).length+1≤9223372036854775807)) (i6n ((↑k:Int)+1) (by omega)) (wS_ k) (show BlkW (Blk.slc 52 1 (K_ (row1 .i8) (winJ T (h*n.ns-n.np+(↑i:Int)) (w*n.ns-n.np) c A k)++[[i8 (T.d.getD (((h*n.ns+(↑i:Int)-n.np)*T.x+(w*n.ns+(↑k:Int)-n.np))*T.c+c).toNat 0)]])) (Blk.slc 52 1 (K_ (row1 .i8) (winJ T (h*n.ns-n.np+(↑i:Int)) (w*n.ns-n.np) c A (k+1)))) from (BU_ (e:=52) (z:=1) (rows_to (row1 .i8) (r:=K_ (row1 .i8) (winJ T (h*n.ns-n.np+(↑i:Int)) (w*n.ns-n.np) c A k)++[[i8 (T.d.getD (((h*n.ns+(↑i:Int)-n.np)*T.x+(w*n.ns+(↑k:Int)-n.np))*T.c+c).toNat 0)]]) (l:=winJ T (h*n.ns-n.np+(↑i:Int)) (w*n.ns-n.np) c A k++[T.d.getD (((h*n.ns+(↑i:Int)-n.np)*T.x+(w*n.ns+(↑k:Int)-n.np))*T.c+c).toNat 0]) (m:=winJ T (h*n.ns-n.np+(↑i:Int)) (w*n.ns-n.np) c A (k+1)) (by first|(simp only[C_,D_,AM_,AN_,A_,AK_,AL_];done)|rfl|(simp only[C_,D_,AM_,AN_,A_,AK_,AL_];rfl)) (show (winJ T (h*n.ns-n.np+(↑i:Int)) (w*n.ns-n.np) c A k++[T.d.getD (((h*n.ns+(↑i:Int)-n.np)*T.x+(w*n.ns+(↑k:Int)-n.np))*T.c+c).toNat 0])=(winJ T (h*n.ns-n.np+(↑i:Int)) (w*n.ns-n.np) c A (k+1)) from (by (rw[y1 (by unfold inT;omega),g6])))))))
 ·have gc0:((¬h*n.ns+(↑i:Int)-n.np≥0∨¬h*n.ns+(↑i:Int)-n.np<T.h)∨¬w*n.ns+(↑k:Int)-n.np≥0)∨¬w*n.ns+(↑k:Int)-n.np<T.x:=gc0_ hc0
  exact tR_ [r_,b_,.r [] [.n (nO oz1),.n (nO oz2),.n (nO oz3),.n (nO oz4),.n (nO oz5),.n (nO oz6)],.r [] [o_,o_,o_,o_,o_,.sel 2,o_,o_,.sel 2,o_,o_,o_,o_,o_,.sel 2],d_,.r [] [.n ((↑k:Int)+1)]] [.any (rg [(14,2),(22,27),(54,2),(58,2),(65,1)]),.weak 13 (i64 (↑(k+1):Int)),.blk 900 (Blk.slc 52 1 (K_ (row1 .i8) (winJ T (h*n.ns-n.np+(↑i:Int)) (w*n.ns-n.np) c A (k+1)))),.sort] (.c8 oz0 oz1 oz2 oz3 oz4 oz5 oz6 hc0<|.d3 (i6n ((↑k:Int)+1) (by omega)) (wS_ k) (show BlkW (Blk.slc 52 1 (K_ (row1 .i8) (winJ T (h*n.ns-n.np+(↑i:Int)) (w*n.ns-n.np) c A k))) (Blk.slc 52 1 (K_ (row1 .i8) (winJ T (h*n.ns-n.np+(↑i:Int)) (w*n.ns-n.np) c A (k+1)))) from (BU_ (e:=52) (z:=1) (rows_to (row1 .i8) (r:=K_ (row1 .i8) (winJ T (h*n.ns-n.np+(↑i:Int)) (w*n.ns-n.np) c A k)) (l:=winJ T (h*n.ns-n.np+(↑i:Int)) (w*n.ns-n.np) c A k) (m:=winJ T (h*n.ns-n.np+(↑i:Int)) (w*n.ns-n.np) c A (k+1)) rfl (show (winJ T (h*n.ns-n.np+(↑i:Int)) (w*n.ns-n.np) c A k)=(winJ T (h*n.ns-n.np+(↑i:Int)) (w*n.ns-n.np) c A (k+1)) from (by (rw[y2 (by unfold inT;omega)])))))))
theorem win_j_e (T:Ten) (n:Nod) (h w c:Int) (i:Nat) (A:List Int) (ok:WnOk T n h w c) (hi:i<n.nk.toNat) (hA:A.length≤25):VT N_ (fnC Tryz.f173 [1,1,0,1,0,0,1,0,0,1,0,0]) (win_j_I T n h w c i A (n.nk.toNat)) (.exit 2) (win_j_Z T n h w c i A):=by
 obtain ⟨r,k1,k5,s1,s4,p0,p4,h0,h1,w0,w1,c0,c1⟩:=id ok
 exact tR_ [r_,d_] [.any (rg [(22,4)]),.sort] (.d (decide_eq_false (p:=((↑n.nk.toNat:Int)<n.nk)) (by omega)))
theorem win_j (T:Ten) (n:Nod) (h w c:Int) (i:Nat) (A:List Int) (ok:WnOk T n h w c) (hi:i<n.nk.toNat) (hA:A.length≤25):VT N_ (fnC Tryz.f173 [1,1,0,1,0,0,1,0,0,1,0]) (win_j_I T n h w c i A 0) (.exit 2) (win_j_Z T n h w c i A) :=
 VT.loop (fun k=>win_j_I T n h w c i A k) (n.nk.toNat) (fun k hk=>win_j_s T n h w c i A ok hi hA k hk) (win_j_e T n h w c i A ok hi hA) (by intro h;cases h)
noncomputable def win_i_I (T:Ten) (n:Nod) (h w c:Int) (k:Nat):VS:=stt 75 [(2,i64 h),(3,i64 w),(4,i64 c),(5,.ptr 5 0 0),(6,.ptr 6 0 0),(11,.own 900),(12,i64 k)] [(5,.var [i64 T.h,i64 T.x,i64 T.c,ints .i8 T.d]),(6,.var (nodC n)),(900,.slc 52 1 ((winI T n.nk.toNat (h*n.ns-n.np) (w*n.ns-n.np) c k).map (row1 .i8)))]
noncomputable def win_i_Z (T:Ten) (n:Nod) (h w c:Int):VS:=win_i_I T n h w c (n.nk.toNat)
theorem win_i_s (T:Ten) (n:Nod) (h w c:Int) (ok:WnOk T n h w c) (k:Nat) (hk:k<n.nk.toNat):VT N_ (fnC Tryz.f173 [1,1,0,1,0,0]) (win_i_I T n h w c k) .normal (win_i_I T n h w c (k+1)):=by
 obtain ⟨r,k1,k5,s1,s4,p0,p4,h0,h1,w0,w1,c0,c1⟩:=id ok
 have g1:=winI_len T n.nk.toNat (h*n.ns-n.np) (w*n.ns-n.np) c k
 have g2:k*n.nk.toNat≤5*5:=Nat.mul_le_mul (by omega) (by omega)
 have oz3:=@win_j (T) (n) (h) (w) (c) (k) (winI T n.nk.toNat (h*n.ns-n.np) (w*n.ns-n.np) c k) ok hk (by omega)
 exact tR_ [r_,b_,r_,.code [.any (rg [(16,4)]),.weak 13 (i64 (↑0:Int)),.blk 900 (Blk.slc 52 1 (K_ (row1 .i8) (winJ T (h*n.ns-n.np+(↑k:Int)) (w*n.ns-n.np) c (winI T n.nk.toNat (h*n.ns-n.np) (w*n.ns-n.np) c k) 0))),.sort] (AA_ 2) (zO oz3),.r [] [.n ((↑k:Int)+1)]] [.any [13,20,21],.weak 12 (i64 (↑(k+1):Int)),.blk 900 (Blk.slc 52 1 (K_ (row1 .i8) (winI T n.nk.toNat (h*n.ns-n.np) (w*n.ns-n.np) c (k+1)))),.sort] (.d7 (decide_eq_true (p:=((↑k:Int)<n.nk)) (by omega)) w0_ (show BlkW (Blk.slc 52 1 (K_ (row1 .i8) (winI T n.nk.toNat (h*n.ns-n.np) (w*n.ns-n.np) c k))) (Blk.slc 52 1 (K_ (row1 .i8) (winJ T (h*n.ns-n.np+(↑k:Int)) (w*n.ns-n.np) c (winI T n.nk.toNat (h*n.ns-n.np) (w*n.ns-n.np) c k) 0))) from (BU_ (e:=52) (z:=1) (rows_to (row1 .i8) (r:=K_ (row1 .i8) (winI T n.nk.toNat (h*n.ns-n.np) (w*n.ns-n.np) c k)) (l:=winI T n.nk.toNat (h*n.ns-n.np) (w*n.ns-n.np) c k) (m:=winJ T (h*n.ns-n.np+(↑k:Int)) (w*n.ns-n.np) c (winI T n.nk.toNat (h*n.ns-n.np) (w*n.ns-n.np) c k) 0) rfl (show (winI T n.nk.toNat (h*n.ns-n.np) (w*n.ns-n.np) c k)=(winJ T (h*n.ns-n.np+(↑k:Int)) (w*n.ns-n.np) c (winI T n.nk.toNat (h*n.ns-n.np) (w*n.ns-n.np) c k) 0) from (by rfl))))) oz3 (i6n ((↑k:Int)+1) (by omega)) (wS_ k) (show BlkW (Blk.slc 52 1 (K_ (row1 .i8) (winJ T (h*n.ns-n.np+(↑k:Int)) (w*n.ns-n.np) c (winI T n.nk.toNat (h*n.ns-n.np) (w*n.ns-n.np) c k) n.nk.toNat))) (Blk.slc 52 1 (K_ (row1 .i8) (winI T n.nk.toNat (h*n.ns-n.np) (w*n.ns-n.np) c (k+1)))) from (BU_ (e:=52) (z:=1) (rows_to (row1 .i8) (r:=K_ (row1 .i8) (winJ T (h*n.ns-n.np+(↑k:Int)) (w*n.ns-n.np) c (winI T n.nk.toNat (h*n.ns-n.np) (w*n.ns-n.np) c k) n.nk.toNat)) (l:=winJ T (h*n.ns-n.np+(↑k:Int)) (w*n.ns-n.np) c (winI T n.nk.toNat (h*n.ns-n.np) (w*n.ns-n.np) c k) n.nk.toNat) (m:=winI T n.nk.toNat (h*n.ns-n.np) (w*n.ns-n.np) c (k+1)) rfl (show (winJ T (h*n.ns-n.np+(↑k:Int)) (w*n.ns-n.np) c (winI T n.nk.toNat (h*n.ns-n.np) (w*n.ns-n.np) c k) n.nk.toNat)=(winI T n.nk.toNat (h*n.ns-n.np) (w*n.ns-n.np) c (k+1)) from (by (rw[winI])))))))
theorem win_i_e (T:Ten) (n:Nod) (h w c:Int) (ok:WnOk T n h w c):VT N_ (fnC Tryz.f173 [1,1,0,1,0,0]) (win_i_I T n h w c (n.nk.toNat)) (.exit 0) (win_i_Z T n h w c):=by
 obtain ⟨r,k1,k5,s1,s4,p0,p4,h0,h1,w0,w1,c0,c1⟩:=id ok
 exact tR_ [r_,d_] [.any (rg [(16,4)]),.sort] (.d (decide_eq_false (p:=((↑n.nk.toNat:Int)<n.nk)) (by omega)))
theorem win_i (T:Ten) (n:Nod) (h w c:Int) (ok:WnOk T n h w c):VT N_ (fnC Tryz.f173 [1,1,0,1,0]) (win_i_I T n h w c 0) (.exit 0) (win_i_Z T n h w c) :=
 VT.loop (fun k=>win_i_I T n h w c k) (n.nk.toNat) (fun k hk=>win_i_s T n h w c ok k hk) (win_i_e T n h w c ok) (by intro h;cases h)
theorem window_v (T:Ten) (n:Nod) (h w c:Int) (ok:WnOk T n h w c):VC N_ 173 ([ten .i8 T,nod n,i64 h,i64 w,i64 c]) (ints .i8 (winL T n h w c)):=by
 have oz1:=@win_i (T) (n) (h) (w) (c) ok
 exact cR_ [r_,r_,r_,.code [.any [0,1,10],.weak 12 (i64 (↑0:Int)),.nils 11 900 52 1,.sort] (AA_ 0) (zO oz1),r_] _ Tryz.func173 (.d2 w0_ oz1)
def nearP (a m:Int):Int:=if m-a % m≤a % m then a/m+1 else a/m
def nearE (s m:Int):Int:=if m<1 then 0 else if s<0 then -(nearP (-s) m) else nearP s m
theorem nearP_bd {a m:Int} (h0:0≤a) (h1:a≤1000000) (hm:1≤m):0≤a/m∧a/m≤1000000∧0≤a % m∧a % m<m:=by
 have q1:=Int.ediv_nonneg h0 (s_ (0≤m))
 have q2:=Int.ediv_le_self m h0
 have q3:=Int.emod_nonneg a (s_ (m≠0))
 have q4:=Int.emod_lt_of_pos a (s_ (0<m))
 omega
theorem near_v (s m:Int) (h0 : -1000000≤s) (h1:s≤1000000) (m1:m≤1000000):VC N_ 197 ([i64 s,i64 m]) (i64 (nearE s m)):=by
 have q1:=fun (a:0≤s) (b:1≤m)=>nearP_bd a h1 b
 have q2:=fun (a:0 ≤ -s) (b:1≤m)=>nearP_bd a (by omega) b
 rw[show -s=0-s by omega] at q2
 rcases bft (decide (m<1)) with hc0|hc0
 ·have gc0:=of_decide_eq_true hc0
  exact (cR_ [r_,r_,b_,r_] (i64 0) Tryz.func197 (.d hc0)).weak (Y_ _) (M_ (by (unfold nearE;rw[i_ (by omega)])))
 ·have gc0:=of_decide_eq_false hc0
  rcases bft (decide (s<0)) with hc1|hc1
  ·have gc1:=of_decide_eq_true hc1
   have oz2:=(i6n (0-s) (by omega))
   have oz3:=(s_ (m≠0))
   have oz4:=(show IntKind.i64.wrap ((0-s).tdiv m)=(0-s)/m from (Eq.trans (congrArg _ (BE_ (by omega))) (by exact i6n _ (by omega))))
   have oz6:=(show (0-s).tmod m=(0-s) % m from (CK_ (by omega)))
   have oz9:=(i6n (m-(0-s) % m) (by omega))
   rcases bft (decide ((0-s) % m≥m-(0-s) % m)) with hc2|hc2
   ·have gc2:=of_decide_eq_true hc2
    exact (cR_ [r_,r_,d_,r_,r_,b_,.r [] [.n (nO oz2)],.r [] [.n ((0-s)/m)],.r [] [.n ((0-s) % m),.n ((0-s) % m),.n (nO oz9)],b_,.r [] [.n ((0-s)/m+1)],r_,b_,.r [] [.n (0-((0-s)/m+1))]] (i64 (0-((0-s)/m+1))) Tryz.func197 (.c8 hc0 hc1 oz2 oz3 oz4 oz3 oz6 oz3<|.d6 oz6 oz9 hc2 (i6n ((0-s)/m+1) (by omega)) hc1 (i6n (0-((0-s)/m+1)) (by omega)))).weak (Y_ _) (M_ (by (unfold nearE nearP;rw[j_ (by omega),i_ (by omega),show -s=0-s by omega,i_ (by omega)];omega)))
   ·have gc2:=of_decide_eq_false hc2
    exact (cR_ [r_,r_,d_,r_,r_,b_,.r [] [.n (nO oz2)],.r [] [.n ((0-s)/m)],.r [] [.n ((0-s) % m),.n ((0-s) % m),.n (nO oz9)],d_,r_,b_,.r [] [.n (0-(0-s)/m)]] (i64 (0-(0-s)/m)) Tryz.func197 (.c8 hc0 hc1 oz2 oz3 oz4 oz3 oz6 oz3<|.d5 oz6 oz9 hc2 hc1 (i6n (0-(0-s)/m) (by omega)))).weak (Y_ _) (M_ (by (unfold nearE nearP;rw[j_ (by omega),i_ (by omega),show -s=0-s by omega,j_ (by omega)];omega)))
  ·have gc1:=of_decide_eq_false hc1
   have oz2:=(s_ (m≠0))
   have oz3:=(show IntKind.i64.wrap (s.tdiv m)=s/m from (Eq.trans (congrArg _ (BE_ (by omega))) (by exact i6n _ (by omega))))
   have oz5:=(show s.tmod m=s % m from (CK_ (by omega)))
   have oz8:=(i6n (m-s % m) (by omega))
   rcases bft (decide (s % m≥m-s % m)) with hc2|hc2
   ·have gc2:=of_decide_eq_true hc2
    exact (cR_ [r_,r_,d_,r_,r_,d_,.r [] [.n (s/m)],.r [] [.n (s % m),.n (s % m),.n (nO oz8)],b_,.r [] [.n (s/m+1)],r_,d_,r_] (i64 (s/m+1)) Tryz.func197 (.c8 hc0 hc1 oz2 oz3 oz2 oz5 oz2 oz5<|.d4 oz8 hc2 (i6n (s/m+1) (by omega)) hc1)).weak (Y_ _) (M_ (by (unfold nearE nearP;rw[j_ (by omega),j_ (by omega),i_ (by omega)])))
   ·have gc2:=of_decide_eq_false hc2
    exact (cR_ [r_,r_,d_,r_,r_,d_,.r [] [.n (s/m)],.r [] [.n (s % m),.n (s % m),.n (nO oz8)],d_,r_,d_,r_] (i64 (s/m)) Tryz.func197 (.c8 hc0 hc1 oz2 oz3 oz2 oz5 oz2 oz5<|.d3 oz8 hc2 hc1)).weak (Y_ _) (M_ (by (unfold nearE nearP;rw[j_ (by omega),j_ (by omega),j_ (by omega)])))
def sumL (l:List Int) (k:Nat):Int:=sumN (fun i=>l.getD i 0) k
def meanE (l:List Int):Int:=IntKind.i8.wrap (nearE (sumL l l.length) l.length)
theorem sumL_bd {l:List Int} (h:∀ v∈l,In8 v) (k:Nat) : -(k*128)≤sumL l k∧sumL l k≤k*128:=sumN_bd (B:=128) k fun i _=>by have:=gt8 h i;omega
noncomputable def mean_l_I (l:List Int) (k:Nat):VS:=stt 23 [(0,ints .i8 l),(3,i64 (sumL l k)),(4,i64 k)] []
noncomputable def mean_l_Z (l:List Int):VS:=mean_l_I l (l.length)
theorem mean_l_s (l:List Int) (hl:l.length≤1000) (h:∀ v∈l,In8 v) (k:Nat) (hk:k<l.length):VT N_ (fnC Tryz.f175 [1,1,0,1,0,0]) (mean_l_I l k) .normal (mean_l_I l (k+1)):=by
 have q1:=sumL_bd h k
 have q2:=gt8 h k
 have q3:sumL l (k+1)=sumL l k+l.getD k 0:=rfl
 exact tR_ [r_,b_,.r [] [.row [i8 (l.getD k 0)],.n (l.getD k 0),.n (sumL l k+l.getD k 0)],.r [] [.n ((↑k:Int)+1)]] [.any (rg [(5,13)]),.weak 3 (i64 (sumL l (k+1))),.weak 4 (i64 (↑(k+1):Int)),.sort] (.d8 (show decide ((↑k:Int)<((K_ (row1 .i8) l).length:Int))=true by (simp;omega)) (s_ (0≤(↑k:Int))) (map_at (row1 .i8) (0) (l:=l) (i:=k) hk) (i6n (l.getD k 0) (by omega)) (i6n (sumL l k+l.getD k 0) (by omega)) (i6n ((↑k:Int)+1) (by omega)) (M_ (k:=.i64) (show ((sumL l k+l.getD k 0):Int)=(sumL l (k+1)) from (by omega))) (wS_ k))
theorem mean_l_e (l:List Int) (hl:l.length≤1000) (h:∀ v∈l,In8 v):VT N_ (fnC Tryz.f175 [1,1,0,1,0,0]) (mean_l_I l (l.length)) (.exit 0) (mean_l_Z l):=by
 exact tR_ [r_,d_] [.any [5,6,7,8],.sort] (.d (show decide ((l.length:Int)<((K_ (row1 .i8) l).length:Int))=false by (simp;done)))
theorem mean_l (l:List Int) (hl:l.length≤1000) (h:∀ v∈l,In8 v):VT N_ (fnC Tryz.f175 [1,1,0,1,0]) (mean_l_I l 0) (.exit 0) (mean_l_Z l) :=
 VT.loop (fun k=>mean_l_I l k) (l.length) (fun k hk=>mean_l_s l hl h k hk) (mean_l_e l hl h) (by intro h;cases h)
theorem mean_v (l:List Int) (hl:l.length≤1000) (h:∀ v∈l,In8 v):VC N_ 175 ([ints .i8 l]) (i8 (meanE l)):=by
 have q1:=sumL_bd h l.length
 have oz2:=@mean_l (l) hl h
 have oz3:=@near_v (sumL l l.length) (((K_ (row1 .i8) l).length:Int)) (by omega) (by omega) (by (simp;omega))
 exact (cR_ [r_,r_,r_,.code [.any [2],.weak 3 (i64 (sumL l 0)),.weak 4 (i64 (↑0:Int)),.sort] (AA_ 0) (zO oz2),.r [] [cr oz3,.w]] (i8 (IntKind.i8.wrap (nearE (sumL l l.length) ((K_ (row1 .i8) l).length:Int)))) Tryz.func175 (.d4 (M_ (k:=.i64) (show ((0):Int)=(sumL l 0) from (by rfl))) w0_ oz2 oz3)).weak (Y_ _) (M_ (by (unfold meanE;rw[S_])))
def poolF (T:Ten) (n:Nod) (s:Shp) (m:Bool) (i:Nat):Int :=
 if m=true then reachHi (winL T n ((i:Int)/s.c/s.x) ((i:Int)/s.c % s.x) ((i:Int) % s.c)) (winL T n ((i:Int)/s.c/s.x) ((i:Int)/s.c % s.x) ((i:Int) % s.c)).length
 else meanE (winL T n ((i:Int)/s.c/s.x) ((i:Int)/s.c % s.x) ((i:Int) % s.c))
abbrev plS (T:Ten) (n:Nod):Shp:=(slideE ⟨T.h,T.x,T.c⟩ n.nk n.ns n.np T.c).1
def poolL (T:Ten) (n:Nod) (m:Bool) (k:Nat):List Int:=(BM_ k).map (poolF T n (plS T n) m)
theorem poolL_succ (T:Ten) (n:Nod) (m:Bool) (k:Nat):poolL T n m (k+1)=poolL T n m k++[poolF T n (plS T n) m k]:=by simp[poolL,List.range_succ]
theorem poolL_len (T:Ten) (n:Nod) (m:Bool) (k:Nat):(poolL T n m k).length=k:=by simp[poolL]
structure PlOk (T:Ten) (n:Nod):Prop where
 ok:T.Ok
 okn:n.Ok
 r:tenRight T=true
 e:(slideE ⟨T.h,T.x,T.c⟩ n.nk n.ns n.np T.c).2=0
structure PlN (T:Ten) (n:Nod):Prop where
 r:TRt T
 k1:1≤n.nk
 k5:n.nk≤5
 s1:1≤n.ns
 s4:n.ns≤4
 p0:0≤n.np
 p4:n.np≤4
 pk:n.np<n.nk
 hk:n.nk≤T.h+2*n.np
 xk:n.nk≤T.x+2*n.np
 sh:(plS T n).h=(T.h+2*n.np-n.nk)/n.ns+1
 sx:(plS T n).x=(T.x+2*n.np-n.nk)/n.ns+1
 sc:(plS T n).c=T.c
 h1:1≤(plS T n).h
 h2:(plS T n).h≤16
 x1:1≤(plS T n).x
 x2:(plS T n).x≤16
 en:elems (plS T n).h (plS T n).x (plS T n).c=(plS T n).h*(plS T n).x*(plS T n).c
 el:(plS T n).h*(plS T n).x*(plS T n).c≤1024
theorem PlOk.n {T:Ten} {n:Nod} (h:PlOk T n):PlN T n:=by
 obtain ⟨a1,a2,a3,a4,a5,a6,a7,a8,a9,a10,a11,a12⟩:=slideE_ok h.e
 have c:=elems_ok a12
 have r:=tenRight.rt h.r
 dsimp only at *
 have e1:(plS T n).h=(T.h+2*n.np-n.nk)/n.ns+1:=by unfold plS;rw[a11]
 have e2:(plS T n).x=(T.x+2*n.np-n.nk)/n.ns+1:=by unfold plS;rw[a11]
 have e3:(plS T n).c=T.c:=by unfold plS;rw[a11]
 rw[←e1,←e2,←e3] at c
 exact ⟨r,a2,a3,a4,a5,a6,a7,a8,by omega,by omega,e1,e2,e3,by omega,by omega,by omega,by omega,by omega,by omega⟩
theorem at_num {i h x c:Int} (i0:0≤i) (i1:i<h*x*c) (hx:1≤x) (hc:1≤c):0≤i/c/x∧i/c/x<h∧0≤i/c % x∧i/c % x<x∧0≤i % c∧i % c<c∧0≤i/c∧i/c≤i:=by
 have q1:=Int.ediv_nonneg i0 (s_ (0≤c))
 have q2:=Int.ediv_nonneg q1 (s_ (0≤x))
 have q3:i/c<h*x:=Int.ediv_lt_of_lt_mul (by omega) i1
 have q4:i/c/x<h:=Int.ediv_lt_of_lt_mul (by omega) q3
 exact ⟨q2,q4,Int.emod_nonneg _ (by omega),Int.emod_lt_of_pos _ (by omega),Int.emod_nonneg _ (by omega),Int.emod_lt_of_pos _ (by omega),q1,Int.ediv_le_self c i0⟩
noncomputable def pool_l_I (T:Ten) (n:Nod) (m:Bool) (k:Nat):VS:=stt 87 [(2,bv m),(3,.ptr 3 0 0),(4,.ptr 4 0 0),(6,.ptr 6 0 0),(8,.ptr 8 0 0),(10,.ptr 10 0 0),(11,i64 k)] [(3,.var [i64 T.h,i64 T.x,i64 T.c,ints .i8 T.d]),(4,.var (nodC n)),(6,.var [i64 0,i64 0,i64 0,nilv]),(8,.var [i64 (plS T n).h,i64 (plS T n).x,i64 (plS T n).c]),(10,.var [i64 (plS T n).h,i64 (plS T n).x,i64 (plS T n).c,.own 900]),(900,.slc 52 1 ((poolL T n m k).map (row1 .i8)))]
noncomputable def pool_l_Z (T:Ten) (n:Nod) (m:Bool):VS:=pool_l_I T n m ((elems (plS T n).h (plS T n).x (plS T n).c).toNat)
theorem pool_l_s (T:Ten) (n:Nod) (m:Bool) (ok:PlOk T n) (k:Nat) (hk:k<(elems (plS T n).h (plS T n).x (plS T n).c).toNat):VT N_ (fnC Tryz.f142 [1,1,1,1,1,0,1,0,0]) (pool_l_I T n m k) .normal (pool_l_I T n m (k+1)):=by
 obtain ⟨r,k1,k5,s1,s4,p0,p4,pk,hk',xk,sh,sx,sc,h1,h2,x1,x2,en,el⟩:=ok.n
 have g1:=r.c1
 have gz:=r.c2
 have g2:=at_num (i:=(k:Int)) (h:=(plS T n).h) (x:=(plS T n).x) (c:=(plS T n).c) (by omega) (by omega) x1 (by omega)
 have g3:WnOk T n ((k:Int)/(plS T n).c/(plS T n).x) ((k:Int)/(plS T n).c % (plS T n).x) ((k:Int) % (plS T n).c):=⟨r,k1,k5,s1,s4,p0,p4,by omega,by omega,by omega,by omega,by omega,by omega⟩
 have g4:=winI_8 ok.ok n.nk.toNat ((k:Int)/(plS T n).c/(plS T n).x*n.ns-n.np) ((k:Int)/(plS T n).c % (plS T n).x*n.ns-n.np) ((k:Int) % (plS T n).c) n.nk.toNat
 have g5:=winI_len T n.nk.toNat ((k:Int)/(plS T n).c/(plS T n).x*n.ns-n.np) ((k:Int)/(plS T n).c % (plS T n).x*n.ns-n.np) ((k:Int) % (plS T n).c) n.nk.toNat
 have g6:n.nk.toNat*n.nk.toNat≤5*5:=Nat.mul_le_mul (by omega) (by omega)
 have g7:=poolL_len T n m k
 have g8:(winL T n ((k:Int)/(plS T n).c/(plS T n).x) ((k:Int)/(plS T n).c % (plS T n).x) ((k:Int) % (plS T n).c)).length≤25:=Nat.le_trans g5 g6
 have oz0:=@refElems_v ((plS T n).h) ((plS T n).x) ((plS T n).c) (by omega) (by omega) (by omega)
 have oz1:=(decide_eq_true (p:=((↑k:Int)<elems (plS T n).h (plS T n).x (plS T n).c)) (by omega))
 have oz2:=(s_ ((plS T n).c≠0))
 have oz3:=(show IntKind.i64.wrap ((↑k:Int).tdiv (plS T n).c)=(↑k:Int)/(plS T n).c from (Eq.trans (congrArg _ (BE_ (by omega))) (by exact i6n _ (by omega))))
 have oz4:=(s_ ((plS T n).x≠0))
 have oz5:=(show IntKind.i64.wrap (((↑k:Int)/(plS T n).c).tdiv (plS T n).x)=(↑k:Int)/(plS T n).c/(plS T n).x from (Eq.trans (congrArg _ (BE_ (by omega))) (by exact i6n _ (by omega))))
 have oz9:=(show ((↑k:Int)/(plS T n).c).tmod (plS T n).x=(↑k:Int)/(plS T n).c % (plS T n).x from (CK_ (by omega)))
 have oz11:=(show (↑k:Int).tmod (plS T n).c=(↑k:Int) % (plS T n).c from (CK_ (by omega)))
 have oz12:=@window_v (T) (n) ((↑k:Int)/(plS T n).c/(plS T n).x) ((↑k:Int)/(plS T n).c % (plS T n).x) ((↑k:Int) % (plS T n).c) g3
 rcases bft (m) with hc0|hc0
 ·have gc0:m=true:=by first|exact hc0|exact of_decide_eq_true hc0|exact of_decide_eq_false hc0|simpa [eqNums] using hc0|(simp[eqNums] at hc0 ⊢;first|done|assumption|omega)
  have oz14:=@reach_v (winL T n ((↑k:Int)/(plS T n).c/(plS T n).x) ((↑k:Int)/(plS T n).c % (plS T n).x) ((↑k:Int) % (plS T n).c)) (by omega)
  exact tR_ [.r [] [cr oz0],b_,.r [] [.n ((↑k:Int)/(plS T n).c),.n ((↑k:Int)/(plS T n).c/(plS T n).x),.n ((↑k:Int)/(plS T n).c),.n ((↑k:Int)/(plS T n).c % (plS T n).x),.n ((↑k:Int) % (plS T n).c),cr oz12],r_,b_,.r [] [cr oz14],r_,.r [] [.n ((↑k:Int)+1)]] [.any (rg [(12,3),(40,39)]),.drop [76],.ren 77 900,.weak 11 (i64 (↑(k+1):Int)),.blk 900 (Blk.slc 52 1 (K_ (row1 .i8) (poolL T n m (k+1)))),.sort] (.c8 oz0 oz1 oz2 oz3 oz4 oz5 oz2 oz3<|.c8 oz4 oz9 oz2 oz11 oz12 hc0 oz14 (show ((K_ (row1 .i8) (poolL T n m k)).length+1)*1≤140737488355328 by (simp;omega))<|.d4 (show (K_ (row1 .i8) (poolL T n m k)).length+1≤9223372036854775807 by (simp;omega)) (i6n ((↑k:Int)+1) (by omega)) (wS_ k) (show BlkW (Blk.slc 52 1 (K_ (row1 .i8) (poolL T n m k)++[[i8 (reachHi (winL T n ((↑k:Int)/(plS T n).c/(plS T n).x) ((↑k:Int)/(plS T n).c % (plS T n).x) ((↑k:Int) % (plS T n).c)) (winL T n ((↑k:Int)/(plS T n).c/(plS T n).x) ((↑k:Int)/(plS T n).c % (plS T n).x) ((↑k:Int) % (plS T n).c)).length)]])) (Blk.slc 52 1 (K_ (row1 .i8) (poolL T n m (k+1)))) from (BU_ (e:=52) (z:=1) (rows_to (row1 .i8) (r:=K_ (row1 .i8) (poolL T n m k)++[[i8 (reachHi (winL T n ((↑k:Int)/(plS T n).c/(plS T n).x) ((↑k:Int)/(plS T n).c % (plS T n).x) ((↑k:Int) % (plS T n).c)) (winL T n ((↑k:Int)/(plS T n).c/(plS T n).x) ((↑k:Int)/(plS T n).c % (plS T n).x) ((↑k:Int) % (plS T n).c)).length)]]) (l:=poolL T n m k++[reachHi (winL T n ((↑k:Int)/(plS T n).c/(plS T n).x) ((↑k:Int)/(plS T n).c % (plS T n).x) ((↑k:Int) % (plS T n).c)) (winL T n ((↑k:Int)/(plS T n).c/(plS T n).x) ((↑k:Int)/(plS T n).c % (plS T n).x) ((↑k:Int) % (plS T n).c)).length]) (m:=poolL T n m (k+1)) (by first|(simp only[C_,D_,AM_,AN_,A_,AK_,AL_];done)|rfl|(simp only[C_,D_,AM_,AN_,A_,AK_,AL_];rfl)) (show (poolL T n m k++[reachHi (winL T n ((↑k:Int)/(plS T n).c/(plS T n).x) ((↑k:Int)/(plS T n).c % (plS T n).x) ((↑k:Int) % (plS T n).c)) (winL T n ((↑k:Int)/(plS T n).c/(plS T n).x) ((↑k:Int)/(plS T n).c % (plS T n).x) ((↑k:Int) % (plS T n).c)).length])=(poolL T n m (k+1)) from (by (rw[poolL_succ,poolF,i_ (by assumption)])))))))
 ·have gc0:m=false:=by first|exact hc0|exact of_decide_eq_true hc0|exact of_decide_eq_false hc0|simpa [eqNums] using hc0|(simp[eqNums] at hc0 ⊢;first|done|assumption|omega)
  have oz14:=@mean_v (winL T n ((↑k:Int)/(plS T n).c/(plS T n).x) ((↑k:Int)/(plS T n).c % (plS T n).x) ((↑k:Int) % (plS T n).c)) (by omega) g4
  exact tR_ [.r [] [cr oz0],b_,.r [] [.n ((↑k:Int)/(plS T n).c),.n ((↑k:Int)/(plS T n).c/(plS T n).x),.n ((↑k:Int)/(plS T n).c),.n ((↑k:Int)/(plS T n).c % (plS T n).x),.n ((↑k:Int) % (plS T n).c),cr oz12],r_,d_,.r [] [cr oz14],.r [] [.n ((↑k:Int)+1)]] [.any (rg [(12,1),(40,28),(79,7)]),.drop [83],.ren 84 900,.weak 11 (i64 (↑(k+1):Int)),.blk 900 (Blk.slc 52 1 (K_ (row1 .i8) (poolL T n m (k+1)))),.sort] (.c8 oz0 oz1 oz2 oz3 oz4 oz5 oz2 oz3<|.c8 oz4 oz9 oz2 oz11 oz12 hc0 oz14 (show ((K_ (row1 .i8) (poolL T n m k)).length+1)*1≤140737488355328 by (simp;omega))<|.d4 (show (K_ (row1 .i8) (poolL T n m k)).length+1≤9223372036854775807 by (simp;omega)) (i6n ((↑k:Int)+1) (by omega)) (wS_ k) (show BlkW (Blk.slc 52 1 (K_ (row1 .i8) (poolL T n m k)++[[i8 (meanE (winL T n ((↑k:Int)/(plS T n).c/(plS T n).x) ((↑k:Int)/(plS T n).c % (plS T n).x) ((↑k:Int) % (plS T n).c)))]])) (Blk.slc 52 1 (K_ (row1 .i8) (poolL T n m (k+1)))) from (BU_ (e:=52) (z:=1) (rows_to (row1 .i8) (r:=K_ (row1 .i8) (poolL T n m k)++[[i8 (meanE (winL T n ((↑k:Int)/(plS T n).c/(plS T n).x) ((↑k:Int)/(plS T n).c % (plS T n).x) ((↑k:Int) % (plS T n).c)))]]) (l:=poolL T n m k++[meanE (winL T n ((↑k:Int)/(plS T n).c/(plS T n).x) ((↑k:Int)/(plS T n).c % (plS T n).x) ((↑k:Int) % (plS T n).c))]) (m:=poolL T n m (k+1)) (by first|(simp only[C_,D_,AM_,AN_,A_,AK_,AL_];done)|rfl|(simp only[C_,D_,AM_,AN_,A_,AK_,AL_];rfl)) (show (poolL T n m k++[meanE (winL T n ((↑k:Int)/(plS T n).c/(plS T n).x) ((↑k:Int)/(plS T n).c % (plS T n).x) ((↑k:Int) % (plS T n).c))])=(poolL T n m (k+1)) from (by (rw[poolL_succ,poolF,j_ (by simp_all)])))))))
theorem pool_l_e (T:Ten) (n:Nod) (m:Bool) (ok:PlOk T n):VT N_ (fnC Tryz.f142 [1,1,1,1,1,0,1,0,0]) (pool_l_I T n m ((elems (plS T n).h (plS T n).x (plS T n).c).toNat)) (.exit 0) (pool_l_Z T n m):=by
 obtain ⟨r,k1,k5,s1,s4,p0,p4,pk,hk',xk,sh,sx,sc,h1,h2,x1,x2,en,el⟩:=ok.n
 have g1:=r.c1
 have gz:=r.c2
 have g9:1≤(plS T n).h*(plS T n).x*(plS T n).c:=by exact Int.mul_pos (Int.mul_pos (by omega) (by omega)) (by omega)
 have oz0:=@refElems_v ((plS T n).h) ((plS T n).x) ((plS T n).c) (by omega) (by omega) (by omega)
 exact tR_ [.r [] [cr oz0],d_] [.any (rg [(40,4)]),.sort] (.d2 oz0 (decide_eq_false (p:=((↑(elems (plS T n).h (plS T n).x (plS T n).c).toNat:Int)<elems (plS T n).h (plS T n).x (plS T n).c)) (by omega)))
theorem pool_l (T:Ten) (n:Nod) (m:Bool) (ok:PlOk T n):VT N_ (fnC Tryz.f142 [1,1,1,1,1,0,1,0]) (pool_l_I T n m 0) (.exit 0) (pool_l_Z T n m) :=
 VT.loop (fun k=>pool_l_I T n m k) ((elems (plS T n).h (plS T n).x (plS T n).c).toNat) (fun k hk=>pool_l_s T n m ok k hk) (pool_l_e T n m ok) (by intro h;cases h)
def poolOf (T:Ten) (n:Nod) (m:Bool):Ten×Int:=if tenRight T=true then (if (slideE ⟨T.h,T.x,T.c⟩ n.nk n.ns n.np T.c).2=0 then (⟨(plS T n).h,(plS T n).x,(plS T n).c,poolL T n m (elems (plS T n).h (plS T n).x (plS T n).c).toNat⟩,0) else (ten0,(slideE ⟨T.h,T.x,T.c⟩ n.nk n.ns n.np T.c).2)) else (ten0,5)
theorem pool_y (T:Ten) (n:Nod) (m:Bool) (ok:PlOk T n):VC N_ 142 ([ten .i8 T,nod n,bv m]) (.tup [ten .i8 (poolOf T n m).1,i64 (poolOf T n m).2]):=by
 have ok1:=ok.ok
 have okc:=ok1.c
 have g1:=ok.e
 have g2:=ok.r
 have g3:=ok.n.en
 have oz0:=@refTRight_v (T) ok1
 have oz2:=@refSlide_v (Shp.mk T.h T.x T.c) (n.nk) (n.ns) (n.np) (T.c) (by (exact Shp.mk_ok ok1.h ok1.x ok1.c)) okc
 have oz5:=@pool_l (T) (n) (m) ok
 exact (cR_ [r_,.r [] [cr oz0],d_,.r [] [cr oz2],r_,d_,r_,r_,.code [.any (rg [(0,2),(7,1),(9,1),(15,3),(19,17),(38,2)]),.weak 11 (i64 (↑0:Int)),.nilc 900 52 1 10 3,.sort] (AA_ 0) (zO oz5),r_] (AV.tup [AV.agg [i64 (plS T n).h,i64 (plS T n).x,i64 (plS T n).c,AV.sl 1 (K_ (row1 .i8) (poolL T n m (elems (plS T n).h (plS T n).x (plS T n).c).toNat))],i64 0]) Tryz.func142 (.d6 oz0 (show (!tenRight T)=false by (simp;omega)) oz2 (show ((slideE (Shp.mk T.h T.x T.c) n.nk n.ns n.np T.c).snd != 0)=false by (simp;omega)) w0_ oz5)).weak (Y_ _) (AS_ (.cons (AV_ (.cons (M_ (by (unfold poolOf;rw[i_ g2,i_ g1]))) (.cons (M_ (by (unfold poolOf;rw[i_ g2,i_ g1]))) (.cons (M_ (by (unfold poolOf;rw[i_ g2,i_ g1]))) (.cons (CM_ (rows_to (row1 .i8) (r:=K_ (row1 .i8) (poolL T n m (elems (plS T n).h (plS T n).x (plS T n).c).toNat)) (l:=poolL T n m (elems (plS T n).h (plS T n).x (plS T n).c).toNat) (m:=(poolOf T n m).fst.d) rfl (show (poolL T n m (elems (plS T n).h (plS T n).x (plS T n).c).toNat)=((poolOf T n m).fst.d) from (by (unfold poolOf;rw[i_ g2,i_ g1]))))) .nil))))) (.cons (M_ (by (unfold poolOf;rw[i_ g2,i_ g1]))) .nil)))
theorem pool_n (T:Ten) (n:Nod) (m:Bool) (ok:T.Ok) (okn:n.Ok) (hn:tenRight T=false∨(slideE ⟨T.h,T.x,T.c⟩ n.nk n.ns n.np T.c).2≠0):VC N_ 142 ([ten .i8 T,nod n,bv m]) (.tup [ten .i8 (poolOf T n m).1,i64 (poolOf T n m).2]):=by
 have okc:=ok.c
 have oz0:=@refTRight_v (T) ok
 rcases bft (!tenRight T) with hc0|hc0
 ·have gc0:tenRight T=false:=by first|exact hc0|exact of_decide_eq_true hc0|exact of_decide_eq_false hc0|simpa [eqNums] using hc0|(simp[eqNums] at hc0 ⊢;first|done|assumption|omega)
  exact (cR_ [r_,.r [] [cr oz0],b_,r_] (AV.tup [AV.agg [i64 0,i64 0,i64 0,AV.lit (AY_ none 0 0)],i64 5]) Tryz.func142 (.d2 oz0 hc0)).weak (Y_ _) (AS_ (.cons (AV_ (.cons (M_ (by (unfold poolOf;rw[j_ (by simp_all)];first|done|rfl))) (.cons (M_ (by (unfold poolOf;rw[j_ (by simp_all)];first|done|rfl))) (.cons (M_ (by (unfold poolOf;rw[j_ (by simp_all)];first|done|rfl))) (.cons (CJ_ (show []=(K_ (row1 .i8) (poolOf T n m).fst.d) from (by (unfold poolOf;rw[j_ (by simp_all)];first|done|rfl)))) .nil))))) (.cons (M_ (by (unfold poolOf;rw[j_ (by simp_all)];first|done|rfl))) .nil)))
 ·have gc0:tenRight T=true:=by first|exact hc0|exact of_decide_eq_true hc0|exact of_decide_eq_false hc0|simpa [eqNums] using hc0|(simp[eqNums] at hc0 ⊢;first|done|assumption|omega)
  have oz2:=@refSlide_v (Shp.mk T.h T.x T.c) (n.nk) (n.ns) (n.np) (T.c) (by (exact Shp.mk_ok ok.h ok.x ok.c)) okc
  exact (cR_ [r_,.r [] [cr oz0],d_,.r [] [cr oz2],r_,b_,r_] (AV.tup [AV.agg [i64 0,i64 0,i64 0,AV.lit (AY_ none 0 0)],i64 (slideE (Shp.mk T.h T.x T.c) n.nk n.ns n.np T.c).snd]) Tryz.func142 (.d4 oz0 hc0 oz2 (show ((slideE (Shp.mk T.h T.x T.c) n.nk n.ns n.np T.c).snd != 0)=true by (rcases hn with hn|hn<;>simp_all;done)))).weak (Y_ _) (AS_ (.cons (AV_ (.cons (M_ (by (unfold poolOf;rw[i_ (by simp_all),j_ (by rcases hn with hn|hn<;>simp_all)];first|done|rfl))) (.cons (M_ (by (unfold poolOf;rw[i_ (by simp_all),j_ (by rcases hn with hn|hn<;>simp_all)];first|done|rfl))) (.cons (M_ (by (unfold poolOf;rw[i_ (by simp_all),j_ (by rcases hn with hn|hn<;>simp_all)];first|done|rfl))) (.cons (CJ_ (show []=(K_ (row1 .i8) (poolOf T n m).fst.d) from (by (unfold poolOf;rw[i_ (by simp_all),j_ (by rcases hn with hn|hn<;>simp_all)];first|done|rfl)))) .nil))))) (.cons (M_ (by (unfold poolOf;rw[i_ (by simp_all),j_ (by rcases hn with hn|hn<;>simp_all)];first|done|rfl))) .nil)))
theorem pool_v (T:Ten) (n:Nod) (m:Bool) (ok:T.Ok) (okn:n.Ok):VC N_ 142 [ten .i8 T,nod n,bv m] (.tup [ten .i8 (poolOf T n m).1,i64 (poolOf T n m).2]):=by
 cases hr:tenRight T with
 | false=>exact pool_n T n m ok okn (.inl hr)
 | true =>
  by_cases he:(slideE ⟨T.h,T.x,T.c⟩ n.nk n.ns n.np T.c).2=0
  ·exact pool_y T n m ⟨ok,okn,hr,he⟩
  ·exact pool_n T n m ok okn (.inr he)
end Go.Proofs.YtdfihaminnmgpaaGreat
