/- A part of this claim. No condition. -/
import Derived.Test.YtgecmooedhnenaaPackModelsG3
set_option maxRecDepth 100000
set_option maxHeartbeats 2000000
set_option linter.unusedVariables false
set_option linter.unusedSimpArgs false
set_option linter.unnecessarySimpa false
namespace Go.Proofs.Ytgecmooedhnenaa
open Go.RowKit
def smlR (xs:List Int) (r:Rrf) (n:Int):Rrf :=
 if r.2≠0 then r else if n<1 then r else if ((xs.drop r.1).length:Int)<n then (r.1,20) else (r.1+n.toNat,0)
def widR (xs:List Int) (r:Rrf) (n:Int):Rrf :=
 if r.2≠0 then r else if n<1 then r else if ((xs.drop r.1).length:Int)<n then (r.1,20) else itR xs r n.toNat
theorem rwid_f (xs:List Int) (c:Nat) (n:Nat) (hb:∀ x∈xs,0≤x∧x≤255) (hl:xs.length≤1000000) (ha:c≤xs.length) (h0:1≤n) (h1:n≤(xs.drop c).length) (h:(itR xs (c,0) n).2≠0):VM Try.prog 113 ([.ptr 100000 0 0,i64 n]) ([(100000,.var (rrC xs (c,0)))]) (.sl 1 (([]:List Int).map (row1 .i32))) ([(100000,.var (rrC xs (itR xs (c,0) n)))]):=by
 have q5:(xs.drop c).length=xs.length-c:=List.length_drop
 have q3:=itV_len (toS xs (c,0)) n
 have oz4 := @rwid_l (xs) (c) (n) hb hl ha h1
 exact VM.run (fn:=Try.f113) (W:=[.r [] [],.r [] [],.r [] [.op false,.op false,.sel 1],.br false,.r [] [.w],.br false,.r [] [],.code [.any (rg [(4,1),(7,6),(15,13)]),.weak 6 (i64 (↑0:Int)),.nils 5 900 21 1,.blk 100000 (Blk.var [AV.sl 1 (List.map (row1 IntKind.u8) xs),i64 (↑(itR xs (c,0) 0).fst:Int),i64 (itR xs (c,0) 0).snd]),.sort] (Exit.exit 0) (zO oz4),.r [] [],.br true,.r [] []]) (G:=[.drop [900],.weak 0 (AV.sl 1 []),.sort]) Try.func113 (by kernel_rfl) (.c (show ((c,0).snd != 0 || decide ((↑n:Int)<1))=false by (refine decide_eq_false ?_;omega))<|.c (show decide ((↑n:Int) > IntKind.i64.wrap ((↑(List.map (row1 IntKind.u8) xs).length:Int)-(↑(c,0).fst:Int)))=false by (refine decide_eq_false ?_;rw [i6n _ (by simp only [List.length_map];omega)];simp only [List.length_map];omega))<|.c (Weak.int (k:=.i64) (show ((0):Int)=((↑0:Int)) from (by omega)))<|.c (show BlkW (Blk.var [AV.sl 1 (List.map (row1 IntKind.u8) xs),i64 (↑(c,0).fst:Int),i64 (c,0).snd]) (Blk.var [AV.sl 1 (List.map (row1 IntKind.u8) xs),i64 (↑(itR xs (c,0) 0).fst:Int),i64 (itR xs (c,0) 0).snd]) from (BlkW.var (.cons (.refl _) (.cons (.refl _) (.cons (Weak.int (show (((c,0).snd):Int)=((itR xs (c,0) 0).snd) from (by rfl))) .nil)))))<|.c oz4<|.c (show ((itR xs (c,0) n).snd != 0)=true by (simp;omega))<|.c (show Weak (nilv) (AV.sl 1 []) from (Weak.nil _))<|.n)
theorem smlR_in {xs:List Int} {r:Rrf} (h:Rrf.In xs r) (n:Int):Rrf.In xs (smlR xs r n):=by
 obtain ⟨hb,hl,ha⟩:=h
 refine ⟨hb,hl,?_⟩
 unfold smlR
 split
 ·exact ha
 ·split
  ·exact ha
  ·split
   ·exact ha
   ·rename_i h;rw [List.length_drop] at h;dsimp only;omega
theorem widR_in {xs:List Int} {r:Rrf} (h:Rrf.In xs r) (n:Int):Rrf.In xs (widR xs r n):=by
 unfold widR
 split
 ·exact h
 ·split
  ·exact h
  ·split
   ·exact ⟨h.b,h.l,h.a⟩
   ·exact itR_in h _
theorem toS_sml (xs:List Int) (r:Rrf) (n:Int):toS xs (smlR xs r n)=smlS (toS xs r) n:=by
 obtain ⟨c,e⟩:=r
 by_cases he:e=0
 ·subst he
  by_cases h1:n<1
  ·simp [toS,smlR,smlS,h1]
  ·by_cases h2:((xs.drop c).length:Int)<n
   ·rw [show smlR xs (c,0) n=(c,20) from by unfold smlR;rw [if_neg (by simp),if_neg h1,if_pos h2],show toS xs (c,0)=(xs.drop c,0) from by simp [toS],show smlS (xs.drop c,0) n=([],20) from by unfold smlS;rw [if_neg (by simp),if_neg h1,if_pos h2]];simp [toS]
   ·rw [show smlR xs (c,0) n=(c+n.toNat,0) from by unfold smlR;rw [if_neg (by simp),if_neg h1,if_neg h2],show toS xs (c,0)=(xs.drop c,0) from by simp [toS],show smlS (xs.drop c,0) n=(dpW (xs.drop c) n.toNat,0) from by unfold smlS;rw [if_neg (by simp),if_neg h1,if_neg h2],dpW_eq,List.drop_drop];simp [toS]
 ·simp [toS,smlR,smlS,he]
theorem toS_wid (xs:List Int) (r:Rrf) (n:Int):toS xs (widR xs r n)=widS (toS xs r) n:=by
 obtain ⟨c,e⟩:=r
 by_cases he:e=0
 ·subst he
  by_cases h1:n<1
  ·simp [toS,widR,widS,h1]
  ·by_cases h2:((xs.drop c).length:Int)<n
   ·rw [show widR xs (c,0) n=(c,20) from by unfold widR;rw [if_neg (by simp),if_neg h1,if_pos h2],show toS xs (c,0)=(xs.drop c,0) from by simp [toS],show widS (xs.drop c,0) n=([],20) from by unfold widS;rw [if_neg (by simp),if_neg h1,if_pos h2]];simp [toS]
   ·rw [show widR xs (c,0) n=itR xs (c,0) n.toNat from by unfold widR;rw [if_neg (by simp),if_neg h1,if_neg h2],toS_it,show toS xs (c,0)=(xs.drop c,0) from by simp [toS],show widS (xs.drop c,0) n=itS (xs.drop c,0) n.toNat from by unfold widS;rw [if_neg (by simp),if_neg h1,if_neg h2]]
 ·simp [toS,widR,widS,he]
theorem rsmall_v (xs:List Int) (r:Rrf) (n:Int) (h:Rrf.In xs r):VM Try.prog 112 [.ptr 100000 0 0,i64 n] [(100000,.var (rrC xs r))] (.sl 1 ((smlV (toS xs r) n).map (row1 .i8))) [(100000,.var (rrC xs (smlR xs r n)))]:=by
 obtain ⟨c,e⟩:=r
 obtain ⟨hb,hl,ha⟩:=h
 by_cases he:e=0
 ·subst he
  have t:toS xs (c,0)=(xs.drop c,0):=by simp [toS]
  rw [t]
  by_cases h1:n<1
  ·rw [show smlR xs (c,0) n=(c,0) from by unfold smlR;rw [if_neg (by simp),if_pos h1],show smlV (xs.drop c,0) n=[] from by unfold smlV;rw [if_neg (by simp),if_pos h1]]
   exact rsml_n xs c n h1
  ·by_cases h2:((xs.drop c).length:Int)<n
   ·rw [show smlR xs (c,0) n=(c,20) from by unfold smlR;rw [if_neg (by simp),if_neg h1,if_pos h2],show smlV (xs.drop c,0) n=[] from by unfold smlV;rw [if_neg (by simp),if_neg h1,if_pos h2]]
    exact rsml_m xs c n hl ha (by omega) h2
   ·rw [show smlR xs (c,0) n=(c+n.toNat,0) from by unfold smlR;rw [if_neg (by simp),if_neg h1,if_neg h2],show smlV (xs.drop c,0) n=tkW (xs.drop c) n.toNat from by unfold smlV;rw [if_neg (by simp),if_neg h1,if_neg h2]]
    obtain ⟨m,rfl⟩:=Int.eq_ofNat_of_zero_le (show 0≤n by omega)
    exact rsml_y xs c m hb hl ha (by omega) (by omega)
 ·rw [show smlR xs (c,e) n=(c,e) from by unfold smlR;rw [if_pos (by simpa using he)],show smlV (toS xs (c,e)) n=[] from by rw [show toS xs (c,e)=([],e) from by unfold toS;rw [if_neg (by simpa using he)]];unfold smlV;rw [if_pos (by simpa using he)]]
  exact rsml_e xs (c,e) n he
theorem rwide_v (xs:List Int) (r:Rrf) (n:Int) (h:Rrf.In xs r):VM Try.prog 113 [.ptr 100000 0 0,i64 n] [(100000,.var (rrC xs r))] (.sl 1 ((widV (toS xs r) n).map (row1 .i32))) [(100000,.var (rrC xs (widR xs r n)))]:=by
 obtain ⟨c,e⟩:=r
 obtain ⟨hb,hl,ha⟩:=h
 by_cases he:e=0
 ·subst he
  have t:toS xs (c,0)=(xs.drop c,0):=by simp [toS]
  rw [t]
  by_cases h1:n<1
  ·rw [show widR xs (c,0) n=(c,0) from by unfold widR;rw [if_neg (by simp),if_pos h1],show widV (xs.drop c,0) n=[] from by unfold widV;rw [if_neg (by simp),if_pos h1]]
   exact rwid_n xs c n h1
  ·by_cases h2:((xs.drop c).length:Int)<n
   ·rw [show widR xs (c,0) n=(c,20) from by unfold widR;rw [if_neg (by simp),if_neg h1,if_pos h2],show widV (xs.drop c,0) n=[] from by unfold widV;rw [if_neg (by simp),if_neg h1,if_pos h2]]
    exact rwid_m xs c n hl ha (by omega) h2
   ·rw [show widR xs (c,0) n=itR xs (c,0) n.toNat from by unfold widR;rw [if_neg (by simp),if_neg h1,if_neg h2]]
    have e2:(itS (xs.drop c,0) n.toNat).2=(itR xs (c,0) n.toNat).2:=by
     rw [←t,←toS_it];unfold toS;split
     ·rename_i q;exact q.symm
     ·rfl
    obtain ⟨m,rfl⟩:=Int.eq_ofNat_of_zero_le (show 0≤n by omega)
    by_cases h3:(itR xs (c,0) m).2=0
    ·rw [show widV (xs.drop c,0) (m:Int)=itV (xs.drop c,0) m from by unfold widV;rw [if_neg (by simp),if_neg h1,if_neg h2,if_neg (by rw [e2];simpa using h3)];rfl,←t]
     exact rwid_y xs c m hb hl ha (by omega) (by omega) h3
    ·rw [show widV (xs.drop c,0) (m:Int)=[] from by unfold widV;rw [if_neg (by simp),if_neg h1,if_neg h2,if_pos (by rw [e2];simpa using h3)]]
     exact rwid_f xs c m hb hl ha (by omega) (by omega) h3
 ·rw [show widR xs (c,e) n=(c,e) from by unfold widR;rw [if_pos (by simpa using he)],show widV (toS xs (c,e)) n=[] from by rw [show toS xs (c,e)=([],e) from by unfold toS;rw [if_neg (by simpa using he)]];unfold widV;rw [if_pos (by simpa using he)]]
  exact rwid_e xs (c,e) n he
theorem rone_y (xs:List Int) (r:Rrf) (h:Rrf.In xs r) (h1:(smlV (toS xs r) 1).length=0):VM Try.prog 111 ([.ptr 100000 0 0]) ([(100000,.var (rrC xs r))]) (i8 0) ([(100000,.var (rrC xs (smlR xs r 1)))]):=by
 have oz0 := @rsmall_v (xs) (r) (1) h
 exact VM.run (fn:=Try.f111) (W:=[.r [] [],.r [] [cm oz0],.r [] [],.br true,.r [] []]) (G:=[.sort]) Try.func111 (by kernel_rfl) (.c oz0<|.c (show ((↑(List.map (row1 IntKind.i8) (smlV (toS xs r) 1)).length:Int)==0)=true by (simp at *;omega))<|.n)
theorem rone_n (xs:List Int) (r:Rrf) (h:Rrf.In xs r) (h1:0<(smlV (toS xs r) 1).length) (hb:(smlV (toS xs r) 1).length≤1000000):VM Try.prog 111 ([.ptr 100000 0 0]) ([(100000,.var (rrC xs r))]) (i8 ((smlV (toS xs r) 1).getD 0 default)) ([(100000,.var (rrC xs (smlR xs r 1)))]):=by
 have oz0 := @rsmall_v (xs) (r) (1) h
 have oz3:=(map_at (row1 IntKind.i8) (0) (l:=smlV (toS xs r) 1) (i:=0) h1)
 have oz4:=(Weak.int (k:=.i8) (show (((smlV (toS xs r) 1).getD 0 0):Int)=((smlV (toS xs r) 1).getD 0 default) from (by (simp;done))))
 exact VM.run (fn:=Try.f111) (W:=[.r [] [],.r [] [cm oz0],.r [] [],.br false,.r [] [.row (sO oz3)]]) (G:=[.weak 0 (wO oz4),.sort]) Try.func111 (by kernel_rfl) (.c oz0<|.c (show ((↑(List.map (row1 IntKind.i8) (smlV (toS xs r) 1)).length:Int)==0)=false by (simp only [decide_eq_true_eq,decide_eq_false_iff_not,beq_iff_eq,bne_iff_ne,ne_eq,beq_eq_false_iff_ne,bne_eq_false_iff_eq,Bool.not_eq_true',Bool.not_eq_false',Bool.not_eq_eq_eq_not,Bool.not_true,Bool.not_false,Classical.not_not,Int.not_lt,Int.not_le,Bool.and_eq_true,Bool.and_eq_false_iff,Bool.or_eq_true,Bool.or_eq_false_iff,Bool.and_true,Bool.true_and,Bool.and_false,Bool.false_and,Bool.or_false,Bool.false_or,eqNums,List.length_map,lla,List.length_cons,List.length_nil,List.length_set,List.length_replicate,List.length_take,List.length_drop,List.length_range,Int.toNat_natCast,Nat.zero_add,List.map_eq_nil_iff];(first | done | with_reducible assumption | omega | contradiction)))<|.c z2_<|.c oz3<|.c oz4<|.n)
def putN (x:Int):List Int:=putL (IntKind.u64.wrap x).toNat
theorem wrap_rng (x:Int):0≤IntKind.u64.wrap x∧IntKind.u64.wrap x≤18446744073709551615:=by
 rw [IntKind.wrap_u64];omega
theorem putN_len (x:Int):(putN x).length≤10:=by
 have:=wrap_rng x
 exact putL_len10 _ (by omega)
def PutsV (L:Int→List Int):Prop:=∀ x:Int,VC Try.prog 176 [.lit (.int .u64 (IntKind.u64.wrap x))] (.sl 1 ((L x).map (row1 .u8)))
structure Puts (L:Int→List Int):Prop where
 v:PutsV L
 l:∀ x,(L x).length≤10
def RPutsV (L:Int→List Int):Prop:=∀ x:Int,VC Try.prog 177 [.lit (.int .u64 (IntKind.u64.wrap x))] (.sl 1 ((L x).map (row1 .u8)))
structure RPuts (L:Int→List Int):Prop where
 v:RPutsV L
 l:∀ x,(L x).length≤10
theorem puts_v (L:Int→List Int) (hL:Puts L) (x:Int):VC Try.prog 176 [.lit (.int .u64 (IntKind.u64.wrap x))] (.sl 1 ((L x).map (row1 .u8))):=hL.v x
theorem rputs_v (L:Int→List Int) (hL:RPuts L) (x:Int):VC Try.prog 177 [.lit (.int .u64 (IntKind.u64.wrap x))] (.sl 1 ((L x).map (row1 .u8))):=hL.v x
theorem puts:Puts putN:=⟨fun x=>put_v _ (wrap_rng x).1 (wrap_rng x).2,putN_len⟩
theorem rputs:RPuts putN:=⟨fun x=>refPut_v _ (wrap_rng x).1 (wrap_rng x).2,putN_len⟩
theorem lnum_1 (B:List Int) (L:Int→List Int) (x most:Int) (hB:B.length≤1000000) (hL:Puts L):VM Try.prog 114 ([.ptr 100000 0 0,.ptr 100001 0 0,i64 most]) ([(950,.slc 5 1 (B.map (row1 .u8))),(100000,.var [.own 950]),(100001,.var [i64 x])]) (.tup []) ([(951,.slc 5 1 ((B++L x).map (row1 .u8))),(100000,.var [.own 951]),(100001,.var [i64 x])]):=by
 have q:=hL.l x
 have oz0 := @puts_v (L) hL (x)
 exact VM.run (fn:=Try.f114) (W:=[.r [] [.w,.callr (rO oz0)]]) (G:=[.ren 16 951,.blk 951 (Blk.slc 5 1 (List.map (row1 IntKind.u8) (B++L x))),.sort]) Try.func114 (by kernel_rfl) (.c oz0<|.c (show ((List.map (row1 IntKind.u8) B).length+(List.map (row1 IntKind.u8) (L x)).length)*1≤140737488355328 by (simp only [List.length_map];omega))<|.c (show (List.map (row1 IntKind.u8) B).length+(List.map (row1 IntKind.u8) (L x)).length≤9223372036854775807 by (simp only [List.length_map];omega))<|.c (show BlkW (Blk.slc 5 1 (List.map (row1 IntKind.u8) B++List.map (row1 IntKind.u8) (L x))) (Blk.slc 5 1 (List.map (row1 IntKind.u8) (B++L x))) from (BlkW.rows (e:=5) (z:=1) (rows_to (row1 IntKind.u8) (r:=List.map (row1 IntKind.u8) B++List.map (row1 IntKind.u8) (L x)) (l:=B++L x) (m:=B++L x) (by first|(simp;done)|rfl|(simp;rfl)) rfl)))<|.n)
theorem tnum_1 (s:Rst) (x most:Int) (h:s.In) (h0:0≤most) (h1:most≤2147483647):VM Try.prog 119 ([.agg [.ptr 100000 0 0],.ptr 100001 0 0,i64 most]) ([(100000,.var (rdC s)),(100001,.var [i64 x])]) (.tup []) ([(100000,.var (rdC (cntS s most))),(100001,.var [i64 (cntV s most)])]):=by
 have oz0 := @cnt_v (s) (most) h h0 h1
 exact VM.run (fn:=Try.f119) (W:=[.r [] [],.r [] [cm oz0]]) (G:=[.drop [3],.sort]) Try.func119 (by kernel_rfl) (.c oz0<|.n)
theorem tnum_kd (s:Rst) (n:Nod) (most:Int) (h:s.In) (h0:0≤most) (h1:most≤2147483647):VM Try.prog 119 ([.agg [.ptr 100000 0 0],.ptr 100001 0 0,i64 most]) ([(100000,.var (rdC s)),(100001,.var (nodC n))]) (.tup []) ([(100000,.var (rdC (cntS s most))),(100001,.var (nodC { n with kd:=cntV s most }))]):=by
 have oz0 := @cnt_v (s) (most) h h0 h1
 exact VM.run (fn:=Try.f119) (W:=[.r [] [],.r [] [cm oz0]]) (G:=[.drop [3],.sort]) Try.func119 (by kernel_rfl) (.c oz0<|.n)
theorem tnum_na (s:Rst) (n:Nod) (most:Int) (h:s.In) (h0:0≤most) (h1:most≤2147483647):VM Try.prog 119 ([.agg [.ptr 100000 0 0],.ptr 100001 0 1,i64 most]) ([(100000,.var (rdC s)),(100001,.var (nodC n))]) (.tup []) ([(100000,.var (rdC (cntS s most))),(100001,.var (nodC { n with na:=cntV s most }))]):=by
 have oz0 := @cnt_v (s) (most) h h0 h1
 exact VM.run (fn:=Try.f119) (W:=[.r [] [],.r [] [cm oz0]]) (G:=[.drop [3],.sort]) Try.func119 (by kernel_rfl) (.c oz0<|.n)
theorem lnum_na (B:List Int) (L:Int→List Int) (n:Nod) (most:Int) (hB:B.length≤1000000) (hL:Puts L):VM Try.prog 114 ([.ptr 100000 0 0,.ptr 100001 0 1,i64 most]) ([(950,.slc 5 1 (B.map (row1 .u8))),(100000,.var [.own 950]),(100001,.var (nodC n))]) (.tup []) ([(951,.slc 5 1 ((B++L n.na).map (row1 .u8))),(100000,.var [.own 951]),(100001,.var (nodC n))]):=by
 have q:=hL.l n.na
 have oz0 := @puts_v (L) hL (n.na)
 exact VM.run (fn:=Try.f114) (W:=[.r [] [.w,.callr (rO oz0)]]) (G:=[.ren 16 951,.blk 951 (Blk.slc 5 1 (List.map (row1 IntKind.u8) (B++L n.na))),.sort]) Try.func114 (by kernel_rfl) (.c oz0<|.c (show ((List.map (row1 IntKind.u8) B).length+(List.map (row1 IntKind.u8) (L n.na)).length)*1≤140737488355328 by (simp only [List.length_map];omega))<|.c (show (List.map (row1 IntKind.u8) B).length+(List.map (row1 IntKind.u8) (L n.na)).length≤9223372036854775807 by (simp only [List.length_map];omega))<|.c (show BlkW (Blk.slc 5 1 (List.map (row1 IntKind.u8) B++List.map (row1 IntKind.u8) (L n.na))) (Blk.slc 5 1 (List.map (row1 IntKind.u8) (B++L n.na))) from (BlkW.rows (e:=5) (z:=1) (rows_to (row1 IntKind.u8) (r:=List.map (row1 IntKind.u8) B++List.map (row1 IntKind.u8) (L n.na)) (l:=B++L n.na) (m:=B++L n.na) (by first|(simp;done)|rfl|(simp;rfl)) rfl)))<|.n)
theorem tnum_nb (s:Rst) (n:Nod) (most:Int) (h:s.In) (h0:0≤most) (h1:most≤2147483647):VM Try.prog 119 ([.agg [.ptr 100000 0 0],.ptr 100001 0 2,i64 most]) ([(100000,.var (rdC s)),(100001,.var (nodC n))]) (.tup []) ([(100000,.var (rdC (cntS s most))),(100001,.var (nodC { n with nb:=cntV s most }))]):=by
 have oz0 := @cnt_v (s) (most) h h0 h1
 exact VM.run (fn:=Try.f119) (W:=[.r [] [],.r [] [cm oz0]]) (G:=[.drop [3],.sort]) Try.func119 (by kernel_rfl) (.c oz0<|.n)
theorem lnum_nb (B:List Int) (L:Int→List Int) (n:Nod) (most:Int) (hB:B.length≤1000000) (hL:Puts L):VM Try.prog 114 ([.ptr 100000 0 0,.ptr 100001 0 2,i64 most]) ([(950,.slc 5 1 (B.map (row1 .u8))),(100000,.var [.own 950]),(100001,.var (nodC n))]) (.tup []) ([(951,.slc 5 1 ((B++L n.nb).map (row1 .u8))),(100000,.var [.own 951]),(100001,.var (nodC n))]):=by
 have q:=hL.l n.nb
 have oz0 := @puts_v (L) hL (n.nb)
 exact VM.run (fn:=Try.f114) (W:=[.r [] [.w,.callr (rO oz0)]]) (G:=[.ren 16 951,.blk 951 (Blk.slc 5 1 (List.map (row1 IntKind.u8) (B++L n.nb))),.sort]) Try.func114 (by kernel_rfl) (.c oz0<|.c (show ((List.map (row1 IntKind.u8) B).length+(List.map (row1 IntKind.u8) (L n.nb)).length)*1≤140737488355328 by (simp only [List.length_map];omega))<|.c (show (List.map (row1 IntKind.u8) B).length+(List.map (row1 IntKind.u8) (L n.nb)).length≤9223372036854775807 by (simp only [List.length_map];omega))<|.c (show BlkW (Blk.slc 5 1 (List.map (row1 IntKind.u8) B++List.map (row1 IntKind.u8) (L n.nb))) (Blk.slc 5 1 (List.map (row1 IntKind.u8) (B++L n.nb))) from (BlkW.rows (e:=5) (z:=1) (rows_to (row1 IntKind.u8) (r:=List.map (row1 IntKind.u8) B++List.map (row1 IntKind.u8) (L n.nb)) (l:=B++L n.nb) (m:=B++L n.nb) (by first|(simp;done)|rfl|(simp;rfl)) rfl)))<|.n)
theorem tnum_nk (s:Rst) (n:Nod) (most:Int) (h:s.In) (h0:0≤most) (h1:most≤2147483647):VM Try.prog 119 ([.agg [.ptr 100000 0 0],.ptr 100001 0 3,i64 most]) ([(100000,.var (rdC s)),(100001,.var (nodC n))]) (.tup []) ([(100000,.var (rdC (cntS s most))),(100001,.var (nodC { n with nk:=cntV s most }))]):=by
 have oz0 := @cnt_v (s) (most) h h0 h1
 exact VM.run (fn:=Try.f119) (W:=[.r [] [],.r [] [cm oz0]]) (G:=[.drop [3],.sort]) Try.func119 (by kernel_rfl) (.c oz0<|.n)
theorem lnum_nk (B:List Int) (L:Int→List Int) (n:Nod) (most:Int) (hB:B.length≤1000000) (hL:Puts L):VM Try.prog 114 ([.ptr 100000 0 0,.ptr 100001 0 3,i64 most]) ([(950,.slc 5 1 (B.map (row1 .u8))),(100000,.var [.own 950]),(100001,.var (nodC n))]) (.tup []) ([(951,.slc 5 1 ((B++L n.nk).map (row1 .u8))),(100000,.var [.own 951]),(100001,.var (nodC n))]):=by
 have q:=hL.l n.nk
 have oz0 := @puts_v (L) hL (n.nk)
 exact VM.run (fn:=Try.f114) (W:=[.r [] [.w,.callr (rO oz0)]]) (G:=[.ren 16 951,.blk 951 (Blk.slc 5 1 (List.map (row1 IntKind.u8) (B++L n.nk))),.sort]) Try.func114 (by kernel_rfl) (.c oz0<|.c (show ((List.map (row1 IntKind.u8) B).length+(List.map (row1 IntKind.u8) (L n.nk)).length)*1≤140737488355328 by (simp only [List.length_map];omega))<|.c (show (List.map (row1 IntKind.u8) B).length+(List.map (row1 IntKind.u8) (L n.nk)).length≤9223372036854775807 by (simp only [List.length_map];omega))<|.c (show BlkW (Blk.slc 5 1 (List.map (row1 IntKind.u8) B++List.map (row1 IntKind.u8) (L n.nk))) (Blk.slc 5 1 (List.map (row1 IntKind.u8) (B++L n.nk))) from (BlkW.rows (e:=5) (z:=1) (rows_to (row1 IntKind.u8) (r:=List.map (row1 IntKind.u8) B++List.map (row1 IntKind.u8) (L n.nk)) (l:=B++L n.nk) (m:=B++L n.nk) (by first|(simp;done)|rfl|(simp;rfl)) rfl)))<|.n)
theorem tnum_ns (s:Rst) (n:Nod) (most:Int) (h:s.In) (h0:0≤most) (h1:most≤2147483647):VM Try.prog 119 ([.agg [.ptr 100000 0 0],.ptr 100001 0 4,i64 most]) ([(100000,.var (rdC s)),(100001,.var (nodC n))]) (.tup []) ([(100000,.var (rdC (cntS s most))),(100001,.var (nodC { n with ns:=cntV s most }))]):=by
 have oz0 := @cnt_v (s) (most) h h0 h1
 exact VM.run (fn:=Try.f119) (W:=[.r [] [],.r [] [cm oz0]]) (G:=[.drop [3],.sort]) Try.func119 (by kernel_rfl) (.c oz0<|.n)
theorem lnum_ns (B:List Int) (L:Int→List Int) (n:Nod) (most:Int) (hB:B.length≤1000000) (hL:Puts L):VM Try.prog 114 ([.ptr 100000 0 0,.ptr 100001 0 4,i64 most]) ([(950,.slc 5 1 (B.map (row1 .u8))),(100000,.var [.own 950]),(100001,.var (nodC n))]) (.tup []) ([(951,.slc 5 1 ((B++L n.ns).map (row1 .u8))),(100000,.var [.own 951]),(100001,.var (nodC n))]):=by
 have q:=hL.l n.ns
 have oz0 := @puts_v (L) hL (n.ns)
 exact VM.run (fn:=Try.f114) (W:=[.r [] [.w,.callr (rO oz0)]]) (G:=[.ren 16 951,.blk 951 (Blk.slc 5 1 (List.map (row1 IntKind.u8) (B++L n.ns))),.sort]) Try.func114 (by kernel_rfl) (.c oz0<|.c (show ((List.map (row1 IntKind.u8) B).length+(List.map (row1 IntKind.u8) (L n.ns)).length)*1≤140737488355328 by (simp only [List.length_map];omega))<|.c (show (List.map (row1 IntKind.u8) B).length+(List.map (row1 IntKind.u8) (L n.ns)).length≤9223372036854775807 by (simp only [List.length_map];omega))<|.c (show BlkW (Blk.slc 5 1 (List.map (row1 IntKind.u8) B++List.map (row1 IntKind.u8) (L n.ns))) (Blk.slc 5 1 (List.map (row1 IntKind.u8) (B++L n.ns))) from (BlkW.rows (e:=5) (z:=1) (rows_to (row1 IntKind.u8) (r:=List.map (row1 IntKind.u8) B++List.map (row1 IntKind.u8) (L n.ns)) (l:=B++L n.ns) (m:=B++L n.ns) (by first|(simp;done)|rfl|(simp;rfl)) rfl)))<|.n)
theorem tnum_np (s:Rst) (n:Nod) (most:Int) (h:s.In) (h0:0≤most) (h1:most≤2147483647):VM Try.prog 119 ([.agg [.ptr 100000 0 0],.ptr 100001 0 5,i64 most]) ([(100000,.var (rdC s)),(100001,.var (nodC n))]) (.tup []) ([(100000,.var (rdC (cntS s most))),(100001,.var (nodC { n with np:=cntV s most }))]):=by
 have oz0 := @cnt_v (s) (most) h h0 h1
 exact VM.run (fn:=Try.f119) (W:=[.r [] [],.r [] [cm oz0]]) (G:=[.drop [3],.sort]) Try.func119 (by kernel_rfl) (.c oz0<|.n)
theorem lnum_np (B:List Int) (L:Int→List Int) (n:Nod) (most:Int) (hB:B.length≤1000000) (hL:Puts L):VM Try.prog 114 ([.ptr 100000 0 0,.ptr 100001 0 5,i64 most]) ([(950,.slc 5 1 (B.map (row1 .u8))),(100000,.var [.own 950]),(100001,.var (nodC n))]) (.tup []) ([(951,.slc 5 1 ((B++L n.np).map (row1 .u8))),(100000,.var [.own 951]),(100001,.var (nodC n))]):=by
 have q:=hL.l n.np
 have oz0 := @puts_v (L) hL (n.np)
 exact VM.run (fn:=Try.f114) (W:=[.r [] [.w,.callr (rO oz0)]]) (G:=[.ren 16 951,.blk 951 (Blk.slc 5 1 (List.map (row1 IntKind.u8) (B++L n.np))),.sort]) Try.func114 (by kernel_rfl) (.c oz0<|.c (show ((List.map (row1 IntKind.u8) B).length+(List.map (row1 IntKind.u8) (L n.np)).length)*1≤140737488355328 by (simp only [List.length_map];omega))<|.c (show (List.map (row1 IntKind.u8) B).length+(List.map (row1 IntKind.u8) (L n.np)).length≤9223372036854775807 by (simp only [List.length_map];omega))<|.c (show BlkW (Blk.slc 5 1 (List.map (row1 IntKind.u8) B++List.map (row1 IntKind.u8) (L n.np))) (Blk.slc 5 1 (List.map (row1 IntKind.u8) (B++L n.np))) from (BlkW.rows (e:=5) (z:=1) (rows_to (row1 IntKind.u8) (r:=List.map (row1 IntKind.u8) B++List.map (row1 IntKind.u8) (L n.np)) (l:=B++L n.np) (m:=B++L n.np) (by first|(simp;done)|rfl|(simp;rfl)) rfl)))<|.n)
theorem tnum_no (s:Rst) (n:Nod) (most:Int) (h:s.In) (h0:0≤most) (h1:most≤2147483647):VM Try.prog 119 ([.agg [.ptr 100000 0 0],.ptr 100001 0 6,i64 most]) ([(100000,.var (rdC s)),(100001,.var (nodC n))]) (.tup []) ([(100000,.var (rdC (cntS s most))),(100001,.var (nodC { n with no:=cntV s most }))]):=by
 have oz0 := @cnt_v (s) (most) h h0 h1
 exact VM.run (fn:=Try.f119) (W:=[.r [] [],.r [] [cm oz0]]) (G:=[.drop [3],.sort]) Try.func119 (by kernel_rfl) (.c oz0<|.n)
theorem lnum_no (B:List Int) (L:Int→List Int) (n:Nod) (most:Int) (hB:B.length≤1000000) (hL:Puts L):VM Try.prog 114 ([.ptr 100000 0 0,.ptr 100001 0 6,i64 most]) ([(950,.slc 5 1 (B.map (row1 .u8))),(100000,.var [.own 950]),(100001,.var (nodC n))]) (.tup []) ([(951,.slc 5 1 ((B++L n.no).map (row1 .u8))),(100000,.var [.own 951]),(100001,.var (nodC n))]):=by
 have q:=hL.l n.no
 have oz0 := @puts_v (L) hL (n.no)
 exact VM.run (fn:=Try.f114) (W:=[.r [] [.w,.callr (rO oz0)]]) (G:=[.ren 16 951,.blk 951 (Blk.slc 5 1 (List.map (row1 IntKind.u8) (B++L n.no))),.sort]) Try.func114 (by kernel_rfl) (.c oz0<|.c (show ((List.map (row1 IntKind.u8) B).length+(List.map (row1 IntKind.u8) (L n.no)).length)*1≤140737488355328 by (simp only [List.length_map];omega))<|.c (show (List.map (row1 IntKind.u8) B).length+(List.map (row1 IntKind.u8) (L n.no)).length≤9223372036854775807 by (simp only [List.length_map];omega))<|.c (show BlkW (Blk.slc 5 1 (List.map (row1 IntKind.u8) B++List.map (row1 IntKind.u8) (L n.no))) (Blk.slc 5 1 (List.map (row1 IntKind.u8) (B++L n.no))) from (BlkW.rows (e:=5) (z:=1) (rows_to (row1 IntKind.u8) (r:=List.map (row1 IntKind.u8) B++List.map (row1 IntKind.u8) (L n.no)) (l:=B++L n.no) (m:=B++L n.no) (by first|(simp;done)|rfl|(simp;rfl)) rfl)))<|.n)
theorem tnum_qs (s:Rst) (n:Nod) (most:Int) (h:s.In) (h0:0≤most) (h1:most≤2147483647):VM Try.prog 119 ([.agg [.ptr 100000 0 0],.ptr 100001 0 12,i64 most]) ([(100000,.var (rdC s)),(100001,.var (nodC n))]) (.tup []) ([(100000,.var (rdC (cntS s most))),(100001,.var (nodC { n with qs:=cntV s most }))]):=by
 have oz0 := @cnt_v (s) (most) h h0 h1
 exact VM.run (fn:=Try.f119) (W:=[.r [] [],.r [] [cm oz0]]) (G:=[.drop [3],.sort]) Try.func119 (by kernel_rfl) (.c oz0<|.n)
theorem lnum_qs (B:List Int) (L:Int→List Int) (n:Nod) (most:Int) (hB:B.length≤1000000) (hL:Puts L):VM Try.prog 114 ([.ptr 100000 0 0,.ptr 100001 0 12,i64 most]) ([(950,.slc 5 1 (B.map (row1 .u8))),(100000,.var [.own 950]),(100001,.var (nodC n))]) (.tup []) ([(951,.slc 5 1 ((B++L n.qs).map (row1 .u8))),(100000,.var [.own 951]),(100001,.var (nodC n))]):=by
 have q:=hL.l n.qs
 have oz0 := @puts_v (L) hL (n.qs)
 exact VM.run (fn:=Try.f114) (W:=[.r [] [.w,.callr (rO oz0)]]) (G:=[.ren 16 951,.blk 951 (Blk.slc 5 1 (List.map (row1 IntKind.u8) (B++L n.qs))),.sort]) Try.func114 (by kernel_rfl) (.c oz0<|.c (show ((List.map (row1 IntKind.u8) B).length+(List.map (row1 IntKind.u8) (L n.qs)).length)*1≤140737488355328 by (simp only [List.length_map];omega))<|.c (show (List.map (row1 IntKind.u8) B).length+(List.map (row1 IntKind.u8) (L n.qs)).length≤9223372036854775807 by (simp only [List.length_map];omega))<|.c (show BlkW (Blk.slc 5 1 (List.map (row1 IntKind.u8) B++List.map (row1 IntKind.u8) (L n.qs))) (Blk.slc 5 1 (List.map (row1 IntKind.u8) (B++L n.qs))) from (BlkW.rows (e:=5) (z:=1) (rows_to (row1 IntKind.u8) (r:=List.map (row1 IntKind.u8) B++List.map (row1 IntKind.u8) (L n.qs)) (l:=B++L n.qs) (m:=B++L n.qs) (by first|(simp;done)|rfl|(simp;rfl)) rfl)))<|.n)
theorem tnum_rs (s:Rst) (n:Nod) (most:Int) (h:s.In) (h0:0≤most) (h1:most≤2147483647):VM Try.prog 119 ([.agg [.ptr 100000 0 0],.ptr 100001 0 15,i64 most]) ([(100000,.var (rdC s)),(100001,.var (nodC n))]) (.tup []) ([(100000,.var (rdC (cntS s most))),(100001,.var (nodC { n with rs:=cntV s most }))]):=by
 have oz0 := @cnt_v (s) (most) h h0 h1
 exact VM.run (fn:=Try.f119) (W:=[.r [] [],.r [] [cm oz0]]) (G:=[.drop [3],.sort]) Try.func119 (by kernel_rfl) (.c oz0<|.n)
theorem lnum_rs (B:List Int) (L:Int→List Int) (n:Nod) (most:Int) (hB:B.length≤1000000) (hL:Puts L):VM Try.prog 114 ([.ptr 100000 0 0,.ptr 100001 0 15,i64 most]) ([(950,.slc 5 1 (B.map (row1 .u8))),(100000,.var [.own 950]),(100001,.var (nodC n))]) (.tup []) ([(951,.slc 5 1 ((B++L n.rs).map (row1 .u8))),(100000,.var [.own 951]),(100001,.var (nodC n))]):=by
 have q:=hL.l n.rs
 have oz0 := @puts_v (L) hL (n.rs)
 exact VM.run (fn:=Try.f114) (W:=[.r [] [.w,.callr (rO oz0)]]) (G:=[.ren 16 951,.blk 951 (Blk.slc 5 1 (List.map (row1 IntKind.u8) (B++L n.rs))),.sort]) Try.func114 (by kernel_rfl) (.c oz0<|.c (show ((List.map (row1 IntKind.u8) B).length+(List.map (row1 IntKind.u8) (L n.rs)).length)*1≤140737488355328 by (simp only [List.length_map];omega))<|.c (show (List.map (row1 IntKind.u8) B).length+(List.map (row1 IntKind.u8) (L n.rs)).length≤9223372036854775807 by (simp only [List.length_map];omega))<|.c (show BlkW (Blk.slc 5 1 (List.map (row1 IntKind.u8) B++List.map (row1 IntKind.u8) (L n.rs))) (Blk.slc 5 1 (List.map (row1 IntKind.u8) (B++L n.rs))) from (BlkW.rows (e:=5) (z:=1) (rows_to (row1 IntKind.u8) (r:=List.map (row1 IntKind.u8) B++List.map (row1 IntKind.u8) (L n.rs)) (l:=B++L n.rs) (m:=B++L n.rs) (by first|(simp;done)|rfl|(simp;rfl)) rfl)))<|.n)
theorem lnum_kd0 (L:Int→List Int) (n:Nod) (most:Int) (hL:Puts L):VM Try.prog 114 ([.ptr 100000 0 0,.ptr 100001 0 0,i64 most]) ([(100000,.var [.lit (.slice none 0 0)]),(100001,.var (nodC n))]) (.tup []) ([(951,.slc 5 1 ((L n.kd).map (row1 .u8))),(100000,.var [.own 951]),(100001,.var (nodC n))]):=by
 have q:=hL.l n.kd
 have oz0 := @puts_v (L) hL (n.kd)
 exact VM.run (fn:=Try.f114) (W:=[.r [] [.w,.callr (rO oz0)]]) (G:=[.ren 16 951,.sort]) Try.func114 (by kernel_rfl) (.c oz0<|.c (show (List.map (row1 IntKind.u8) (L n.kd)).length*1≤140737488355328 by (simp only [List.length_map];omega))<|.c (show (List.map (row1 IntKind.u8) (L n.kd)).length≤9223372036854775807 by (simp only [List.length_map];omega))<|.n)
theorem tsml_w (s:Rst) (n:Nod) (m:Int) (h:s.In):VM Try.prog 261 ([.agg [.ptr 100000 0 0],.ptr 100001 0 9,i64 m]) ([(100000,.var (rdC s)),(100001,.var (nodC n))]) (.tup []) ([(100000,.var (rdC (smlS s m))),(100001,.var (nodC { n with w:=smlV s m }))]):=by
 have oz0 := @smallR_v (s) (m) h
 exact VM.run (fn:=Try.f261) (W:=[.r [] [],.r [] [cm oz0]]) (G:=[.drop [3],.sort]) Try.func261 (by kernel_rfl) (.c oz0<|.n)
theorem twid_b (s:Rst) (n:Nod) (m:Int) (h:s.In):VM Try.prog 262 ([.agg [.ptr 100000 0 0],.ptr 100001 0 10,i64 m]) ([(100000,.var (rdC s)),(100001,.var (nodC n))]) (.tup []) ([(100000,.var (rdC (widS s m))),(100001,.var (nodC { n with b:=widV s m }))]):=by
 have oz0 := @wideR_v (s) (m) h
 exact VM.run (fn:=Try.f262) (W:=[.r [] [],.r [] [cm oz0]]) (G:=[.drop [3],.sort]) Try.func262 (by kernel_rfl) (.c oz0<|.n)
theorem lsml_w (B:List Int) (n:Nod) (m:Int) (hB:B.length≤1000000) (hw:n.w.length≤100000):VM Try.prog 256 ([.ptr 100000 0 0,.ptr 100001 0 9,i64 m]) ([(950,.slc 5 1 (B.map (row1 .u8))),(100000,.var [.own 950]),(100001,.var (nodC n))]) (.tup []) ([(951,.slc 5 1 ((B++smallL n.w).map (row1 .u8))),(100000,.var [.own 951]),(100001,.var (nodC n))]):=by
 have q:(smallL n.w).length=n.w.length:=List.length_map _
 have oz0 := @small_v (n.w) (by omega)
 exact VM.run (fn:=Try.f256) (W:=[.r [] [.callr (rO oz0)]]) (G:=[.ren 15 951,.blk 951 (Blk.slc 5 1 (List.map (row1 IntKind.u8) (B++smallL n.w))),.sort]) Try.func256 (by kernel_rfl) (.c oz0<|.c (show ((List.map (row1 IntKind.u8) B).length+(List.map (row1 IntKind.u8) (smallL n.w)).length)*1≤140737488355328 by (simp only [List.length_map];omega))<|.c (show (List.map (row1 IntKind.u8) B).length+(List.map (row1 IntKind.u8) (smallL n.w)).length≤9223372036854775807 by (simp only [List.length_map];omega))<|.c (show BlkW (Blk.slc 5 1 (List.map (row1 IntKind.u8) B++List.map (row1 IntKind.u8) (smallL n.w))) (Blk.slc 5 1 (List.map (row1 IntKind.u8) (B++smallL n.w))) from (BlkW.rows (e:=5) (z:=1) (rows_to (row1 IntKind.u8) (r:=List.map (row1 IntKind.u8) B++List.map (row1 IntKind.u8) (smallL n.w)) (l:=B++smallL n.w) (m:=B++smallL n.w) (by first|(simp;done)|rfl|(simp;rfl)) rfl)))<|.n)
theorem lwid_b (B:List Int) (n:Nod) (m:Int) (hB:B.length≤1000000) (hw:n.b.length≤100000) (hb:∀ x∈n.b,-2147483648≤x∧x≤2147483647):VM Try.prog 257 ([.ptr 100000 0 0,.ptr 100001 0 10,i64 m]) ([(950,.slc 5 1 (B.map (row1 .u8))),(100000,.var [.own 950]),(100001,.var (nodC n))]) (.tup []) ([(951,.slc 5 1 ((B++wideL n.b).map (row1 .u8))),(100000,.var [.own 951]),(100001,.var (nodC n))]):=by
 have q:=wideL_len n.b hb
 have oz0 := @wide_v (n.b) hb (by omega)
 exact VM.run (fn:=Try.f257) (W:=[.r [] [.callr (rO oz0)]]) (G:=[.ren 15 951,.blk 951 (Blk.slc 5 1 (List.map (row1 IntKind.u8) (B++wideL n.b))),.sort]) Try.func257 (by kernel_rfl) (.c oz0<|.c (show ((List.map (row1 IntKind.u8) B).length+(List.map (row1 IntKind.u8) (wideL n.b)).length)*1≤140737488355328 by (simp only [List.length_map];omega))<|.c (show (List.map (row1 IntKind.u8) B).length+(List.map (row1 IntKind.u8) (wideL n.b)).length≤9223372036854775807 by (simp only [List.length_map];omega))<|.c (show BlkW (Blk.slc 5 1 (List.map (row1 IntKind.u8) B++List.map (row1 IntKind.u8) (wideL n.b))) (Blk.slc 5 1 (List.map (row1 IntKind.u8) (B++wideL n.b))) from (BlkW.rows (e:=5) (z:=1) (rows_to (row1 IntKind.u8) (r:=List.map (row1 IntKind.u8) B++List.map (row1 IntKind.u8) (wideL n.b)) (l:=B++wideL n.b) (m:=B++wideL n.b) (by first|(simp;done)|rfl|(simp;rfl)) rfl)))<|.n)
theorem tsml_1 (s:Rst) (m:Int) (h:s.In):VM Try.prog 261 ([.agg [.ptr 100000 0 0],.ptr 100001 0 0,i64 m]) ([(100000,.var (rdC s)),(100001,.var [.any])]) (.tup []) ([(100000,.var (rdC (smlS s m))),(100001,.var [.sl 1 ((smlV s m).map (row1 .i8))])]):=by
 have oz0 := @smallR_v (s) (m) h
 exact VM.run (fn:=Try.f261) (W:=[.r [] [],.r [] [cm oz0]]) (G:=[.drop [3],.sort]) Try.func261 (by kernel_rfl) (.c oz0<|.n)
theorem tone_za_y (s:Rst) (n:Nod) (h:s.In) (h1:(smlV s 1).length=1):VM Try.prog 167 ([.ifc 169 (.agg [.ptr 100000 0 0]),.ptr 100001 0 7]) ([(100000,.var (rdC s)),(100001,.var (nodC n))]) (.tup []) ([(100000,.var (rdC (smlS s 1))),(100001,.var (nodC { n with za:=(smlV s 1).getD 0 default }))]):=by
 have oz0 := @tsml_1 (s) (1) h
 exact VM.run (fn:=Try.f167) (W:=[.r [] [],.r [] [.callm [(100000,100000),(4,100001)] [] (rM oz0) (oM oz0)],.r [] [],.br true,.r [] [.row [i8 ((smlV s 1).getD 0 0)]]]) (G:=[.drop [8,4],.blk 100001 (Blk.var [i64 n.kd,i64 n.na,i64 n.nb,i64 n.nk,i64 n.ns,i64 n.np,i64 n.no,i8 ((smlV s 1).getD 0 default),i8 n.zb,AV.sl 1 (List.map (row1 IntKind.i8) n.w),AV.sl 1 (List.map (row1 IntKind.i32) n.b),i32 n.qm,i64 n.qs,i8 n.qz,i32 n.rm,i64 n.rs,i8 n.rz,i8 n.lo,i8 n.hi]),.sort]) Try.func167 (by kernel_rfl) (.c oz0<|.c (show MethodIs Try.prog (169:Nat) "stepwell/pack.small" (methF Try.prog (169:Nat) "stepwell/pack.small") from (methodIs (by kernel_rfl)))<|.c (show ((↑(List.map (row1 IntKind.i8) (smlV s 1)).length:Int)==1)=true by (simp;omega))<|.c z2_<|.c (map_at (row1 IntKind.i8) (0) (l:=smlV s 1) (i:=0) (by omega))<|.c (show BlkW (Blk.var [i64 n.kd,i64 n.na,i64 n.nb,i64 n.nk,i64 n.ns,i64 n.np,i64 n.no,i8 ((smlV s 1).getD 0 0),i8 n.zb,AV.sl 1 (List.map (row1 IntKind.i8) n.w),AV.sl 1 (List.map (row1 IntKind.i32) n.b),i32 n.qm,i64 n.qs,i8 n.qz,i32 n.rm,i64 n.rs,i8 n.rz,i8 n.lo,i8 n.hi]) (Blk.var [i64 n.kd,i64 n.na,i64 n.nb,i64 n.nk,i64 n.ns,i64 n.np,i64 n.no,i8 ((smlV s 1).getD 0 default),i8 n.zb,AV.sl 1 (List.map (row1 IntKind.i8) n.w),AV.sl 1 (List.map (row1 IntKind.i32) n.b),i32 n.qm,i64 n.qs,i8 n.qz,i32 n.rm,i64 n.rs,i8 n.rz,i8 n.lo,i8 n.hi]) from (BlkW.var (.cons (.refl _) (.cons (.refl _) (.cons (.refl _) (.cons (.refl _) (.cons (.refl _) (.cons (.refl _) (.cons (.refl _) (.cons (Weak.int (show (((smlV s 1).getD 0 0):Int)=((smlV s 1).getD 0 default) from (by (simp;done)))) (.cons (.refl _) (.cons (.refl _) (.cons (.refl _) (.cons (.refl _) (.cons (.refl _) (.cons (.refl _) (.cons (.refl _) (.cons (.refl _) (.cons (.refl _) (.cons (.refl _) (.cons (.refl _) .nil)))))))))))))))))))))<|.n)
theorem tone_za_n (s:Rst) (n:Nod) (h:s.In) (h1:(smlV s 1).length≠1) (h2:(smlV s 1).length≤1000000):VM Try.prog 167 ([.ifc 169 (.agg [.ptr 100000 0 0]),.ptr 100001 0 7]) ([(100000,.var (rdC s)),(100001,.var (nodC n))]) (.tup []) ([(100000,.var (rdC (smlS s 1))),(100001,.var (nodC n))]):=by
 have oz0 := @tsml_1 (s) (1) h
 exact VM.run (fn:=Try.f167) (W:=[.r [] [],.r [] [.callm [(100000,100000),(4,100001)] [] (rM oz0) (oM oz0)],.r [] [],.br false]) (G:=[.drop [8,4],.sort]) Try.func167 (by kernel_rfl) (.c oz0<|.c (show MethodIs Try.prog (169:Nat) "stepwell/pack.small" (methF Try.prog (169:Nat) "stepwell/pack.small") from (methodIs (by kernel_rfl)))<|.c (show ((↑(List.map (row1 IntKind.i8) (smlV s 1)).length:Int)==1)=false by (simp;omega))<|.n)
theorem tone_zb_y (s:Rst) (n:Nod) (h:s.In) (h1:(smlV s 1).length=1):VM Try.prog 167 ([.ifc 169 (.agg [.ptr 100000 0 0]),.ptr 100001 0 8]) ([(100000,.var (rdC s)),(100001,.var (nodC n))]) (.tup []) ([(100000,.var (rdC (smlS s 1))),(100001,.var (nodC { n with zb:=(smlV s 1).getD 0 default }))]):=by
 have oz0 := @tsml_1 (s) (1) h
 exact VM.run (fn:=Try.f167) (W:=[.r [] [],.r [] [.callm [(100000,100000),(4,100001)] [] (rM oz0) (oM oz0)],.r [] [],.br true,.r [] [.row [i8 ((smlV s 1).getD 0 0)]]]) (G:=[.drop [8,4],.blk 100001 (Blk.var [i64 n.kd,i64 n.na,i64 n.nb,i64 n.nk,i64 n.ns,i64 n.np,i64 n.no,i8 n.za,i8 ((smlV s 1).getD 0 default),AV.sl 1 (List.map (row1 IntKind.i8) n.w),AV.sl 1 (List.map (row1 IntKind.i32) n.b),i32 n.qm,i64 n.qs,i8 n.qz,i32 n.rm,i64 n.rs,i8 n.rz,i8 n.lo,i8 n.hi]),.sort]) Try.func167 (by kernel_rfl) (.c oz0<|.c (show MethodIs Try.prog (169:Nat) "stepwell/pack.small" (methF Try.prog (169:Nat) "stepwell/pack.small") from (methodIs (by kernel_rfl)))<|.c (show ((↑(List.map (row1 IntKind.i8) (smlV s 1)).length:Int)==1)=true by (simp;omega))<|.c z2_<|.c (map_at (row1 IntKind.i8) (0) (l:=smlV s 1) (i:=0) (by omega))<|.c (show BlkW (Blk.var [i64 n.kd,i64 n.na,i64 n.nb,i64 n.nk,i64 n.ns,i64 n.np,i64 n.no,i8 n.za,i8 ((smlV s 1).getD 0 0),AV.sl 1 (List.map (row1 IntKind.i8) n.w),AV.sl 1 (List.map (row1 IntKind.i32) n.b),i32 n.qm,i64 n.qs,i8 n.qz,i32 n.rm,i64 n.rs,i8 n.rz,i8 n.lo,i8 n.hi]) (Blk.var [i64 n.kd,i64 n.na,i64 n.nb,i64 n.nk,i64 n.ns,i64 n.np,i64 n.no,i8 n.za,i8 ((smlV s 1).getD 0 default),AV.sl 1 (List.map (row1 IntKind.i8) n.w),AV.sl 1 (List.map (row1 IntKind.i32) n.b),i32 n.qm,i64 n.qs,i8 n.qz,i32 n.rm,i64 n.rs,i8 n.rz,i8 n.lo,i8 n.hi]) from (BlkW.var (.cons (.refl _) (.cons (.refl _) (.cons (.refl _) (.cons (.refl _) (.cons (.refl _) (.cons (.refl _) (.cons (.refl _) (.cons (.refl _) (.cons (Weak.int (show (((smlV s 1).getD 0 0):Int)=((smlV s 1).getD 0 default) from (by (simp;done)))) (.cons (.refl _) (.cons (.refl _) (.cons (.refl _) (.cons (.refl _) (.cons (.refl _) (.cons (.refl _) (.cons (.refl _) (.cons (.refl _) (.cons (.refl _) (.cons (.refl _) .nil)))))))))))))))))))))<|.n)
theorem tone_zb_n (s:Rst) (n:Nod) (h:s.In) (h1:(smlV s 1).length≠1) (h2:(smlV s 1).length≤1000000):VM Try.prog 167 ([.ifc 169 (.agg [.ptr 100000 0 0]),.ptr 100001 0 8]) ([(100000,.var (rdC s)),(100001,.var (nodC n))]) (.tup []) ([(100000,.var (rdC (smlS s 1))),(100001,.var (nodC n))]):=by
 have oz0 := @tsml_1 (s) (1) h
 exact VM.run (fn:=Try.f167) (W:=[.r [] [],.r [] [.callm [(100000,100000),(4,100001)] [] (rM oz0) (oM oz0)],.r [] [],.br false]) (G:=[.drop [8,4],.sort]) Try.func167 (by kernel_rfl) (.c oz0<|.c (show MethodIs Try.prog (169:Nat) "stepwell/pack.small" (methF Try.prog (169:Nat) "stepwell/pack.small") from (methodIs (by kernel_rfl)))<|.c (show ((↑(List.map (row1 IntKind.i8) (smlV s 1)).length:Int)==1)=false by (simp;omega))<|.n)
theorem tone_qz_y (s:Rst) (n:Nod) (h:s.In) (h1:(smlV s 1).length=1):VM Try.prog 167 ([.ifc 169 (.agg [.ptr 100000 0 0]),.ptr 100001 0 13]) ([(100000,.var (rdC s)),(100001,.var (nodC n))]) (.tup []) ([(100000,.var (rdC (smlS s 1))),(100001,.var (nodC { n with qz:=(smlV s 1).getD 0 default }))]):=by
 have oz0 := @tsml_1 (s) (1) h
 exact VM.run (fn:=Try.f167) (W:=[.r [] [],.r [] [.callm [(100000,100000),(4,100001)] [] (rM oz0) (oM oz0)],.r [] [],.br true,.r [] [.row [i8 ((smlV s 1).getD 0 0)]]]) (G:=[.drop [8,4],.blk 100001 (Blk.var [i64 n.kd,i64 n.na,i64 n.nb,i64 n.nk,i64 n.ns,i64 n.np,i64 n.no,i8 n.za,i8 n.zb,AV.sl 1 (List.map (row1 IntKind.i8) n.w),AV.sl 1 (List.map (row1 IntKind.i32) n.b),i32 n.qm,i64 n.qs,i8 ((smlV s 1).getD 0 default),i32 n.rm,i64 n.rs,i8 n.rz,i8 n.lo,i8 n.hi]),.sort]) Try.func167 (by kernel_rfl) (.c oz0<|.c (show MethodIs Try.prog (169:Nat) "stepwell/pack.small" (methF Try.prog (169:Nat) "stepwell/pack.small") from (methodIs (by kernel_rfl)))<|.c (show ((↑(List.map (row1 IntKind.i8) (smlV s 1)).length:Int)==1)=true by (simp;omega))<|.c z2_<|.c (map_at (row1 IntKind.i8) (0) (l:=smlV s 1) (i:=0) (by omega))<|.c (show BlkW (Blk.var [i64 n.kd,i64 n.na,i64 n.nb,i64 n.nk,i64 n.ns,i64 n.np,i64 n.no,i8 n.za,i8 n.zb,AV.sl 1 (List.map (row1 IntKind.i8) n.w),AV.sl 1 (List.map (row1 IntKind.i32) n.b),i32 n.qm,i64 n.qs,i8 ((smlV s 1).getD 0 0),i32 n.rm,i64 n.rs,i8 n.rz,i8 n.lo,i8 n.hi]) (Blk.var [i64 n.kd,i64 n.na,i64 n.nb,i64 n.nk,i64 n.ns,i64 n.np,i64 n.no,i8 n.za,i8 n.zb,AV.sl 1 (List.map (row1 IntKind.i8) n.w),AV.sl 1 (List.map (row1 IntKind.i32) n.b),i32 n.qm,i64 n.qs,i8 ((smlV s 1).getD 0 default),i32 n.rm,i64 n.rs,i8 n.rz,i8 n.lo,i8 n.hi]) from (BlkW.var (.cons (.refl _) (.cons (.refl _) (.cons (.refl _) (.cons (.refl _) (.cons (.refl _) (.cons (.refl _) (.cons (.refl _) (.cons (.refl _) (.cons (.refl _) (.cons (.refl _) (.cons (.refl _) (.cons (.refl _) (.cons (.refl _) (.cons (Weak.int (show (((smlV s 1).getD 0 0):Int)=((smlV s 1).getD 0 default) from (by (simp;done)))) (.cons (.refl _) (.cons (.refl _) (.cons (.refl _) (.cons (.refl _) (.cons (.refl _) .nil)))))))))))))))))))))<|.n)
theorem tone_qz_n (s:Rst) (n:Nod) (h:s.In) (h1:(smlV s 1).length≠1) (h2:(smlV s 1).length≤1000000):VM Try.prog 167 ([.ifc 169 (.agg [.ptr 100000 0 0]),.ptr 100001 0 13]) ([(100000,.var (rdC s)),(100001,.var (nodC n))]) (.tup []) ([(100000,.var (rdC (smlS s 1))),(100001,.var (nodC n))]):=by
 have oz0 := @tsml_1 (s) (1) h
 exact VM.run (fn:=Try.f167) (W:=[.r [] [],.r [] [.callm [(100000,100000),(4,100001)] [] (rM oz0) (oM oz0)],.r [] [],.br false]) (G:=[.drop [8,4],.sort]) Try.func167 (by kernel_rfl) (.c oz0<|.c (show MethodIs Try.prog (169:Nat) "stepwell/pack.small" (methF Try.prog (169:Nat) "stepwell/pack.small") from (methodIs (by kernel_rfl)))<|.c (show ((↑(List.map (row1 IntKind.i8) (smlV s 1)).length:Int)==1)=false by (simp;omega))<|.n)
theorem tone_lo_y (s:Rst) (n:Nod) (h:s.In) (h1:(smlV s 1).length=1):VM Try.prog 167 ([.ifc 169 (.agg [.ptr 100000 0 0]),.ptr 100001 0 17]) ([(100000,.var (rdC s)),(100001,.var (nodC n))]) (.tup []) ([(100000,.var (rdC (smlS s 1))),(100001,.var (nodC { n with lo:=(smlV s 1).getD 0 default }))]):=by
 have oz0 := @tsml_1 (s) (1) h
 exact VM.run (fn:=Try.f167) (W:=[.r [] [],.r [] [.callm [(100000,100000),(4,100001)] [] (rM oz0) (oM oz0)],.r [] [],.br true,.r [] [.row [i8 ((smlV s 1).getD 0 0)]]]) (G:=[.drop [8,4],.blk 100001 (Blk.var [i64 n.kd,i64 n.na,i64 n.nb,i64 n.nk,i64 n.ns,i64 n.np,i64 n.no,i8 n.za,i8 n.zb,AV.sl 1 (List.map (row1 IntKind.i8) n.w),AV.sl 1 (List.map (row1 IntKind.i32) n.b),i32 n.qm,i64 n.qs,i8 n.qz,i32 n.rm,i64 n.rs,i8 n.rz,i8 ((smlV s 1).getD 0 default),i8 n.hi]),.sort]) Try.func167 (by kernel_rfl) (.c oz0<|.c (show MethodIs Try.prog (169:Nat) "stepwell/pack.small" (methF Try.prog (169:Nat) "stepwell/pack.small") from (methodIs (by kernel_rfl)))<|.c (show ((↑(List.map (row1 IntKind.i8) (smlV s 1)).length:Int)==1)=true by (simp;omega))<|.c z2_<|.c (map_at (row1 IntKind.i8) (0) (l:=smlV s 1) (i:=0) (by omega))<|.c (show BlkW (Blk.var [i64 n.kd,i64 n.na,i64 n.nb,i64 n.nk,i64 n.ns,i64 n.np,i64 n.no,i8 n.za,i8 n.zb,AV.sl 1 (List.map (row1 IntKind.i8) n.w),AV.sl 1 (List.map (row1 IntKind.i32) n.b),i32 n.qm,i64 n.qs,i8 n.qz,i32 n.rm,i64 n.rs,i8 n.rz,i8 ((smlV s 1).getD 0 0),i8 n.hi]) (Blk.var [i64 n.kd,i64 n.na,i64 n.nb,i64 n.nk,i64 n.ns,i64 n.np,i64 n.no,i8 n.za,i8 n.zb,AV.sl 1 (List.map (row1 IntKind.i8) n.w),AV.sl 1 (List.map (row1 IntKind.i32) n.b),i32 n.qm,i64 n.qs,i8 n.qz,i32 n.rm,i64 n.rs,i8 n.rz,i8 ((smlV s 1).getD 0 default),i8 n.hi]) from (BlkW.var (.cons (.refl _) (.cons (.refl _) (.cons (.refl _) (.cons (.refl _) (.cons (.refl _) (.cons (.refl _) (.cons (.refl _) (.cons (.refl _) (.cons (.refl _) (.cons (.refl _) (.cons (.refl _) (.cons (.refl _) (.cons (.refl _) (.cons (.refl _) (.cons (.refl _) (.cons (.refl _) (.cons (.refl _) (.cons (Weak.int (show (((smlV s 1).getD 0 0):Int)=((smlV s 1).getD 0 default) from (by (simp;done)))) (.cons (.refl _) .nil)))))))))))))))))))))<|.n)
theorem tone_lo_n (s:Rst) (n:Nod) (h:s.In) (h1:(smlV s 1).length≠1) (h2:(smlV s 1).length≤1000000):VM Try.prog 167 ([.ifc 169 (.agg [.ptr 100000 0 0]),.ptr 100001 0 17]) ([(100000,.var (rdC s)),(100001,.var (nodC n))]) (.tup []) ([(100000,.var (rdC (smlS s 1))),(100001,.var (nodC n))]):=by
 have oz0 := @tsml_1 (s) (1) h
 exact VM.run (fn:=Try.f167) (W:=[.r [] [],.r [] [.callm [(100000,100000),(4,100001)] [] (rM oz0) (oM oz0)],.r [] [],.br false]) (G:=[.drop [8,4],.sort]) Try.func167 (by kernel_rfl) (.c oz0<|.c (show MethodIs Try.prog (169:Nat) "stepwell/pack.small" (methF Try.prog (169:Nat) "stepwell/pack.small") from (methodIs (by kernel_rfl)))<|.c (show ((↑(List.map (row1 IntKind.i8) (smlV s 1)).length:Int)==1)=false by (simp;omega))<|.n)
theorem tone_hi_y (s:Rst) (n:Nod) (h:s.In) (h1:(smlV s 1).length=1):VM Try.prog 167 ([.ifc 169 (.agg [.ptr 100000 0 0]),.ptr 100001 0 18]) ([(100000,.var (rdC s)),(100001,.var (nodC n))]) (.tup []) ([(100000,.var (rdC (smlS s 1))),(100001,.var (nodC { n with hi:=(smlV s 1).getD 0 default }))]):=by
 have oz0 := @tsml_1 (s) (1) h
 exact VM.run (fn:=Try.f167) (W:=[.r [] [],.r [] [.callm [(100000,100000),(4,100001)] [] (rM oz0) (oM oz0)],.r [] [],.br true,.r [] [.row [i8 ((smlV s 1).getD 0 0)]]]) (G:=[.drop [8,4],.blk 100001 (Blk.var [i64 n.kd,i64 n.na,i64 n.nb,i64 n.nk,i64 n.ns,i64 n.np,i64 n.no,i8 n.za,i8 n.zb,AV.sl 1 (List.map (row1 IntKind.i8) n.w),AV.sl 1 (List.map (row1 IntKind.i32) n.b),i32 n.qm,i64 n.qs,i8 n.qz,i32 n.rm,i64 n.rs,i8 n.rz,i8 n.lo,i8 ((smlV s 1).getD 0 default)]),.sort]) Try.func167 (by kernel_rfl) (.c oz0<|.c (show MethodIs Try.prog (169:Nat) "stepwell/pack.small" (methF Try.prog (169:Nat) "stepwell/pack.small") from (methodIs (by kernel_rfl)))<|.c (show ((↑(List.map (row1 IntKind.i8) (smlV s 1)).length:Int)==1)=true by (simp;omega))<|.c z2_<|.c (map_at (row1 IntKind.i8) (0) (l:=smlV s 1) (i:=0) (by omega))<|.c (show BlkW (Blk.var [i64 n.kd,i64 n.na,i64 n.nb,i64 n.nk,i64 n.ns,i64 n.np,i64 n.no,i8 n.za,i8 n.zb,AV.sl 1 (List.map (row1 IntKind.i8) n.w),AV.sl 1 (List.map (row1 IntKind.i32) n.b),i32 n.qm,i64 n.qs,i8 n.qz,i32 n.rm,i64 n.rs,i8 n.rz,i8 n.lo,i8 ((smlV s 1).getD 0 0)]) (Blk.var [i64 n.kd,i64 n.na,i64 n.nb,i64 n.nk,i64 n.ns,i64 n.np,i64 n.no,i8 n.za,i8 n.zb,AV.sl 1 (List.map (row1 IntKind.i8) n.w),AV.sl 1 (List.map (row1 IntKind.i32) n.b),i32 n.qm,i64 n.qs,i8 n.qz,i32 n.rm,i64 n.rs,i8 n.rz,i8 n.lo,i8 ((smlV s 1).getD 0 default)]) from (BlkW.var (.cons (.refl _) (.cons (.refl _) (.cons (.refl _) (.cons (.refl _) (.cons (.refl _) (.cons (.refl _) (.cons (.refl _) (.cons (.refl _) (.cons (.refl _) (.cons (.refl _) (.cons (.refl _) (.cons (.refl _) (.cons (.refl _) (.cons (.refl _) (.cons (.refl _) (.cons (.refl _) (.cons (.refl _) (.cons (.refl _) (.cons (Weak.int (show (((smlV s 1).getD 0 0):Int)=((smlV s 1).getD 0 default) from (by (simp;done)))) .nil)))))))))))))))))))))<|.n)
theorem tone_hi_n (s:Rst) (n:Nod) (h:s.In) (h1:(smlV s 1).length≠1) (h2:(smlV s 1).length≤1000000):VM Try.prog 167 ([.ifc 169 (.agg [.ptr 100000 0 0]),.ptr 100001 0 18]) ([(100000,.var (rdC s)),(100001,.var (nodC n))]) (.tup []) ([(100000,.var (rdC (smlS s 1))),(100001,.var (nodC n))]):=by
 have oz0 := @tsml_1 (s) (1) h
 exact VM.run (fn:=Try.f167) (W:=[.r [] [],.r [] [.callm [(100000,100000),(4,100001)] [] (rM oz0) (oM oz0)],.r [] [],.br false]) (G:=[.drop [8,4],.sort]) Try.func167 (by kernel_rfl) (.c oz0<|.c (show MethodIs Try.prog (169:Nat) "stepwell/pack.small" (methF Try.prog (169:Nat) "stepwell/pack.small") from (methodIs (by kernel_rfl)))<|.c (show ((↑(List.map (row1 IntKind.i8) (smlV s 1)).length:Int)==1)=false by (simp;omega))<|.n)
def oneV (s:Rst):Int:=(smlV s 1).getD 0 0
theorem one_len (s:Rst):(smlV s 1).length=0∨(smlV s 1).length=1:=by
 unfold smlV
 split
 ·exact .inl rfl
 ·split
  ·exact .inl rfl
  ·split
   ·exact .inl rfl
   ·exact .inr (tkW_len _ _)
theorem oneV_0 {s:Rst} (h:(smlV s 1).length=0):oneV s=0:=by
 unfold oneV;rw [List.length_eq_zero_iff.1 h];rfl
theorem tone_za (s:Rst) (n:Nod) (h:s.In) (h0:n.za=0):VM Try.prog 167 [.ifc 169 (.agg [.ptr 100000 0 0]),.ptr 100001 0 7] [(100000,.var (rdC s)),(100001,.var (nodC n))] (.tup []) [(100000,.var (rdC (smlS s 1))),(100001,.var (nodC { n with za:=oneV s }))]:=by
 rcases one_len s with h1 | h1
 ·have e : { n with za:=oneV s }=n:=by rw [oneV_0 h1,←h0]
  rw [e]
  exact tone_za_n s n h (by omega) (by omega)
 ·exact tone_za_y s n h h1
theorem tone_zb (s:Rst) (n:Nod) (h:s.In) (h0:n.zb=0):VM Try.prog 167 [.ifc 169 (.agg [.ptr 100000 0 0]),.ptr 100001 0 8] [(100000,.var (rdC s)),(100001,.var (nodC n))] (.tup []) [(100000,.var (rdC (smlS s 1))),(100001,.var (nodC { n with zb:=oneV s }))]:=by
 rcases one_len s with h1 | h1
 ·have e : { n with zb:=oneV s }=n:=by rw [oneV_0 h1,←h0]
  rw [e]
  exact tone_zb_n s n h (by omega) (by omega)
 ·exact tone_zb_y s n h h1
theorem tone_qz (s:Rst) (n:Nod) (h:s.In) (h0:n.qz=0):VM Try.prog 167 [.ifc 169 (.agg [.ptr 100000 0 0]),.ptr 100001 0 13] [(100000,.var (rdC s)),(100001,.var (nodC n))] (.tup []) [(100000,.var (rdC (smlS s 1))),(100001,.var (nodC { n with qz:=oneV s }))]:=by
 rcases one_len s with h1 | h1
 ·have e : { n with qz:=oneV s }=n:=by rw [oneV_0 h1,←h0]
  rw [e]
  exact tone_qz_n s n h (by omega) (by omega)
 ·exact tone_qz_y s n h h1
theorem tone_lo (s:Rst) (n:Nod) (h:s.In) (h0:n.lo=0):VM Try.prog 167 [.ifc 169 (.agg [.ptr 100000 0 0]),.ptr 100001 0 17] [(100000,.var (rdC s)),(100001,.var (nodC n))] (.tup []) [(100000,.var (rdC (smlS s 1))),(100001,.var (nodC { n with lo:=oneV s }))]:=by
 rcases one_len s with h1 | h1
 ·have e : { n with lo:=oneV s }=n:=by rw [oneV_0 h1,←h0]
  rw [e]
  exact tone_lo_n s n h (by omega) (by omega)
 ·exact tone_lo_y s n h h1
theorem tone_hi (s:Rst) (n:Nod) (h:s.In) (h0:n.hi=0):VM Try.prog 167 [.ifc 169 (.agg [.ptr 100000 0 0]),.ptr 100001 0 18] [(100000,.var (rdC s)),(100001,.var (nodC n))] (.tup []) [(100000,.var (rdC (smlS s 1))),(100001,.var (nodC { n with hi:=oneV s }))]:=by
 rcases one_len s with h1 | h1
 ·have e : { n with hi:=oneV s }=n:=by rw [oneV_0 h1,←h0]
  rw [e]
  exact tone_hi_n s n h (by omega) (by omega)
 ·exact tone_hi_y s n h h1
theorem of_1 (k:Int) (h:k=1):VC Try.prog 165 ([i64 k]) (.agg [bv false,bv true,bv true,bv true,bv true,bv true]):=by
 have oz0:=(show (k==1) = !false by (refine decide_eq_true ?_;omega))
 have oz2:=(show (k==1)=true by (refine decide_eq_true ?_;omega))
 have oz3:=(show true = !false by (simp;done))
 have oz5:=z1_
 exact (VC.run (fn:=Try.f165) (W:=[.r [] [],.r [] [.br false,.br false,.br true,.br false,.br false,.br true],.r [] [.br false,.br false,.br true,.br false,.br false,.br true,.br false,.br false,.br true],.r [] [.br false,.br false,.br true,.br false,.br false,.br true],.r [] [.br false,.br false,.br true,.br false,.br false,.br true]]) (r:=AV.agg [bv (k==6),bv true,bv true,bv true,bv true,bv true]) Try.func165 (by kernel_rfl) (.c oz0<|.c oz0<|.c oz2<|.c oz3<|.c oz3<|.c oz5<|.c oz0<|.c oz0<|.c oz2<|.c oz3<|.c oz3<|.c oz5<|.c oz3<|.c oz3<|.c oz5<|.c oz3<|.c oz3<|.c oz5<|.c oz3<|.c oz3<|.c oz5<|.c oz0<|.c oz0<|.c oz2<|.c oz3<|.c oz3<|.c oz5<|.n)).weak (WeakL.refl _) (Weak.agg (.cons (Weak.bool (show ((k==6):Bool)=(false) from (by (refine decide_eq_false ?_;omega)))) (.cons (.refl _) (.cons (.refl _) (.cons (.refl _) (.cons (.refl _) (.cons (.refl _) .nil)))))))
theorem of_2 (k:Int) (h:k=2):VC Try.prog 165 ([i64 k]) (.agg [bv false,bv true,bv false,bv true,bv true,bv true]):=by
 have oz0:=(show (k==1)=false by (refine decide_eq_false ?_;omega))
 have oz3:=(show (k==2) = !false by (refine decide_eq_true ?_;omega))
 have oz5:=(show (k==2)=true by (refine decide_eq_true ?_;omega))
 have oz12:=(show true = !false by (simp;done))
 have oz14:=z1_
 exact (VC.run (fn:=Try.f165) (W:=[.r [] [],.r [] [.br true,.br true,.br false,.br false,.br false,.br true],.r [] [.br true,.br true,.br false,.br false,.br false,.br true,.br false,.br false,.br true],.r [] [.br false,.br false,.br true,.br false,.br false,.br true],.r [] [.br true,.br true,.br false,.br false,.br false,.br true]]) (r:=AV.agg [bv (k==6),bv true,bv (k==3),bv true,bv true,bv true]) Try.func165 (by kernel_rfl) (.c oz0<|.c oz0<|.c oz0<|.c oz3<|.c oz3<|.c oz5<|.c oz0<|.c oz0<|.c oz0<|.c oz3<|.c oz3<|.c oz5<|.c oz12<|.c oz12<|.c oz14<|.c oz12<|.c oz12<|.c oz14<|.c oz12<|.c oz12<|.c oz14<|.c oz0<|.c oz0<|.c oz0<|.c oz12<|.c oz12<|.c oz14<|.n)).weak (WeakL.refl _) (Weak.agg (.cons (Weak.bool (show ((k==6):Bool)=(false) from (by (refine decide_eq_false ?_;omega)))) (.cons (.refl _) (.cons (Weak.bool (show ((k==3):Bool)=(false) from (by (refine decide_eq_false ?_;omega)))) (.cons (.refl _) (.cons (.refl _) (.cons (.refl _) .nil)))))))
theorem of_3 (k:Int) (h:k=3):VC Try.prog 165 ([i64 k]) (.agg [bv false,bv false,bv true,bv true,bv true,bv true]):=by
 have oz0:=(show (k==1)=false by (refine decide_eq_false ?_;omega))
 have oz3:=(show (k==2)=false by (refine decide_eq_false ?_;omega))
 have oz12:=(show (k==4)=false by (refine decide_eq_false ?_;omega))
 have oz15:=(show (k==3) = !false by (refine decide_eq_true ?_;omega))
 have oz18:=(show true = !false by (simp;done))
 have oz20:=z1_
 exact (VC.run (fn:=Try.f165) (W:=[.r [] [],.r [] [.br true,.br true,.br false,.br true,.br true,.br false],.r [] [.br true,.br true,.br false,.br true,.br true,.br false,.br true,.br true,.br false],.r [] [.br false,.br false,.br true,.br false,.br false,.br true],.r [] [.br true,.br true,.br false,.br false,.br false,.br true]]) (r:=AV.agg [bv (k==6),bv (k==5),bv (k==3),bv true,bv (k==3),bv true]) Try.func165 (by kernel_rfl) (.c oz0<|.c oz0<|.c oz0<|.c oz3<|.c oz3<|.c oz3<|.c oz0<|.c oz0<|.c oz0<|.c oz3<|.c oz3<|.c oz3<|.c oz12<|.c oz12<|.c oz12<|.c oz15<|.c oz15<|.c (show (k==3)=true by (refine decide_eq_true ?_;omega))<|.c oz18<|.c oz18<|.c oz20<|.c oz0<|.c oz0<|.c oz0<|.c oz18<|.c oz18<|.c oz20<|.n)).weak (WeakL.refl _) (Weak.agg (.cons (Weak.bool (show ((k==6):Bool)=(false) from (by (refine decide_eq_false ?_;omega)))) (.cons (Weak.bool (show ((k==5):Bool)=(false) from (by (refine decide_eq_false ?_;omega)))) (.cons (Weak.bool (show ((k==3):Bool)=(true) from (by (refine decide_eq_true ?_;omega)))) (.cons (.refl _) (.cons (Weak.bool (show ((k==3):Bool)=(true) from (by (refine decide_eq_true ?_;omega)))) (.cons (.refl _) .nil)))))))
theorem of_4 (k:Int) (h:k=4∨k=5):VC Try.prog 165 ([i64 k]) (.agg [bv false,bv true,bv false,bv false,bv false,bv false]):=by
 have oz0:=(show (k==1)=false by (refine decide_eq_false ?_;omega))
 have oz3:=(show (k==2)=false by (refine decide_eq_false ?_;omega))
 have oz12:=(show (k==3)=false by (refine decide_eq_false ?_;omega))
 have oz15:=(show (k==6)=false by (refine decide_eq_false ?_;omega))
 have oz21:=(show (k==7)=false by (refine decide_eq_false ?_;omega))
 exact (VC.run (fn:=Try.f165) (W:=[.r [] [],.r [] [.br true,.br true,.br false,.br true,.br true,.br false],.r [] [.br true,.br true,.br false,.br true,.br true,.br false,.op false,.op false,.sel 1],.r [] [.br true,.br true,.br false,.br true,.br true,.br false],.r [] [.br true,.br true,.br false,.br true,.br true,.br false]]) (r:=AV.agg [bv (k==6),bv (k==4 || k==5),bv (k==3),bv (k==8),bv (k==3),bv (k==7)]) Try.func165 (by kernel_rfl) (.c oz0<|.c oz0<|.c oz0<|.c oz3<|.c oz3<|.c oz3<|.c oz0<|.c oz0<|.c oz0<|.c oz3<|.c oz3<|.c oz3<|.c oz12<|.c oz12<|.c oz12<|.c oz15<|.c oz15<|.c oz15<|.c oz0<|.c oz0<|.c oz0<|.c oz21<|.c oz21<|.c oz21<|.n)).weak (WeakL.refl _) (Weak.agg (.cons (Weak.bool (show ((k==6):Bool)=(false) from (by (refine decide_eq_false ?_;omega)))) (.cons (Weak.bool (show ((k==4 || k==5):Bool)=(true) from (by (simp;omega)))) (.cons (Weak.bool (show ((k==3):Bool)=(false) from (by (refine decide_eq_false ?_;omega)))) (.cons (Weak.bool (show ((k==8):Bool)=(false) from (by (refine decide_eq_false ?_;omega)))) (.cons (Weak.bool (show ((k==3):Bool)=(false) from (by (refine decide_eq_false ?_;omega)))) (.cons (Weak.bool (show ((k==7):Bool)=(false) from (by (refine decide_eq_false ?_;omega)))) .nil)))))))
theorem of_6 (k:Int) (h:k=6):VC Try.prog 165 ([i64 k]) (.agg [bv true,bv false,bv false,bv true,bv false,bv true]):=by
 have oz0:=(show (k==1)=false by (refine decide_eq_false ?_;omega))
 have oz3:=(show (k==2)=false by (refine decide_eq_false ?_;omega))
 have oz12:=(show (k==4)=false by (refine decide_eq_false ?_;omega))
 have oz15:=(show (k==3)=false by (refine decide_eq_false ?_;omega))
 have oz18:=(show (k==6) = !false by (refine decide_eq_true ?_;omega))
 have oz24:=(show true = !false by (simp;done))
 exact (VC.run (fn:=Try.f165) (W:=[.r [] [],.r [] [.br true,.br true,.br false,.br true,.br true,.br false],.r [] [.br true,.br true,.br false,.br true,.br true,.br false,.br true,.br true,.br false],.r [] [.br true,.br true,.br false,.br false,.br false,.br true],.r [] [.br true,.br true,.br false,.br false,.br false,.br true]]) (r:=AV.agg [bv (k==6),bv (k==5),bv (k==3),bv true,bv (k==3),bv true]) Try.func165 (by kernel_rfl) (.c oz0<|.c oz0<|.c oz0<|.c oz3<|.c oz3<|.c oz3<|.c oz0<|.c oz0<|.c oz0<|.c oz3<|.c oz3<|.c oz3<|.c oz12<|.c oz12<|.c oz12<|.c oz15<|.c oz15<|.c oz15<|.c oz18<|.c oz18<|.c (show (k==6)=true by (refine decide_eq_true ?_;omega))<|.c oz0<|.c oz0<|.c oz0<|.c oz24<|.c oz24<|.c z1_<|.n)).weak (WeakL.refl _) (Weak.agg (.cons (Weak.bool (show ((k==6):Bool)=(true) from (by (refine decide_eq_true ?_;omega)))) (.cons (Weak.bool (show ((k==5):Bool)=(false) from (by (refine decide_eq_false ?_;omega)))) (.cons (Weak.bool (show ((k==3):Bool)=(false) from (by (refine decide_eq_false ?_;omega)))) (.cons (.refl _) (.cons (Weak.bool (show ((k==3):Bool)=(false) from (by (refine decide_eq_false ?_;omega)))) (.cons (.refl _) .nil)))))))
theorem of_7 (k:Int) (h:k=7):VC Try.prog 165 ([i64 k]) (.agg [bv false,bv false,bv false,bv true,bv false,bv true]):=by
 have oz0:=(show (k==1)=false by (refine decide_eq_false ?_;omega))
 have oz3:=(show (k==2)=false by (refine decide_eq_false ?_;omega))
 have oz12:=(show (k==4)=false by (refine decide_eq_false ?_;omega))
 have oz15:=(show (k==3)=false by (refine decide_eq_false ?_;omega))
 have oz18:=(show (k==6)=false by (refine decide_eq_false ?_;omega))
 have oz24:=(show (k==7) = !false by (refine decide_eq_true ?_;omega))
 exact (VC.run (fn:=Try.f165) (W:=[.r [] [],.r [] [.br true,.br true,.br false,.br true,.br true,.br false],.r [] [.br true,.br true,.br false,.br true,.br true,.br false,.br true,.br true,.br false],.r [] [.br true,.br true,.br false,.br true,.br true,.br false],.r [] [.br true,.br true,.br false,.br false,.br false,.br true]]) (r:=AV.agg [bv (k==6),bv (k==5),bv (k==3),bv true,bv (k==3),bv (k==7)]) Try.func165 (by kernel_rfl) (.c oz0<|.c oz0<|.c oz0<|.c oz3<|.c oz3<|.c oz3<|.c oz0<|.c oz0<|.c oz0<|.c oz3<|.c oz3<|.c oz3<|.c oz12<|.c oz12<|.c oz12<|.c oz15<|.c oz15<|.c oz15<|.c oz18<|.c oz18<|.c oz18<|.c oz0<|.c oz0<|.c oz0<|.c oz24<|.c oz24<|.c (show (k==7)=true by (refine decide_eq_true ?_;omega))<|.n)).weak (WeakL.refl _) (Weak.agg (.cons (Weak.bool (show ((k==6):Bool)=(false) from (by (refine decide_eq_false ?_;omega)))) (.cons (Weak.bool (show ((k==5):Bool)=(false) from (by (refine decide_eq_false ?_;omega)))) (.cons (Weak.bool (show ((k==3):Bool)=(false) from (by (refine decide_eq_false ?_;omega)))) (.cons (.refl _) (.cons (Weak.bool (show ((k==3):Bool)=(false) from (by (refine decide_eq_false ?_;omega)))) (.cons (Weak.bool (show ((k==7):Bool)=(true) from (by (refine decide_eq_true ?_;omega)))) .nil)))))))
theorem of_8 (k:Int) (h:k=8):VC Try.prog 165 ([i64 k]) (.agg [bv false,bv false,bv false,bv true,bv false,bv false]):=by
 have oz0:=(show (k==1)=false by (refine decide_eq_false ?_;omega))
 have oz3:=(show (k==2)=false by (refine decide_eq_false ?_;omega))
 have oz12:=(show (k==4)=false by (refine decide_eq_false ?_;omega))
 have oz15:=(show (k==3)=false by (refine decide_eq_false ?_;omega))
 have oz18:=(show (k==6)=false by (refine decide_eq_false ?_;omega))
 have oz24:=(show (k==7)=false by (refine decide_eq_false ?_;omega))
 exact (VC.run (fn:=Try.f165) (W:=[.r [] [],.r [] [.br true,.br true,.br false,.br true,.br true,.br false],.r [] [.br true,.br true,.br false,.br true,.br true,.br false,.br true,.br true,.br false],.r [] [.br true,.br true,.br false,.br true,.br true,.br false],.r [] [.br true,.br true,.br false,.br true,.br true,.br false]]) (r:=AV.agg [bv (k==6),bv (k==5),bv (k==3),bv (k==8),bv (k==3),bv (k==7)]) Try.func165 (by kernel_rfl) (.c oz0<|.c oz0<|.c oz0<|.c oz3<|.c oz3<|.c oz3<|.c oz0<|.c oz0<|.c oz0<|.c oz3<|.c oz3<|.c oz3<|.c oz12<|.c oz12<|.c oz12<|.c oz15<|.c oz15<|.c oz15<|.c oz18<|.c oz18<|.c oz18<|.c oz0<|.c oz0<|.c oz0<|.c oz24<|.c oz24<|.c oz24<|.n)).weak (WeakL.refl _) (Weak.agg (.cons (Weak.bool (show ((k==6):Bool)=(false) from (by (refine decide_eq_false ?_;omega)))) (.cons (Weak.bool (show ((k==5):Bool)=(false) from (by (refine decide_eq_false ?_;omega)))) (.cons (Weak.bool (show ((k==3):Bool)=(false) from (by (refine decide_eq_false ?_;omega)))) (.cons (Weak.bool (show ((k==8):Bool)=(true) from (by (refine decide_eq_true ?_;omega)))) (.cons (Weak.bool (show ((k==3):Bool)=(false) from (by (refine decide_eq_false ?_;omega)))) (.cons (Weak.bool (show ((k==7):Bool)=(false) from (by (refine decide_eq_false ?_;omega)))) .nil)))))))
theorem of_9 (k:Int) (h:k<1∨8<k):VC Try.prog 165 ([i64 k]) (.agg [bv false,bv false,bv false,bv false,bv false,bv false]):=by
 have oz0:=(show (k==1)=false by (refine decide_eq_false ?_;omega))
 have oz3:=(show (k==2)=false by (refine decide_eq_false ?_;omega))
 have oz12:=(show (k==4)=false by (refine decide_eq_false ?_;omega))
 have oz15:=(show (k==3)=false by (refine decide_eq_false ?_;omega))
 have oz18:=(show (k==6)=false by (refine decide_eq_false ?_;omega))
 have oz24:=(show (k==7)=false by (refine decide_eq_false ?_;omega))
 exact (VC.run (fn:=Try.f165) (W:=[.r [] [],.r [] [.br true,.br true,.br false,.br true,.br true,.br false],.r [] [.br true,.br true,.br false,.br true,.br true,.br false,.br true,.br true,.br false],.r [] [.br true,.br true,.br false,.br true,.br true,.br false],.r [] [.br true,.br true,.br false,.br true,.br true,.br false]]) (r:=AV.agg [bv (k==6),bv (k==5),bv (k==3),bv (k==8),bv (k==3),bv (k==7)]) Try.func165 (by kernel_rfl) (.c oz0<|.c oz0<|.c oz0<|.c oz3<|.c oz3<|.c oz3<|.c oz0<|.c oz0<|.c oz0<|.c oz3<|.c oz3<|.c oz3<|.c oz12<|.c oz12<|.c oz12<|.c oz15<|.c oz15<|.c oz15<|.c oz18<|.c oz18<|.c oz18<|.c oz0<|.c oz0<|.c oz0<|.c oz24<|.c oz24<|.c oz24<|.n)).weak (WeakL.refl _) (Weak.agg (.cons (Weak.bool (show ((k==6):Bool)=(false) from (by (refine decide_eq_false ?_;omega)))) (.cons (Weak.bool (show ((k==5):Bool)=(false) from (by (refine decide_eq_false ?_;omega)))) (.cons (Weak.bool (show ((k==3):Bool)=(false) from (by (refine decide_eq_false ?_;omega)))) (.cons (Weak.bool (show ((k==8):Bool)=(false) from (by (refine decide_eq_false ?_;omega)))) (.cons (Weak.bool (show ((k==3):Bool)=(false) from (by (refine decide_eq_false ?_;omega)))) (.cons (Weak.bool (show ((k==7):Bool)=(false) from (by (refine decide_eq_false ?_;omega)))) .nil)))))))
theorem tlists_0 (s:Rst) (n:Nod) (h:s.In):VM Try.prog 168 ([.ifc 169 (.agg [.ptr 100000 0 0]),.ptr 100001 0 9,.ptr 100001 0 10]) ([(100000,.var (rdC s)),(100001,.var (nodC n))]) (.tup []) ([(100000,.var (rdC (widS (cntS (smlS (cntS s 16384) (cntV s 16384)) 16384) (cntV (smlS (cntS s 16384) (cntV s 16384)) 16384)))),(100001,.var (nodC { n with w:=smlV (cntS s 16384) (cntV s 16384),b:=widV (cntS (smlS (cntS s 16384) (cntV s 16384)) 16384) (cntV (smlS (cntS s 16384) (cntV s 16384)) 16384) }))]):=by
 have oz0 := @tnum_1 (s) ((↑(List.map (row1 IntKind.i8) n.w).length:Int)) (16384) h (by omega) (by omega)
 have oz1:=(show MethodIs Try.prog (169:Nat) "stepwell/pack.number" (methF Try.prog (169:Nat) "stepwell/pack.number") from (methodIs (by kernel_rfl)))
 have oz2 := @tsml_w (cntS s 16384) (n) (cntV s 16384) (by (repeat first | exact h | apply cnt_in | apply sml_in))
 have oz4 := @tnum_1 (smlS (cntS s 16384) (cntV s 16384)) ((↑(List.map (row1 IntKind.i32) n.b).length:Int)) (16384) (by (repeat first | exact h | apply cnt_in | apply sml_in)) (by omega) (by omega)
 have oz6 := @twid_b (cntS (smlS (cntS s 16384) (cntV s 16384)) 16384) (Nod.mk n.kd n.na n.nb n.nk n.ns n.np n.no n.za n.zb (smlV (cntS s 16384) (cntV s 16384)) n.b n.qm n.qs n.qz n.rm n.rs n.rz n.lo n.hi) (cntV (smlS (cntS s 16384) (cntV s 16384)) 16384) (by (repeat first | exact h | apply cnt_in | apply sml_in))
 exact VM.run (fn:=Try.f168) (W:=[.r [] [],.r [] [.callm [(100000,100000),(6,100001)] [] (rM oz0) (oM oz0)],.r [] [cn oz2],.r [] [],.r [] [.callm [(100000,100000),(7,100001)] [] (rM oz4) (oM oz4)],.r [] [cn oz6]]) (G:=[.drop [6,7],.sort]) Try.func168 (by kernel_rfl) (.c oz0<|.c oz1<|.c oz2<|.c (show MethodIs Try.prog (169:Nat) "stepwell/pack.small" (methF Try.prog (169:Nat) "stepwell/pack.small") from (methodIs (by kernel_rfl)))<|.c oz4<|.c oz1<|.c oz6<|.c (show MethodIs Try.prog (169:Nat) "stepwell/pack.wides" (methF Try.prog (169:Nat) "stepwell/pack.wides") from (methodIs (by kernel_rfl)))<|.n)
theorem tscale_q (s:Rst) (n:Nod) (h:s.In):VM Try.prog 169 ([.ifc 169 (.agg [.ptr 100000 0 0]),.ptr 100001 0 11]) ([(100000,.var (rdC s)),(100001,.var (nodC n))]) (.tup []) ([(100000,.var (rdC (cntS (cntS s 2147483647) 62))),(100001,.var (nodC { n with qm:=cntV s 2147483647,qs:=cntV (cntS s 2147483647) 62 }))]):=by
 have q := @cntV_rng s 2147483647 h (by decide)
 have oz0 := @tnum_1 (s) (IntKind.i64.wrap n.qm) (2147483647) h (by omega) (by omega)
 have oz1:=(show MethodIs Try.prog (169:Nat) "stepwell/pack.number" (methF Try.prog (169:Nat) "stepwell/pack.number") from (methodIs (by kernel_rfl)))
 have oz4 := @tnum_qs (cntS s 2147483647) (Nod.mk n.kd n.na n.nb n.nk n.ns n.np n.no n.za n.zb n.w n.b (cntV s 2147483647) n.qs n.qz n.rm n.rs n.rz n.lo n.hi) (62) (by (repeat first | exact h | apply cnt_in | apply sml_in)) (by omega) (by omega)
 exact VM.run (fn:=Try.f169) (W:=[.r [] [.w],.r [] [.callm [(100000,100000),(4,100001)] [] (rM oz0) (oM oz0)],.r [] [.n (cntV s 2147483647)],.r [] [cn oz4]]) (G:=[.drop [4],.sort]) Try.func169 (by kernel_rfl) (.c oz0<|.c oz1<|.c (IntWalk.i32_in (cntV s 2147483647) (by omega))<|.c (show NilNo Try.prog (169:Nat) "stepwell/pack.number" from (nilNo (f:=119) (by kernel_rfl)))<|.c oz4<|.c oz1<|.n)
theorem tscale_r (s:Rst) (n:Nod) (h:s.In):VM Try.prog 169 ([.ifc 169 (.agg [.ptr 100000 0 0]),.ptr 100001 0 14]) ([(100000,.var (rdC s)),(100001,.var (nodC n))]) (.tup []) ([(100000,.var (rdC (cntS (cntS s 2147483647) 62))),(100001,.var (nodC { n with rm:=cntV s 2147483647,rs:=cntV (cntS s 2147483647) 62 }))]):=by
 have q := @cntV_rng s 2147483647 h (by decide)
 have oz0 := @tnum_1 (s) (IntKind.i64.wrap n.rm) (2147483647) h (by omega) (by omega)
 have oz1:=(show MethodIs Try.prog (169:Nat) "stepwell/pack.number" (methF Try.prog (169:Nat) "stepwell/pack.number") from (methodIs (by kernel_rfl)))
 have oz4 := @tnum_rs (cntS s 2147483647) (Nod.mk n.kd n.na n.nb n.nk n.ns n.np n.no n.za n.zb n.w n.b n.qm n.qs n.qz (cntV s 2147483647) n.rs n.rz n.lo n.hi) (62) (by (repeat first | exact h | apply cnt_in | apply sml_in)) (by omega) (by omega)
 exact VM.run (fn:=Try.f169) (W:=[.r [] [.w],.r [] [.callm [(100000,100000),(4,100001)] [] (rM oz0) (oM oz0)],.r [] [.n (cntV s 2147483647)],.r [] [cn oz4]]) (G:=[.drop [4],.sort]) Try.func169 (by kernel_rfl) (.c oz0<|.c oz1<|.c (IntWalk.i32_in (cntV s 2147483647) (by omega))<|.c (show NilNo Try.prog (169:Nat) "stepwell/pack.number" from (nilNo (f:=119) (by kernel_rfl)))<|.c oz4<|.c oz1<|.n)
theorem tside_nb (s:Rst) (n:Nod) (h:s.In):VM Try.prog 209 ([bv true,.ptr 100001 0 2,.ptr 100002 0 0]) ([(100000,.var (rdC s)),(100001,.var (nodC n)),(100002,.var [.ifc 169 (.agg [.ptr 100000 0 0])])]) (.tup []) ([(100000,.var (rdC (cntS s 1024))),(100001,.var (nodC { n with nb:=cntV s 1024 })),(100002,.var [.ifc 169 (.agg [.ptr 100000 0 0])])]):=by
 have oz1 := @tnum_nb (s) (n) (1024) h (by omega) (by omega)
 exact VM.run (fn:=Try.f209) (W:=[.r [] [],.br true,.r [] [cn oz1]]) (G:=[.sort]) Try.func209 (by kernel_rfl) (.c z1_<|.c oz1<|.c (show MethodIs Try.prog (169:Nat) "stepwell/pack.number" (methF Try.prog (169:Nat) "stepwell/pack.number") from (methodIs (by kernel_rfl)))<|.n)
theorem lside_nb (B:List Int) (L:Int→List Int) (n:Nod) (hB:B.length≤1000000) (hL:Puts L):VM Try.prog 209 ([bv true,.ptr 100001 0 2,.ptr 100002 0 0]) ([(950,.slc 5 1 (B.map (row1 .u8))),(100000,.var [.own 950]),(100001,.var (nodC n)),(100002,.var [.ifc 160 (.ptr 100000 0 0)])]) (.tup []) ([(951,.slc 5 1 ((B++L n.nb).map (row1 .u8))),(100000,.var [.own 951]),(100001,.var (nodC n)),(100002,.var [.ifc 160 (.ptr 100000 0 0)])]):=by
 have oz1 := @lnum_nb (B) (L) (n) (1024) hB hL
 exact VM.run (fn:=Try.f209) (W:=[.r [] [],.br true,.r [] [.callm [(950,950),(100000,100000),(100001,100001)] [(951,20000)] (rM oz1) (oM oz1)]]) (G:=[.ren 20000 951,.sort]) Try.func209 (by kernel_rfl) (.c z1_<|.c oz1<|.c (show MethodIs Try.prog (160:Nat) "stepwell/pack.number" (methF Try.prog (160:Nat) "stepwell/pack.number") from (methodIs (by kernel_rfl)))<|.n)
theorem tside_nk (s:Rst) (n:Nod) (h:s.In):VM Try.prog 209 ([bv true,.ptr 100001 0 3,.ptr 100002 0 0]) ([(100000,.var (rdC s)),(100001,.var (nodC n)),(100002,.var [.ifc 169 (.agg [.ptr 100000 0 0])])]) (.tup []) ([(100000,.var (rdC (cntS s 1024))),(100001,.var (nodC { n with nk:=cntV s 1024 })),(100002,.var [.ifc 169 (.agg [.ptr 100000 0 0])])]):=by
 have oz1 := @tnum_nk (s) (n) (1024) h (by omega) (by omega)
 exact VM.run (fn:=Try.f209) (W:=[.r [] [],.br true,.r [] [cn oz1]]) (G:=[.sort]) Try.func209 (by kernel_rfl) (.c z1_<|.c oz1<|.c (show MethodIs Try.prog (169:Nat) "stepwell/pack.number" (methF Try.prog (169:Nat) "stepwell/pack.number") from (methodIs (by kernel_rfl)))<|.n)
theorem lside_nk (B:List Int) (L:Int→List Int) (n:Nod) (hB:B.length≤1000000) (hL:Puts L):VM Try.prog 209 ([bv true,.ptr 100001 0 3,.ptr 100002 0 0]) ([(950,.slc 5 1 (B.map (row1 .u8))),(100000,.var [.own 950]),(100001,.var (nodC n)),(100002,.var [.ifc 160 (.ptr 100000 0 0)])]) (.tup []) ([(951,.slc 5 1 ((B++L n.nk).map (row1 .u8))),(100000,.var [.own 951]),(100001,.var (nodC n)),(100002,.var [.ifc 160 (.ptr 100000 0 0)])]):=by
 have oz1 := @lnum_nk (B) (L) (n) (1024) hB hL
 exact VM.run (fn:=Try.f209) (W:=[.r [] [],.br true,.r [] [.callm [(950,950),(100000,100000),(100001,100001)] [(951,20000)] (rM oz1) (oM oz1)]]) (G:=[.ren 20000 951,.sort]) Try.func209 (by kernel_rfl) (.c z1_<|.c oz1<|.c (show MethodIs Try.prog (160:Nat) "stepwell/pack.number" (methF Try.prog (160:Nat) "stepwell/pack.number") from (methodIs (by kernel_rfl)))<|.n)
theorem tside_ns (s:Rst) (n:Nod) (h:s.In):VM Try.prog 209 ([bv true,.ptr 100001 0 4,.ptr 100002 0 0]) ([(100000,.var (rdC s)),(100001,.var (nodC n)),(100002,.var [.ifc 169 (.agg [.ptr 100000 0 0])])]) (.tup []) ([(100000,.var (rdC (cntS s 1024))),(100001,.var (nodC { n with ns:=cntV s 1024 })),(100002,.var [.ifc 169 (.agg [.ptr 100000 0 0])])]):=by
 have oz1 := @tnum_ns (s) (n) (1024) h (by omega) (by omega)
 exact VM.run (fn:=Try.f209) (W:=[.r [] [],.br true,.r [] [cn oz1]]) (G:=[.sort]) Try.func209 (by kernel_rfl) (.c z1_<|.c oz1<|.c (show MethodIs Try.prog (169:Nat) "stepwell/pack.number" (methF Try.prog (169:Nat) "stepwell/pack.number") from (methodIs (by kernel_rfl)))<|.n)
theorem lside_ns (B:List Int) (L:Int→List Int) (n:Nod) (hB:B.length≤1000000) (hL:Puts L):VM Try.prog 209 ([bv true,.ptr 100001 0 4,.ptr 100002 0 0]) ([(950,.slc 5 1 (B.map (row1 .u8))),(100000,.var [.own 950]),(100001,.var (nodC n)),(100002,.var [.ifc 160 (.ptr 100000 0 0)])]) (.tup []) ([(951,.slc 5 1 ((B++L n.ns).map (row1 .u8))),(100000,.var [.own 951]),(100001,.var (nodC n)),(100002,.var [.ifc 160 (.ptr 100000 0 0)])]):=by
 have oz1 := @lnum_ns (B) (L) (n) (1024) hB hL
 exact VM.run (fn:=Try.f209) (W:=[.r [] [],.br true,.r [] [.callm [(950,950),(100000,100000),(100001,100001)] [(951,20000)] (rM oz1) (oM oz1)]]) (G:=[.ren 20000 951,.sort]) Try.func209 (by kernel_rfl) (.c z1_<|.c oz1<|.c (show MethodIs Try.prog (160:Nat) "stepwell/pack.number" (methF Try.prog (160:Nat) "stepwell/pack.number") from (methodIs (by kernel_rfl)))<|.n)
theorem tside_np (s:Rst) (n:Nod) (h:s.In):VM Try.prog 209 ([bv true,.ptr 100001 0 5,.ptr 100002 0 0]) ([(100000,.var (rdC s)),(100001,.var (nodC n)),(100002,.var [.ifc 169 (.agg [.ptr 100000 0 0])])]) (.tup []) ([(100000,.var (rdC (cntS s 1024))),(100001,.var (nodC { n with np:=cntV s 1024 })),(100002,.var [.ifc 169 (.agg [.ptr 100000 0 0])])]):=by
 have oz1 := @tnum_np (s) (n) (1024) h (by omega) (by omega)
 exact VM.run (fn:=Try.f209) (W:=[.r [] [],.br true,.r [] [cn oz1]]) (G:=[.sort]) Try.func209 (by kernel_rfl) (.c z1_<|.c oz1<|.c (show MethodIs Try.prog (169:Nat) "stepwell/pack.number" (methF Try.prog (169:Nat) "stepwell/pack.number") from (methodIs (by kernel_rfl)))<|.n)
theorem lside_np (B:List Int) (L:Int→List Int) (n:Nod) (hB:B.length≤1000000) (hL:Puts L):VM Try.prog 209 ([bv true,.ptr 100001 0 5,.ptr 100002 0 0]) ([(950,.slc 5 1 (B.map (row1 .u8))),(100000,.var [.own 950]),(100001,.var (nodC n)),(100002,.var [.ifc 160 (.ptr 100000 0 0)])]) (.tup []) ([(951,.slc 5 1 ((B++L n.np).map (row1 .u8))),(100000,.var [.own 951]),(100001,.var (nodC n)),(100002,.var [.ifc 160 (.ptr 100000 0 0)])]):=by
 have oz1 := @lnum_np (B) (L) (n) (1024) hB hL
 exact VM.run (fn:=Try.f209) (W:=[.r [] [],.br true,.r [] [.callm [(950,950),(100000,100000),(100001,100001)] [(951,20000)] (rM oz1) (oM oz1)]]) (G:=[.ren 20000 951,.sort]) Try.func209 (by kernel_rfl) (.c z1_<|.c oz1<|.c (show MethodIs Try.prog (160:Nat) "stepwell/pack.number" (methF Try.prog (160:Nat) "stepwell/pack.number") from (methodIs (by kernel_rfl)))<|.n)
theorem tside_no (s:Rst) (n:Nod) (h:s.In):VM Try.prog 209 ([bv true,.ptr 100001 0 6,.ptr 100002 0 0]) ([(100000,.var (rdC s)),(100001,.var (nodC n)),(100002,.var [.ifc 169 (.agg [.ptr 100000 0 0])])]) (.tup []) ([(100000,.var (rdC (cntS s 1024))),(100001,.var (nodC { n with no:=cntV s 1024 })),(100002,.var [.ifc 169 (.agg [.ptr 100000 0 0])])]):=by
 have oz1 := @tnum_no (s) (n) (1024) h (by omega) (by omega)
 exact VM.run (fn:=Try.f209) (W:=[.r [] [],.br true,.r [] [cn oz1]]) (G:=[.sort]) Try.func209 (by kernel_rfl) (.c z1_<|.c oz1<|.c (show MethodIs Try.prog (169:Nat) "stepwell/pack.number" (methF Try.prog (169:Nat) "stepwell/pack.number") from (methodIs (by kernel_rfl)))<|.n)
theorem lside_no (B:List Int) (L:Int→List Int) (n:Nod) (hB:B.length≤1000000) (hL:Puts L):VM Try.prog 209 ([bv true,.ptr 100001 0 6,.ptr 100002 0 0]) ([(950,.slc 5 1 (B.map (row1 .u8))),(100000,.var [.own 950]),(100001,.var (nodC n)),(100002,.var [.ifc 160 (.ptr 100000 0 0)])]) (.tup []) ([(951,.slc 5 1 ((B++L n.no).map (row1 .u8))),(100000,.var [.own 951]),(100001,.var (nodC n)),(100002,.var [.ifc 160 (.ptr 100000 0 0)])]):=by
 have oz1 := @lnum_no (B) (L) (n) (1024) hB hL
 exact VM.run (fn:=Try.f209) (W:=[.r [] [],.br true,.r [] [.callm [(950,950),(100000,100000),(100001,100001)] [(951,20000)] (rM oz1) (oM oz1)]]) (G:=[.ren 20000 951,.sort]) Try.func209 (by kernel_rfl) (.c z1_<|.c oz1<|.c (show MethodIs Try.prog (160:Nat) "stepwell/pack.number" (methF Try.prog (160:Nat) "stepwell/pack.number") from (methodIs (by kernel_rfl)))<|.n)
theorem side_n   : VM Try.prog 209 ([bv false,.any,.any]) ([]) (.tup []) ([]):=by
 exact VM.run (fn:=Try.f209) (W:=[.r [] [],.br false]) (G:=[.sort]) Try.func209 (by kernel_rfl) (.c z0_<|.n)
theorem small1 (x:Int):smallL [x]=[IntKind.u8.wrap x]:=by simp [smallL,IntKind.wrap_u8']
theorem lsml_1 (B:List Int) (x m:Int) (hB:B.length≤1000000):VM Try.prog 256 ([.ptr 100000 0 0,.ptr 100001 0 0,i64 m]) ([(950,.slc 5 1 (B.map (row1 .u8))),(951,.slc 30 1 ([x].map (row1 .i8))),(100000,.var [.own 950]),(100001,.var [.own 951])]) (.tup []) ([(951,.slc 5 1 ((B++[IntKind.u8.wrap x]).map (row1 .u8))),(100000,.var [.own 951]),(100001,.var [.sl 1 ([x].map (row1 .i8))])]):=by
 have e1:=small1 x
 have oz1 := @small_v ([x]) (by (simp;done))
 exact VM.run (fn:=Try.f256) (W:=[.r [.frz 951] [.call (aO oz1) (rO oz1)]]) (G:=[.ren 15 951,.blk 951 (Blk.slc 5 1 (List.map (row1 IntKind.u8) (B++[IntKind.u8.wrap x]))),.sort]) Try.func256 (by kernel_rfl) (.c (show WeakL [AV.sl 1 [[i8 x]]] [AV.sl 1 [[i8 x]]] from (.cons (Weak.rows (rows_to (row1 IntKind.i8) (r:=[[i8 x]]) (l:=[x]) (m:=[x]) (by first|(simp;done)|rfl|(simp;rfl)) rfl)) .nil))<|.c oz1<|.c (show ((List.map (row1 IntKind.u8) B).length+1)*1≤140737488355328 by (simp only [List.length_map];omega))<|.c (show (List.map (row1 IntKind.u8) B).length+1≤9223372036854775807 by (simp only [List.length_map];omega))<|.c (show BlkW (Blk.slc 5 1 (List.map (row1 IntKind.u8) B++[[u8 (x % 256)]])) (Blk.slc 5 1 (List.map (row1 IntKind.u8) (B++[IntKind.u8.wrap x]))) from (BlkW.rows (e:=5) (z:=1) (rows_to (row1 IntKind.u8) (r:=List.map (row1 IntKind.u8) B++[[u8 (x % 256)]]) (l:=B++[x % 256]) (m:=B++[IntKind.u8.wrap x]) (by first|(simp;done)|rfl|(simp;rfl)) (show (B++[x % 256])=(B++[IntKind.u8.wrap x]) from (by (simp [IntKind.wrap_u8'];done))))))<|.n)
theorem lone_za (B:List Int) (n:Nod) (hB:B.length≤1000000):VM Try.prog 167 ([.ifc 160 (.ptr 100000 0 0),.ptr 100001 0 7]) ([(950,.slc 5 1 (B.map (row1 .u8))),(100000,.var [.own 950]),(100001,.var (nodC n))]) (.tup []) ([(951,.slc 5 1 ((B++[w8 n.za]).map (row1 .u8))),(100000,.var [.own 951]),(100001,.var (nodC n))]):=by
 have oz0 := @lsml_1 (B) (n.za) (1) hB
 exact VM.run (fn:=Try.f167) (W:=[.r [] [],.r [] [.callm [(950,950),(8,951),(100000,100000),(4,100001)] [(951,20000)] (rM oz0) (oM oz0)],.r [] [],.br true,.r [] [.row [i8 n.za]]]) (G:=[.drop [4],.ren 20000 951,.sort]) Try.func167 (by kernel_rfl) (.c oz0<|.c (show MethodIs Try.prog (160:Nat) "stepwell/pack.small" (methF Try.prog (160:Nat) "stepwell/pack.small") from (methodIs (by kernel_rfl)))<|.c (show ((↑1:Int)==1)=true by (refine decide_eq_true ?_;omega))<|.c z2_<|.c (show [[i8 n.za]][Int.toNat 0]? = some [i8 n.za] from rfl)<|.n)
theorem lone_zb (B:List Int) (n:Nod) (hB:B.length≤1000000):VM Try.prog 167 ([.ifc 160 (.ptr 100000 0 0),.ptr 100001 0 8]) ([(950,.slc 5 1 (B.map (row1 .u8))),(100000,.var [.own 950]),(100001,.var (nodC n))]) (.tup []) ([(951,.slc 5 1 ((B++[w8 n.zb]).map (row1 .u8))),(100000,.var [.own 951]),(100001,.var (nodC n))]):=by
 have oz0 := @lsml_1 (B) (n.zb) (1) hB
 exact VM.run (fn:=Try.f167) (W:=[.r [] [],.r [] [.callm [(950,950),(8,951),(100000,100000),(4,100001)] [(951,20000)] (rM oz0) (oM oz0)],.r [] [],.br true,.r [] [.row [i8 n.zb]]]) (G:=[.drop [4],.ren 20000 951,.sort]) Try.func167 (by kernel_rfl) (.c oz0<|.c (show MethodIs Try.prog (160:Nat) "stepwell/pack.small" (methF Try.prog (160:Nat) "stepwell/pack.small") from (methodIs (by kernel_rfl)))<|.c (show ((↑1:Int)==1)=true by (refine decide_eq_true ?_;omega))<|.c z2_<|.c (show [[i8 n.zb]][Int.toNat 0]? = some [i8 n.zb] from rfl)<|.n)
theorem lone_qz (B:List Int) (n:Nod) (hB:B.length≤1000000):VM Try.prog 167 ([.ifc 160 (.ptr 100000 0 0),.ptr 100001 0 13]) ([(950,.slc 5 1 (B.map (row1 .u8))),(100000,.var [.own 950]),(100001,.var (nodC n))]) (.tup []) ([(951,.slc 5 1 ((B++[w8 n.qz]).map (row1 .u8))),(100000,.var [.own 951]),(100001,.var (nodC n))]):=by
 have oz0 := @lsml_1 (B) (n.qz) (1) hB
 exact VM.run (fn:=Try.f167) (W:=[.r [] [],.r [] [.callm [(950,950),(8,951),(100000,100000),(4,100001)] [(951,20000)] (rM oz0) (oM oz0)],.r [] [],.br true,.r [] [.row [i8 n.qz]]]) (G:=[.drop [4],.ren 20000 951,.sort]) Try.func167 (by kernel_rfl) (.c oz0<|.c (show MethodIs Try.prog (160:Nat) "stepwell/pack.small" (methF Try.prog (160:Nat) "stepwell/pack.small") from (methodIs (by kernel_rfl)))<|.c (show ((↑1:Int)==1)=true by (refine decide_eq_true ?_;omega))<|.c z2_<|.c (show [[i8 n.qz]][Int.toNat 0]? = some [i8 n.qz] from rfl)<|.n)
theorem lone_lo (B:List Int) (n:Nod) (hB:B.length≤1000000):VM Try.prog 167 ([.ifc 160 (.ptr 100000 0 0),.ptr 100001 0 17]) ([(950,.slc 5 1 (B.map (row1 .u8))),(100000,.var [.own 950]),(100001,.var (nodC n))]) (.tup []) ([(951,.slc 5 1 ((B++[w8 n.lo]).map (row1 .u8))),(100000,.var [.own 951]),(100001,.var (nodC n))]):=by
 have oz0 := @lsml_1 (B) (n.lo) (1) hB
 exact VM.run (fn:=Try.f167) (W:=[.r [] [],.r [] [.callm [(950,950),(8,951),(100000,100000),(4,100001)] [(951,20000)] (rM oz0) (oM oz0)],.r [] [],.br true,.r [] [.row [i8 n.lo]]]) (G:=[.drop [4],.ren 20000 951,.sort]) Try.func167 (by kernel_rfl) (.c oz0<|.c (show MethodIs Try.prog (160:Nat) "stepwell/pack.small" (methF Try.prog (160:Nat) "stepwell/pack.small") from (methodIs (by kernel_rfl)))<|.c (show ((↑1:Int)==1)=true by (refine decide_eq_true ?_;omega))<|.c z2_<|.c (show [[i8 n.lo]][Int.toNat 0]? = some [i8 n.lo] from rfl)<|.n)
theorem lone_hi (B:List Int) (n:Nod) (hB:B.length≤1000000):VM Try.prog 167 ([.ifc 160 (.ptr 100000 0 0),.ptr 100001 0 18]) ([(950,.slc 5 1 (B.map (row1 .u8))),(100000,.var [.own 950]),(100001,.var (nodC n))]) (.tup []) ([(951,.slc 5 1 ((B++[w8 n.hi]).map (row1 .u8))),(100000,.var [.own 951]),(100001,.var (nodC n))]):=by
 have oz0 := @lsml_1 (B) (n.hi) (1) hB
 exact VM.run (fn:=Try.f167) (W:=[.r [] [],.r [] [.callm [(950,950),(8,951),(100000,100000),(4,100001)] [(951,20000)] (rM oz0) (oM oz0)],.r [] [],.br true,.r [] [.row [i8 n.hi]]]) (G:=[.drop [4],.ren 20000 951,.sort]) Try.func167 (by kernel_rfl) (.c oz0<|.c (show MethodIs Try.prog (160:Nat) "stepwell/pack.small" (methF Try.prog (160:Nat) "stepwell/pack.small") from (methodIs (by kernel_rfl)))<|.c (show ((↑1:Int)==1)=true by (refine decide_eq_true ?_;omega))<|.c z2_<|.c (show [[i8 n.hi]][Int.toNat 0]? = some [i8 n.hi] from rfl)<|.n)
theorem lscale_q (B:List Int) (L:Int→List Int) (n:Nod) (hB:B.length≤900000) (hL:Puts L) (hq:In32 n.qm):VM Try.prog 169 ([.ifc 160 (.ptr 100000 0 0),.ptr 100001 0 11]) ([(950,.slc 5 1 (B.map (row1 .u8))),(100000,.var [.own 950]),(100001,.var (nodC n))]) (.tup []) ([(951,.slc 5 1 ((B++L n.qm++L n.qs).map (row1 .u8))),(100000,.var [.own 951]),(100001,.var (nodC n))]):=by
 have q1:=hL.l n.qm
 have q2:(B++L n.qm).length=B.length+(L n.qm).length:=lla
 have oz1 := @lnum_1 (B) (L) (n.qm) (2147483647) (by omega) hL
 have oz2:=(show MethodIs Try.prog (160:Nat) "stepwell/pack.number" (methF Try.prog (160:Nat) "stepwell/pack.number") from (methodIs (by kernel_rfl)))
 have oz5 := @lnum_qs (B++L n.qm) (L) (n) (62) (by omega) hL
 exact VM.run (fn:=Try.f169) (W:=[.r [] [.n n.qm],.r [] [.callm [(950,950),(100000,100000),(4,100001)] [(951,20000)] (rM oz1) (oM oz1)],.r [] [.n n.qm],.r [] [.callm [(20000,950),(100000,100000),(100001,100001)] [(951,20001)] (rM oz5) (oM oz5)]]) (G:=[.drop [4],.ren 20001 951,.sort]) Try.func169 (by kernel_rfl) (.c (i6n n.qm (by omega))<|.c oz1<|.c oz2<|.c (IntWalk.i32_in n.qm (by omega))<|.c (show NilNo Try.prog (160:Nat) "stepwell/pack.number" from (nilNo (f:=114) (by kernel_rfl)))<|.c oz5<|.c oz2<|.n)
theorem lscale_r (B:List Int) (L:Int→List Int) (n:Nod) (hB:B.length≤900000) (hL:Puts L) (hq:In32 n.rm):VM Try.prog 169 ([.ifc 160 (.ptr 100000 0 0),.ptr 100001 0 14]) ([(950,.slc 5 1 (B.map (row1 .u8))),(100000,.var [.own 950]),(100001,.var (nodC n))]) (.tup []) ([(951,.slc 5 1 ((B++L n.rm++L n.rs).map (row1 .u8))),(100000,.var [.own 951]),(100001,.var (nodC n))]):=by
 have q1:=hL.l n.rm
 have q2:(B++L n.rm).length=B.length+(L n.rm).length:=lla
 have oz1 := @lnum_1 (B) (L) (n.rm) (2147483647) (by omega) hL
 have oz2:=(show MethodIs Try.prog (160:Nat) "stepwell/pack.number" (methF Try.prog (160:Nat) "stepwell/pack.number") from (methodIs (by kernel_rfl)))
 have oz5 := @lnum_rs (B++L n.rm) (L) (n) (62) (by omega) hL
 exact VM.run (fn:=Try.f169) (W:=[.r [] [.n n.rm],.r [] [.callm [(950,950),(100000,100000),(4,100001)] [(951,20000)] (rM oz1) (oM oz1)],.r [] [.n n.rm],.r [] [.callm [(20000,950),(100000,100000),(100001,100001)] [(951,20001)] (rM oz5) (oM oz5)]]) (G:=[.drop [4],.ren 20001 951,.sort]) Try.func169 (by kernel_rfl) (.c (i6n n.rm (by omega))<|.c oz1<|.c oz2<|.c (IntWalk.i32_in n.rm (by omega))<|.c (show NilNo Try.prog (160:Nat) "stepwell/pack.number" from (nilNo (f:=114) (by kernel_rfl)))<|.c oz5<|.c oz2<|.n)
theorem llists_v (B:List Int) (L:Int→List Int) (n:Nod) (hB:B.length≤500000) (hL:Puts L) (hw:n.w.length≤100000) (hb:n.b.length≤16384) (hx:∀ x∈n.b,-2147483648≤x∧x≤2147483647):VM Try.prog 168 ([.ifc 160 (.ptr 100000 0 0),.ptr 100001 0 9,.ptr 100001 0 10]) ([(950,.slc 5 1 (B.map (row1 .u8))),(100000,.var [.own 950]),(100001,.var (nodC n))]) (.tup []) ([(951,.slc 5 1 ((B++L (n.w.length:Int)++smallL n.w++L (n.b.length:Int)++wideL n.b).map (row1 .u8))),(100000,.var [.own 951]),(100001,.var (nodC n))]):=by
 have q1:=hL.l (n.w.length:Int)
 have q3:=hL.l (n.b.length:Int)
 have q2:(smallL n.w).length=n.w.length:=List.length_map _
 have q4:(B++L (n.w.length:Int)).length=B.length+(L (n.w.length:Int)).length:=lla
 have q5:(B++L (n.w.length:Int)++smallL n.w).length=B.length+(L (n.w.length:Int)).length+n.w.length:=by rw [lla,q4,q2]
 have q6:(B++L (n.w.length:Int)++smallL n.w++L (n.b.length:Int)).length=B.length+(L (n.w.length:Int)).length+n.w.length+(L (n.b.length:Int)).length:=by rw [lla,q5]
 have oz0 := @lnum_1 (B) (L) ((↑(List.map (row1 IntKind.i8) n.w).length:Int)) (16384) (by omega) hL
 have oz1:=(show MethodIs Try.prog (160:Nat) "stepwell/pack.number" (methF Try.prog (160:Nat) "stepwell/pack.number") from (methodIs (by kernel_rfl)))
 have oz2 := @lsml_w (B++L (↑(List.map (row1 IntKind.i8) n.w).length:Int)) (n) ((↑(List.map (row1 IntKind.i8) n.w).length:Int)) (by (simp only [List.length_map];omega)) hw
 have oz4 := @lnum_1 (B++L (↑(List.map (row1 IntKind.i8) n.w).length:Int)++smallL n.w) (L) ((↑(List.map (row1 IntKind.i32) n.b).length:Int)) (16384) (by (simp only [List.length_map];omega)) hL
 have oz6 := @lwid_b (B++L (↑(List.map (row1 IntKind.i8) n.w).length:Int)++smallL n.w++L (↑(List.map (row1 IntKind.i32) n.b).length:Int)) (n) ((↑(List.map (row1 IntKind.i32) n.b).length:Int)) (by (simp only [List.length_map];omega)) (by omega) hx
 exact VM.run (fn:=Try.f168) (W:=[.r [] [],.r [] [.callm [(950,950),(100000,100000),(6,100001)] [(951,20000)] (rM oz0) (oM oz0)],.r [] [.callm [(20000,950),(100000,100000),(100001,100001)] [(951,20001)] (rM oz2) (oM oz2)],.r [] [],.r [] [.callm [(20001,950),(100000,100000),(7,100001)] [(951,20002)] (rM oz4) (oM oz4)],.r [] [.callm [(20002,950),(100000,100000),(100001,100001)] [(951,20003)] (rM oz6) (oM oz6)]]) (G:=[.drop [6,7],.ren 20003 951,.blk 951 (Blk.slc 5 1 (List.map (row1 IntKind.u8) (B++L (↑n.w.length:Int)++smallL n.w++L (↑n.b.length:Int)++wideL n.b))),.sort]) Try.func168 (by kernel_rfl) (.c oz0<|.c oz1<|.c oz2<|.c (show MethodIs Try.prog (160:Nat) "stepwell/pack.small" (methF Try.prog (160:Nat) "stepwell/pack.small") from (methodIs (by kernel_rfl)))<|.c oz4<|.c oz1<|.c oz6<|.c (show MethodIs Try.prog (160:Nat) "stepwell/pack.wides" (methF Try.prog (160:Nat) "stepwell/pack.wides") from (methodIs (by kernel_rfl)))<|.c (show BlkW (Blk.slc 5 1 (List.map (row1 IntKind.u8) (B++L (↑(List.map (row1 IntKind.i8) n.w).length:Int)++smallL n.w++L (↑(List.map (row1 IntKind.i32) n.b).length:Int)++wideL n.b))) (Blk.slc 5 1 (List.map (row1 IntKind.u8) (B++L (↑n.w.length:Int)++smallL n.w++L (↑n.b.length:Int)++wideL n.b))) from (BlkW.rows (e:=5) (z:=1) (rows_to (row1 IntKind.u8) (r:=List.map (row1 IntKind.u8) (B++L (↑(List.map (row1 IntKind.i8) n.w).length:Int)++smallL n.w++L (↑(List.map (row1 IntKind.i32) n.b).length:Int)++wideL n.b)) (l:=B++L (↑(List.map (row1 IntKind.i8) n.w).length:Int)++smallL n.w++L (↑(List.map (row1 IntKind.i32) n.b).length:Int)++wideL n.b) (m:=B++L (↑n.w.length:Int)++smallL n.w++L (↑n.b.length:Int)++wideL n.b) rfl (show (B++L (↑(List.map (row1 IntKind.i8) n.w).length:Int)++smallL n.w++L (↑(List.map (row1 IntKind.i32) n.b).length:Int)++wideL n.b)=(B++L (↑n.w.length:Int)++smallL n.w++L (↑n.b.length:Int)++wideL n.b) from (by (simp;done))))))<|.n)
theorem lsides_1 (B:List Int) (L:Int→List Int) (n:Nod) (hB:B.length≤900000) (hL:Puts L) (hk:n.kd=1):VM Try.prog 166 ([.ifc 160 (.ptr 100000 0 0),.ptr 100001 0 0,.agg [bv false,bv true,bv true,bv true,bv true,bv true]]) ([(950,.slc 5 1 (B.map (row1 .u8))),(100000,.var [.own 950]),(100001,.var (nodC n))]) (.tup []) ([(951,.slc 5 1 ((B++L n.nk++L n.ns++L n.np++L n.no).map (row1 .u8))),(100000,.var [.own 951]),(100001,.var (nodC n))]):=by
 have q0:=hL.l n.nk
 have r0:(B++L n.nk).length=B.length+(L n.nk).length:=by rw [lla]
 have q1:=hL.l n.ns
 have r1:(B++L n.nk++L n.ns).length=B.length+(L n.nk).length+(L n.ns).length:=by rw [lla,r0]
 have q2:=hL.l n.np
 have r2:(B++L n.nk++L n.ns++L n.np).length=B.length+(L n.nk).length+(L n.ns).length+(L n.np).length:=by rw [lla,r1]
 have q3:=hL.l n.no
 have r3:(B++L n.nk++L n.ns++L n.np++L n.no).length=B.length+(L n.nk).length+(L n.ns).length+(L n.np).length+(L n.no).length:=by rw [lla,r2]
 have oz0 := @side_n
 have oz1 := @lside_nk (B) (L) (n) (by omega) hL
 have oz2 := @lside_ns (B++L n.nk) (L) (n) (by omega) hL
 have oz3:=(show true = !false by (simp;done))
 have oz9 := @lside_np (B++L n.nk++L n.ns) (L) (n) (by omega) hL
 have oz10 := @lside_no (B++L n.nk++L n.ns++L n.np) (L) (n) (by omega) hL
 exact VM.run (fn:=Try.f166) (W:=[.r [] [],.r [] [],.r [] [.callm [] [] (rM oz0) (oM oz0)],.r [] [.callm [(950,950),(100000,100000),(100001,100001),(3,100002)] [(951,20000)] (rM oz1) (oM oz1)],.r [] [.callm [(20000,950),(100000,100000),(100001,100001),(3,100002)] [(951,20001)] (rM oz2) (oM oz2)],.r [] [.br false,.br false,.br false,.br false,.br false,.br true,.callm [(20001,950),(100000,100000),(100001,100001),(3,100002)] [(951,20002)] (rM oz9) (oM oz9)],.r [] [.callm [(20002,950),(100000,100000),(100001,100001),(3,100002)] [(951,20003)] (rM oz10) (oM oz10)]]) (G:=[.drop [5,3],.ren 20003 951,.sort]) Try.func166 (by kernel_rfl) (.c oz0<|.c oz1<|.c oz2<|.c oz3<|.c oz3<|.c oz3<|.c oz3<|.c oz3<|.c z1_<|.c oz9<|.c oz10<|.n)
theorem lsides_2 (B:List Int) (L:Int→List Int) (n:Nod) (hB:B.length≤900000) (hL:Puts L) (hk:n.kd=2):VM Try.prog 166 ([.ifc 160 (.ptr 100000 0 0),.ptr 100001 0 0,.agg [bv false,bv true,bv false,bv true,bv true,bv true]]) ([(950,.slc 5 1 (B.map (row1 .u8))),(100000,.var [.own 950]),(100001,.var (nodC n))]) (.tup []) ([(951,.slc 5 1 ((B++L n.nk++L n.ns++L n.np).map (row1 .u8))),(100000,.var [.own 951]),(100001,.var (nodC n))]):=by
 have q0:=hL.l n.nk
 have r0:(B++L n.nk).length=B.length+(L n.nk).length:=by rw [lla]
 have q1:=hL.l n.ns
 have r1:(B++L n.nk++L n.ns).length=B.length+(L n.nk).length+(L n.ns).length:=by rw [lla,r0]
 have q2:=hL.l n.np
 have r2:(B++L n.nk++L n.ns++L n.np).length=B.length+(L n.nk).length+(L n.ns).length+(L n.np).length:=by rw [lla,r1]
 have oz0 := @side_n
 have oz1 := @lside_nk (B) (L) (n) (by omega) hL
 have oz2 := @lside_ns (B++L n.nk) (L) (n) (by omega) hL
 have oz3:=(show true = !false by (simp;done))
 have oz9 := @lside_np (B++L n.nk++L n.ns) (L) (n) (by omega) hL
 exact VM.run (fn:=Try.f166) (W:=[.r [] [],.r [] [],.r [] [.callm [] [] (rM oz0) (oM oz0)],.r [] [.callm [(950,950),(100000,100000),(100001,100001),(3,100002)] [(951,20000)] (rM oz1) (oM oz1)],.r [] [.callm [(20000,950),(100000,100000),(100001,100001),(3,100002)] [(951,20001)] (rM oz2) (oM oz2)],.r [] [.br false,.br false,.br false,.br false,.br false,.br true,.callm [(20001,950),(100000,100000),(100001,100001),(3,100002)] [(951,20002)] (rM oz9) (oM oz9)],.r [] [.callm [] [] (rM oz0) (oM oz0)]]) (G:=[.drop [5,3],.ren 20002 951,.sort]) Try.func166 (by kernel_rfl) (.c oz0<|.c oz1<|.c oz2<|.c oz3<|.c oz3<|.c oz3<|.c oz3<|.c oz3<|.c z1_<|.c oz9<|.c oz0<|.n)
theorem lsides_3 (B:List Int) (L:Int→List Int) (n:Nod) (hB:B.length≤900000) (hL:Puts L) (hk:n.kd=3):VM Try.prog 166 ([.ifc 160 (.ptr 100000 0 0),.ptr 100001 0 0,.agg [bv false,bv false,bv true,bv true,bv true,bv true]]) ([(950,.slc 5 1 (B.map (row1 .u8))),(100000,.var [.own 950]),(100001,.var (nodC n))]) (.tup []) ([(951,.slc 5 1 ((B++L n.no).map (row1 .u8))),(100000,.var [.own 951]),(100001,.var (nodC n))]):=by
 have q0:=hL.l n.no
 have r0:(B++L n.no).length=B.length+(L n.no).length:=by rw [lla]
 have oz0 := @side_n
 have oz3:=z0_
 have oz9 := @VM.pre _ _ ([bv (n.kd==8),AV.any,AV.any]) _ ([]) _ _ _ ([GI.weak 0 (bv false),GI.sort]) _ (@side_n) (by kernel_rfl) (.c (Weak.bool (show ((n.kd==8):Bool)=(false) from (by (refine decide_eq_false ?_;omega))))<|.n)
 have oz10 := @lside_no (B) (L) (n) (by omega) hL
 exact VM.run (fn:=Try.f166) (W:=[.r [] [],.r [] [],.r [] [.callm [] [] (rM oz0) (oM oz0)],.r [] [.callm [] [] (rM oz0) (oM oz0)],.r [] [.callm [] [] (rM oz0) (oM oz0)],.r [] [.br true,.br true,.br true,.br true,.br true,.br false,.callm [] [] (rM oz9) (oM oz9)],.r [] [.callm [(950,950),(100000,100000),(100001,100001),(3,100002)] [(951,20000)] (rM oz10) (oM oz10)]]) (G:=[.drop [5,3],.ren 20000 951,.sort]) Try.func166 (by kernel_rfl) (.c oz0<|.c oz0<|.c oz0<|.c oz3<|.c oz3<|.c oz3<|.c oz3<|.c oz3<|.c oz3<|.c oz9<|.c oz10<|.n)
theorem lsides_4 (B:List Int) (L:Int→List Int) (n:Nod) (hB:B.length≤900000) (hL:Puts L) (hk:n.kd=4∨n.kd=5):VM Try.prog 166 ([.ifc 160 (.ptr 100000 0 0),.ptr 100001 0 0,.agg [bv false,bv true,bv false,bv false,bv false,bv false]]) ([(950,.slc 5 1 (B.map (row1 .u8))),(100000,.var [.own 950]),(100001,.var (nodC n))]) (.tup []) ([(951,.slc 5 1 ((B++L n.nk++L n.ns++L n.np).map (row1 .u8))),(100000,.var [.own 951]),(100001,.var (nodC n))]):=by
 have q0:=hL.l n.nk
 have r0:(B++L n.nk).length=B.length+(L n.nk).length:=by rw [lla]
 have q1:=hL.l n.ns
 have r1:(B++L n.nk++L n.ns).length=B.length+(L n.nk).length+(L n.ns).length:=by rw [lla,r0]
 have q2:=hL.l n.np
 have r2:(B++L n.nk++L n.ns++L n.np).length=B.length+(L n.nk).length+(L n.ns).length+(L n.np).length:=by rw [lla,r1]
 have oz0 := @side_n
 have oz1 := @lside_nk (B) (L) (n) (by omega) hL
 have oz2 := @lside_ns (B++L n.nk) (L) (n) (by omega) hL
 have oz3:=(show true = !false by (simp;done))
 have oz9 := @lside_np (B++L n.nk++L n.ns) (L) (n) (by omega) hL
 exact VM.run (fn:=Try.f166) (W:=[.r [] [],.r [] [],.r [] [.callm [] [] (rM oz0) (oM oz0)],.r [] [.callm [(950,950),(100000,100000),(100001,100001),(3,100002)] [(951,20000)] (rM oz1) (oM oz1)],.r [] [.callm [(20000,950),(100000,100000),(100001,100001),(3,100002)] [(951,20001)] (rM oz2) (oM oz2)],.r [] [.br false,.br false,.br false,.br false,.br false,.br true,.callm [(20001,950),(100000,100000),(100001,100001),(3,100002)] [(951,20002)] (rM oz9) (oM oz9)],.r [] [.callm [] [] (rM oz0) (oM oz0)]]) (G:=[.drop [5,3],.ren 20002 951,.sort]) Try.func166 (by kernel_rfl) (.c oz0<|.c oz1<|.c oz2<|.c oz3<|.c oz3<|.c oz3<|.c oz3<|.c oz3<|.c z1_<|.c oz9<|.c oz0<|.n)
theorem lsides_6 (B:List Int) (L:Int→List Int) (n:Nod) (hB:B.length≤900000) (hL:Puts L) (hk:n.kd=6):VM Try.prog 166 ([.ifc 160 (.ptr 100000 0 0),.ptr 100001 0 0,.agg [bv true,bv false,bv false,bv true,bv false,bv true]]) ([(950,.slc 5 1 (B.map (row1 .u8))),(100000,.var [.own 950]),(100001,.var (nodC n))]) (.tup []) ([(951,.slc 5 1 ((B++L n.nb).map (row1 .u8))),(100000,.var [.own 951]),(100001,.var (nodC n))]):=by
 have q0:=hL.l n.nb
 have r0:(B++L n.nb).length=B.length+(L n.nb).length:=by rw [lla]
 have oz0 := @lside_nb (B) (L) (n) (by omega) hL
 have oz1 := @side_n
 have oz3:=z0_
 have oz9 := @VM.pre _ _ ([bv (n.kd==8),AV.any,AV.any]) _ ([]) _ _ _ ([GI.weak 0 (bv false),GI.sort]) _ (@side_n) (by kernel_rfl) (.c (Weak.bool (show ((n.kd==8):Bool)=(false) from (by (refine decide_eq_false ?_;omega))))<|.n)
 exact VM.run (fn:=Try.f166) (W:=[.r [] [],.r [] [],.r [] [.callm [(950,950),(100000,100000),(100001,100001),(3,100002)] [(951,20000)] (rM oz0) (oM oz0)],.r [] [.callm [] [] (rM oz1) (oM oz1)],.r [] [.callm [] [] (rM oz1) (oM oz1)],.r [] [.br true,.br true,.br true,.br true,.br true,.br false,.callm [] [] (rM oz9) (oM oz9)],.r [] [.callm [] [] (rM oz1) (oM oz1)]]) (G:=[.drop [5,3],.ren 20000 951,.sort]) Try.func166 (by kernel_rfl) (.c oz0<|.c oz1<|.c oz1<|.c oz3<|.c oz3<|.c oz3<|.c oz3<|.c oz3<|.c oz3<|.c oz9<|.c oz1<|.n)
theorem lsides_7 (B:List Int) (L:Int→List Int) (n:Nod) (hB:B.length≤900000) (hL:Puts L) (hk:n.kd=7):VM Try.prog 166 ([.ifc 160 (.ptr 100000 0 0),.ptr 100001 0 0,.agg [bv false,bv false,bv false,bv true,bv false,bv true]]) ([(950,.slc 5 1 (B.map (row1 .u8))),(100000,.var [.own 950]),(100001,.var (nodC n))]) (.tup []) ([(950,.slc 5 1 (B.map (row1 .u8))),(100000,.var [.own 950]),(100001,.var (nodC n))]):=by
 have oz0 := @side_n
 have oz3:=z0_
 have oz9 := @VM.pre _ _ ([bv (n.kd==8),AV.any,AV.any]) _ ([]) _ _ _ ([GI.weak 0 (bv false),GI.sort]) _ (@side_n) (by kernel_rfl) (.c (Weak.bool (show ((n.kd==8):Bool)=(false) from (by (refine decide_eq_false ?_;omega))))<|.n)
 exact VM.run (fn:=Try.f166) (W:=[.r [] [],.r [] [],.r [] [.callm [] [] (rM oz0) (oM oz0)],.r [] [.callm [] [] (rM oz0) (oM oz0)],.r [] [.callm [] [] (rM oz0) (oM oz0)],.r [] [.br true,.br true,.br true,.br true,.br true,.br false,.callm [] [] (rM oz9) (oM oz9)],.r [] [.callm [] [] (rM oz0) (oM oz0)]]) (G:=[.drop [3,5],.sort]) Try.func166 (by kernel_rfl) (.c oz0<|.c oz0<|.c oz0<|.c oz3<|.c oz3<|.c oz3<|.c oz3<|.c oz3<|.c oz3<|.c oz9<|.c oz0<|.n)
theorem lsides_8 (B:List Int) (L:Int→List Int) (n:Nod) (hB:B.length≤900000) (hL:Puts L) (hk:n.kd=8):VM Try.prog 166 ([.ifc 160 (.ptr 100000 0 0),.ptr 100001 0 0,.agg [bv false,bv false,bv false,bv true,bv false,bv false]]) ([(950,.slc 5 1 (B.map (row1 .u8))),(100000,.var [.own 950]),(100001,.var (nodC n))]) (.tup []) ([(951,.slc 5 1 ((B++L n.np).map (row1 .u8))),(100000,.var [.own 951]),(100001,.var (nodC n))]):=by
 have q0:=hL.l n.np
 have r0:(B++L n.np).length=B.length+(L n.np).length:=by rw [lla]
 have oz0 := @side_n
 have oz3:=z0_
 have oz9 := @VM.pre _ _ ([bv (n.kd==8),AV.ptr 100001 0 5,AV.ptr 100002 0 0]) _ ([(950,Blk.slc 5 1 (List.map (row1 IntKind.u8) B)),(100000,Blk.var [AV.own 950]),(100001,Blk.var [i64 n.kd,i64 n.na,i64 n.nb,i64 n.nk,i64 n.ns,i64 n.np,i64 n.no,i8 n.za,i8 n.zb,AV.sl 1 (List.map (row1 IntKind.i8) n.w),AV.sl 1 (List.map (row1 IntKind.i32) n.b),i32 n.qm,i64 n.qs,i8 n.qz,i32 n.rm,i64 n.rs,i8 n.rz,i8 n.lo,i8 n.hi]),(100002,Blk.var [AV.ifc 160 (AV.ptr 100000 0 0)])]) _ _ _ ([GI.weak 0 (bv true),GI.sort]) _ (@lside_np (B) (L) (n) (by omega) hL) (by kernel_rfl) (.c (Weak.bool (show ((n.kd==8):Bool)=(true) from (by (refine decide_eq_true ?_;omega))))<|.n)
 exact VM.run (fn:=Try.f166) (W:=[.r [] [],.r [] [],.r [] [.callm [] [] (rM oz0) (oM oz0)],.r [] [.callm [] [] (rM oz0) (oM oz0)],.r [] [.callm [] [] (rM oz0) (oM oz0)],.r [] [.br true,.br true,.br true,.br true,.br true,.br false,.callm [(950,950),(100000,100000),(100001,100001),(3,100002)] [(951,20000)] (rM oz9) (oM oz9)],.r [] [.callm [] [] (rM oz0) (oM oz0)]]) (G:=[.drop [5,3],.ren 20000 951,.sort]) Try.func166 (by kernel_rfl) (.c oz0<|.c oz0<|.c oz0<|.c oz3<|.c oz3<|.c oz3<|.c oz3<|.c oz3<|.c oz3<|.c oz9<|.c oz0<|.n)
theorem lsides_9 (B:List Int) (L:Int→List Int) (n:Nod) (hB:B.length≤900000) (hL:Puts L) (hk:n.kd<1∨8<n.kd):VM Try.prog 166 ([.ifc 160 (.ptr 100000 0 0),.ptr 100001 0 0,.agg [bv false,bv false,bv false,bv false,bv false,bv false]]) ([(950,.slc 5 1 (B.map (row1 .u8))),(100000,.var [.own 950]),(100001,.var (nodC n))]) (.tup []) ([(950,.slc 5 1 (B.map (row1 .u8))),(100000,.var [.own 950]),(100001,.var (nodC n))]):=by
 have oz0 := @side_n
 have oz3:=z0_
 have oz9 := @VM.pre _ _ ([bv (n.kd==8),AV.any,AV.any]) _ ([]) _ _ _ ([GI.weak 0 (bv false),GI.sort]) _ (@side_n) (by kernel_rfl) (.c (Weak.bool (show ((n.kd==8):Bool)=(false) from (by (refine decide_eq_false ?_;omega))))<|.n)
 exact VM.run (fn:=Try.f166) (W:=[.r [] [],.r [] [],.r [] [.callm [] [] (rM oz0) (oM oz0)],.r [] [.callm [] [] (rM oz0) (oM oz0)],.r [] [.callm [] [] (rM oz0) (oM oz0)],.r [] [.br true,.br true,.br true,.br true,.br true,.br false,.callm [] [] (rM oz9) (oM oz9)],.r [] [.callm [] [] (rM oz0) (oM oz0)]]) (G:=[.drop [3,5],.sort]) Try.func166 (by kernel_rfl) (.c oz0<|.c oz0<|.c oz0<|.c oz3<|.c oz3<|.c oz3<|.c oz3<|.c oz3<|.c oz3<|.c oz9<|.c oz0<|.n)
def lb_1 (L:Int→List Int) (n:Nod):List Int:=L n.kd++L n.na++L n.nk++L n.ns++L n.np++L n.no++[w8 n.za]++L (n.w.length:Int)++smallL n.w++L (n.b.length:Int)++wideL n.b++L n.qm++L n.qs++[w8 n.qz]++[w8 n.lo]++[w8 n.hi]
theorem lwalk_1 (L:Int→List Int) (n:Nod) (hL:Puts L) (hk:n.kd=1) (hw:n.w.length≤16384) (hb:n.b.length≤16384) (hx:∀ x∈n.b,-2147483648≤x∧x≤2147483647) (hq:In32 n.qm) (hr:In32 n.rm):VM Try.prog 105 ([.ifc 160 (.ptr 100000 0 0),.ptr 100001 0 0]) ([(100000,.var [.lit (.slice none 0 0)]),(100001,.var (nodC n))]) (.tup []) ([(951,.slc 5 1 ((L n.kd++L n.na++L n.nk++L n.ns++L n.np++L n.no++[w8 n.za]++L (n.w.length:Int)++smallL n.w++L (n.b.length:Int)++wideL n.b++L n.qm++L n.qs++[w8 n.qz]++[w8 n.lo]++[w8 n.hi]).map (row1 .u8))),(100000,.var [.own 951]),(100001,.var (nodC n))]):=by
 have q0:=hL.l n.kd
 have q1:=hL.l n.na
 have q2:=hL.l n.nk
 have q3:=hL.l n.ns
 have q4:=hL.l n.np
 have q5:=hL.l n.no
 have q6:([w8 n.za]).length=1:=rfl
 have q7:=hL.l (n.w.length:Int)
 have q8:(smallL n.w).length=n.w.length:=List.length_map _
 have q9:=hL.l (n.b.length:Int)
 have q10:=wideL_len n.b hx
 have q11:=hL.l n.qm
 have q12:=hL.l n.qs
 have q13:([w8 n.qz]).length=1:=rfl
 have q14:([w8 n.lo]).length=1:=rfl
 have q15:([w8 n.hi]).length=1:=rfl
 have r0:(L n.kd).length≤500000:=by (try simp only [lla]);omega
 have r1:(L n.kd++L n.na).length≤500000:=by (try simp only [lla]);omega
 have r2:(L n.kd++L n.na++L n.nk).length≤500000:=by (try simp only [lla]);omega
 have r3:(L n.kd++L n.na++L n.nk++L n.ns).length≤500000:=by (try simp only [lla]);omega
 have r4:(L n.kd++L n.na++L n.nk++L n.ns++L n.np).length≤500000:=by (try simp only [lla]);omega
 have r5:(L n.kd++L n.na++L n.nk++L n.ns++L n.np++L n.no).length≤500000:=by (try simp only [lla]);omega
 have r6:(L n.kd++L n.na++L n.nk++L n.ns++L n.np++L n.no++[w8 n.za]).length≤500000:=by (try simp only [lla]);omega
 have r7:(L n.kd++L n.na++L n.nk++L n.ns++L n.np++L n.no++[w8 n.za]++L (n.w.length:Int)).length≤500000:=by (try simp only [lla]);omega
 have r8:(L n.kd++L n.na++L n.nk++L n.ns++L n.np++L n.no++[w8 n.za]++L (n.w.length:Int)++smallL n.w).length≤500000:=by (try simp only [lla]);omega
 have r9:(L n.kd++L n.na++L n.nk++L n.ns++L n.np++L n.no++[w8 n.za]++L (n.w.length:Int)++smallL n.w++L (n.b.length:Int)).length≤500000:=by (try simp only [lla]);omega
 have r10:(L n.kd++L n.na++L n.nk++L n.ns++L n.np++L n.no++[w8 n.za]++L (n.w.length:Int)++smallL n.w++L (n.b.length:Int)++wideL n.b).length≤500000:=by (try simp only [lla]);omega
 have r11:(L n.kd++L n.na++L n.nk++L n.ns++L n.np++L n.no++[w8 n.za]++L (n.w.length:Int)++smallL n.w++L (n.b.length:Int)++wideL n.b++L n.qm).length≤500000:=by (try simp only [lla]);omega
 have r12:(L n.kd++L n.na++L n.nk++L n.ns++L n.np++L n.no++[w8 n.za]++L (n.w.length:Int)++smallL n.w++L (n.b.length:Int)++wideL n.b++L n.qm++L n.qs).length≤500000:=by (try simp only [lla]);omega
 have r13:(L n.kd++L n.na++L n.nk++L n.ns++L n.np++L n.no++[w8 n.za]++L (n.w.length:Int)++smallL n.w++L (n.b.length:Int)++wideL n.b++L n.qm++L n.qs++[w8 n.qz]).length≤500000:=by (try simp only [lla]);omega
 have r14:(L n.kd++L n.na++L n.nk++L n.ns++L n.np++L n.no++[w8 n.za]++L (n.w.length:Int)++smallL n.w++L (n.b.length:Int)++wideL n.b++L n.qm++L n.qs++[w8 n.qz]++[w8 n.lo]).length≤500000:=by (try simp only [lla]);omega
 have r15:(L n.kd++L n.na++L n.nk++L n.ns++L n.np++L n.no++[w8 n.za]++L (n.w.length:Int)++smallL n.w++L (n.b.length:Int)++wideL n.b++L n.qm++L n.qs++[w8 n.qz]++[w8 n.lo]++[w8 n.hi]).length≤500000:=by (try simp only [lla]);omega
 clear q0 q1 q2 q3 q4 q5 q6 q7 q8 q9 q10 q11 q12 q13 q14 q15
 have s0:=Nat.le_trans r0 (show 500000≤900000 by decide)
 have u0:=Nat.le_trans r0 (show 500000≤1000000 by decide)
 have s1:=Nat.le_trans r1 (show 500000≤900000 by decide)
 have u1:=Nat.le_trans r1 (show 500000≤1000000 by decide)
 have s2:=Nat.le_trans r2 (show 500000≤900000 by decide)
 have u2:=Nat.le_trans r2 (show 500000≤1000000 by decide)
 have s3:=Nat.le_trans r3 (show 500000≤900000 by decide)
 have u3:=Nat.le_trans r3 (show 500000≤1000000 by decide)
 have s4:=Nat.le_trans r4 (show 500000≤900000 by decide)
 have u4:=Nat.le_trans r4 (show 500000≤1000000 by decide)
 have s5:=Nat.le_trans r5 (show 500000≤900000 by decide)
 have u5:=Nat.le_trans r5 (show 500000≤1000000 by decide)
 have s6:=Nat.le_trans r6 (show 500000≤900000 by decide)
 have u6:=Nat.le_trans r6 (show 500000≤1000000 by decide)
 have s7:=Nat.le_trans r7 (show 500000≤900000 by decide)
 have u7:=Nat.le_trans r7 (show 500000≤1000000 by decide)
 have s8:=Nat.le_trans r8 (show 500000≤900000 by decide)
 have u8:=Nat.le_trans r8 (show 500000≤1000000 by decide)
 have s9:=Nat.le_trans r9 (show 500000≤900000 by decide)
 have u9:=Nat.le_trans r9 (show 500000≤1000000 by decide)
 have s10:=Nat.le_trans r10 (show 500000≤900000 by decide)
 have u10:=Nat.le_trans r10 (show 500000≤1000000 by decide)
 have s11:=Nat.le_trans r11 (show 500000≤900000 by decide)
 have u11:=Nat.le_trans r11 (show 500000≤1000000 by decide)
 have s12:=Nat.le_trans r12 (show 500000≤900000 by decide)
 have u12:=Nat.le_trans r12 (show 500000≤1000000 by decide)
 have s13:=Nat.le_trans r13 (show 500000≤900000 by decide)
 have u13:=Nat.le_trans r13 (show 500000≤1000000 by decide)
 have s14:=Nat.le_trans r14 (show 500000≤900000 by decide)
 have u14:=Nat.le_trans r14 (show 500000≤1000000 by decide)
 have s15:=Nat.le_trans r15 (show 500000≤900000 by decide)
 have u15:=Nat.le_trans r15 (show 500000≤1000000 by decide)
 have w5:n.w.length≤100000:=by omega
 have b5:n.b.length≤100000:=by omega
 have oz0:=(show NilNo Try.prog (160:Nat) "stepwell/pack.number" from (nilNo (f:=114) (by kernel_rfl)))
 have oz1 := @lnum_kd0 (L) (n) (9) hL
 have oz2:=(show MethodIs Try.prog (160:Nat) "stepwell/pack.number" (methF Try.prog (160:Nat) "stepwell/pack.number") from (methodIs (by kernel_rfl)))
 have oz4 := @lnum_na (L n.kd) (L) (n) (1024) u0 hL
 have oz6 := @of_1 (n.kd) hk
 have oz7 := @lsides_1 (L n.kd++L n.na) (L) (n) s1 hL hk
 have oz8:=z1_
 have oz9 := @lone_za (L n.kd++L n.na++L n.nk++L n.ns++L n.np++L n.no) (n) u5
 have oz10:=z0_
 have oz12 := @llists_v (L n.kd++L n.na++L n.nk++L n.ns++L n.np++L n.no++[w8 n.za]) (L) (n) r6 hL w5 hb hx
 have oz14 := @lscale_q (L n.kd++L n.na++L n.nk++L n.ns++L n.np++L n.no++[w8 n.za]++L (↑n.w.length:Int)++smallL n.w++L (↑n.b.length:Int)++wideL n.b) (L) (n) s10 hL hq
 have oz15 := @lone_qz (L n.kd++L n.na++L n.nk++L n.ns++L n.np++L n.no++[w8 n.za]++L (↑n.w.length:Int)++smallL n.w++L (↑n.b.length:Int)++wideL n.b++L n.qm++L n.qs) (n) u12
 have oz17 := @lone_lo (L n.kd++L n.na++L n.nk++L n.ns++L n.np++L n.no++[w8 n.za]++L (↑n.w.length:Int)++smallL n.w++L (↑n.b.length:Int)++wideL n.b++L n.qm++L n.qs++[w8 n.qz]) (n) u13
 have oz18 := @lone_hi (L n.kd++L n.na++L n.nk++L n.ns++L n.np++L n.no++[w8 n.za]++L (↑n.w.length:Int)++smallL n.w++L (↑n.b.length:Int)++wideL n.b++L n.qm++L n.qs++[w8 n.qz]++[w8 n.lo]) (n) u14
 exact VM.run (fn:=Try.f105) (W:=[.r [] [.callm [(100000,100000),(100001,100001)] [(951,20000)] (rM oz1) (oM oz1)],.r [] [.callm [(20000,950),(100000,100000),(100001,100001)] [(951,20001)] (rM oz4) (oM oz4)],.r [] [.callr (rO oz6)],.r [] [.callm [(20001,950),(100000,100000),(100001,100001)] [(951,20002)] (rM oz7) (oM oz7)],.r [] [],.br true,.r [] [.callm [(20002,950),(100000,100000),(100001,100001)] [(951,20003)] (rM oz9) (oM oz9)],.r [] [],.br false,.r [] [],.br true,.r [] [.callm [(20003,950),(100000,100000),(100001,100001)] [(951,20004)] (rM oz12) (oM oz12)],.r [] [],.br false,.r [] [.callm [(20004,950),(100000,100000),(100001,100001)] [(951,20005)] (rM oz14) (oM oz14)],.r [] [.callm [(20005,950),(100000,100000),(100001,100001)] [(951,20006)] (rM oz15) (oM oz15)],.r [] [],.br false,.r [] [.callm [(20006,950),(100000,100000),(100001,100001)] [(951,20007)] (rM oz17) (oM oz17)],.r [] [.callm [(20007,950),(100000,100000),(100001,100001)] [(951,20008)] (rM oz18) (oM oz18)]]) (G:=[.drop [4],.ren 20008 951,.sort]) Try.func105 (by kernel_rfl) (.c oz0<|.c oz1<|.c oz2<|.c oz0<|.c oz4<|.c oz2<|.c oz6<|.c oz7<|.c oz8<|.c oz9<|.c oz10<|.c oz8<|.c oz12<|.c oz10<|.c oz14<|.c oz15<|.c oz10<|.c oz17<|.c oz18<|.n)
def lb_2 (L:Int→List Int) (n:Nod):List Int:=L n.kd++L n.na++L n.nk++L n.ns++L n.np++[w8 n.za]++L (n.w.length:Int)++smallL n.w++L (n.b.length:Int)++wideL n.b++L n.qm++L n.qs++[w8 n.qz]++[w8 n.lo]++[w8 n.hi]
theorem lwalk_2 (L:Int→List Int) (n:Nod) (hL:Puts L) (hk:n.kd=2) (hw:n.w.length≤16384) (hb:n.b.length≤16384) (hx:∀ x∈n.b,-2147483648≤x∧x≤2147483647) (hq:In32 n.qm) (hr:In32 n.rm):VM Try.prog 105 ([.ifc 160 (.ptr 100000 0 0),.ptr 100001 0 0]) ([(100000,.var [.lit (.slice none 0 0)]),(100001,.var (nodC n))]) (.tup []) ([(951,.slc 5 1 ((L n.kd++L n.na++L n.nk++L n.ns++L n.np++[w8 n.za]++L (n.w.length:Int)++smallL n.w++L (n.b.length:Int)++wideL n.b++L n.qm++L n.qs++[w8 n.qz]++[w8 n.lo]++[w8 n.hi]).map (row1 .u8))),(100000,.var [.own 951]),(100001,.var (nodC n))]):=by
 have q0:=hL.l n.kd
 have q1:=hL.l n.na
 have q2:=hL.l n.nk
 have q3:=hL.l n.ns
 have q4:=hL.l n.np
 have q5:([w8 n.za]).length=1:=rfl
 have q6:=hL.l (n.w.length:Int)
 have q7:(smallL n.w).length=n.w.length:=List.length_map _
 have q8:=hL.l (n.b.length:Int)
 have q9:=wideL_len n.b hx
 have q10:=hL.l n.qm
 have q11:=hL.l n.qs
 have q12:([w8 n.qz]).length=1:=rfl
 have q13:([w8 n.lo]).length=1:=rfl
 have q14:([w8 n.hi]).length=1:=rfl
 have r0:(L n.kd).length≤500000:=by (try simp only [lla]);omega
 have r1:(L n.kd++L n.na).length≤500000:=by (try simp only [lla]);omega
 have r2:(L n.kd++L n.na++L n.nk).length≤500000:=by (try simp only [lla]);omega
 have r3:(L n.kd++L n.na++L n.nk++L n.ns).length≤500000:=by (try simp only [lla]);omega
 have r4:(L n.kd++L n.na++L n.nk++L n.ns++L n.np).length≤500000:=by (try simp only [lla]);omega
 have r5:(L n.kd++L n.na++L n.nk++L n.ns++L n.np++[w8 n.za]).length≤500000:=by (try simp only [lla]);omega
 have r6:(L n.kd++L n.na++L n.nk++L n.ns++L n.np++[w8 n.za]++L (n.w.length:Int)).length≤500000:=by (try simp only [lla]);omega
 have r7:(L n.kd++L n.na++L n.nk++L n.ns++L n.np++[w8 n.za]++L (n.w.length:Int)++smallL n.w).length≤500000:=by (try simp only [lla]);omega
 have r8:(L n.kd++L n.na++L n.nk++L n.ns++L n.np++[w8 n.za]++L (n.w.length:Int)++smallL n.w++L (n.b.length:Int)).length≤500000:=by (try simp only [lla]);omega
 have r9:(L n.kd++L n.na++L n.nk++L n.ns++L n.np++[w8 n.za]++L (n.w.length:Int)++smallL n.w++L (n.b.length:Int)++wideL n.b).length≤500000:=by (try simp only [lla]);omega
 have r10:(L n.kd++L n.na++L n.nk++L n.ns++L n.np++[w8 n.za]++L (n.w.length:Int)++smallL n.w++L (n.b.length:Int)++wideL n.b++L n.qm).length≤500000:=by (try simp only [lla]);omega
 have r11:(L n.kd++L n.na++L n.nk++L n.ns++L n.np++[w8 n.za]++L (n.w.length:Int)++smallL n.w++L (n.b.length:Int)++wideL n.b++L n.qm++L n.qs).length≤500000:=by (try simp only [lla]);omega
 have r12:(L n.kd++L n.na++L n.nk++L n.ns++L n.np++[w8 n.za]++L (n.w.length:Int)++smallL n.w++L (n.b.length:Int)++wideL n.b++L n.qm++L n.qs++[w8 n.qz]).length≤500000:=by (try simp only [lla]);omega
 have r13:(L n.kd++L n.na++L n.nk++L n.ns++L n.np++[w8 n.za]++L (n.w.length:Int)++smallL n.w++L (n.b.length:Int)++wideL n.b++L n.qm++L n.qs++[w8 n.qz]++[w8 n.lo]).length≤500000:=by (try simp only [lla]);omega
 have r14:(L n.kd++L n.na++L n.nk++L n.ns++L n.np++[w8 n.za]++L (n.w.length:Int)++smallL n.w++L (n.b.length:Int)++wideL n.b++L n.qm++L n.qs++[w8 n.qz]++[w8 n.lo]++[w8 n.hi]).length≤500000:=by (try simp only [lla]);omega
 clear q0 q1 q2 q3 q4 q5 q6 q7 q8 q9 q10 q11 q12 q13 q14
 have s0:=Nat.le_trans r0 (show 500000≤900000 by decide)
 have u0:=Nat.le_trans r0 (show 500000≤1000000 by decide)
 have s1:=Nat.le_trans r1 (show 500000≤900000 by decide)
 have u1:=Nat.le_trans r1 (show 500000≤1000000 by decide)
 have s2:=Nat.le_trans r2 (show 500000≤900000 by decide)
 have u2:=Nat.le_trans r2 (show 500000≤1000000 by decide)
 have s3:=Nat.le_trans r3 (show 500000≤900000 by decide)
 have u3:=Nat.le_trans r3 (show 500000≤1000000 by decide)
 have s4:=Nat.le_trans r4 (show 500000≤900000 by decide)
 have u4:=Nat.le_trans r4 (show 500000≤1000000 by decide)
 have s5:=Nat.le_trans r5 (show 500000≤900000 by decide)
 have u5:=Nat.le_trans r5 (show 500000≤1000000 by decide)
 have s6:=Nat.le_trans r6 (show 500000≤900000 by decide)
 have u6:=Nat.le_trans r6 (show 500000≤1000000 by decide)
 have s7:=Nat.le_trans r7 (show 500000≤900000 by decide)
 have u7:=Nat.le_trans r7 (show 500000≤1000000 by decide)
 have s8:=Nat.le_trans r8 (show 500000≤900000 by decide)
 have u8:=Nat.le_trans r8 (show 500000≤1000000 by decide)
 have s9:=Nat.le_trans r9 (show 500000≤900000 by decide)
 have u9:=Nat.le_trans r9 (show 500000≤1000000 by decide)
 have s10:=Nat.le_trans r10 (show 500000≤900000 by decide)
 have u10:=Nat.le_trans r10 (show 500000≤1000000 by decide)
 have s11:=Nat.le_trans r11 (show 500000≤900000 by decide)
 have u11:=Nat.le_trans r11 (show 500000≤1000000 by decide)
 have s12:=Nat.le_trans r12 (show 500000≤900000 by decide)
 have u12:=Nat.le_trans r12 (show 500000≤1000000 by decide)
 have s13:=Nat.le_trans r13 (show 500000≤900000 by decide)
 have u13:=Nat.le_trans r13 (show 500000≤1000000 by decide)
 have s14:=Nat.le_trans r14 (show 500000≤900000 by decide)
 have u14:=Nat.le_trans r14 (show 500000≤1000000 by decide)
 have w5:n.w.length≤100000:=by omega
 have b5:n.b.length≤100000:=by omega
 have oz0:=(show NilNo Try.prog (160:Nat) "stepwell/pack.number" from (nilNo (f:=114) (by kernel_rfl)))
 have oz1 := @lnum_kd0 (L) (n) (9) hL
 have oz2:=(show MethodIs Try.prog (160:Nat) "stepwell/pack.number" (methF Try.prog (160:Nat) "stepwell/pack.number") from (methodIs (by kernel_rfl)))
 have oz4 := @lnum_na (L n.kd) (L) (n) (1024) u0 hL
 have oz6 := @of_2 (n.kd) hk
 have oz7 := @lsides_2 (L n.kd++L n.na) (L) (n) s1 hL hk
 have oz8:=z1_
 have oz9 := @lone_za (L n.kd++L n.na++L n.nk++L n.ns++L n.np) (n) u4
 have oz10:=z0_
 have oz12 := @llists_v (L n.kd++L n.na++L n.nk++L n.ns++L n.np++[w8 n.za]) (L) (n) r5 hL w5 hb hx
 have oz14 := @lscale_q (L n.kd++L n.na++L n.nk++L n.ns++L n.np++[w8 n.za]++L (↑n.w.length:Int)++smallL n.w++L (↑n.b.length:Int)++wideL n.b) (L) (n) s9 hL hq
 have oz15 := @lone_qz (L n.kd++L n.na++L n.nk++L n.ns++L n.np++[w8 n.za]++L (↑n.w.length:Int)++smallL n.w++L (↑n.b.length:Int)++wideL n.b++L n.qm++L n.qs) (n) u11
 have oz17 := @lone_lo (L n.kd++L n.na++L n.nk++L n.ns++L n.np++[w8 n.za]++L (↑n.w.length:Int)++smallL n.w++L (↑n.b.length:Int)++wideL n.b++L n.qm++L n.qs++[w8 n.qz]) (n) u12
 have oz18 := @lone_hi (L n.kd++L n.na++L n.nk++L n.ns++L n.np++[w8 n.za]++L (↑n.w.length:Int)++smallL n.w++L (↑n.b.length:Int)++wideL n.b++L n.qm++L n.qs++[w8 n.qz]++[w8 n.lo]) (n) u13
 exact VM.run (fn:=Try.f105) (W:=[.r [] [.callm [(100000,100000),(100001,100001)] [(951,20000)] (rM oz1) (oM oz1)],.r [] [.callm [(20000,950),(100000,100000),(100001,100001)] [(951,20001)] (rM oz4) (oM oz4)],.r [] [.callr (rO oz6)],.r [] [.callm [(20001,950),(100000,100000),(100001,100001)] [(951,20002)] (rM oz7) (oM oz7)],.r [] [],.br true,.r [] [.callm [(20002,950),(100000,100000),(100001,100001)] [(951,20003)] (rM oz9) (oM oz9)],.r [] [],.br false,.r [] [],.br true,.r [] [.callm [(20003,950),(100000,100000),(100001,100001)] [(951,20004)] (rM oz12) (oM oz12)],.r [] [],.br false,.r [] [.callm [(20004,950),(100000,100000),(100001,100001)] [(951,20005)] (rM oz14) (oM oz14)],.r [] [.callm [(20005,950),(100000,100000),(100001,100001)] [(951,20006)] (rM oz15) (oM oz15)],.r [] [],.br false,.r [] [.callm [(20006,950),(100000,100000),(100001,100001)] [(951,20007)] (rM oz17) (oM oz17)],.r [] [.callm [(20007,950),(100000,100000),(100001,100001)] [(951,20008)] (rM oz18) (oM oz18)]]) (G:=[.drop [4],.ren 20008 951,.sort]) Try.func105 (by kernel_rfl) (.c oz0<|.c oz1<|.c oz2<|.c oz0<|.c oz4<|.c oz2<|.c oz6<|.c oz7<|.c oz8<|.c oz9<|.c oz10<|.c oz8<|.c oz12<|.c oz10<|.c oz14<|.c oz15<|.c oz10<|.c oz17<|.c oz18<|.n)
def lb_3 (L:Int→List Int) (n:Nod):List Int:=L n.kd++L n.na++L n.no++[w8 n.za]++L (n.w.length:Int)++smallL n.w++L (n.b.length:Int)++wideL n.b++L n.qm++L n.qs++[w8 n.qz]++[w8 n.lo]++[w8 n.hi]
theorem lwalk_3 (L:Int→List Int) (n:Nod) (hL:Puts L) (hk:n.kd=3) (hw:n.w.length≤16384) (hb:n.b.length≤16384) (hx:∀ x∈n.b,-2147483648≤x∧x≤2147483647) (hq:In32 n.qm) (hr:In32 n.rm):VM Try.prog 105 ([.ifc 160 (.ptr 100000 0 0),.ptr 100001 0 0]) ([(100000,.var [.lit (.slice none 0 0)]),(100001,.var (nodC n))]) (.tup []) ([(951,.slc 5 1 ((L n.kd++L n.na++L n.no++[w8 n.za]++L (n.w.length:Int)++smallL n.w++L (n.b.length:Int)++wideL n.b++L n.qm++L n.qs++[w8 n.qz]++[w8 n.lo]++[w8 n.hi]).map (row1 .u8))),(100000,.var [.own 951]),(100001,.var (nodC n))]):=by
 have q0:=hL.l n.kd
 have q1:=hL.l n.na
 have q2:=hL.l n.no
 have q3:([w8 n.za]).length=1:=rfl
 have q4:=hL.l (n.w.length:Int)
 have q5:(smallL n.w).length=n.w.length:=List.length_map _
 have q6:=hL.l (n.b.length:Int)
 have q7:=wideL_len n.b hx
 have q8:=hL.l n.qm
 have q9:=hL.l n.qs
 have q10:([w8 n.qz]).length=1:=rfl
 have q11:([w8 n.lo]).length=1:=rfl
 have q12:([w8 n.hi]).length=1:=rfl
 have r0:(L n.kd).length≤500000:=by (try simp only [lla]);omega
 have r1:(L n.kd++L n.na).length≤500000:=by (try simp only [lla]);omega
 have r2:(L n.kd++L n.na++L n.no).length≤500000:=by (try simp only [lla]);omega
 have r3:(L n.kd++L n.na++L n.no++[w8 n.za]).length≤500000:=by (try simp only [lla]);omega
 have r4:(L n.kd++L n.na++L n.no++[w8 n.za]++L (n.w.length:Int)).length≤500000:=by (try simp only [lla]);omega
 have r5:(L n.kd++L n.na++L n.no++[w8 n.za]++L (n.w.length:Int)++smallL n.w).length≤500000:=by (try simp only [lla]);omega
 have r6:(L n.kd++L n.na++L n.no++[w8 n.za]++L (n.w.length:Int)++smallL n.w++L (n.b.length:Int)).length≤500000:=by (try simp only [lla]);omega
 have r7:(L n.kd++L n.na++L n.no++[w8 n.za]++L (n.w.length:Int)++smallL n.w++L (n.b.length:Int)++wideL n.b).length≤500000:=by (try simp only [lla]);omega
 have r8:(L n.kd++L n.na++L n.no++[w8 n.za]++L (n.w.length:Int)++smallL n.w++L (n.b.length:Int)++wideL n.b++L n.qm).length≤500000:=by (try simp only [lla]);omega
 have r9:(L n.kd++L n.na++L n.no++[w8 n.za]++L (n.w.length:Int)++smallL n.w++L (n.b.length:Int)++wideL n.b++L n.qm++L n.qs).length≤500000:=by (try simp only [lla]);omega
 have r10:(L n.kd++L n.na++L n.no++[w8 n.za]++L (n.w.length:Int)++smallL n.w++L (n.b.length:Int)++wideL n.b++L n.qm++L n.qs++[w8 n.qz]).length≤500000:=by (try simp only [lla]);omega
 have r11:(L n.kd++L n.na++L n.no++[w8 n.za]++L (n.w.length:Int)++smallL n.w++L (n.b.length:Int)++wideL n.b++L n.qm++L n.qs++[w8 n.qz]++[w8 n.lo]).length≤500000:=by (try simp only [lla]);omega
 have r12:(L n.kd++L n.na++L n.no++[w8 n.za]++L (n.w.length:Int)++smallL n.w++L (n.b.length:Int)++wideL n.b++L n.qm++L n.qs++[w8 n.qz]++[w8 n.lo]++[w8 n.hi]).length≤500000:=by (try simp only [lla]);omega
 clear q0 q1 q2 q3 q4 q5 q6 q7 q8 q9 q10 q11 q12
 have s0:=Nat.le_trans r0 (show 500000≤900000 by decide)
 have u0:=Nat.le_trans r0 (show 500000≤1000000 by decide)
 have s1:=Nat.le_trans r1 (show 500000≤900000 by decide)
 have u1:=Nat.le_trans r1 (show 500000≤1000000 by decide)
 have s2:=Nat.le_trans r2 (show 500000≤900000 by decide)
 have u2:=Nat.le_trans r2 (show 500000≤1000000 by decide)
 have s3:=Nat.le_trans r3 (show 500000≤900000 by decide)
 have u3:=Nat.le_trans r3 (show 500000≤1000000 by decide)
 have s4:=Nat.le_trans r4 (show 500000≤900000 by decide)
 have u4:=Nat.le_trans r4 (show 500000≤1000000 by decide)
 have s5:=Nat.le_trans r5 (show 500000≤900000 by decide)
 have u5:=Nat.le_trans r5 (show 500000≤1000000 by decide)
 have s6:=Nat.le_trans r6 (show 500000≤900000 by decide)
 have u6:=Nat.le_trans r6 (show 500000≤1000000 by decide)
 have s7:=Nat.le_trans r7 (show 500000≤900000 by decide)
 have u7:=Nat.le_trans r7 (show 500000≤1000000 by decide)
 have s8:=Nat.le_trans r8 (show 500000≤900000 by decide)
 have u8:=Nat.le_trans r8 (show 500000≤1000000 by decide)
 have s9:=Nat.le_trans r9 (show 500000≤900000 by decide)
 have u9:=Nat.le_trans r9 (show 500000≤1000000 by decide)
 have s10:=Nat.le_trans r10 (show 500000≤900000 by decide)
 have u10:=Nat.le_trans r10 (show 500000≤1000000 by decide)
 have s11:=Nat.le_trans r11 (show 500000≤900000 by decide)
 have u11:=Nat.le_trans r11 (show 500000≤1000000 by decide)
 have s12:=Nat.le_trans r12 (show 500000≤900000 by decide)
 have u12:=Nat.le_trans r12 (show 500000≤1000000 by decide)
 have w5:n.w.length≤100000:=by omega
 have b5:n.b.length≤100000:=by omega
 have oz0:=(show NilNo Try.prog (160:Nat) "stepwell/pack.number" from (nilNo (f:=114) (by kernel_rfl)))
 have oz1 := @lnum_kd0 (L) (n) (9) hL
 have oz2:=(show MethodIs Try.prog (160:Nat) "stepwell/pack.number" (methF Try.prog (160:Nat) "stepwell/pack.number") from (methodIs (by kernel_rfl)))
 have oz4 := @lnum_na (L n.kd) (L) (n) (1024) u0 hL
 have oz6 := @of_3 (n.kd) hk
 have oz7 := @lsides_3 (L n.kd++L n.na) (L) (n) s1 hL hk
 have oz8:=z1_
 have oz9 := @lone_za (L n.kd++L n.na++L n.no) (n) u2
 have oz10:=z0_
 have oz12 := @llists_v (L n.kd++L n.na++L n.no++[w8 n.za]) (L) (n) r3 hL w5 hb hx
 have oz14 := @lscale_q (L n.kd++L n.na++L n.no++[w8 n.za]++L (↑n.w.length:Int)++smallL n.w++L (↑n.b.length:Int)++wideL n.b) (L) (n) s7 hL hq
 have oz15 := @lone_qz (L n.kd++L n.na++L n.no++[w8 n.za]++L (↑n.w.length:Int)++smallL n.w++L (↑n.b.length:Int)++wideL n.b++L n.qm++L n.qs) (n) u9
 have oz17 := @lone_lo (L n.kd++L n.na++L n.no++[w8 n.za]++L (↑n.w.length:Int)++smallL n.w++L (↑n.b.length:Int)++wideL n.b++L n.qm++L n.qs++[w8 n.qz]) (n) u10
 have oz18 := @lone_hi (L n.kd++L n.na++L n.no++[w8 n.za]++L (↑n.w.length:Int)++smallL n.w++L (↑n.b.length:Int)++wideL n.b++L n.qm++L n.qs++[w8 n.qz]++[w8 n.lo]) (n) u11
 exact VM.run (fn:=Try.f105) (W:=[.r [] [.callm [(100000,100000),(100001,100001)] [(951,20000)] (rM oz1) (oM oz1)],.r [] [.callm [(20000,950),(100000,100000),(100001,100001)] [(951,20001)] (rM oz4) (oM oz4)],.r [] [.callr (rO oz6)],.r [] [.callm [(20001,950),(100000,100000),(100001,100001)] [(951,20002)] (rM oz7) (oM oz7)],.r [] [],.br true,.r [] [.callm [(20002,950),(100000,100000),(100001,100001)] [(951,20003)] (rM oz9) (oM oz9)],.r [] [],.br false,.r [] [],.br true,.r [] [.callm [(20003,950),(100000,100000),(100001,100001)] [(951,20004)] (rM oz12) (oM oz12)],.r [] [],.br false,.r [] [.callm [(20004,950),(100000,100000),(100001,100001)] [(951,20005)] (rM oz14) (oM oz14)],.r [] [.callm [(20005,950),(100000,100000),(100001,100001)] [(951,20006)] (rM oz15) (oM oz15)],.r [] [],.br false,.r [] [.callm [(20006,950),(100000,100000),(100001,100001)] [(951,20007)] (rM oz17) (oM oz17)],.r [] [.callm [(20007,950),(100000,100000),(100001,100001)] [(951,20008)] (rM oz18) (oM oz18)]]) (G:=[.drop [4],.ren 20008 951,.sort]) Try.func105 (by kernel_rfl) (.c oz0<|.c oz1<|.c oz2<|.c oz0<|.c oz4<|.c oz2<|.c oz6<|.c oz7<|.c oz8<|.c oz9<|.c oz10<|.c oz8<|.c oz12<|.c oz10<|.c oz14<|.c oz15<|.c oz10<|.c oz17<|.c oz18<|.n)
def lb_4 (L:Int→List Int) (n:Nod):List Int:=L n.kd++L n.na++L n.nk++L n.ns++L n.np
theorem lwalk_4 (L:Int→List Int) (n:Nod) (hL:Puts L) (hk:n.kd=4∨n.kd=5) (hw:n.w.length≤16384) (hb:n.b.length≤16384) (hx:∀ x∈n.b,-2147483648≤x∧x≤2147483647) (hq:In32 n.qm) (hr:In32 n.rm):VM Try.prog 105 ([.ifc 160 (.ptr 100000 0 0),.ptr 100001 0 0]) ([(100000,.var [.lit (.slice none 0 0)]),(100001,.var (nodC n))]) (.tup []) ([(951,.slc 5 1 ((L n.kd++L n.na++L n.nk++L n.ns++L n.np).map (row1 .u8))),(100000,.var [.own 951]),(100001,.var (nodC n))]):=by
 have q0:=hL.l n.kd
 have q1:=hL.l n.na
 have q2:=hL.l n.nk
 have q3:=hL.l n.ns
 have q4:=hL.l n.np
 have r0:(L n.kd).length≤500000:=by (try simp only [lla]);omega
 have r1:(L n.kd++L n.na).length≤500000:=by (try simp only [lla]);omega
 have r2:(L n.kd++L n.na++L n.nk).length≤500000:=by (try simp only [lla]);omega
 have r3:(L n.kd++L n.na++L n.nk++L n.ns).length≤500000:=by (try simp only [lla]);omega
 have r4:(L n.kd++L n.na++L n.nk++L n.ns++L n.np).length≤500000:=by (try simp only [lla]);omega
 clear q0 q1 q2 q3 q4
 have s0:=Nat.le_trans r0 (show 500000≤900000 by decide)
 have u0:=Nat.le_trans r0 (show 500000≤1000000 by decide)
 have s1:=Nat.le_trans r1 (show 500000≤900000 by decide)
 have u1:=Nat.le_trans r1 (show 500000≤1000000 by decide)
 have s2:=Nat.le_trans r2 (show 500000≤900000 by decide)
 have u2:=Nat.le_trans r2 (show 500000≤1000000 by decide)
 have s3:=Nat.le_trans r3 (show 500000≤900000 by decide)
 have u3:=Nat.le_trans r3 (show 500000≤1000000 by decide)
 have s4:=Nat.le_trans r4 (show 500000≤900000 by decide)
 have u4:=Nat.le_trans r4 (show 500000≤1000000 by decide)
 have w5:n.w.length≤100000:=by omega
 have b5:n.b.length≤100000:=by omega
 have oz0:=(show NilNo Try.prog (160:Nat) "stepwell/pack.number" from (nilNo (f:=114) (by kernel_rfl)))
 have oz1 := @lnum_kd0 (L) (n) (9) hL
 have oz2:=(show MethodIs Try.prog (160:Nat) "stepwell/pack.number" (methF Try.prog (160:Nat) "stepwell/pack.number") from (methodIs (by kernel_rfl)))
 have oz4 := @lnum_na (L n.kd) (L) (n) (1024) u0 hL
 have oz6 := @of_4 (n.kd) hk
 have oz7 := @lsides_4 (L n.kd++L n.na) (L) (n) s1 hL hk
 have oz8:=z0_
 exact VM.run (fn:=Try.f105) (W:=[.r [] [.callm [(100000,100000),(100001,100001)] [(951,20000)] (rM oz1) (oM oz1)],.r [] [.callm [(20000,950),(100000,100000),(100001,100001)] [(951,20001)] (rM oz4) (oM oz4)],.r [] [.callr (rO oz6)],.r [] [.callm [(20001,950),(100000,100000),(100001,100001)] [(951,20002)] (rM oz7) (oM oz7)],.r [] [],.br false,.r [] [],.br false,.r [] [],.br false,.r [] [],.br true]) (G:=[.drop [4],.ren 20002 951,.sort]) Try.func105 (by kernel_rfl) (.c oz0<|.c oz1<|.c oz2<|.c oz0<|.c oz4<|.c oz2<|.c oz6<|.c oz7<|.c oz8<|.c oz8<|.c oz8<|.c z1_<|.n)
def lb_6 (L:Int→List Int) (n:Nod):List Int:=L n.kd++L n.na++L n.nb++[w8 n.za]++[w8 n.zb]++L n.qm++L n.qs++[w8 n.qz]++L n.rm++L n.rs++[w8 n.lo]++[w8 n.hi]
theorem lwalk_6 (L:Int→List Int) (n:Nod) (hL:Puts L) (hk:n.kd=6) (hw:n.w.length≤16384) (hb:n.b.length≤16384) (hx:∀ x∈n.b,-2147483648≤x∧x≤2147483647) (hq:In32 n.qm) (hr:In32 n.rm):VM Try.prog 105 ([.ifc 160 (.ptr 100000 0 0),.ptr 100001 0 0]) ([(100000,.var [.lit (.slice none 0 0)]),(100001,.var (nodC n))]) (.tup []) ([(951,.slc 5 1 ((L n.kd++L n.na++L n.nb++[w8 n.za]++[w8 n.zb]++L n.qm++L n.qs++[w8 n.qz]++L n.rm++L n.rs++[w8 n.lo]++[w8 n.hi]).map (row1 .u8))),(100000,.var [.own 951]),(100001,.var (nodC n))]):=by
 have q0:=hL.l n.kd
 have q1:=hL.l n.na
 have q2:=hL.l n.nb
 have q3:([w8 n.za]).length=1:=rfl
 have q4:([w8 n.zb]).length=1:=rfl
 have q5:=hL.l n.qm
 have q6:=hL.l n.qs
 have q7:([w8 n.qz]).length=1:=rfl
 have q8:=hL.l n.rm
 have q9:=hL.l n.rs
 have q10:([w8 n.lo]).length=1:=rfl
 have q11:([w8 n.hi]).length=1:=rfl
 have r0:(L n.kd).length≤500000:=by (try simp only [lla]);omega
 have r1:(L n.kd++L n.na).length≤500000:=by (try simp only [lla]);omega
 have r2:(L n.kd++L n.na++L n.nb).length≤500000:=by (try simp only [lla]);omega
 have r3:(L n.kd++L n.na++L n.nb++[w8 n.za]).length≤500000:=by (try simp only [lla]);omega
 have r4:(L n.kd++L n.na++L n.nb++[w8 n.za]++[w8 n.zb]).length≤500000:=by (try simp only [lla]);omega
 have r5:(L n.kd++L n.na++L n.nb++[w8 n.za]++[w8 n.zb]++L n.qm).length≤500000:=by (try simp only [lla]);omega
 have r6:(L n.kd++L n.na++L n.nb++[w8 n.za]++[w8 n.zb]++L n.qm++L n.qs).length≤500000:=by (try simp only [lla]);omega
 have r7:(L n.kd++L n.na++L n.nb++[w8 n.za]++[w8 n.zb]++L n.qm++L n.qs++[w8 n.qz]).length≤500000:=by (try simp only [lla]);omega
 have r8:(L n.kd++L n.na++L n.nb++[w8 n.za]++[w8 n.zb]++L n.qm++L n.qs++[w8 n.qz]++L n.rm).length≤500000:=by (try simp only [lla]);omega
 have r9:(L n.kd++L n.na++L n.nb++[w8 n.za]++[w8 n.zb]++L n.qm++L n.qs++[w8 n.qz]++L n.rm++L n.rs).length≤500000:=by (try simp only [lla]);omega
 have r10:(L n.kd++L n.na++L n.nb++[w8 n.za]++[w8 n.zb]++L n.qm++L n.qs++[w8 n.qz]++L n.rm++L n.rs++[w8 n.lo]).length≤500000:=by (try simp only [lla]);omega
 have r11:(L n.kd++L n.na++L n.nb++[w8 n.za]++[w8 n.zb]++L n.qm++L n.qs++[w8 n.qz]++L n.rm++L n.rs++[w8 n.lo]++[w8 n.hi]).length≤500000:=by (try simp only [lla]);omega
 clear q0 q1 q2 q3 q4 q5 q6 q7 q8 q9 q10 q11
 have s0:=Nat.le_trans r0 (show 500000≤900000 by decide)
 have u0:=Nat.le_trans r0 (show 500000≤1000000 by decide)
 have s1:=Nat.le_trans r1 (show 500000≤900000 by decide)
 have u1:=Nat.le_trans r1 (show 500000≤1000000 by decide)
 have s2:=Nat.le_trans r2 (show 500000≤900000 by decide)
 have u2:=Nat.le_trans r2 (show 500000≤1000000 by decide)
 have s3:=Nat.le_trans r3 (show 500000≤900000 by decide)
 have u3:=Nat.le_trans r3 (show 500000≤1000000 by decide)
 have s4:=Nat.le_trans r4 (show 500000≤900000 by decide)
 have u4:=Nat.le_trans r4 (show 500000≤1000000 by decide)
 have s5:=Nat.le_trans r5 (show 500000≤900000 by decide)
 have u5:=Nat.le_trans r5 (show 500000≤1000000 by decide)
 have s6:=Nat.le_trans r6 (show 500000≤900000 by decide)
 have u6:=Nat.le_trans r6 (show 500000≤1000000 by decide)
 have s7:=Nat.le_trans r7 (show 500000≤900000 by decide)
 have u7:=Nat.le_trans r7 (show 500000≤1000000 by decide)
 have s8:=Nat.le_trans r8 (show 500000≤900000 by decide)
 have u8:=Nat.le_trans r8 (show 500000≤1000000 by decide)
 have s9:=Nat.le_trans r9 (show 500000≤900000 by decide)
 have u9:=Nat.le_trans r9 (show 500000≤1000000 by decide)
 have s10:=Nat.le_trans r10 (show 500000≤900000 by decide)
 have u10:=Nat.le_trans r10 (show 500000≤1000000 by decide)
 have s11:=Nat.le_trans r11 (show 500000≤900000 by decide)
 have u11:=Nat.le_trans r11 (show 500000≤1000000 by decide)
 have w5:n.w.length≤100000:=by omega
 have b5:n.b.length≤100000:=by omega
 have oz0:=(show NilNo Try.prog (160:Nat) "stepwell/pack.number" from (nilNo (f:=114) (by kernel_rfl)))
 have oz1 := @lnum_kd0 (L) (n) (9) hL
 have oz2:=(show MethodIs Try.prog (160:Nat) "stepwell/pack.number" (methF Try.prog (160:Nat) "stepwell/pack.number") from (methodIs (by kernel_rfl)))
 have oz4 := @lnum_na (L n.kd) (L) (n) (1024) u0 hL
 have oz6 := @of_6 (n.kd) hk
 have oz7 := @lsides_6 (L n.kd++L n.na) (L) (n) s1 hL hk
 have oz8:=z1_
 have oz9 := @lone_za (L n.kd++L n.na++L n.nb) (n) u2
 have oz11 := @lone_zb (L n.kd++L n.na++L n.nb++[w8 n.za]) (n) u3
 have oz12:=z0_
 have oz14 := @lscale_q (L n.kd++L n.na++L n.nb++[w8 n.za]++[w8 n.zb]) (L) (n) s4 hL hq
 have oz15 := @lone_qz (L n.kd++L n.na++L n.nb++[w8 n.za]++[w8 n.zb]++L n.qm++L n.qs) (n) u6
 have oz17 := @lscale_r (L n.kd++L n.na++L n.nb++[w8 n.za]++[w8 n.zb]++L n.qm++L n.qs++[w8 n.qz]) (L) (n) s7 hL hr
 have oz18 := @lone_lo (L n.kd++L n.na++L n.nb++[w8 n.za]++[w8 n.zb]++L n.qm++L n.qs++[w8 n.qz]++L n.rm++L n.rs) (n) u9
 have oz19 := @lone_hi (L n.kd++L n.na++L n.nb++[w8 n.za]++[w8 n.zb]++L n.qm++L n.qs++[w8 n.qz]++L n.rm++L n.rs++[w8 n.lo]) (n) u10
 exact VM.run (fn:=Try.f105) (W:=[.r [] [.callm [(100000,100000),(100001,100001)] [(951,20000)] (rM oz1) (oM oz1)],.r [] [.callm [(20000,950),(100000,100000),(100001,100001)] [(951,20001)] (rM oz4) (oM oz4)],.r [] [.callr (rO oz6)],.r [] [.callm [(20001,950),(100000,100000),(100001,100001)] [(951,20002)] (rM oz7) (oM oz7)],.r [] [],.br true,.r [] [.callm [(20002,950),(100000,100000),(100001,100001)] [(951,20003)] (rM oz9) (oM oz9)],.r [] [],.br true,.r [] [.callm [(20003,950),(100000,100000),(100001,100001)] [(951,20004)] (rM oz11) (oM oz11)],.r [] [],.br false,.r [] [],.br false,.r [] [.callm [(20004,950),(100000,100000),(100001,100001)] [(951,20005)] (rM oz14) (oM oz14)],.r [] [.callm [(20005,950),(100000,100000),(100001,100001)] [(951,20006)] (rM oz15) (oM oz15)],.r [] [],.br true,.r [] [.callm [(20006,950),(100000,100000),(100001,100001)] [(951,20007)] (rM oz17) (oM oz17)],.r [] [.callm [(20007,950),(100000,100000),(100001,100001)] [(951,20008)] (rM oz18) (oM oz18)],.r [] [.callm [(20008,950),(100000,100000),(100001,100001)] [(951,20009)] (rM oz19) (oM oz19)]]) (G:=[.drop [4],.ren 20009 951,.sort]) Try.func105 (by kernel_rfl) (.c oz0<|.c oz1<|.c oz2<|.c oz0<|.c oz4<|.c oz2<|.c oz6<|.c oz7<|.c oz8<|.c oz9<|.c oz8<|.c oz11<|.c oz12<|.c oz12<|.c oz14<|.c oz15<|.c oz8<|.c oz17<|.c oz18<|.c oz19<|.n)
def lb_7 (L:Int→List Int) (n:Nod):List Int:=L n.kd++L n.na++[w8 n.za]++L n.qm++L n.qs++[w8 n.qz]++[w8 n.lo]++[w8 n.hi]
theorem lwalk_7 (L:Int→List Int) (n:Nod) (hL:Puts L) (hk:n.kd=7) (hw:n.w.length≤16384) (hb:n.b.length≤16384) (hx:∀ x∈n.b,-2147483648≤x∧x≤2147483647) (hq:In32 n.qm) (hr:In32 n.rm):VM Try.prog 105 ([.ifc 160 (.ptr 100000 0 0),.ptr 100001 0 0]) ([(100000,.var [.lit (.slice none 0 0)]),(100001,.var (nodC n))]) (.tup []) ([(951,.slc 5 1 ((L n.kd++L n.na++[w8 n.za]++L n.qm++L n.qs++[w8 n.qz]++[w8 n.lo]++[w8 n.hi]).map (row1 .u8))),(100000,.var [.own 951]),(100001,.var (nodC n))]):=by
 have q0:=hL.l n.kd
 have q1:=hL.l n.na
 have q2:([w8 n.za]).length=1:=rfl
 have q3:=hL.l n.qm
 have q4:=hL.l n.qs
 have q5:([w8 n.qz]).length=1:=rfl
 have q6:([w8 n.lo]).length=1:=rfl
 have q7:([w8 n.hi]).length=1:=rfl
 have r0:(L n.kd).length≤500000:=by (try simp only [lla]);omega
 have r1:(L n.kd++L n.na).length≤500000:=by (try simp only [lla]);omega
 have r2:(L n.kd++L n.na++[w8 n.za]).length≤500000:=by (try simp only [lla]);omega
 have r3:(L n.kd++L n.na++[w8 n.za]++L n.qm).length≤500000:=by (try simp only [lla]);omega
 have r4:(L n.kd++L n.na++[w8 n.za]++L n.qm++L n.qs).length≤500000:=by (try simp only [lla]);omega
 have r5:(L n.kd++L n.na++[w8 n.za]++L n.qm++L n.qs++[w8 n.qz]).length≤500000:=by (try simp only [lla]);omega
 have r6:(L n.kd++L n.na++[w8 n.za]++L n.qm++L n.qs++[w8 n.qz]++[w8 n.lo]).length≤500000:=by (try simp only [lla]);omega
 have r7:(L n.kd++L n.na++[w8 n.za]++L n.qm++L n.qs++[w8 n.qz]++[w8 n.lo]++[w8 n.hi]).length≤500000:=by (try simp only [lla]);omega
 clear q0 q1 q2 q3 q4 q5 q6 q7
 have s0:=Nat.le_trans r0 (show 500000≤900000 by decide)
 have u0:=Nat.le_trans r0 (show 500000≤1000000 by decide)
 have s1:=Nat.le_trans r1 (show 500000≤900000 by decide)
 have u1:=Nat.le_trans r1 (show 500000≤1000000 by decide)
 have s2:=Nat.le_trans r2 (show 500000≤900000 by decide)
 have u2:=Nat.le_trans r2 (show 500000≤1000000 by decide)
 have s3:=Nat.le_trans r3 (show 500000≤900000 by decide)
 have u3:=Nat.le_trans r3 (show 500000≤1000000 by decide)
 have s4:=Nat.le_trans r4 (show 500000≤900000 by decide)
 have u4:=Nat.le_trans r4 (show 500000≤1000000 by decide)
 have s5:=Nat.le_trans r5 (show 500000≤900000 by decide)
 have u5:=Nat.le_trans r5 (show 500000≤1000000 by decide)
 have s6:=Nat.le_trans r6 (show 500000≤900000 by decide)
 have u6:=Nat.le_trans r6 (show 500000≤1000000 by decide)
 have s7:=Nat.le_trans r7 (show 500000≤900000 by decide)
 have u7:=Nat.le_trans r7 (show 500000≤1000000 by decide)
 have w5:n.w.length≤100000:=by omega
 have b5:n.b.length≤100000:=by omega
 have oz0:=(show NilNo Try.prog (160:Nat) "stepwell/pack.number" from (nilNo (f:=114) (by kernel_rfl)))
 have oz1 := @lnum_kd0 (L) (n) (9) hL
 have oz2:=(show MethodIs Try.prog (160:Nat) "stepwell/pack.number" (methF Try.prog (160:Nat) "stepwell/pack.number") from (methodIs (by kernel_rfl)))
 have oz4 := @lnum_na (L n.kd) (L) (n) (1024) u0 hL
 have oz6 := @of_7 (n.kd) hk
 have oz7 := @lsides_7 (L n.kd++L n.na) (L) (n) s1 hL hk
 have oz9 := @lone_za (L n.kd++L n.na) (n) u1
 have oz10:=z0_
 have oz13 := @lscale_q (L n.kd++L n.na++[w8 n.za]) (L) (n) s2 hL hq
 have oz14 := @lone_qz (L n.kd++L n.na++[w8 n.za]++L n.qm++L n.qs) (n) u4
 have oz16 := @lone_lo (L n.kd++L n.na++[w8 n.za]++L n.qm++L n.qs++[w8 n.qz]) (n) u5
 have oz17 := @lone_hi (L n.kd++L n.na++[w8 n.za]++L n.qm++L n.qs++[w8 n.qz]++[w8 n.lo]) (n) u6
 exact VM.run (fn:=Try.f105) (W:=[.r [] [.callm [(100000,100000),(100001,100001)] [(951,20000)] (rM oz1) (oM oz1)],.r [] [.callm [(20000,950),(100000,100000),(100001,100001)] [(951,20001)] (rM oz4) (oM oz4)],.r [] [.callr (rO oz6)],.r [] [.callm [(20001,950),(100000,100000),(100001,100001)] [(950,20002)] (rM oz7) (oM oz7)],.r [] [],.br true,.r [] [.callm [(20002,950),(100000,100000),(100001,100001)] [(951,20003)] (rM oz9) (oM oz9)],.r [] [],.br false,.r [] [],.br false,.r [] [],.br false,.r [] [.callm [(20003,950),(100000,100000),(100001,100001)] [(951,20004)] (rM oz13) (oM oz13)],.r [] [.callm [(20004,950),(100000,100000),(100001,100001)] [(951,20005)] (rM oz14) (oM oz14)],.r [] [],.br false,.r [] [.callm [(20005,950),(100000,100000),(100001,100001)] [(951,20006)] (rM oz16) (oM oz16)],.r [] [.callm [(20006,950),(100000,100000),(100001,100001)] [(951,20007)] (rM oz17) (oM oz17)]]) (G:=[.drop [4],.ren 20007 951,.sort]) Try.func105 (by kernel_rfl) (.c oz0<|.c oz1<|.c oz2<|.c oz0<|.c oz4<|.c oz2<|.c oz6<|.c oz7<|.c z1_<|.c oz9<|.c oz10<|.c oz10<|.c oz10<|.c oz13<|.c oz14<|.c oz10<|.c oz16<|.c oz17<|.n)
def lb_8 (L:Int→List Int) (n:Nod):List Int:=L n.kd++L n.na++L n.np++[w8 n.za]
theorem lwalk_8 (L:Int→List Int) (n:Nod) (hL:Puts L) (hk:n.kd=8) (hw:n.w.length≤16384) (hb:n.b.length≤16384) (hx:∀ x∈n.b,-2147483648≤x∧x≤2147483647) (hq:In32 n.qm) (hr:In32 n.rm):VM Try.prog 105 ([.ifc 160 (.ptr 100000 0 0),.ptr 100001 0 0]) ([(100000,.var [.lit (.slice none 0 0)]),(100001,.var (nodC n))]) (.tup []) ([(951,.slc 5 1 ((L n.kd++L n.na++L n.np++[w8 n.za]).map (row1 .u8))),(100000,.var [.own 951]),(100001,.var (nodC n))]):=by
 have q0:=hL.l n.kd
 have q1:=hL.l n.na
 have q2:=hL.l n.np
 have q3:([w8 n.za]).length=1:=rfl
 have r0:(L n.kd).length≤500000:=by (try simp only [lla]);omega
 have r1:(L n.kd++L n.na).length≤500000:=by (try simp only [lla]);omega
 have r2:(L n.kd++L n.na++L n.np).length≤500000:=by (try simp only [lla]);omega
 have r3:(L n.kd++L n.na++L n.np++[w8 n.za]).length≤500000:=by (try simp only [lla]);omega
 clear q0 q1 q2 q3
 have s0:=Nat.le_trans r0 (show 500000≤900000 by decide)
 have u0:=Nat.le_trans r0 (show 500000≤1000000 by decide)
 have s1:=Nat.le_trans r1 (show 500000≤900000 by decide)
 have u1:=Nat.le_trans r1 (show 500000≤1000000 by decide)
 have s2:=Nat.le_trans r2 (show 500000≤900000 by decide)
 have u2:=Nat.le_trans r2 (show 500000≤1000000 by decide)
 have s3:=Nat.le_trans r3 (show 500000≤900000 by decide)
 have u3:=Nat.le_trans r3 (show 500000≤1000000 by decide)
 have w5:n.w.length≤100000:=by omega
 have b5:n.b.length≤100000:=by omega
 have oz0:=(show NilNo Try.prog (160:Nat) "stepwell/pack.number" from (nilNo (f:=114) (by kernel_rfl)))
 have oz1 := @lnum_kd0 (L) (n) (9) hL
 have oz2:=(show MethodIs Try.prog (160:Nat) "stepwell/pack.number" (methF Try.prog (160:Nat) "stepwell/pack.number") from (methodIs (by kernel_rfl)))
 have oz4 := @lnum_na (L n.kd) (L) (n) (1024) u0 hL
 have oz6 := @of_8 (n.kd) hk
 have oz7 := @lsides_8 (L n.kd++L n.na) (L) (n) s1 hL hk
 have oz8:=z1_
 have oz9 := @lone_za (L n.kd++L n.na++L n.np) (n) u2
 have oz10:=z0_
 exact VM.run (fn:=Try.f105) (W:=[.r [] [.callm [(100000,100000),(100001,100001)] [(951,20000)] (rM oz1) (oM oz1)],.r [] [.callm [(20000,950),(100000,100000),(100001,100001)] [(951,20001)] (rM oz4) (oM oz4)],.r [] [.callr (rO oz6)],.r [] [.callm [(20001,950),(100000,100000),(100001,100001)] [(951,20002)] (rM oz7) (oM oz7)],.r [] [],.br true,.r [] [.callm [(20002,950),(100000,100000),(100001,100001)] [(951,20003)] (rM oz9) (oM oz9)],.r [] [],.br false,.r [] [],.br false,.r [] [],.br true]) (G:=[.drop [4],.ren 20003 951,.sort]) Try.func105 (by kernel_rfl) (.c oz0<|.c oz1<|.c oz2<|.c oz0<|.c oz4<|.c oz2<|.c oz6<|.c oz7<|.c oz8<|.c oz9<|.c oz10<|.c oz10<|.c oz8<|.n)
def lb_9 (L:Int→List Int) (n:Nod):List Int:=L n.kd++L n.na
theorem lwalk_9 (L:Int→List Int) (n:Nod) (hL:Puts L) (hk:n.kd<1∨8<n.kd) (hw:n.w.length≤16384) (hb:n.b.length≤16384) (hx:∀ x∈n.b,-2147483648≤x∧x≤2147483647) (hq:In32 n.qm) (hr:In32 n.rm):VM Try.prog 105 ([.ifc 160 (.ptr 100000 0 0),.ptr 100001 0 0]) ([(100000,.var [.lit (.slice none 0 0)]),(100001,.var (nodC n))]) (.tup []) ([(951,.slc 5 1 ((L n.kd++L n.na).map (row1 .u8))),(100000,.var [.own 951]),(100001,.var (nodC n))]):=by
 have q0:=hL.l n.kd
 have q1:=hL.l n.na
 have r0:(L n.kd).length≤500000:=by (try simp only [lla]);omega
 have r1:(L n.kd++L n.na).length≤500000:=by (try simp only [lla]);omega
 clear q0 q1
 have s0:=Nat.le_trans r0 (show 500000≤900000 by decide)
 have u0:=Nat.le_trans r0 (show 500000≤1000000 by decide)
 have s1:=Nat.le_trans r1 (show 500000≤900000 by decide)
 have u1:=Nat.le_trans r1 (show 500000≤1000000 by decide)
 have w5:n.w.length≤100000:=by omega
 have b5:n.b.length≤100000:=by omega
 have oz0:=(show NilNo Try.prog (160:Nat) "stepwell/pack.number" from (nilNo (f:=114) (by kernel_rfl)))
 have oz1 := @lnum_kd0 (L) (n) (9) hL
 have oz2:=(show MethodIs Try.prog (160:Nat) "stepwell/pack.number" (methF Try.prog (160:Nat) "stepwell/pack.number") from (methodIs (by kernel_rfl)))
 have oz4 := @lnum_na (L n.kd) (L) (n) (1024) u0 hL
 have oz6 := @of_9 (n.kd) hk
 have oz7 := @lsides_9 (L n.kd++L n.na) (L) (n) s1 hL hk
 have oz8:=z0_
 exact VM.run (fn:=Try.f105) (W:=[.r [] [.callm [(100000,100000),(100001,100001)] [(951,20000)] (rM oz1) (oM oz1)],.r [] [.callm [(20000,950),(100000,100000),(100001,100001)] [(951,20001)] (rM oz4) (oM oz4)],.r [] [.callr (rO oz6)],.r [] [.callm [(20001,950),(100000,100000),(100001,100001)] [(950,20002)] (rM oz7) (oM oz7)],.r [] [],.br false,.r [] [],.br false,.r [] [],.br false,.r [] [],.br true]) (G:=[.drop [4],.ren 20002 951,.sort]) Try.func105 (by kernel_rfl) (.c oz0<|.c oz1<|.c oz2<|.c oz0<|.c oz4<|.c oz2<|.c oz6<|.c oz7<|.c oz8<|.c oz8<|.c oz8<|.c z1_<|.n)
def nodeL (L:Int→List Int) (n:Nod):List Int:=if n.kd=1 then lb_1 L n else if n.kd=2 then lb_2 L n else if n.kd=3 then lb_3 L n else if n.kd=4∨n.kd=5 then lb_4 L n else if n.kd=6 then lb_6 L n else if n.kd=7 then lb_7 L n else if n.kd=8 then lb_8 L n else lb_9 L n
theorem lwalk_v (L:Int→List Int) (n:Nod) (hL:Puts L) (hw:n.w.length≤16384) (hb:n.b.length≤16384) (hx:∀ x∈n.b,-2147483648≤x∧x≤2147483647) (hq:In32 n.qm) (hr:In32 n.rm):VM Try.prog 105 [.ifc 160 (.ptr 100000 0 0),.ptr 100001 0 0] [(100000,.var [.lit (.slice none 0 0)]),(100001,.var (nodC n))] (.tup []) [(951,.slc 5 1 ((nodeL L n).map (row1 .u8))),(100000,.var [.own 951]),(100001,.var (nodC n))]:=by
 by_cases k1:n.kd=1
 ·rw [show nodeL L n=lb_1 L n from by unfold nodeL;rw [if_pos k1]]
  exact lwalk_1 L n hL k1 hw hb hx hq hr
 by_cases k2:n.kd=2
 ·rw [show nodeL L n=lb_2 L n from by unfold nodeL;rw [if_neg k1,if_pos k2]]
  exact lwalk_2 L n hL k2 hw hb hx hq hr
 by_cases k3:n.kd=3
 ·rw [show nodeL L n=lb_3 L n from by unfold nodeL;rw [if_neg k1,if_neg k2,if_pos k3]]
  exact lwalk_3 L n hL k3 hw hb hx hq hr
 by_cases k4:n.kd=4∨n.kd=5
 ·rw [show nodeL L n=lb_4 L n from by unfold nodeL;rw [if_neg k1,if_neg k2,if_neg k3,if_pos k4]]
  exact lwalk_4 L n hL k4 hw hb hx hq hr
 by_cases k6:n.kd=6
 ·rw [show nodeL L n=lb_6 L n from by unfold nodeL;rw [if_neg k1,if_neg k2,if_neg k3,if_neg k4,if_pos k6]]
  exact lwalk_6 L n hL k6 hw hb hx hq hr
 by_cases k7:n.kd=7
 ·rw [show nodeL L n=lb_7 L n from by unfold nodeL;rw [if_neg k1,if_neg k2,if_neg k3,if_neg k4,if_neg k6,if_pos k7]]
  exact lwalk_7 L n hL k7 hw hb hx hq hr
 by_cases k8:n.kd=8
 ·rw [show nodeL L n=lb_8 L n from by unfold nodeL;rw [if_neg k1,if_neg k2,if_neg k3,if_neg k4,if_neg k6,if_neg k7,if_pos k8]]
  exact lwalk_8 L n hL k8 hw hb hx hq hr
 rw [show nodeL L n=lb_9 L n from by unfold nodeL;rw [if_neg k1,if_neg k2,if_neg k3,if_neg k4,if_neg k6,if_neg k7,if_neg k8]]
 exact lwalk_9 L n hL (by omega) hw hb hx hq hr
theorem first_fail {p:Nat→Bool}:∀ n,(∃ k,k<n∧p k=false)→∃ m,m<n∧p m=false∧∀ k,k<m→p k=true
 | 0,⟨k,h,_⟩=>by omega
 | n+1,⟨k,h,hp⟩=>by
  by_cases hq:∃ k,k<n∧p k=false
  ·obtain ⟨m,h1,h2,h3⟩:=first_fail n hq;exact ⟨m,by omega,h2,h3⟩
  ·have hk:k=n:=by
    apply cbc;intro hne;exact hq ⟨k,by omega,hp⟩
   subst hk
   refine ⟨k,by omega,hp,fun j hj=>?_⟩
   cases hpj:p j with
   | true=>rfl
   | false=>exact absurd ⟨j,hj,hpj⟩ hq
theorem all_or (p:Nat→Bool) (n:Nat):(∀ k,k<n→p k=true)∨∃ m,m<n∧p m=false∧∀ k,k<m→p k=true:=by
 by_cases hq:∃ k,k<n∧p k=false
 ·exact .inr (first_fail n hq)
 ·refine .inl fun k hk=>?_
  cases hpk:p k with
  | true=>rfl
  | false=>exact absurd ⟨k,hk,hpk⟩ hq
theorem all_getD {α:Type} [Inhabited α] {l:List α} {p:α→Bool}:l.all p=true↔∀ k,k<l.length→p (l.getD k default)=true:=by
 rw [List.all_eq_true]
 constructor
 ·intro h k hk
  rw [List.getD_eq_getElem?_getD,List.getElem?_eq_getElem hk];exact h _ (List.getElem_mem hk)
 ·intro h x hx
  obtain ⟨i,hi,rfl⟩:=List.getElem_of_mem hx
  have:=h i hi
  rwa [List.getD_eq_getElem?_getD,List.getElem?_eq_getElem hi] at this
theorem clone32_a   : VC Try.prog 145 ([nilv]) (ints .i32 []):=by
 exact (VC.run (fn:=Try.f145) (W:=[.r [] [],.r [] [],.br true,.r [] []]) (r:=nilv) Try.func145 (by kernel_rfl) (.c z1_<|.n)).weak (WeakL.refl _) (Weak.nil _)
theorem clone32_b (a:Addr) (cap:Nat) (h:cap≤maxLen):VC Try.prog 145 ([.lit (.slice (some a) 0 cap)]) (ints .i32 []):=by
 exact VC.run (fn:=Try.f145) (W:=[.r [] [],.r [] [],.br false,.r [] [.code Exit.normal (VS.mk [AV.sl 1 []] [])]]) Try.func145 (by kernel_rfl) (.c z0_<|.c (show Weak (AV.lit (Value.slice (some a) 0 cap)) (AV.sl 1 []) from (Weak.empty _ _ (by assumption)))<|.c (show ((0:Nat)+(0:Nat))*(4:Nat)≤(140737488355328:Nat) by omega)<|.c (show (0:Nat)+(0:Nat)≤(9223372036854775807:Nat) by omega)<|.n)
theorem clone32_c (l:List Int) (h:l≠[]) (hl:l.length≤1000000):VC Try.prog 145 ([ints .i32 l]) (ints .i32 l):=by
 exact (VC.run (fn:=Try.f145) (W:=[.r [] [],.r [] [],.br false,.r [] []]) (r:=AV.sl 1 ([]++List.map (row1 IntKind.i32) l)) Try.func145 (by kernel_rfl) (.c (show List.map (row1 IntKind.i32) l≠[] by (simp;omega))<|.c z0_<|.c (show (0+(List.map (row1 IntKind.i32) l).length)*4≤140737488355328 by (simp;omega))<|.c (show 0+(List.map (row1 IntKind.i32) l).length≤9223372036854775807 by (simp;omega))<|.n)).weak (WeakL.refl _) (Weak.rows (rows_to (row1 IntKind.i32) (r:=[]++List.map (row1 IntKind.i32) l) (l:=[]++l) (m:=l) (by first|(simp;done)|rfl|(simp;rfl)) (show ([]++l)=(l) from (by (simp;done)))))
theorem clone32_v (l:List Int) (hl:l.length≤1000000):VC Try.prog 145 [ints .i32 l] (ints .i32 l):=by
 cases l with
 | nil=>exact VC.empty1 clone32_a fun a cap h=>clone32_b a cap h
 | cons x l=>exact clone32_c _ (by simp) hl
theorem clone8_a   : VC Try.prog 144 ([nilv]) (ints .i8 []):=by
 exact (VC.run (fn:=Try.f144) (W:=[.r [] [],.r [] [],.br true,.r [] []]) (r:=nilv) Try.func144 (by kernel_rfl) (.c z1_<|.n)).weak (WeakL.refl _) (Weak.nil _)
theorem clone8_b (a:Addr) (cap:Nat) (h:cap≤maxLen):VC Try.prog 144 ([.lit (.slice (some a) 0 cap)]) (ints .i8 []):=by
 exact VC.run (fn:=Try.f144) (W:=[.r [] [],.r [] [],.br false,.r [] [.code Exit.normal (VS.mk [AV.sl 1 []] [])]]) Try.func144 (by kernel_rfl) (.c z0_<|.c (show Weak (AV.lit (Value.slice (some a) 0 cap)) (AV.sl 1 []) from (Weak.empty _ _ (by assumption)))<|.c (show ((0:Nat)+(0:Nat))*(1:Nat)≤(140737488355328:Nat) by omega)<|.c (show (0:Nat)+(0:Nat)≤(9223372036854775807:Nat) by omega)<|.n)
theorem clone8_c (l:List Int) (h:l≠[]) (hl:l.length≤1000000):VC Try.prog 144 ([ints .i8 l]) (ints .i8 l):=by
 exact (VC.run (fn:=Try.f144) (W:=[.r [] [],.r [] [],.br false,.r [] []]) (r:=AV.sl 1 ([]++List.map (row1 IntKind.i8) l)) Try.func144 (by kernel_rfl) (.c (show List.map (row1 IntKind.i8) l≠[] by (simp;omega))<|.c z0_<|.c (show (0+(List.map (row1 IntKind.i8) l).length)*1≤140737488355328 by (simp;omega))<|.c (show 0+(List.map (row1 IntKind.i8) l).length≤9223372036854775807 by (simp;omega))<|.n)).weak (WeakL.refl _) (Weak.rows (rows_to (row1 IntKind.i8) (r:=[]++List.map (row1 IntKind.i8) l) (l:=[]++l) (m:=l) (by first|(simp;done)|rfl|(simp;rfl)) (show ([]++l)=(l) from (by (simp;done)))))
theorem clone8_v (l:List Int) (hl:l.length≤1000000):VC Try.prog 144 [ints .i8 l] (ints .i8 l):=by
 cases l with
 | nil=>exact VC.empty1 clone8_a fun a cap h=>clone8_b a cap h
 | cons x l=>exact clone8_c _ (by simp) hl
def kindNames:List ByteArray:=[⟨#[]⟩,⟨#[99,111,110,118]⟩,⟨#[100,101,112,116,104]⟩,⟨#[100,101,110,115,101]⟩,⟨#[109,97,120,112,111,111,108]⟩,⟨#[97,118,103,112,111,111,108]⟩,⟨#[106,111,105,110]⟩,⟨#[97,99,116]⟩,⟨#[112,97,100]⟩,⟨#[102,108,97,116]⟩]
def nameS (k:Int):ByteArray:=kindNames.getD k.toNat ⟨#[]⟩
abbrev strv (s:ByteArray):AV:=.lit (.string s)
theorem name_row {k:Int} (h1:k<10):([[strv ⟨#[]⟩],[strv ⟨#[99,111,110,118]⟩],[strv ⟨#[100,101,112,116,104]⟩],[strv ⟨#[100,101,110,115,101]⟩],[strv ⟨#[109,97,120,112,111,111,108]⟩],[strv ⟨#[97,118,103,112,111,111,108]⟩],[strv ⟨#[106,111,105,110]⟩],[strv ⟨#[97,99,116]⟩],[strv ⟨#[112,97,100]⟩],[strv ⟨#[102,108,97,116]⟩]]:List (List AV))[k.toNat]? = some [strv (nameS k)] :=
 map_at (fun s=>[strv s]) ⟨#[]⟩ (l:=kindNames) (i:=k.toNat) (by show k.toNat<10;omega)
theorem name_out {k:Int} (h:k<0∨10≤k):nameS k=⟨#[]⟩:=by
 unfold nameS
 rcases h with h | h
 ·rw [show k.toNat=0 by omega];rfl
 ·rw [List.getD_eq_getElem?_getD,List.getElem?_eq_none (by show 10≤k.toNat;omega)];rfl
theorem name_in {k:Int} (h0:1≤k) (h1:k≤9):nameS k≠⟨#[]⟩:=by
 have:k=1∨k=2∨k=3∨k=4∨k=5∨k=6∨k=7∨k=8∨k=9:=by omega
 rcases this with rfl | rfl | rfl | rfl | rfl | rfl | rfl | rfl | rfl<;>(intro h;exact absurd (congrArg (fun b:ByteArray=>b.size) h) (by decide))
theorem nameEq_in {k:Int} (h0:1≤k) (h1:k≤9):((nameS k).toList==(ByteArray.mk #[]).toList)=false:=by
 have:k=1∨k=2∨k=3∨k=4∨k=5∨k=6∨k=7∨k=8∨k=9:=by omega
 have e1:((nameS 1).toList==(ByteArray.mk #[]).toList)=false:=by kernel_rfl
 have e2:((nameS 2).toList==(ByteArray.mk #[]).toList)=false:=by kernel_rfl
 have e3:((nameS 3).toList==(ByteArray.mk #[]).toList)=false:=by kernel_rfl
 have e4:((nameS 4).toList==(ByteArray.mk #[]).toList)=false:=by kernel_rfl
 have e5:((nameS 5).toList==(ByteArray.mk #[]).toList)=false:=by kernel_rfl
 have e6:((nameS 6).toList==(ByteArray.mk #[]).toList)=false:=by kernel_rfl
 have e7:((nameS 7).toList==(ByteArray.mk #[]).toList)=false:=by kernel_rfl
 have e8:((nameS 8).toList==(ByteArray.mk #[]).toList)=false:=by kernel_rfl
 have e9:((nameS 9).toList==(ByteArray.mk #[]).toList)=false:=by kernel_rfl
 rcases this with rfl | rfl | rfl | rfl | rfl | rfl | rfl | rfl | rfl<;>assumption
theorem nameEq_out {k:Int} (h:k<1∨9<k):((nameS k).toList==(ByteArray.mk #[]).toList)=true:=by
 have:nameS k=⟨#[]⟩:=by
  by_cases h0:k=0
  ·subst h0;rfl
  ·exact name_out (by omega)
 rw [this];exact beq_self_eq_true _
theorem name_v (k:Int) (hk:In64 k):VC Try.prog 161 ([i64 k]) (strv (nameS k)):=by
 rcases bft (decide (k<0) || decide (k≥10)) with hc0 | hc0
 ·have gc0:k<0∨k≥10:=by first | (simp only [Bool.or_eq_true,Bool.or_eq_false_iff,Bool.and_eq_true,Bool.and_eq_false_iff,Bool.not_eq_true',Bool.not_eq_false',decide_eq_true_eq,decide_eq_false_iff_not,beq_iff_eq,bne_iff_ne,ne_eq,beq_eq_false_iff_ne,bne_eq_false_iff_eq,eqNums,Bool.and_true] at hc0;first | exact hc0 | omega) | simpa using hc0 | (simp at hc0 ⊢;omega) | (apply cbc;intro hn;simp_all [eqNums];done) | (apply cbc;intro hn;simp [eqNums] at hc0 hn;omega)
  exact (VC.run (fn:=Try.f161) (W:=[.r [] [],.r [] [],.r [] [.op false,.op false,.sel 1],.br true,.r [] []]) (r:=AV.lit (Value.string (ByteArray.mk #[]))) Try.func161 (by kernel_rfl) (.c hc0<|.n)).weak (WeakL.refl _) (Weak.str (show ((ByteArray.mk #[]):ByteArray)=(nameS k) from (by (rw [name_out (by omega)]))))
 ·have gc0:¬k<0∧¬k≥10:=by first | (simp only [Bool.or_eq_true,Bool.or_eq_false_iff,Bool.and_eq_true,Bool.and_eq_false_iff,Bool.not_eq_true',Bool.not_eq_false',decide_eq_true_eq,decide_eq_false_iff_not,beq_iff_eq,bne_iff_ne,ne_eq,beq_eq_false_iff_ne,bne_eq_false_iff_eq,eqNums,Bool.and_true] at hc0;first | exact hc0 | omega) | simpa using hc0 | (simp at hc0 ⊢;omega) | (apply cbc;intro hn;simp_all [eqNums];done) | (apply cbc;intro hn;simp [eqNums] at hc0 hn;omega)
  have oz3:=(show [[AV.lit (Value.string (ByteArray.mk #[]))],[AV.lit (Value.string (ByteArray.mk #[99,111,110,118]))],[AV.lit (Value.string (ByteArray.mk #[100,101,112,116,104]))],[AV.lit (Value.string (ByteArray.mk #[100,101,110,115,101]))],[AV.lit (Value.string (ByteArray.mk #[109,97,120,112,111,111,108]))],[AV.lit (Value.string (ByteArray.mk #[97,118,103,112,111,111,108]))],[AV.lit (Value.string (ByteArray.mk #[106,111,105,110]))],[AV.lit (Value.string (ByteArray.mk #[97,99,116]))],[AV.lit (Value.string (ByteArray.mk #[112,97,100]))],[AV.lit (Value.string (ByteArray.mk #[102,108,97,116]))]][k.toNat]? = some [strv (nameS k)] by (exact name_row (by omega)))
  exact VC.run (fn:=Try.f161) (W:=[.r [] [],.r [] [],.r [] [.op false,.op false,.sel 1],.br false,.r [] [.row (sO oz3)]]) Try.func161 (by kernel_rfl) (.c hc0<|.c (show 0≤k by omega)<|.c (show k<(↑10:Int) by omega)<|.c oz3<|.n)
theorem refName_v (k:Int) (hk:In64 k):VC Try.prog 170 ([i64 k]) (strv (nameS k)):=by
 rcases bft (decide (k<0) || decide (k > 9)) with hc0 | hc0
 ·have gc0:k<0∨k > 9:=by first | (simp only [Bool.or_eq_true,Bool.or_eq_false_iff,Bool.and_eq_true,Bool.and_eq_false_iff,Bool.not_eq_true',Bool.not_eq_false',decide_eq_true_eq,decide_eq_false_iff_not,beq_iff_eq,bne_iff_ne,ne_eq,beq_eq_false_iff_ne,bne_eq_false_iff_eq,eqNums,Bool.and_true] at hc0;first | exact hc0 | omega) | simpa using hc0 | (simp at hc0 ⊢;omega) | (apply cbc;intro hn;simp_all [eqNums];done) | (apply cbc;intro hn;simp [eqNums] at hc0 hn;omega)
  exact (VC.run (fn:=Try.f170) (W:=[.r [] [],.r [] [],.r [] [.op false,.op false,.sel 1],.br true,.r [] []]) (r:=AV.lit (Value.string (ByteArray.mk #[]))) Try.func170 (by kernel_rfl) (.c hc0<|.n)).weak (WeakL.refl _) (Weak.str (show ((ByteArray.mk #[]):ByteArray)=(nameS k) from (by (rw [name_out (by omega)]))))
 ·have gc0:¬k<0∧¬k > 9:=by first | (simp only [Bool.or_eq_true,Bool.or_eq_false_iff,Bool.and_eq_true,Bool.and_eq_false_iff,Bool.not_eq_true',Bool.not_eq_false',decide_eq_true_eq,decide_eq_false_iff_not,beq_iff_eq,bne_iff_ne,ne_eq,beq_eq_false_iff_ne,bne_eq_false_iff_eq,eqNums,Bool.and_true] at hc0;first | exact hc0 | omega) | simpa using hc0 | (simp at hc0 ⊢;omega) | (apply cbc;intro hn;simp_all [eqNums];done) | (apply cbc;intro hn;simp [eqNums] at hc0 hn;omega)
  have oz3:=(show [[AV.lit (Value.string (ByteArray.mk #[]))],[AV.lit (Value.string (ByteArray.mk #[99,111,110,118]))],[AV.lit (Value.string (ByteArray.mk #[100,101,112,116,104]))],[AV.lit (Value.string (ByteArray.mk #[100,101,110,115,101]))],[AV.lit (Value.string (ByteArray.mk #[109,97,120,112,111,111,108]))],[AV.lit (Value.string (ByteArray.mk #[97,118,103,112,111,111,108]))],[AV.lit (Value.string (ByteArray.mk #[106,111,105,110]))],[AV.lit (Value.string (ByteArray.mk #[97,99,116]))],[AV.lit (Value.string (ByteArray.mk #[112,97,100]))],[AV.lit (Value.string (ByteArray.mk #[102,108,97,116]))]][k.toNat]? = some [strv (nameS k)] by (exact name_row (by omega)))
  exact VC.run (fn:=Try.f170) (W:=[.r [] [],.r [] [],.r [] [.op false,.op false,.sel 1],.br false,.r [] [.row (sO oz3)]]) Try.func170 (by kernel_rfl) (.c hc0<|.c (show 0≤k by omega)<|.c (show k<(↑10:Int) by omega)<|.c oz3<|.n)
theorem getD_ext {l m:List Int} (hl:l.length=m.length) (h:∀ k,k<l.length→(l.getD k 0==m.getD k 0)=true):l=m:=by
 apply List.ext_getElem hl
 intro i h1 h2
 have:=h i h1
 rw [beq_iff_eq,List.getD_eq_getElem?_getD,List.getD_eq_getElem?_getD,List.getElem?_eq_getElem h1,List.getElem?_eq_getElem h2] at this
 simpa using this
theorem list_cases (l m:List Int):l.length≠m.length∨l=m∨(l.length=m.length∧∃ k,k<l.length∧l.getD k 0≠m.getD k 0∧∀ j,j<k→l.getD j 0=m.getD j 0):=by
 by_cases hl:l.length=m.length
 ·rcases all_or (fun k=>l.getD k 0==m.getD k 0) l.length with h | ⟨k,h1,h2,h3⟩
  ·exact .inr (.inl (getD_ext hl h))
  ·exact .inr (.inr ⟨hl,k,h1,by simpa using h2,fun j hj=>by simpa using h3 j hj⟩)
 ·exact .inl hl
theorem VC.alike {P:Program} {f:Nat} {k:IntKind} {l m:List Int} (h1:l.length≠m.length→VC P f [ints k l,ints k m] (bv false)) (h2:VC P f [ints k l,ints k l] (bv true)) (h3:∀ i,l.length=m.length→i<l.length→l.getD i 0≠m.getD i 0→(∀ j,j<i→l.getD j 0=m.getD j 0)→VC P f [ints k l,ints k m] (bv false)):VC P f [ints k l,ints k m] (bv (decide (l=m))):=by
 rcases list_cases l m with h | rfl | ⟨h,i,a,b,c⟩
 ·rw [decide_eq_false (fun e=>h (by rw [e]))];exact h1 h
 ·rw [decide_eq_true rfl];exact h2
 ·rw [decide_eq_false (fun e=>b (by rw [e]))];exact h3 i h a b c
noncomputable def eq8_ly_I (l:List Int) (k:Nat):VS:=stt 26 [(0,ints .i8 l),(1,ints .i8 l),(12,i64 l.length),(13,i64 k)] []
noncomputable def eq8_ly_Z (l:List Int):VS:=eq8_ly_I l (l.length)
theorem eq8_ly_s (l:List Int) (hl:l.length≤1000000) (k:Nat) (hk:k<l.length):VT Try.prog (fnC Try.f207 [1,1,0,1,0,0]) (eq8_ly_I l k) .normal (eq8_ly_I l (k+1)):=by
 have oz1:=(show 0≤(↑k:Int) by omega)
 have oz2:=(map_at (row1 IntKind.i8) (0) (l:=l) (i:=k) hk)
 exact VT.run (W:=[.r [] [],.br true,.r [] [],.r [] [.row (sO oz2),.row (sO oz2)],.br false,.r [] [.n ((↑k:Int)+1)]]) (G:=[.any (rg [(5,1),(14,12)]),.weak 13 (i64 (↑(k+1):Int)),.sort]) (by kernel_rfl) (.c (decide_eq_true (p:=((↑k:Int)<(↑l.length:Int))) (by omega))<|.c oz1<|.c oz2<|.c oz1<|.c oz2<|.c (show (l.getD k 0 != l.getD k 0)=false by (simp;done))<|.c (i6n ((↑k:Int)+1) (by omega))<|.c (Weak.int (k:=.i64) (show (((↑k:Int)+1):Int)=((↑(k+1):Int)) from (by omega)))<|.n)
theorem eq8_ly_e (l:List Int) (hl:l.length≤1000000):VT Try.prog (fnC Try.f207 [1,1,0,1,0,0]) (eq8_ly_I l (l.length)) (.exit 0) (eq8_ly_Z l):=by
 exact VT.run (W:=[.r [] [],.br false]) (G:=[.any [14],.sort]) (by kernel_rfl) (.c (decide_eq_false (p:=((↑l.length:Int)<(↑l.length:Int))) (by omega))<|.n)
theorem eq8_ly (l:List Int) (hl:l.length≤1000000):VT Try.prog (fnC Try.f207 [1,1,0,1,0]) (eq8_ly_I l 0) (.exit 0) (eq8_ly_Z l) :=
 VT.loop (fun k=>eq8_ly_I l k) (l.length) (fun k hk=>eq8_ly_s l hl k hk) (eq8_ly_e l hl) (by intro h;cases h)
noncomputable def eq8_ln_I (l m:List Int) (i:Nat) (k:Nat):VS:=stt 26 [(0,ints .i8 l),(1,ints .i8 m),(12,i64 l.length),(13,i64 k)] []
noncomputable def eq8_ln_Z (l m:List Int) (i:Nat):VS:=stt 26 [(4,bv false)] []
theorem eq8_ln_s (l m:List Int) (i:Nat) (hl:l.length≤1000000) (hm:l.length=m.length) (hi:i<l.length) (hne:l.getD i 0≠m.getD i 0) (h:∀ j,j<i→l.getD j 0=m.getD j 0) (k:Nat) (hk:k<i):VT Try.prog (fnC Try.f207 [1,1,0,1,0,0]) (eq8_ln_I l m i k) .normal (eq8_ln_I l m i (k+1)):=by
 have q:=h k hk
 have oz1:=(show 0≤(↑k:Int) by omega)
 exact VT.run (W:=[.r [] [],.br true,.r [] [],.r [] [.row [i8 (l.getD k 0)],.row [i8 (m.getD k 0)]],.br false,.r [] [.n ((↑k:Int)+1)]]) (G:=[.any (rg [(5,1),(14,12)]),.weak 13 (i64 (↑(k+1):Int)),.sort]) (by kernel_rfl) (.c (decide_eq_true (p:=((↑k:Int)<(↑l.length:Int))) (by omega))<|.c oz1<|.c (map_at (row1 IntKind.i8) (0) (l:=l) (i:=k) (by omega))<|.c oz1<|.c (map_at (row1 IntKind.i8) (0) (l:=m) (i:=k) (by omega))<|.c (show (l.getD k 0 != m.getD k 0)=false by (simp at *;omega))<|.c (i6n ((↑k:Int)+1) (by omega))<|.c (Weak.int (k:=.i64) (show (((↑k:Int)+1):Int)=((↑(k+1):Int)) from (by omega)))<|.n)
theorem eq8_ln_e (l m:List Int) (i:Nat) (hl:l.length≤1000000) (hm:l.length=m.length) (hi:i<l.length) (hne:l.getD i 0≠m.getD i 0) (h:∀ j,j<i→l.getD j 0=m.getD j 0):VT Try.prog (fnC Try.f207 [1,1,0,1,0,0]) (eq8_ln_I l m i (i)) (.ret) (eq8_ln_Z l m i):=by
 have oz1:=(show 0≤(↑i:Int) by omega)
 exact VT.run (W:=[.r [] [],.br true,.r [] [],.r [] [.row [i8 (l.getD i 0)],.row [i8 (m.getD i 0)]],.br true,.r [] []]) (G:=[.any (rg [(0,2),(5,1),(12,13)]),.sort]) (by kernel_rfl) (.c (decide_eq_true (p:=((↑i:Int)<(↑l.length:Int))) (by omega))<|.c oz1<|.c (map_at (row1 IntKind.i8) (0) (l:=l) (i:=i) hi)<|.c oz1<|.c (map_at (row1 IntKind.i8) (0) (l:=m) (i:=i) (by omega))<|.c (show (l.getD i 0 != m.getD i 0)=true by (simp at *;omega))<|.n)
theorem eq8_ln (l m:List Int) (i:Nat) (hl:l.length≤1000000) (hm:l.length=m.length) (hi:i<l.length) (hne:l.getD i 0≠m.getD i 0) (h:∀ j,j<i→l.getD j 0=m.getD j 0):VT Try.prog (fnC Try.f207 [1,1,0,1,0]) (eq8_ln_I l m i 0) (.ret) (eq8_ln_Z l m i) :=
 VT.loop (fun k=>eq8_ln_I l m i k) (i) (fun k hk=>eq8_ln_s l m i hl hm hi hne h k hk) (eq8_ln_e l m i hl hm hi hne h) (by intro h;cases h)
theorem eq8_d (l m:List Int) (hl:l.length≤1000000) (hm:l.length≠m.length):VC Try.prog 207 ([ints .i8 l,ints .i8 m]) (bv false):=by
 exact VC.run (fn:=Try.f207) (W:=[.r [] [],.r [] [],.br true,.r [] []]) Try.func207 (by kernel_rfl) (.c (show ((↑(List.map (row1 IntKind.i8) l).length:Int) != (↑(List.map (row1 IntKind.i8) m).length:Int))=true by (simp;omega))<|.n)
theorem eq8_y (l:List Int) (hl:l.length≤1000000):VC Try.prog 207 ([ints .i8 l,ints .i8 l]) (bv true):=by
 have oz1:=(Weak.int (k:=.i64) (show (((↑(List.map (row1 IntKind.i8) l).length:Int)):Int)=((↑l.length:Int)) from (by (simp;done))))
 have oz3 := @eq8_ly (l) hl
 exact VC.run (fn:=Try.f207) (W:=[.r [] [],.r [] [],.br false,.r [] [],.code [.any (rg [(4,1),(6,6)]),.weak 12 (wO oz1),.weak 13 (i64 (↑0:Int)),.sort] (Exit.exit 0) (zO oz3),.r [] []]) Try.func207 (by kernel_rfl) (.c (show ((↑(List.map (row1 IntKind.i8) l).length:Int) != (↑(List.map (row1 IntKind.i8) l).length:Int))=false by (simp;done))<|.c oz1<|.c (Weak.int (k:=.i64) (show ((0):Int)=((↑0:Int)) from (by omega)))<|.c oz3<|.n)
theorem eq8_n (l m:List Int) (i:Nat) (hl:l.length≤1000000) (hm:l.length=m.length) (hi:i<l.length) (hne:l.getD i 0≠m.getD i 0) (h:∀ j,j<i→l.getD j 0=m.getD j 0):VC Try.prog 207 ([ints .i8 l,ints .i8 m]) (bv false):=by
 have oz1:=(Weak.int (k:=.i64) (show (((↑(List.map (row1 IntKind.i8) l).length:Int)):Int)=((↑l.length:Int)) from (by (simp;done))))
 have oz3 := @eq8_ln (l) (m) (i) hl hm hi hne h
 exact VC.run (fn:=Try.f207) (W:=[.r [] [],.r [] [],.br false,.r [] [],.code [.any (rg [(4,1),(6,6)]),.weak 12 (wO oz1),.weak 13 (i64 (↑0:Int)),.sort] (Exit.ret) (zO oz3)]) Try.func207 (by kernel_rfl) (.c (show ((↑(List.map (row1 IntKind.i8) l).length:Int) != (↑(List.map (row1 IntKind.i8) m).length:Int))=false by (simp;omega))<|.c oz1<|.c (Weak.int (k:=.i64) (show ((0):Int)=((↑0:Int)) from (by omega)))<|.c oz3<|.n)
theorem eq8_v (l m:List Int) (hl:l.length≤1000000):VC Try.prog 207 [ints .i8 l,ints .i8 m] (bv (decide (l=m))) :=
 VC.alike (eq8_d l m hl) (eq8_y l hl) fun i h a b c=>eq8_n l m i hl h a b c
noncomputable def eq32_ly_I (l:List Int) (k:Nat):VS:=stt 26 [(0,ints .i32 l),(1,ints .i32 l),(12,i64 l.length),(13,i64 k)] []
noncomputable def eq32_ly_Z (l:List Int):VS:=eq32_ly_I l (l.length)
theorem eq32_ly_s (l:List Int) (hl:l.length≤1000000) (k:Nat) (hk:k<l.length):VT Try.prog (fnC Try.f208 [1,1,0,1,0,0]) (eq32_ly_I l k) .normal (eq32_ly_I l (k+1)):=by
 have oz1:=(show 0≤(↑k:Int) by omega)
 have oz2:=(map_at (row1 IntKind.i32) (0) (l:=l) (i:=k) hk)
 exact VT.run (W:=[.r [] [],.br true,.r [] [],.r [] [.row (sO oz2),.row (sO oz2)],.br false,.r [] [.n ((↑k:Int)+1)]]) (G:=[.any (rg [(5,1),(14,12)]),.weak 13 (i64 (↑(k+1):Int)),.sort]) (by kernel_rfl) (.c (decide_eq_true (p:=((↑k:Int)<(↑l.length:Int))) (by omega))<|.c oz1<|.c oz2<|.c oz1<|.c oz2<|.c (show (l.getD k 0 != l.getD k 0)=false by (simp;done))<|.c (i6n ((↑k:Int)+1) (by omega))<|.c (Weak.int (k:=.i64) (show (((↑k:Int)+1):Int)=((↑(k+1):Int)) from (by omega)))<|.n)
theorem eq32_ly_e (l:List Int) (hl:l.length≤1000000):VT Try.prog (fnC Try.f208 [1,1,0,1,0,0]) (eq32_ly_I l (l.length)) (.exit 0) (eq32_ly_Z l):=by
 exact VT.run (W:=[.r [] [],.br false]) (G:=[.any [14],.sort]) (by kernel_rfl) (.c (decide_eq_false (p:=((↑l.length:Int)<(↑l.length:Int))) (by omega))<|.n)
theorem eq32_ly (l:List Int) (hl:l.length≤1000000):VT Try.prog (fnC Try.f208 [1,1,0,1,0]) (eq32_ly_I l 0) (.exit 0) (eq32_ly_Z l) :=
 VT.loop (fun k=>eq32_ly_I l k) (l.length) (fun k hk=>eq32_ly_s l hl k hk) (eq32_ly_e l hl) (by intro h;cases h)
noncomputable def eq32_ln_I (l m:List Int) (i:Nat) (k:Nat):VS:=stt 26 [(0,ints .i32 l),(1,ints .i32 m),(12,i64 l.length),(13,i64 k)] []
noncomputable def eq32_ln_Z (l m:List Int) (i:Nat):VS:=stt 26 [(4,bv false)] []
theorem eq32_ln_s (l m:List Int) (i:Nat) (hl:l.length≤1000000) (hm:l.length=m.length) (hi:i<l.length) (hne:l.getD i 0≠m.getD i 0) (h:∀ j,j<i→l.getD j 0=m.getD j 0) (k:Nat) (hk:k<i):VT Try.prog (fnC Try.f208 [1,1,0,1,0,0]) (eq32_ln_I l m i k) .normal (eq32_ln_I l m i (k+1)):=by
 have q:=h k hk
 have oz1:=(show 0≤(↑k:Int) by omega)
 exact VT.run (W:=[.r [] [],.br true,.r [] [],.r [] [.row [i32 (l.getD k 0)],.row [i32 (m.getD k 0)]],.br false,.r [] [.n ((↑k:Int)+1)]]) (G:=[.any (rg [(5,1),(14,12)]),.weak 13 (i64 (↑(k+1):Int)),.sort]) (by kernel_rfl) (.c (decide_eq_true (p:=((↑k:Int)<(↑l.length:Int))) (by omega))<|.c oz1<|.c (map_at (row1 IntKind.i32) (0) (l:=l) (i:=k) (by omega))<|.c oz1<|.c (map_at (row1 IntKind.i32) (0) (l:=m) (i:=k) (by omega))<|.c (show (l.getD k 0 != m.getD k 0)=false by (simp at *;omega))<|.c (i6n ((↑k:Int)+1) (by omega))<|.c (Weak.int (k:=.i64) (show (((↑k:Int)+1):Int)=((↑(k+1):Int)) from (by omega)))<|.n)
theorem eq32_ln_e (l m:List Int) (i:Nat) (hl:l.length≤1000000) (hm:l.length=m.length) (hi:i<l.length) (hne:l.getD i 0≠m.getD i 0) (h:∀ j,j<i→l.getD j 0=m.getD j 0):VT Try.prog (fnC Try.f208 [1,1,0,1,0,0]) (eq32_ln_I l m i (i)) (.ret) (eq32_ln_Z l m i):=by
 have oz1:=(show 0≤(↑i:Int) by omega)
 exact VT.run (W:=[.r [] [],.br true,.r [] [],.r [] [.row [i32 (l.getD i 0)],.row [i32 (m.getD i 0)]],.br true,.r [] []]) (G:=[.any (rg [(0,2),(5,1),(12,13)]),.sort]) (by kernel_rfl) (.c (decide_eq_true (p:=((↑i:Int)<(↑l.length:Int))) (by omega))<|.c oz1<|.c (map_at (row1 IntKind.i32) (0) (l:=l) (i:=i) hi)<|.c oz1<|.c (map_at (row1 IntKind.i32) (0) (l:=m) (i:=i) (by omega))<|.c (show (l.getD i 0 != m.getD i 0)=true by (simp at *;omega))<|.n)
theorem eq32_ln (l m:List Int) (i:Nat) (hl:l.length≤1000000) (hm:l.length=m.length) (hi:i<l.length) (hne:l.getD i 0≠m.getD i 0) (h:∀ j,j<i→l.getD j 0=m.getD j 0):VT Try.prog (fnC Try.f208 [1,1,0,1,0]) (eq32_ln_I l m i 0) (.ret) (eq32_ln_Z l m i) :=
 VT.loop (fun k=>eq32_ln_I l m i k) (i) (fun k hk=>eq32_ln_s l m i hl hm hi hne h k hk) (eq32_ln_e l m i hl hm hi hne h) (by intro h;cases h)
theorem eq32_d (l m:List Int) (hl:l.length≤1000000) (hm:l.length≠m.length):VC Try.prog 208 ([ints .i32 l,ints .i32 m]) (bv false):=by
 exact VC.run (fn:=Try.f208) (W:=[.r [] [],.r [] [],.br true,.r [] []]) Try.func208 (by kernel_rfl) (.c (show ((↑(List.map (row1 IntKind.i32) l).length:Int) != (↑(List.map (row1 IntKind.i32) m).length:Int))=true by (simp;omega))<|.n)
theorem eq32_y (l:List Int) (hl:l.length≤1000000):VC Try.prog 208 ([ints .i32 l,ints .i32 l]) (bv true):=by
 have oz1:=(Weak.int (k:=.i64) (show (((↑(List.map (row1 IntKind.i32) l).length:Int)):Int)=((↑l.length:Int)) from (by (simp;done))))
 have oz3 := @eq32_ly (l) hl
 exact VC.run (fn:=Try.f208) (W:=[.r [] [],.r [] [],.br false,.r [] [],.code [.any (rg [(4,1),(6,6)]),.weak 12 (wO oz1),.weak 13 (i64 (↑0:Int)),.sort] (Exit.exit 0) (zO oz3),.r [] []]) Try.func208 (by kernel_rfl) (.c (show ((↑(List.map (row1 IntKind.i32) l).length:Int) != (↑(List.map (row1 IntKind.i32) l).length:Int))=false by (simp;done))<|.c oz1<|.c (Weak.int (k:=.i64) (show ((0):Int)=((↑0:Int)) from (by omega)))<|.c oz3<|.n)
theorem eq32_n (l m:List Int) (i:Nat) (hl:l.length≤1000000) (hm:l.length=m.length) (hi:i<l.length) (hne:l.getD i 0≠m.getD i 0) (h:∀ j,j<i→l.getD j 0=m.getD j 0):VC Try.prog 208 ([ints .i32 l,ints .i32 m]) (bv false):=by
 have oz1:=(Weak.int (k:=.i64) (show (((↑(List.map (row1 IntKind.i32) l).length:Int)):Int)=((↑l.length:Int)) from (by (simp;done))))
 have oz3 := @eq32_ln (l) (m) (i) hl hm hi hne h
 exact VC.run (fn:=Try.f208) (W:=[.r [] [],.r [] [],.br false,.r [] [],.code [.any (rg [(4,1),(6,6)]),.weak 12 (wO oz1),.weak 13 (i64 (↑0:Int)),.sort] (Exit.ret) (zO oz3)]) Try.func208 (by kernel_rfl) (.c (show ((↑(List.map (row1 IntKind.i32) l).length:Int) != (↑(List.map (row1 IntKind.i32) m).length:Int))=false by (simp;omega))<|.c oz1<|.c (Weak.int (k:=.i64) (show ((0):Int)=((↑0:Int)) from (by omega)))<|.c oz3<|.n)
theorem eq32_v (l m:List Int) (hl:l.length≤1000000):VC Try.prog 208 [ints .i32 l,ints .i32 m] (bv (decide (l=m))) :=
 VC.alike (eq32_d l m hl) (eq32_y l hl) fun i h a b c=>eq32_n l m i hl h a b c
noncomputable def rsame8_ly_I (l:List Int) (k:Nat):VS:=stt 26 [(0,ints .i8 l),(1,ints .i8 l),(5,i64 k)] []
noncomputable def rsame8_ly_Z (l:List Int):VS:=rsame8_ly_I l (l.length)
theorem rsame8_ly_s (l:List Int) (hl:l.length≤1000000) (k:Nat) (hk:k<l.length):VT Try.prog (fnC Try.f87 [1,1,0,1,0,0]) (rsame8_ly_I l k) .normal (rsame8_ly_I l (k+1)):=by
 have oz1:=(show 0≤(↑k:Int) by omega)
 have oz2:=(map_at (row1 IntKind.i8) (0) (l:=l) (i:=k) hk)
 exact VT.run (W:=[.r [] [],.br true,.r [] [.row (sO oz2),.row (sO oz2)],.br false,.r [] [.n ((↑k:Int)+1)]]) (G:=[.any (rg [(11,15)]),.weak 5 (i64 (↑(k+1):Int)),.sort]) (by kernel_rfl) (.c (show decide ((↑k:Int)<(↑(List.map (row1 IntKind.i8) l).length:Int))=true by (simp;omega))<|.c oz1<|.c oz2<|.c oz1<|.c oz2<|.c (show (l.getD k 0 != l.getD k 0)=false by (simp;done))<|.c (i6n ((↑k:Int)+1) (by omega))<|.c (Weak.int (k:=.i64) (show (((↑k:Int)+1):Int)=((↑(k+1):Int)) from (by omega)))<|.n)
theorem rsame8_ly_e (l:List Int) (hl:l.length≤1000000):VT Try.prog (fnC Try.f87 [1,1,0,1,0,0]) (rsame8_ly_I l (l.length)) (.exit 0) (rsame8_ly_Z l):=by
 exact VT.run (W:=[.r [] [],.br false]) (G:=[.any (rg [(11,4)]),.sort]) (by kernel_rfl) (.c (show decide ((↑l.length:Int)<(↑(List.map (row1 IntKind.i8) l).length:Int))=false by (simp;done))<|.n)
theorem rsame8_ly (l:List Int) (hl:l.length≤1000000):VT Try.prog (fnC Try.f87 [1,1,0,1,0]) (rsame8_ly_I l 0) (.exit 0) (rsame8_ly_Z l) :=
 VT.loop (fun k=>rsame8_ly_I l k) (l.length) (fun k hk=>rsame8_ly_s l hl k hk) (rsame8_ly_e l hl) (by intro h;cases h)
noncomputable def rsame8_ln_I (l m:List Int) (i:Nat) (k:Nat):VS:=stt 26 [(0,ints .i8 l),(1,ints .i8 m),(5,i64 k)] []
noncomputable def rsame8_ln_Z (l m:List Int) (i:Nat):VS:=stt 26 [(4,bv false)] []
theorem rsame8_ln_s (l m:List Int) (i:Nat) (hl:l.length≤1000000) (hm:l.length=m.length) (hi:i<l.length) (hne:l.getD i 0≠m.getD i 0) (h:∀ j,j<i→l.getD j 0=m.getD j 0) (k:Nat) (hk:k<i):VT Try.prog (fnC Try.f87 [1,1,0,1,0,0]) (rsame8_ln_I l m i k) .normal (rsame8_ln_I l m i (k+1)):=by
 have q:=h k hk
 have oz1:=(show 0≤(↑k:Int) by omega)
 exact VT.run (W:=[.r [] [],.br true,.r [] [.row [i8 (l.getD k 0)],.row [i8 (m.getD k 0)]],.br false,.r [] [.n ((↑k:Int)+1)]]) (G:=[.any (rg [(11,15)]),.weak 5 (i64 (↑(k+1):Int)),.sort]) (by kernel_rfl) (.c (show decide ((↑k:Int)<(↑(List.map (row1 IntKind.i8) l).length:Int))=true by (simp;omega))<|.c oz1<|.c (map_at (row1 IntKind.i8) (0) (l:=l) (i:=k) (by omega))<|.c oz1<|.c (map_at (row1 IntKind.i8) (0) (l:=m) (i:=k) (by omega))<|.c (show (l.getD k 0 != m.getD k 0)=false by (simp at *;omega))<|.c (i6n ((↑k:Int)+1) (by omega))<|.c (Weak.int (k:=.i64) (show (((↑k:Int)+1):Int)=((↑(k+1):Int)) from (by omega)))<|.n)
theorem rsame8_ln_e (l m:List Int) (i:Nat) (hl:l.length≤1000000) (hm:l.length=m.length) (hi:i<l.length) (hne:l.getD i 0≠m.getD i 0) (h:∀ j,j<i→l.getD j 0=m.getD j 0):VT Try.prog (fnC Try.f87 [1,1,0,1,0,0]) (rsame8_ln_I l m i (i)) (.ret) (rsame8_ln_Z l m i):=by
 have oz1:=(show 0≤(↑i:Int) by omega)
 exact VT.run (W:=[.r [] [],.br true,.r [] [.row [i8 (l.getD i 0)],.row [i8 (m.getD i 0)]],.br true,.r [] []]) (G:=[.any (rg [(0,2),(5,1),(11,4),(17,9)]),.sort]) (by kernel_rfl) (.c (show decide ((↑i:Int)<(↑(List.map (row1 IntKind.i8) l).length:Int))=true by (simp;omega))<|.c oz1<|.c (map_at (row1 IntKind.i8) (0) (l:=l) (i:=i) hi)<|.c oz1<|.c (map_at (row1 IntKind.i8) (0) (l:=m) (i:=i) (by omega))<|.c (show (l.getD i 0 != m.getD i 0)=true by (simp at *;omega))<|.n)
theorem rsame8_ln (l m:List Int) (i:Nat) (hl:l.length≤1000000) (hm:l.length=m.length) (hi:i<l.length) (hne:l.getD i 0≠m.getD i 0) (h:∀ j,j<i→l.getD j 0=m.getD j 0):VT Try.prog (fnC Try.f87 [1,1,0,1,0]) (rsame8_ln_I l m i 0) (.ret) (rsame8_ln_Z l m i) :=
 VT.loop (fun k=>rsame8_ln_I l m i k) (i) (fun k hk=>rsame8_ln_s l m i hl hm hi hne h k hk) (rsame8_ln_e l m i hl hm hi hne h) (by intro h;cases h)
theorem rsame8_d (l m:List Int) (hl:l.length≤1000000) (hm:l.length≠m.length):VC Try.prog 87 ([ints .i8 l,ints .i8 m]) (bv false):=by
 exact VC.run (fn:=Try.f87) (W:=[.r [] [],.r [] [],.br true,.r [] []]) Try.func87 (by kernel_rfl) (.c (show ((↑(List.map (row1 IntKind.i8) l).length:Int) != (↑(List.map (row1 IntKind.i8) m).length:Int))=true by (simp;omega))<|.n)
theorem rsame8_y (l:List Int) (hl:l.length≤1000000):VC Try.prog 87 ([ints .i8 l,ints .i8 l]) (bv true):=by
 have oz2 := @rsame8_ly (l) hl
 exact VC.run (fn:=Try.f87) (W:=[.r [] [],.r [] [],.br false,.r [] [],.code [.any [4,6,7,8,9,10],.weak 5 (i64 (↑0:Int)),.sort] (Exit.exit 0) (zO oz2),.r [] []]) Try.func87 (by kernel_rfl) (.c (show ((↑(List.map (row1 IntKind.i8) l).length:Int) != (↑(List.map (row1 IntKind.i8) l).length:Int))=false by (simp;done))<|.c (Weak.int (k:=.i64) (show ((0):Int)=((↑0:Int)) from (by omega)))<|.c oz2<|.n)
theorem rsame8_n (l m:List Int) (i:Nat) (hl:l.length≤1000000) (hm:l.length=m.length) (hi:i<l.length) (hne:l.getD i 0≠m.getD i 0) (h:∀ j,j<i→l.getD j 0=m.getD j 0):VC Try.prog 87 ([ints .i8 l,ints .i8 m]) (bv false):=by
 have oz2 := @rsame8_ln (l) (m) (i) hl hm hi hne h
 exact VC.run (fn:=Try.f87) (W:=[.r [] [],.r [] [],.br false,.r [] [],.code [.any [4,6,7,8,9,10],.weak 5 (i64 (↑0:Int)),.sort] (Exit.ret) (zO oz2)]) Try.func87 (by kernel_rfl) (.c (show ((↑(List.map (row1 IntKind.i8) l).length:Int) != (↑(List.map (row1 IntKind.i8) m).length:Int))=false by (simp;omega))<|.c (Weak.int (k:=.i64) (show ((0):Int)=((↑0:Int)) from (by omega)))<|.c oz2<|.n)
theorem rsame8_v (l m:List Int) (hl:l.length≤1000000):VC Try.prog 87 [ints .i8 l,ints .i8 m] (bv (decide (l=m))) :=
 VC.alike (rsame8_d l m hl) (rsame8_y l hl) fun i h a b c=>rsame8_n l m i hl h a b c
noncomputable def rsame32_ly_I (l:List Int) (k:Nat):VS:=stt 26 [(0,ints .i32 l),(1,ints .i32 l),(5,i64 k)] []
noncomputable def rsame32_ly_Z (l:List Int):VS:=rsame32_ly_I l (l.length)
theorem rsame32_ly_s (l:List Int) (hl:l.length≤1000000) (k:Nat) (hk:k<l.length):VT Try.prog (fnC Try.f88 [1,1,0,1,0,0]) (rsame32_ly_I l k) .normal (rsame32_ly_I l (k+1)):=by
 have oz1:=(show 0≤(↑k:Int) by omega)
 have oz2:=(map_at (row1 IntKind.i32) (0) (l:=l) (i:=k) hk)
 exact VT.run (W:=[.r [] [],.br true,.r [] [.row (sO oz2),.row (sO oz2)],.br false,.r [] [.n ((↑k:Int)+1)]]) (G:=[.any (rg [(11,15)]),.weak 5 (i64 (↑(k+1):Int)),.sort]) (by kernel_rfl) (.c (show decide ((↑k:Int)<(↑(List.map (row1 IntKind.i32) l).length:Int))=true by (simp;omega))<|.c oz1<|.c oz2<|.c oz1<|.c oz2<|.c (show (l.getD k 0 != l.getD k 0)=false by (simp;done))<|.c (i6n ((↑k:Int)+1) (by omega))<|.c (Weak.int (k:=.i64) (show (((↑k:Int)+1):Int)=((↑(k+1):Int)) from (by omega)))<|.n)
theorem rsame32_ly_e (l:List Int) (hl:l.length≤1000000):VT Try.prog (fnC Try.f88 [1,1,0,1,0,0]) (rsame32_ly_I l (l.length)) (.exit 0) (rsame32_ly_Z l):=by
 exact VT.run (W:=[.r [] [],.br false]) (G:=[.any (rg [(11,4)]),.sort]) (by kernel_rfl) (.c (show decide ((↑l.length:Int)<(↑(List.map (row1 IntKind.i32) l).length:Int))=false by (simp;done))<|.n)
theorem rsame32_ly (l:List Int) (hl:l.length≤1000000):VT Try.prog (fnC Try.f88 [1,1,0,1,0]) (rsame32_ly_I l 0) (.exit 0) (rsame32_ly_Z l) :=
 VT.loop (fun k=>rsame32_ly_I l k) (l.length) (fun k hk=>rsame32_ly_s l hl k hk) (rsame32_ly_e l hl) (by intro h;cases h)
noncomputable def rsame32_ln_I (l m:List Int) (i:Nat) (k:Nat):VS:=stt 26 [(0,ints .i32 l),(1,ints .i32 m),(5,i64 k)] []
noncomputable def rsame32_ln_Z (l m:List Int) (i:Nat):VS:=stt 26 [(4,bv false)] []
theorem rsame32_ln_s (l m:List Int) (i:Nat) (hl:l.length≤1000000) (hm:l.length=m.length) (hi:i<l.length) (hne:l.getD i 0≠m.getD i 0) (h:∀ j,j<i→l.getD j 0=m.getD j 0) (k:Nat) (hk:k<i):VT Try.prog (fnC Try.f88 [1,1,0,1,0,0]) (rsame32_ln_I l m i k) .normal (rsame32_ln_I l m i (k+1)):=by
 have q:=h k hk
 have oz1:=(show 0≤(↑k:Int) by omega)
 exact VT.run (W:=[.r [] [],.br true,.r [] [.row [i32 (l.getD k 0)],.row [i32 (m.getD k 0)]],.br false,.r [] [.n ((↑k:Int)+1)]]) (G:=[.any (rg [(11,15)]),.weak 5 (i64 (↑(k+1):Int)),.sort]) (by kernel_rfl) (.c (show decide ((↑k:Int)<(↑(List.map (row1 IntKind.i32) l).length:Int))=true by (simp;omega))<|.c oz1<|.c (map_at (row1 IntKind.i32) (0) (l:=l) (i:=k) (by omega))<|.c oz1<|.c (map_at (row1 IntKind.i32) (0) (l:=m) (i:=k) (by omega))<|.c (show (l.getD k 0 != m.getD k 0)=false by (simp at *;omega))<|.c (i6n ((↑k:Int)+1) (by omega))<|.c (Weak.int (k:=.i64) (show (((↑k:Int)+1):Int)=((↑(k+1):Int)) from (by omega)))<|.n)
theorem rsame32_ln_e (l m:List Int) (i:Nat) (hl:l.length≤1000000) (hm:l.length=m.length) (hi:i<l.length) (hne:l.getD i 0≠m.getD i 0) (h:∀ j,j<i→l.getD j 0=m.getD j 0):VT Try.prog (fnC Try.f88 [1,1,0,1,0,0]) (rsame32_ln_I l m i (i)) (.ret) (rsame32_ln_Z l m i):=by
 have oz1:=(show 0≤(↑i:Int) by omega)
 exact VT.run (W:=[.r [] [],.br true,.r [] [.row [i32 (l.getD i 0)],.row [i32 (m.getD i 0)]],.br true,.r [] []]) (G:=[.any (rg [(0,2),(5,1),(11,4),(17,9)]),.sort]) (by kernel_rfl) (.c (show decide ((↑i:Int)<(↑(List.map (row1 IntKind.i32) l).length:Int))=true by (simp;omega))<|.c oz1<|.c (map_at (row1 IntKind.i32) (0) (l:=l) (i:=i) hi)<|.c oz1<|.c (map_at (row1 IntKind.i32) (0) (l:=m) (i:=i) (by omega))<|.c (show (l.getD i 0 != m.getD i 0)=true by (simp at *;omega))<|.n)
theorem rsame32_ln (l m:List Int) (i:Nat) (hl:l.length≤1000000) (hm:l.length=m.length) (hi:i<l.length) (hne:l.getD i 0≠m.getD i 0) (h:∀ j,j<i→l.getD j 0=m.getD j 0):VT Try.prog (fnC Try.f88 [1,1,0,1,0]) (rsame32_ln_I l m i 0) (.ret) (rsame32_ln_Z l m i) :=
 VT.loop (fun k=>rsame32_ln_I l m i k) (i) (fun k hk=>rsame32_ln_s l m i hl hm hi hne h k hk) (rsame32_ln_e l m i hl hm hi hne h) (by intro h;cases h)
theorem rsame32_d (l m:List Int) (hl:l.length≤1000000) (hm:l.length≠m.length):VC Try.prog 88 ([ints .i32 l,ints .i32 m]) (bv false):=by
 exact VC.run (fn:=Try.f88) (W:=[.r [] [],.r [] [],.br true,.r [] []]) Try.func88 (by kernel_rfl) (.c (show ((↑(List.map (row1 IntKind.i32) l).length:Int) != (↑(List.map (row1 IntKind.i32) m).length:Int))=true by (simp;omega))<|.n)
theorem rsame32_y (l:List Int) (hl:l.length≤1000000):VC Try.prog 88 ([ints .i32 l,ints .i32 l]) (bv true):=by
 have oz2 := @rsame32_ly (l) hl
 exact VC.run (fn:=Try.f88) (W:=[.r [] [],.r [] [],.br false,.r [] [],.code [.any [4,6,7,8,9,10],.weak 5 (i64 (↑0:Int)),.sort] (Exit.exit 0) (zO oz2),.r [] []]) Try.func88 (by kernel_rfl) (.c (show ((↑(List.map (row1 IntKind.i32) l).length:Int) != (↑(List.map (row1 IntKind.i32) l).length:Int))=false by (simp;done))<|.c (Weak.int (k:=.i64) (show ((0):Int)=((↑0:Int)) from (by omega)))<|.c oz2<|.n)
theorem rsame32_n (l m:List Int) (i:Nat) (hl:l.length≤1000000) (hm:l.length=m.length) (hi:i<l.length) (hne:l.getD i 0≠m.getD i 0) (h:∀ j,j<i→l.getD j 0=m.getD j 0):VC Try.prog 88 ([ints .i32 l,ints .i32 m]) (bv false):=by
 have oz2 := @rsame32_ln (l) (m) (i) hl hm hi hne h
 exact VC.run (fn:=Try.f88) (W:=[.r [] [],.r [] [],.br false,.r [] [],.code [.any [4,6,7,8,9,10],.weak 5 (i64 (↑0:Int)),.sort] (Exit.ret) (zO oz2)]) Try.func88 (by kernel_rfl) (.c (show ((↑(List.map (row1 IntKind.i32) l).length:Int) != (↑(List.map (row1 IntKind.i32) m).length:Int))=false by (simp;omega))<|.c (Weak.int (k:=.i64) (show ((0):Int)=((↑0:Int)) from (by omega)))<|.c oz2<|.n)
theorem rsame32_v (l m:List Int) (hl:l.length≤1000000):VC Try.prog 88 [ints .i32 l,ints .i32 m] (bv (decide (l=m))) :=
 VC.alike (rsame32_d l m hl) (rsame32_y l hl) fun i h a b c=>rsame32_n l m i hl h a b c
theorem sumsK_v (k:Int)  : VC Try.prog 126 ([i64 k]) (bv ((k==1 || k==2) || k==3)):=by
 exact VC.run (fn:=Try.f126) (W:=[.r [] [],.r [] [.op false,.op false,.sel 1,.op false,.op false,.sel 1]]) Try.func126 (by kernel_rfl) (.n)
theorem scaledK_v (k:Int)  : VC Try.prog 164 ([i64 k]) (bv (((k==1 || k==2) || k==3) || k==6 || k==7)):=by
 have oz0 := @sumsK_v (k)
 exact VC.run (fn:=Try.f164) (W:=[.r [] [],.r [] [.callr (rO oz0),.op false,.op false,.sel 1,.op false,.op false,.sel 1]]) Try.func164 (by kernel_rfl) (.c oz0<|.n)
def plainN (n:Nod):Nod:=if n.kd=1 then ⟨n.kd,n.na,0,n.nk,n.ns,n.np,n.no,n.za,0,n.w,n.b,n.qm,n.qs,n.qz,0,0,0,n.lo,n.hi⟩ else if n.kd=2 then ⟨n.kd,n.na,0,n.nk,n.ns,n.np,0,n.za,0,n.w,n.b,n.qm,n.qs,n.qz,0,0,0,n.lo,n.hi⟩ else if n.kd=3 then ⟨n.kd,n.na,0,0,0,0,n.no,n.za,0,n.w,n.b,n.qm,n.qs,n.qz,0,0,0,n.lo,n.hi⟩ else if n.kd=4 then ⟨n.kd,n.na,0,n.nk,n.ns,n.np,0,0,0,[],[],0,0,0,0,0,0,0,0⟩ else if n.kd=5 then ⟨n.kd,n.na,0,n.nk,n.ns,n.np,0,0,0,[],[],0,0,0,0,0,0,0,0⟩ else if n.kd=6 then ⟨n.kd,n.na,n.nb,0,0,0,0,n.za,n.zb,[],[],n.qm,n.qs,n.qz,n.rm,n.rs,0,n.lo,n.hi⟩ else if n.kd=7 then ⟨n.kd,n.na,0,0,0,0,0,n.za,0,[],[],n.qm,n.qs,n.qz,0,0,0,n.lo,n.hi⟩ else if n.kd=8 then ⟨n.kd,n.na,0,0,0,n.np,0,n.za,0,[],[],0,0,0,0,0,0,0,0⟩ else ⟨n.kd,n.na,0,0,0,0,0,0,0,[],[],0,0,0,0,0,0,0,0⟩
theorem plain1 (n:Nod) (hk:n.kd=1) (hw:n.w.length≤100000) (hb:n.b.length≤100000):VC Try.prog 163 ([nod n]) (nod ⟨n.kd,n.na,0,n.nk,n.ns,n.np,n.no,n.za,0,n.w,n.b,n.qm,n.qs,n.qz,0,0,0,n.lo,n.hi⟩):=by
 have hk1:In64 n.kd:=⟨by omega,by omega⟩
 have hs:=nameEq_in (k:=n.kd) (by omega) (by omega)
 have oz0 := @name_v (n.kd) hk1
 have oz3 := @clone8_v (n.w) (by omega)
 have oz4 := @clone32_v (n.b) (by omega)
 have oz5 := @scaledK_v (n.kd)
 exact VC.run (fn:=Try.f163) (W:=[.r [] [],.r [] [.callr (rO oz0)],.br false,.r [] [],.r [] [],.r [] [],.br true,.r [] [],.r [] [.callr (rO oz3),.callr (rO oz4)],.r [] [],.r [] [.callr (rO oz5)],.br true,.r [] [],.r [] []]) Try.func163 (by kernel_rfl) (.c oz0<|.c hs<|.c (show (n.kd==1)=true by (refine decide_eq_true ?_;omega))<|.c oz3<|.c oz4<|.c oz5<|.c (show (n.kd==1 || n.kd==2 || n.kd==3 || n.kd==6 || n.kd==7)=true by (simp;omega))<|.n)
theorem plain2 (n:Nod) (hk:n.kd=2) (hw:n.w.length≤100000) (hb:n.b.length≤100000):VC Try.prog 163 ([nod n]) (nod ⟨n.kd,n.na,0,n.nk,n.ns,n.np,0,n.za,0,n.w,n.b,n.qm,n.qs,n.qz,0,0,0,n.lo,n.hi⟩):=by
 have hk1:In64 n.kd:=⟨by omega,by omega⟩
 have hs:=nameEq_in (k:=n.kd) (by omega) (by omega)
 have oz0 := @name_v (n.kd) hk1
 have oz4 := @clone8_v (n.w) (by omega)
 have oz5 := @clone32_v (n.b) (by omega)
 have oz6 := @scaledK_v (n.kd)
 exact VC.run (fn:=Try.f163) (W:=[.r [] [],.r [] [.callr (rO oz0)],.br false,.r [] [],.r [] [],.r [] [],.br false,.r [] [],.br true,.r [] [.callr (rO oz4),.callr (rO oz5)],.r [] [],.r [] [.callr (rO oz6)],.br true,.r [] [],.r [] []]) Try.func163 (by kernel_rfl) (.c oz0<|.c hs<|.c (show (n.kd==1)=false by (refine decide_eq_false ?_;omega))<|.c (show (n.kd==2)=true by (refine decide_eq_true ?_;omega))<|.c oz4<|.c oz5<|.c oz6<|.c (show (n.kd==1 || n.kd==2 || n.kd==3 || n.kd==6 || n.kd==7)=true by (simp;omega))<|.n)
theorem plain3 (n:Nod) (hk:n.kd=3) (hw:n.w.length≤100000) (hb:n.b.length≤100000):VC Try.prog 163 ([nod n]) (nod ⟨n.kd,n.na,0,0,0,0,n.no,n.za,0,n.w,n.b,n.qm,n.qs,n.qz,0,0,0,n.lo,n.hi⟩):=by
 have hk1:In64 n.kd:=⟨by omega,by omega⟩
 have hs:=nameEq_in (k:=n.kd) (by omega) (by omega)
 have oz0 := @name_v (n.kd) hk1
 have oz7 := @clone8_v (n.w) (by omega)
 have oz8 := @clone32_v (n.b) (by omega)
 have oz9 := @scaledK_v (n.kd)
 exact VC.run (fn:=Try.f163) (W:=[.r [] [],.r [] [.callr (rO oz0)],.br false,.r [] [],.r [] [],.r [] [],.br false,.r [] [],.br false,.r [] [],.br false,.r [] [],.br false,.r [] [],.br true,.r [] [.callr (rO oz7),.callr (rO oz8)],.r [] [.callr (rO oz9)],.br true,.r [] [],.r [] []]) Try.func163 (by kernel_rfl) (.c oz0<|.c hs<|.c (show (n.kd==1)=false by (refine decide_eq_false ?_;omega))<|.c (show (n.kd==2)=false by (refine decide_eq_false ?_;omega))<|.c (show (n.kd==4)=false by (refine decide_eq_false ?_;omega))<|.c (show (n.kd==5)=false by (refine decide_eq_false ?_;omega))<|.c (show (n.kd==3)=true by (refine decide_eq_true ?_;omega))<|.c oz7<|.c oz8<|.c oz9<|.c (show (n.kd==1 || n.kd==2 || n.kd==3 || n.kd==6 || n.kd==7)=true by (simp;omega))<|.n)
theorem plain4 (n:Nod) (hk:n.kd=4) (hw:n.w.length≤100000) (hb:n.b.length≤100000):VC Try.prog 163 ([nod n]) (nod ⟨n.kd,n.na,0,n.nk,n.ns,n.np,0,0,0,[],[],0,0,0,0,0,0,0,0⟩):=by
 have hk1:In64 n.kd:=⟨by omega,by omega⟩
 have hs:=nameEq_in (k:=n.kd) (by omega) (by omega)
 have oz0 := @name_v (n.kd) hk1
 have oz4:=(show (n.kd==4)=true by (refine decide_eq_true ?_;omega))
 have oz6 := @scaledK_v (n.kd)
 exact (VC.run (fn:=Try.f163) (W:=[.r [] [],.r [] [.callr (rO oz0)],.br false,.r [] [],.r [] [],.r [] [],.br false,.r [] [],.br false,.r [] [],.br true,.br true,.r [] [],.r [] [.callr (rO oz6)],.br false,.r [] []]) (r:=AV.agg [i64 n.kd,i64 n.na,i64 0,i64 n.nk,i64 n.ns,i64 n.np,i64 0,i8 0,i8 0,nilv,nilv,i32 0,i64 0,i8 0,i32 0,i64 0,i8 0,i8 0,i8 0]) Try.func163 (by kernel_rfl) (.c oz0<|.c hs<|.c (show (n.kd==1)=false by (refine decide_eq_false ?_;omega))<|.c (show (n.kd==2)=false by (refine decide_eq_false ?_;omega))<|.c oz4<|.c oz4<|.c oz6<|.c (show (n.kd==1 || n.kd==2 || n.kd==3 || n.kd==6 || n.kd==7)=false by (simp;omega))<|.n)).weak (WeakL.refl _) (Weak.agg (.cons (.refl _) (.cons (.refl _) (.cons (.refl _) (.cons (.refl _) (.cons (.refl _) (.cons (.refl _) (.cons (.refl _) (.cons (.refl _) (.cons (.refl _) (.cons (Weak.nil _) (.cons (Weak.nil _) (.cons (.refl _) (.cons (.refl _) (.cons (.refl _) (.cons (.refl _) (.cons (.refl _) (.cons (.refl _) (.cons (.refl _) (.cons (.refl _) .nil))))))))))))))))))))
theorem plain5 (n:Nod) (hk:n.kd=5) (hw:n.w.length≤100000) (hb:n.b.length≤100000):VC Try.prog 163 ([nod n]) (nod ⟨n.kd,n.na,0,n.nk,n.ns,n.np,0,0,0,[],[],0,0,0,0,0,0,0,0⟩):=by
 have hk1:In64 n.kd:=⟨by omega,by omega⟩
 have hs:=nameEq_in (k:=n.kd) (by omega) (by omega)
 have oz0 := @name_v (n.kd) hk1
 have oz6 := @scaledK_v (n.kd)
 exact (VC.run (fn:=Try.f163) (W:=[.r [] [],.r [] [.callr (rO oz0)],.br false,.r [] [],.r [] [],.r [] [],.br false,.r [] [],.br false,.r [] [],.br false,.r [] [],.br true,.r [] [],.r [] [.callr (rO oz6)],.br false,.r [] []]) (r:=AV.agg [i64 n.kd,i64 n.na,i64 0,i64 n.nk,i64 n.ns,i64 n.np,i64 0,i8 0,i8 0,nilv,nilv,i32 0,i64 0,i8 0,i32 0,i64 0,i8 0,i8 0,i8 0]) Try.func163 (by kernel_rfl) (.c oz0<|.c hs<|.c (show (n.kd==1)=false by (refine decide_eq_false ?_;omega))<|.c (show (n.kd==2)=false by (refine decide_eq_false ?_;omega))<|.c (show (n.kd==4)=false by (refine decide_eq_false ?_;omega))<|.c (show (n.kd==5)=true by (refine decide_eq_true ?_;omega))<|.c oz6<|.c (show (n.kd==1 || n.kd==2 || n.kd==3 || n.kd==6 || n.kd==7)=false by (simp;omega))<|.n)).weak (WeakL.refl _) (Weak.agg (.cons (.refl _) (.cons (.refl _) (.cons (.refl _) (.cons (.refl _) (.cons (.refl _) (.cons (.refl _) (.cons (.refl _) (.cons (.refl _) (.cons (.refl _) (.cons (Weak.nil _) (.cons (Weak.nil _) (.cons (.refl _) (.cons (.refl _) (.cons (.refl _) (.cons (.refl _) (.cons (.refl _) (.cons (.refl _) (.cons (.refl _) (.cons (.refl _) .nil))))))))))))))))))))
theorem plain6 (n:Nod) (hk:n.kd=6) (hw:n.w.length≤100000) (hb:n.b.length≤100000):VC Try.prog 163 ([nod n]) (nod ⟨n.kd,n.na,n.nb,0,0,0,0,n.za,n.zb,[],[],n.qm,n.qs,n.qz,n.rm,n.rs,0,n.lo,n.hi⟩):=by
 have hk1:In64 n.kd:=⟨by omega,by omega⟩
 have hs:=nameEq_in (k:=n.kd) (by omega) (by omega)
 have oz0 := @name_v (n.kd) hk1
 have oz8 := @scaledK_v (n.kd)
 exact (VC.run (fn:=Try.f163) (W:=[.r [] [],.r [] [.callr (rO oz0)],.br false,.r [] [],.r [] [],.r [] [],.br false,.r [] [],.br false,.r [] [],.br false,.r [] [],.br false,.r [] [],.br false,.r [] [],.br true,.r [] [],.r [] [.callr (rO oz8)],.br true,.r [] [],.r [] []]) (r:=AV.agg [i64 n.kd,i64 n.na,i64 n.nb,i64 0,i64 0,i64 0,i64 0,i8 n.za,i8 n.zb,nilv,nilv,i32 n.qm,i64 n.qs,i8 n.qz,i32 n.rm,i64 n.rs,i8 0,i8 n.lo,i8 n.hi]) Try.func163 (by kernel_rfl) (.c oz0<|.c hs<|.c (show (n.kd==1)=false by (refine decide_eq_false ?_;omega))<|.c (show (n.kd==2)=false by (refine decide_eq_false ?_;omega))<|.c (show (n.kd==4)=false by (refine decide_eq_false ?_;omega))<|.c (show (n.kd==5)=false by (refine decide_eq_false ?_;omega))<|.c (show (n.kd==3)=false by (refine decide_eq_false ?_;omega))<|.c (show (n.kd==6)=true by (refine decide_eq_true ?_;omega))<|.c oz8<|.c (show (n.kd==1 || n.kd==2 || n.kd==3 || n.kd==6 || n.kd==7)=true by (simp;omega))<|.n)).weak (WeakL.refl _) (Weak.agg (.cons (.refl _) (.cons (.refl _) (.cons (.refl _) (.cons (.refl _) (.cons (.refl _) (.cons (.refl _) (.cons (.refl _) (.cons (.refl _) (.cons (.refl _) (.cons (Weak.nil _) (.cons (Weak.nil _) (.cons (.refl _) (.cons (.refl _) (.cons (.refl _) (.cons (.refl _) (.cons (.refl _) (.cons (.refl _) (.cons (.refl _) (.cons (.refl _) .nil))))))))))))))))))))
theorem plain7 (n:Nod) (hk:n.kd=7) (hw:n.w.length≤100000) (hb:n.b.length≤100000):VC Try.prog 163 ([nod n]) (nod ⟨n.kd,n.na,0,0,0,0,0,n.za,0,[],[],n.qm,n.qs,n.qz,0,0,0,n.lo,n.hi⟩):=by
 have hk1:In64 n.kd:=⟨by omega,by omega⟩
 have hs:=nameEq_in (k:=n.kd) (by omega) (by omega)
 have oz0 := @name_v (n.kd) hk1
 have oz9 := @scaledK_v (n.kd)
 exact (VC.run (fn:=Try.f163) (W:=[.r [] [],.r [] [.callr (rO oz0)],.br false,.r [] [],.r [] [],.r [] [],.br false,.r [] [],.br false,.r [] [],.br false,.r [] [],.br false,.r [] [],.br false,.r [] [],.br false,.r [] [],.br false,.r [] [.callr (rO oz9)],.br true,.r [] [],.r [] []]) (r:=AV.agg [i64 n.kd,i64 n.na,i64 0,i64 0,i64 0,i64 0,i64 0,i8 n.za,i8 0,nilv,nilv,i32 n.qm,i64 n.qs,i8 n.qz,i32 0,i64 0,i8 0,i8 n.lo,i8 n.hi]) Try.func163 (by kernel_rfl) (.c oz0<|.c hs<|.c (show (n.kd==1)=false by (refine decide_eq_false ?_;omega))<|.c (show (n.kd==2)=false by (refine decide_eq_false ?_;omega))<|.c (show (n.kd==4)=false by (refine decide_eq_false ?_;omega))<|.c (show (n.kd==5)=false by (refine decide_eq_false ?_;omega))<|.c (show (n.kd==3)=false by (refine decide_eq_false ?_;omega))<|.c (show (n.kd==6)=false by (refine decide_eq_false ?_;omega))<|.c (show (n.kd==8)=false by (refine decide_eq_false ?_;omega))<|.c oz9<|.c (show (n.kd==1 || n.kd==2 || n.kd==3 || n.kd==6 || n.kd==7)=true by (simp;omega))<|.n)).weak (WeakL.refl _) (Weak.agg (.cons (.refl _) (.cons (.refl _) (.cons (.refl _) (.cons (.refl _) (.cons (.refl _) (.cons (.refl _) (.cons (.refl _) (.cons (.refl _) (.cons (.refl _) (.cons (Weak.nil _) (.cons (Weak.nil _) (.cons (.refl _) (.cons (.refl _) (.cons (.refl _) (.cons (.refl _) (.cons (.refl _) (.cons (.refl _) (.cons (.refl _) (.cons (.refl _) .nil))))))))))))))))))))
theorem plain8 (n:Nod) (hk:n.kd=8) (hw:n.w.length≤100000) (hb:n.b.length≤100000):VC Try.prog 163 ([nod n]) (nod ⟨n.kd,n.na,0,0,0,n.np,0,n.za,0,[],[],0,0,0,0,0,0,0,0⟩):=by
 have hk1:In64 n.kd:=⟨by omega,by omega⟩
 have hs:=nameEq_in (k:=n.kd) (by omega) (by omega)
 have oz0 := @name_v (n.kd) hk1
 have oz9 := @scaledK_v (n.kd)
 exact (VC.run (fn:=Try.f163) (W:=[.r [] [],.r [] [.callr (rO oz0)],.br false,.r [] [],.r [] [],.r [] [],.br false,.r [] [],.br false,.r [] [],.br false,.r [] [],.br false,.r [] [],.br false,.r [] [],.br false,.r [] [],.br true,.r [] [],.r [] [.callr (rO oz9)],.br false,.r [] []]) (r:=AV.agg [i64 n.kd,i64 n.na,i64 0,i64 0,i64 0,i64 n.np,i64 0,i8 n.za,i8 0,nilv,nilv,i32 0,i64 0,i8 0,i32 0,i64 0,i8 0,i8 0,i8 0]) Try.func163 (by kernel_rfl) (.c oz0<|.c hs<|.c (show (n.kd==1)=false by (refine decide_eq_false ?_;omega))<|.c (show (n.kd==2)=false by (refine decide_eq_false ?_;omega))<|.c (show (n.kd==4)=false by (refine decide_eq_false ?_;omega))<|.c (show (n.kd==5)=false by (refine decide_eq_false ?_;omega))<|.c (show (n.kd==3)=false by (refine decide_eq_false ?_;omega))<|.c (show (n.kd==6)=false by (refine decide_eq_false ?_;omega))<|.c (show (n.kd==8)=true by (refine decide_eq_true ?_;omega))<|.c oz9<|.c (show (n.kd==1 || n.kd==2 || n.kd==3 || n.kd==6 || n.kd==7)=false by (simp;omega))<|.n)).weak (WeakL.refl _) (Weak.agg (.cons (.refl _) (.cons (.refl _) (.cons (.refl _) (.cons (.refl _) (.cons (.refl _) (.cons (.refl _) (.cons (.refl _) (.cons (.refl _) (.cons (.refl _) (.cons (Weak.nil _) (.cons (Weak.nil _) (.cons (.refl _) (.cons (.refl _) (.cons (.refl _) (.cons (.refl _) (.cons (.refl _) (.cons (.refl _) (.cons (.refl _) (.cons (.refl _) .nil))))))))))))))))))))
theorem plain9 (n:Nod) (hk:n.kd=9) (hw:n.w.length≤100000) (hb:n.b.length≤100000):VC Try.prog 163 ([nod n]) (nod ⟨n.kd,n.na,0,0,0,0,0,0,0,[],[],0,0,0,0,0,0,0,0⟩):=by
 have hk1:In64 n.kd:=⟨by omega,by omega⟩
 have hs:=nameEq_in (k:=n.kd) (by omega) (by omega)
 have oz0 := @name_v (n.kd) hk1
 have oz9 := @scaledK_v (n.kd)
 exact (VC.run (fn:=Try.f163) (W:=[.r [] [],.r [] [.callr (rO oz0)],.br false,.r [] [],.r [] [],.r [] [],.br false,.r [] [],.br false,.r [] [],.br false,.r [] [],.br false,.r [] [],.br false,.r [] [],.br false,.r [] [],.br false,.r [] [.callr (rO oz9)],.br false,.r [] []]) (r:=AV.agg [i64 n.kd,i64 n.na,i64 0,i64 0,i64 0,i64 0,i64 0,i8 0,i8 0,nilv,nilv,i32 0,i64 0,i8 0,i32 0,i64 0,i8 0,i8 0,i8 0]) Try.func163 (by kernel_rfl) (.c oz0<|.c hs<|.c (show (n.kd==1)=false by (refine decide_eq_false ?_;omega))<|.c (show (n.kd==2)=false by (refine decide_eq_false ?_;omega))<|.c (show (n.kd==4)=false by (refine decide_eq_false ?_;omega))<|.c (show (n.kd==5)=false by (refine decide_eq_false ?_;omega))<|.c (show (n.kd==3)=false by (refine decide_eq_false ?_;omega))<|.c (show (n.kd==6)=false by (refine decide_eq_false ?_;omega))<|.c (show (n.kd==8)=false by (refine decide_eq_false ?_;omega))<|.c oz9<|.c (show (n.kd==1 || n.kd==2 || n.kd==3 || n.kd==6 || n.kd==7)=false by (simp;omega))<|.n)).weak (WeakL.refl _) (Weak.agg (.cons (.refl _) (.cons (.refl _) (.cons (.refl _) (.cons (.refl _) (.cons (.refl _) (.cons (.refl _) (.cons (.refl _) (.cons (.refl _) (.cons (.refl _) (.cons (Weak.nil _) (.cons (Weak.nil _) (.cons (.refl _) (.cons (.refl _) (.cons (.refl _) (.cons (.refl _) (.cons (.refl _) (.cons (.refl _) (.cons (.refl _) (.cons (.refl _) .nil))))))))))))))))))))
end Go.Proofs.Ytgecmooedhnenaa
