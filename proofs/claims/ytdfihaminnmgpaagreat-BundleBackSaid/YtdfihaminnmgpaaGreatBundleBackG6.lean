/- A part of this claim. No condition. -/
import Derived.Test.YtdfihaminnmgpaaGreatBundleBackG5
set_option maxRecDepth 100000
set_option maxHeartbeats 2000000
set_option linter.unusedVariables false
set_option linter.unusedSimpArgs false
set_option linter.unnecessarySimpa false
namespace Go.Proofs.YtdfihaminnmgpaaGreat
open Go.RowKit
open BlkW renaming rows→BU_
open Bool renaming and_eq_true→N_
open Exit renaming exit→BO_
open IntWalk renaming i32_in→CR_
open List renaming map→K_,length_append→P_,length_map→R_,map_replicate→W_,map_append→B_,map_cons→C_,map_take→AK_,map_drop→AL_,map_nil→AO_,map_set→AP_,length_cons→AE_,length_nil→CQ_
open Nat renaming le_trans→Y_,le_refl→AX_,zero_le→AD_
open Tryz renaming prog→L_,func166→CA_,func131→CB_,func167→DL_
open Value renaming slice→AQ_
open Weak renaming int→Q_,bool→AF_,nil→AG_,tup→AI_,agg→BL_,rows→BQ_
open WeakL renaming refl→AM_
theorem tnum_kd (s:Rst) (n:Nod) (most:Int) (h:s.In) (h0:0≤most) (h1:most≤2147483647):VM L_ 97 ([.agg [.ptr 100000 0 0],.ptr 100001 0 0,i64 most]) ([(100000,.var (rdC s)),(100001,.var (nodC n))]) (.tup []) ([(100000,.var (rdC (cntS s most))),(100001,.var (nodC { n with kd:=cntV s most }))]):=by
 have oz0:=@cnt_v (s) (most) h h0 h1
 exact mR_ [r_,.r [] [cm oz0]] [.drop [3],.sort] _ Tryz.func97 (.d oz0)
theorem tnum_na (s:Rst) (n:Nod) (most:Int) (h:s.In) (h0:0≤most) (h1:most≤2147483647):VM L_ 97 ([.agg [.ptr 100000 0 0],.ptr 100001 0 1,i64 most]) ([(100000,.var (rdC s)),(100001,.var (nodC n))]) (.tup []) ([(100000,.var (rdC (cntS s most))),(100001,.var (nodC { n with na:=cntV s most }))]):=by
 have oz0:=@cnt_v (s) (most) h h0 h1
 exact mR_ [r_,.r [] [cm oz0]] [.drop [3],.sort] _ Tryz.func97 (.d oz0)
theorem lnum_na (B:List Int) (L:Int→List Int) (n:Nod) (most:Int) (hB:B.length≤1000000) (hL:Puts L):VM L_ 56 ([.ptr 100000 0 0,.ptr 100001 0 1,i64 most]) ([(950,.slc 5 1 (B.map (row1 .u8))),(100000,.var [.own 950]),(100001,.var (nodC n))]) (.tup []) ([(951,.slc 5 1 ((B++L n.na).map (row1 .u8))),(100000,.var [.own 951]),(100001,.var (nodC n))]):=by
 have q:=hL.l n.na
 have oz0:=@puts_v (L) hL (n.na)
 exact mR_ [.r [] [.w,cr oz0]] [.ren 16 951,.blk 951 (Blk.slc 5 1 (K_ (row1 .u8) (B++L n.na))),.sort] _ Tryz.func56 (.d4 oz0 (show ((K_ (row1 .u8) B).length+(K_ (row1 .u8) (L n.na)).length)*1≤140737488355328 by (simp only[R_];omega)) (show (K_ (row1 .u8) B).length+(K_ (row1 .u8) (L n.na)).length≤9223372036854775807 by (simp only[R_];omega)) (show BlkW (Blk.slc 5 1 (K_ (row1 .u8) B++K_ (row1 .u8) (L n.na))) (Blk.slc 5 1 (K_ (row1 .u8) (B++L n.na))) from (BU_ (e:=5) (z:=1) (rows_to (row1 .u8) (r:=K_ (row1 .u8) B++K_ (row1 .u8) (L n.na)) (l:=B++L n.na) (m:=B++L n.na) (by first|(simp only[B_,C_,AO_,AP_,W_,AK_,AL_];done)|rfl|(simp only[B_,C_,AO_,AP_,W_,AK_,AL_];rfl)) rfl))))
theorem tnum_nb (s:Rst) (n:Nod) (most:Int) (h:s.In) (h0:0≤most) (h1:most≤2147483647):VM L_ 97 ([.agg [.ptr 100000 0 0],.ptr 100001 0 2,i64 most]) ([(100000,.var (rdC s)),(100001,.var (nodC n))]) (.tup []) ([(100000,.var (rdC (cntS s most))),(100001,.var (nodC { n with nb:=cntV s most }))]):=by
 have oz0:=@cnt_v (s) (most) h h0 h1
 exact mR_ [r_,.r [] [cm oz0]] [.drop [3],.sort] _ Tryz.func97 (.d oz0)
theorem lnum_nb (B:List Int) (L:Int→List Int) (n:Nod) (most:Int) (hB:B.length≤1000000) (hL:Puts L):VM L_ 56 ([.ptr 100000 0 0,.ptr 100001 0 2,i64 most]) ([(950,.slc 5 1 (B.map (row1 .u8))),(100000,.var [.own 950]),(100001,.var (nodC n))]) (.tup []) ([(951,.slc 5 1 ((B++L n.nb).map (row1 .u8))),(100000,.var [.own 951]),(100001,.var (nodC n))]):=by
 have q:=hL.l n.nb
 have oz0:=@puts_v (L) hL (n.nb)
 exact mR_ [.r [] [.w,cr oz0]] [.ren 16 951,.blk 951 (Blk.slc 5 1 (K_ (row1 .u8) (B++L n.nb))),.sort] _ Tryz.func56 (.d4 oz0 (show ((K_ (row1 .u8) B).length+(K_ (row1 .u8) (L n.nb)).length)*1≤140737488355328 by (simp only[R_];omega)) (show (K_ (row1 .u8) B).length+(K_ (row1 .u8) (L n.nb)).length≤9223372036854775807 by (simp only[R_];omega)) (show BlkW (Blk.slc 5 1 (K_ (row1 .u8) B++K_ (row1 .u8) (L n.nb))) (Blk.slc 5 1 (K_ (row1 .u8) (B++L n.nb))) from (BU_ (e:=5) (z:=1) (rows_to (row1 .u8) (r:=K_ (row1 .u8) B++K_ (row1 .u8) (L n.nb)) (l:=B++L n.nb) (m:=B++L n.nb) (by first|(simp only[B_,C_,AO_,AP_,W_,AK_,AL_];done)|rfl|(simp only[B_,C_,AO_,AP_,W_,AK_,AL_];rfl)) rfl))))
theorem tnum_nk (s:Rst) (n:Nod) (most:Int) (h:s.In) (h0:0≤most) (h1:most≤2147483647):VM L_ 97 ([.agg [.ptr 100000 0 0],.ptr 100001 0 3,i64 most]) ([(100000,.var (rdC s)),(100001,.var (nodC n))]) (.tup []) ([(100000,.var (rdC (cntS s most))),(100001,.var (nodC { n with nk:=cntV s most }))]):=by
 have oz0:=@cnt_v (s) (most) h h0 h1
 exact mR_ [r_,.r [] [cm oz0]] [.drop [3],.sort] _ Tryz.func97 (.d oz0)
theorem lnum_nk (B:List Int) (L:Int→List Int) (n:Nod) (most:Int) (hB:B.length≤1000000) (hL:Puts L):VM L_ 56 ([.ptr 100000 0 0,.ptr 100001 0 3,i64 most]) ([(950,.slc 5 1 (B.map (row1 .u8))),(100000,.var [.own 950]),(100001,.var (nodC n))]) (.tup []) ([(951,.slc 5 1 ((B++L n.nk).map (row1 .u8))),(100000,.var [.own 951]),(100001,.var (nodC n))]):=by
 have q:=hL.l n.nk
 have oz0:=@puts_v (L) hL (n.nk)
 exact mR_ [.r [] [.w,cr oz0]] [.ren 16 951,.blk 951 (Blk.slc 5 1 (K_ (row1 .u8) (B++L n.nk))),.sort] _ Tryz.func56 (.d4 oz0 (show ((K_ (row1 .u8) B).length+(K_ (row1 .u8) (L n.nk)).length)*1≤140737488355328 by (simp only[R_];omega)) (show (K_ (row1 .u8) B).length+(K_ (row1 .u8) (L n.nk)).length≤9223372036854775807 by (simp only[R_];omega)) (show BlkW (Blk.slc 5 1 (K_ (row1 .u8) B++K_ (row1 .u8) (L n.nk))) (Blk.slc 5 1 (K_ (row1 .u8) (B++L n.nk))) from (BU_ (e:=5) (z:=1) (rows_to (row1 .u8) (r:=K_ (row1 .u8) B++K_ (row1 .u8) (L n.nk)) (l:=B++L n.nk) (m:=B++L n.nk) (by first|(simp only[B_,C_,AO_,AP_,W_,AK_,AL_];done)|rfl|(simp only[B_,C_,AO_,AP_,W_,AK_,AL_];rfl)) rfl))))
theorem tnum_ns (s:Rst) (n:Nod) (most:Int) (h:s.In) (h0:0≤most) (h1:most≤2147483647):VM L_ 97 ([.agg [.ptr 100000 0 0],.ptr 100001 0 4,i64 most]) ([(100000,.var (rdC s)),(100001,.var (nodC n))]) (.tup []) ([(100000,.var (rdC (cntS s most))),(100001,.var (nodC { n with ns:=cntV s most }))]):=by
 have oz0:=@cnt_v (s) (most) h h0 h1
 exact mR_ [r_,.r [] [cm oz0]] [.drop [3],.sort] _ Tryz.func97 (.d oz0)
theorem lnum_ns (B:List Int) (L:Int→List Int) (n:Nod) (most:Int) (hB:B.length≤1000000) (hL:Puts L):VM L_ 56 ([.ptr 100000 0 0,.ptr 100001 0 4,i64 most]) ([(950,.slc 5 1 (B.map (row1 .u8))),(100000,.var [.own 950]),(100001,.var (nodC n))]) (.tup []) ([(951,.slc 5 1 ((B++L n.ns).map (row1 .u8))),(100000,.var [.own 951]),(100001,.var (nodC n))]):=by
 have q:=hL.l n.ns
 have oz0:=@puts_v (L) hL (n.ns)
 exact mR_ [.r [] [.w,cr oz0]] [.ren 16 951,.blk 951 (Blk.slc 5 1 (K_ (row1 .u8) (B++L n.ns))),.sort] _ Tryz.func56 (.d4 oz0 (show ((K_ (row1 .u8) B).length+(K_ (row1 .u8) (L n.ns)).length)*1≤140737488355328 by (simp only[R_];omega)) (show (K_ (row1 .u8) B).length+(K_ (row1 .u8) (L n.ns)).length≤9223372036854775807 by (simp only[R_];omega)) (show BlkW (Blk.slc 5 1 (K_ (row1 .u8) B++K_ (row1 .u8) (L n.ns))) (Blk.slc 5 1 (K_ (row1 .u8) (B++L n.ns))) from (BU_ (e:=5) (z:=1) (rows_to (row1 .u8) (r:=K_ (row1 .u8) B++K_ (row1 .u8) (L n.ns)) (l:=B++L n.ns) (m:=B++L n.ns) (by first|(simp only[B_,C_,AO_,AP_,W_,AK_,AL_];done)|rfl|(simp only[B_,C_,AO_,AP_,W_,AK_,AL_];rfl)) rfl))))
theorem tnum_np (s:Rst) (n:Nod) (most:Int) (h:s.In) (h0:0≤most) (h1:most≤2147483647):VM L_ 97 ([.agg [.ptr 100000 0 0],.ptr 100001 0 5,i64 most]) ([(100000,.var (rdC s)),(100001,.var (nodC n))]) (.tup []) ([(100000,.var (rdC (cntS s most))),(100001,.var (nodC { n with np:=cntV s most }))]):=by
 have oz0:=@cnt_v (s) (most) h h0 h1
 exact mR_ [r_,.r [] [cm oz0]] [.drop [3],.sort] _ Tryz.func97 (.d oz0)
theorem lnum_np (B:List Int) (L:Int→List Int) (n:Nod) (most:Int) (hB:B.length≤1000000) (hL:Puts L):VM L_ 56 ([.ptr 100000 0 0,.ptr 100001 0 5,i64 most]) ([(950,.slc 5 1 (B.map (row1 .u8))),(100000,.var [.own 950]),(100001,.var (nodC n))]) (.tup []) ([(951,.slc 5 1 ((B++L n.np).map (row1 .u8))),(100000,.var [.own 951]),(100001,.var (nodC n))]):=by
 have q:=hL.l n.np
 have oz0:=@puts_v (L) hL (n.np)
 exact mR_ [.r [] [.w,cr oz0]] [.ren 16 951,.blk 951 (Blk.slc 5 1 (K_ (row1 .u8) (B++L n.np))),.sort] _ Tryz.func56 (.d4 oz0 (show ((K_ (row1 .u8) B).length+(K_ (row1 .u8) (L n.np)).length)*1≤140737488355328 by (simp only[R_];omega)) (show (K_ (row1 .u8) B).length+(K_ (row1 .u8) (L n.np)).length≤9223372036854775807 by (simp only[R_];omega)) (show BlkW (Blk.slc 5 1 (K_ (row1 .u8) B++K_ (row1 .u8) (L n.np))) (Blk.slc 5 1 (K_ (row1 .u8) (B++L n.np))) from (BU_ (e:=5) (z:=1) (rows_to (row1 .u8) (r:=K_ (row1 .u8) B++K_ (row1 .u8) (L n.np)) (l:=B++L n.np) (m:=B++L n.np) (by first|(simp only[B_,C_,AO_,AP_,W_,AK_,AL_];done)|rfl|(simp only[B_,C_,AO_,AP_,W_,AK_,AL_];rfl)) rfl))))
theorem tnum_no (s:Rst) (n:Nod) (most:Int) (h:s.In) (h0:0≤most) (h1:most≤2147483647):VM L_ 97 ([.agg [.ptr 100000 0 0],.ptr 100001 0 6,i64 most]) ([(100000,.var (rdC s)),(100001,.var (nodC n))]) (.tup []) ([(100000,.var (rdC (cntS s most))),(100001,.var (nodC { n with no:=cntV s most }))]):=by
 have oz0:=@cnt_v (s) (most) h h0 h1
 exact mR_ [r_,.r [] [cm oz0]] [.drop [3],.sort] _ Tryz.func97 (.d oz0)
theorem lnum_no (B:List Int) (L:Int→List Int) (n:Nod) (most:Int) (hB:B.length≤1000000) (hL:Puts L):VM L_ 56 ([.ptr 100000 0 0,.ptr 100001 0 6,i64 most]) ([(950,.slc 5 1 (B.map (row1 .u8))),(100000,.var [.own 950]),(100001,.var (nodC n))]) (.tup []) ([(951,.slc 5 1 ((B++L n.no).map (row1 .u8))),(100000,.var [.own 951]),(100001,.var (nodC n))]):=by
 have q:=hL.l n.no
 have oz0:=@puts_v (L) hL (n.no)
 exact mR_ [.r [] [.w,cr oz0]] [.ren 16 951,.blk 951 (Blk.slc 5 1 (K_ (row1 .u8) (B++L n.no))),.sort] _ Tryz.func56 (.d4 oz0 (show ((K_ (row1 .u8) B).length+(K_ (row1 .u8) (L n.no)).length)*1≤140737488355328 by (simp only[R_];omega)) (show (K_ (row1 .u8) B).length+(K_ (row1 .u8) (L n.no)).length≤9223372036854775807 by (simp only[R_];omega)) (show BlkW (Blk.slc 5 1 (K_ (row1 .u8) B++K_ (row1 .u8) (L n.no))) (Blk.slc 5 1 (K_ (row1 .u8) (B++L n.no))) from (BU_ (e:=5) (z:=1) (rows_to (row1 .u8) (r:=K_ (row1 .u8) B++K_ (row1 .u8) (L n.no)) (l:=B++L n.no) (m:=B++L n.no) (by first|(simp only[B_,C_,AO_,AP_,W_,AK_,AL_];done)|rfl|(simp only[B_,C_,AO_,AP_,W_,AK_,AL_];rfl)) rfl))))
theorem tnum_qs (s:Rst) (n:Nod) (most:Int) (h:s.In) (h0:0≤most) (h1:most≤2147483647):VM L_ 97 ([.agg [.ptr 100000 0 0],.ptr 100001 0 12,i64 most]) ([(100000,.var (rdC s)),(100001,.var (nodC n))]) (.tup []) ([(100000,.var (rdC (cntS s most))),(100001,.var (nodC { n with qs:=cntV s most }))]):=by
 have oz0:=@cnt_v (s) (most) h h0 h1
 exact mR_ [r_,.r [] [cm oz0]] [.drop [3],.sort] _ Tryz.func97 (.d oz0)
theorem lnum_qs (B:List Int) (L:Int→List Int) (n:Nod) (most:Int) (hB:B.length≤1000000) (hL:Puts L):VM L_ 56 ([.ptr 100000 0 0,.ptr 100001 0 12,i64 most]) ([(950,.slc 5 1 (B.map (row1 .u8))),(100000,.var [.own 950]),(100001,.var (nodC n))]) (.tup []) ([(951,.slc 5 1 ((B++L n.qs).map (row1 .u8))),(100000,.var [.own 951]),(100001,.var (nodC n))]):=by
 have q:=hL.l n.qs
 have oz0:=@puts_v (L) hL (n.qs)
 exact mR_ [.r [] [.w,cr oz0]] [.ren 16 951,.blk 951 (Blk.slc 5 1 (K_ (row1 .u8) (B++L n.qs))),.sort] _ Tryz.func56 (.d4 oz0 (show ((K_ (row1 .u8) B).length+(K_ (row1 .u8) (L n.qs)).length)*1≤140737488355328 by (simp only[R_];omega)) (show (K_ (row1 .u8) B).length+(K_ (row1 .u8) (L n.qs)).length≤9223372036854775807 by (simp only[R_];omega)) (show BlkW (Blk.slc 5 1 (K_ (row1 .u8) B++K_ (row1 .u8) (L n.qs))) (Blk.slc 5 1 (K_ (row1 .u8) (B++L n.qs))) from (BU_ (e:=5) (z:=1) (rows_to (row1 .u8) (r:=K_ (row1 .u8) B++K_ (row1 .u8) (L n.qs)) (l:=B++L n.qs) (m:=B++L n.qs) (by first|(simp only[B_,C_,AO_,AP_,W_,AK_,AL_];done)|rfl|(simp only[B_,C_,AO_,AP_,W_,AK_,AL_];rfl)) rfl))))
theorem tnum_rs (s:Rst) (n:Nod) (most:Int) (h:s.In) (h0:0≤most) (h1:most≤2147483647):VM L_ 97 ([.agg [.ptr 100000 0 0],.ptr 100001 0 15,i64 most]) ([(100000,.var (rdC s)),(100001,.var (nodC n))]) (.tup []) ([(100000,.var (rdC (cntS s most))),(100001,.var (nodC { n with rs:=cntV s most }))]):=by
 have oz0:=@cnt_v (s) (most) h h0 h1
 exact mR_ [r_,.r [] [cm oz0]] [.drop [3],.sort] _ Tryz.func97 (.d oz0)
theorem lnum_rs (B:List Int) (L:Int→List Int) (n:Nod) (most:Int) (hB:B.length≤1000000) (hL:Puts L):VM L_ 56 ([.ptr 100000 0 0,.ptr 100001 0 15,i64 most]) ([(950,.slc 5 1 (B.map (row1 .u8))),(100000,.var [.own 950]),(100001,.var (nodC n))]) (.tup []) ([(951,.slc 5 1 ((B++L n.rs).map (row1 .u8))),(100000,.var [.own 951]),(100001,.var (nodC n))]):=by
 have q:=hL.l n.rs
 have oz0:=@puts_v (L) hL (n.rs)
 exact mR_ [.r [] [.w,cr oz0]] [.ren 16 951,.blk 951 (Blk.slc 5 1 (K_ (row1 .u8) (B++L n.rs))),.sort] _ Tryz.func56 (.d4 oz0 (show ((K_ (row1 .u8) B).length+(K_ (row1 .u8) (L n.rs)).length)*1≤140737488355328 by (simp only[R_];omega)) (show (K_ (row1 .u8) B).length+(K_ (row1 .u8) (L n.rs)).length≤9223372036854775807 by (simp only[R_];omega)) (show BlkW (Blk.slc 5 1 (K_ (row1 .u8) B++K_ (row1 .u8) (L n.rs))) (Blk.slc 5 1 (K_ (row1 .u8) (B++L n.rs))) from (BU_ (e:=5) (z:=1) (rows_to (row1 .u8) (r:=K_ (row1 .u8) B++K_ (row1 .u8) (L n.rs)) (l:=B++L n.rs) (m:=B++L n.rs) (by first|(simp only[B_,C_,AO_,AP_,W_,AK_,AL_];done)|rfl|(simp only[B_,C_,AO_,AP_,W_,AK_,AL_];rfl)) rfl))))
theorem lnum_kd0 (L:Int→List Int) (n:Nod) (most:Int) (hL:Puts L):VM L_ 56 ([.ptr 100000 0 0,.ptr 100001 0 0,i64 most]) ([(100000,.var [.lit (.slice none 0 0)]),(100001,.var (nodC n))]) (.tup []) ([(951,.slc 5 1 ((L n.kd).map (row1 .u8))),(100000,.var [.own 951]),(100001,.var (nodC n))]):=by
 have q:=hL.l n.kd
 have oz0:=@puts_v (L) hL (n.kd)
 exact mR_ [.r [] [.w,cr oz0]] [.ren 16 951,.sort] _ Tryz.func56 (.d3 oz0 (show (K_ (row1 .u8) (L n.kd)).length*1≤140737488355328 by (simp only[R_];omega)) (show (K_ (row1 .u8) (L n.kd)).length≤9223372036854775807 by (simp only[R_];omega)))
theorem tsml_w (s:Rst) (n:Nod) (m:Int) (h:s.In):VM L_ 243 ([.agg [.ptr 100000 0 0],.ptr 100001 0 9,i64 m]) ([(100000,.var (rdC s)),(100001,.var (nodC n))]) (.tup []) ([(100000,.var (rdC (smlS s m))),(100001,.var (nodC { n with w:=smlV s m }))]):=by
 have oz0:=@smallR_v (s) (m) h
 exact mR_ [r_,.r [] [cm oz0]] [.drop [3],.sort] _ Tryz.func243 (.d oz0)
theorem twid_b (s:Rst) (n:Nod) (m:Int) (h:s.In):VM L_ 244 ([.agg [.ptr 100000 0 0],.ptr 100001 0 10,i64 m]) ([(100000,.var (rdC s)),(100001,.var (nodC n))]) (.tup []) ([(100000,.var (rdC (widS s m))),(100001,.var (nodC { n with b:=widV s m }))]):=by
 have oz0:=@wideR_v (s) (m) h
 exact mR_ [r_,.r [] [cm oz0]] [.drop [3],.sort] _ Tryz.func244 (.d oz0)
theorem lsml_w (B:List Int) (n:Nod) (m:Int) (hB:B.length≤1000000) (hw:n.w.length≤100000):VM L_ 238 ([.ptr 100000 0 0,.ptr 100001 0 9,i64 m]) ([(950,.slc 5 1 (B.map (row1 .u8))),(100000,.var [.own 950]),(100001,.var (nodC n))]) (.tup []) ([(951,.slc 5 1 ((B++smallL n.w).map (row1 .u8))),(100000,.var [.own 951]),(100001,.var (nodC n))]):=by
 have q:(smallL n.w).length=n.w.length:=R_ _
 have oz0:=@small_v (n.w) (by omega)
 exact mR_ [.r [] [cr oz0]] [.ren 15 951,.blk 951 (Blk.slc 5 1 (K_ (row1 .u8) (B++smallL n.w))),.sort] _ Tryz.func238 (.d4 oz0 (show ((K_ (row1 .u8) B).length+(K_ (row1 .u8) (smallL n.w)).length)*1≤140737488355328 by (simp only[R_];omega)) (show (K_ (row1 .u8) B).length+(K_ (row1 .u8) (smallL n.w)).length≤9223372036854775807 by (simp only[R_];omega)) (show BlkW (Blk.slc 5 1 (K_ (row1 .u8) B++K_ (row1 .u8) (smallL n.w))) (Blk.slc 5 1 (K_ (row1 .u8) (B++smallL n.w))) from (BU_ (e:=5) (z:=1) (rows_to (row1 .u8) (r:=K_ (row1 .u8) B++K_ (row1 .u8) (smallL n.w)) (l:=B++smallL n.w) (m:=B++smallL n.w) (by first|(simp only[B_,C_,AO_,AP_,W_,AK_,AL_];done)|rfl|(simp only[B_,C_,AO_,AP_,W_,AK_,AL_];rfl)) rfl))))
theorem lwid_b (B:List Int) (n:Nod) (m:Int) (hB:B.length≤1000000) (hw:n.b.length≤100000) (hb:∀ x∈n.b,-2147483648≤x∧x≤2147483647):VM L_ 239 ([.ptr 100000 0 0,.ptr 100001 0 10,i64 m]) ([(950,.slc 5 1 (B.map (row1 .u8))),(100000,.var [.own 950]),(100001,.var (nodC n))]) (.tup []) ([(951,.slc 5 1 ((B++wideL n.b).map (row1 .u8))),(100000,.var [.own 951]),(100001,.var (nodC n))]):=by
 have q:=wideL_len n.b hb
 have oz0:=@wide_v (n.b) hb (by omega)
 exact mR_ [.r [] [cr oz0]] [.ren 15 951,.blk 951 (Blk.slc 5 1 (K_ (row1 .u8) (B++wideL n.b))),.sort] _ Tryz.func239 (.d4 oz0 (show ((K_ (row1 .u8) B).length+(K_ (row1 .u8) (wideL n.b)).length)*1≤140737488355328 by (simp only[R_];omega)) (show (K_ (row1 .u8) B).length+(K_ (row1 .u8) (wideL n.b)).length≤9223372036854775807 by (simp only[R_];omega)) (show BlkW (Blk.slc 5 1 (K_ (row1 .u8) B++K_ (row1 .u8) (wideL n.b))) (Blk.slc 5 1 (K_ (row1 .u8) (B++wideL n.b))) from (BU_ (e:=5) (z:=1) (rows_to (row1 .u8) (r:=K_ (row1 .u8) B++K_ (row1 .u8) (wideL n.b)) (l:=B++wideL n.b) (m:=B++wideL n.b) (by first|(simp only[B_,C_,AO_,AP_,W_,AK_,AL_];done)|rfl|(simp only[B_,C_,AO_,AP_,W_,AK_,AL_];rfl)) rfl))))
theorem tsml_1 (s:Rst) (m:Int) (h:s.In):VM L_ 243 ([.agg [.ptr 100000 0 0],.ptr 100001 0 0,i64 m]) ([(100000,.var (rdC s)),(100001,.var [.any])]) (.tup []) ([(100000,.var (rdC (smlS s m))),(100001,.var [.sl 1 ((smlV s m).map (row1 .i8))])]):=by
 have oz0:=@smallR_v (s) (m) h
 exact mR_ [r_,.r [] [cm oz0]] [.drop [3],.sort] _ Tryz.func243 (.d oz0)
theorem tone_za_y (s:Rst) (n:Nod) (h:s.In) (h1:(smlV s 1).length=1):VM L_ 167 ([.ifc 183 (.agg [.ptr 100000 0 0]),.ptr 100001 0 7]) ([(100000,.var (rdC s)),(100001,.var (nodC n))]) (.tup []) ([(100000,.var (rdC (smlS s 1))),(100001,.var (nodC { n with za:=(smlV s 1).getD 0 default }))]):=by
 have oz0:=@tsml_1 (s) (1) h
 exact VM.run (fn:=Tryz.f167) (W:=[r_,.r [] [.callm [(100000,100000),(4,100001)] [] (rM oz0) (oM oz0)],r_,b_,.r [] [.row [i8 ((smlV s 1).getD 0 0)]]]) (G:=[.drop [8,4],.blk 100001 (Blk.var [i64 n.kd,i64 n.na,i64 n.nb,i64 n.nk,i64 n.ns,i64 n.np,i64 n.no,i8 ((smlV s 1).getD 0 default),i8 n.zb,AV.sl 1 (K_ (row1 .i8) n.w),AV.sl 1 (K_ (row1 .i32) n.b),i32 n.qm,i64 n.qs,i8 n.qz,i32 n.rm,i64 n.rs,i8 n.rz,i8 n.lo,i8 n.hi]),.sort]) DL_ (by kernel_rfl) (.d6 oz0 (show MethodIs L_ (183:Nat) "stepwell/pack.small" (methF L_ (183:Nat) "stepwell/pack.small") from (methodIs (by kernel_rfl))) (show (((K_ (row1 .i8) (smlV s 1)).length:Int)==1)=true by (simp;omega)) z3_ (map_at (row1 .i8) (0) (l:=smlV s 1) (i:=0) (by omega)) (show BlkW (Blk.var [i64 n.kd,i64 n.na,i64 n.nb,i64 n.nk,i64 n.ns,i64 n.np,i64 n.no,i8 ((smlV s 1).getD 0 0),i8 n.zb,AV.sl 1 (K_ (row1 .i8) n.w),AV.sl 1 (K_ (row1 .i32) n.b),i32 n.qm,i64 n.qs,i8 n.qz,i32 n.rm,i64 n.rs,i8 n.rz,i8 n.lo,i8 n.hi]) (Blk.var [i64 n.kd,i64 n.na,i64 n.nb,i64 n.nk,i64 n.ns,i64 n.np,i64 n.no,i8 ((smlV s 1).getD 0 default),i8 n.zb,AV.sl 1 (K_ (row1 .i8) n.w),AV.sl 1 (K_ (row1 .i32) n.b),i32 n.qm,i64 n.qs,i8 n.qz,i32 n.rm,i64 n.rs,i8 n.rz,i8 n.lo,i8 n.hi]) from (BlkW.var (m:=[i64 n.kd,i64 n.na,i64 n.nb,i64 n.nk,i64 n.ns,i64 n.np,i64 n.no,i8 ((smlV s 1).getD 0 default),i8 n.zb,AV.sl 1 (K_ (row1 .i8) n.w),AV.sl 1 (K_ (row1 .i32) n.b),i32 n.qm,i64 n.qs,i8 n.qz,i32 n.rm,i64 n.rs,i8 n.rz,i8 n.lo,i8 n.hi]) (.cons (.refl _) (.cons (.refl _) (.cons (.refl _) (.cons (.refl _) (.cons (.refl _) (.cons (.refl _) (.cons (.refl _) (.cons (Q_ (by (simp;done))) (.cons (.refl _) (.cons (.refl _) (.cons (.refl _) (.cons (.refl _) (.cons (.refl _) (.cons (.refl _) (.cons (.refl _) (.cons (.refl _) (.cons (.refl _) (.cons (.refl _) (.cons (.refl _) .nil))))))))))))))))))))))
theorem tone_za_n (s:Rst) (n:Nod) (h:s.In) (h1:(smlV s 1).length≠1) (h2:(smlV s 1).length≤1000000):VM L_ 167 ([.ifc 183 (.agg [.ptr 100000 0 0]),.ptr 100001 0 7]) ([(100000,.var (rdC s)),(100001,.var (nodC n))]) (.tup []) ([(100000,.var (rdC (smlS s 1))),(100001,.var (nodC n))]):=by
 have oz0:=@tsml_1 (s) (1) h
 exact VM.run (fn:=Tryz.f167) (W:=[r_,.r [] [.callm [(100000,100000),(4,100001)] [] (rM oz0) (oM oz0)],r_,d_]) (G:=[.drop [8,4],.sort]) DL_ (by kernel_rfl) (.d3 oz0 (show MethodIs L_ (183:Nat) "stepwell/pack.small" (methF L_ (183:Nat) "stepwell/pack.small") from (methodIs (by kernel_rfl))) (show (((K_ (row1 .i8) (smlV s 1)).length:Int)==1)=false by (simp;omega)))
theorem tone_zb_y (s:Rst) (n:Nod) (h:s.In) (h1:(smlV s 1).length=1):VM L_ 167 ([.ifc 183 (.agg [.ptr 100000 0 0]),.ptr 100001 0 8]) ([(100000,.var (rdC s)),(100001,.var (nodC n))]) (.tup []) ([(100000,.var (rdC (smlS s 1))),(100001,.var (nodC { n with zb:=(smlV s 1).getD 0 default }))]):=by
 have oz0:=@tsml_1 (s) (1) h
 exact VM.run (fn:=Tryz.f167) (W:=[r_,.r [] [.callm [(100000,100000),(4,100001)] [] (rM oz0) (oM oz0)],r_,b_,.r [] [.row [i8 ((smlV s 1).getD 0 0)]]]) (G:=[.drop [8,4],.blk 100001 (Blk.var [i64 n.kd,i64 n.na,i64 n.nb,i64 n.nk,i64 n.ns,i64 n.np,i64 n.no,i8 n.za,i8 ((smlV s 1).getD 0 default),AV.sl 1 (K_ (row1 .i8) n.w),AV.sl 1 (K_ (row1 .i32) n.b),i32 n.qm,i64 n.qs,i8 n.qz,i32 n.rm,i64 n.rs,i8 n.rz,i8 n.lo,i8 n.hi]),.sort]) DL_ (by kernel_rfl) (.d6 oz0 (show MethodIs L_ (183:Nat) "stepwell/pack.small" (methF L_ (183:Nat) "stepwell/pack.small") from (methodIs (by kernel_rfl))) (show (((K_ (row1 .i8) (smlV s 1)).length:Int)==1)=true by (simp;omega)) z3_ (map_at (row1 .i8) (0) (l:=smlV s 1) (i:=0) (by omega)) (show BlkW (Blk.var [i64 n.kd,i64 n.na,i64 n.nb,i64 n.nk,i64 n.ns,i64 n.np,i64 n.no,i8 n.za,i8 ((smlV s 1).getD 0 0),AV.sl 1 (K_ (row1 .i8) n.w),AV.sl 1 (K_ (row1 .i32) n.b),i32 n.qm,i64 n.qs,i8 n.qz,i32 n.rm,i64 n.rs,i8 n.rz,i8 n.lo,i8 n.hi]) (Blk.var [i64 n.kd,i64 n.na,i64 n.nb,i64 n.nk,i64 n.ns,i64 n.np,i64 n.no,i8 n.za,i8 ((smlV s 1).getD 0 default),AV.sl 1 (K_ (row1 .i8) n.w),AV.sl 1 (K_ (row1 .i32) n.b),i32 n.qm,i64 n.qs,i8 n.qz,i32 n.rm,i64 n.rs,i8 n.rz,i8 n.lo,i8 n.hi]) from (BlkW.var (m:=[i64 n.kd,i64 n.na,i64 n.nb,i64 n.nk,i64 n.ns,i64 n.np,i64 n.no,i8 n.za,i8 ((smlV s 1).getD 0 default),AV.sl 1 (K_ (row1 .i8) n.w),AV.sl 1 (K_ (row1 .i32) n.b),i32 n.qm,i64 n.qs,i8 n.qz,i32 n.rm,i64 n.rs,i8 n.rz,i8 n.lo,i8 n.hi]) (.cons (.refl _) (.cons (.refl _) (.cons (.refl _) (.cons (.refl _) (.cons (.refl _) (.cons (.refl _) (.cons (.refl _) (.cons (.refl _) (.cons (Q_ (by (simp;done))) (.cons (.refl _) (.cons (.refl _) (.cons (.refl _) (.cons (.refl _) (.cons (.refl _) (.cons (.refl _) (.cons (.refl _) (.cons (.refl _) (.cons (.refl _) (.cons (.refl _) .nil))))))))))))))))))))))
theorem tone_zb_n (s:Rst) (n:Nod) (h:s.In) (h1:(smlV s 1).length≠1) (h2:(smlV s 1).length≤1000000):VM L_ 167 ([.ifc 183 (.agg [.ptr 100000 0 0]),.ptr 100001 0 8]) ([(100000,.var (rdC s)),(100001,.var (nodC n))]) (.tup []) ([(100000,.var (rdC (smlS s 1))),(100001,.var (nodC n))]):=by
 have oz0:=@tsml_1 (s) (1) h
 exact VM.run (fn:=Tryz.f167) (W:=[r_,.r [] [.callm [(100000,100000),(4,100001)] [] (rM oz0) (oM oz0)],r_,d_]) (G:=[.drop [8,4],.sort]) DL_ (by kernel_rfl) (.d3 oz0 (show MethodIs L_ (183:Nat) "stepwell/pack.small" (methF L_ (183:Nat) "stepwell/pack.small") from (methodIs (by kernel_rfl))) (show (((K_ (row1 .i8) (smlV s 1)).length:Int)==1)=false by (simp;omega)))
theorem tone_qz_y (s:Rst) (n:Nod) (h:s.In) (h1:(smlV s 1).length=1):VM L_ 167 ([.ifc 183 (.agg [.ptr 100000 0 0]),.ptr 100001 0 13]) ([(100000,.var (rdC s)),(100001,.var (nodC n))]) (.tup []) ([(100000,.var (rdC (smlS s 1))),(100001,.var (nodC { n with qz:=(smlV s 1).getD 0 default }))]):=by
 have oz0:=@tsml_1 (s) (1) h
 exact VM.run (fn:=Tryz.f167) (W:=[r_,.r [] [.callm [(100000,100000),(4,100001)] [] (rM oz0) (oM oz0)],r_,b_,.r [] [.row [i8 ((smlV s 1).getD 0 0)]]]) (G:=[.drop [8,4],.blk 100001 (Blk.var [i64 n.kd,i64 n.na,i64 n.nb,i64 n.nk,i64 n.ns,i64 n.np,i64 n.no,i8 n.za,i8 n.zb,AV.sl 1 (K_ (row1 .i8) n.w),AV.sl 1 (K_ (row1 .i32) n.b),i32 n.qm,i64 n.qs,i8 ((smlV s 1).getD 0 default),i32 n.rm,i64 n.rs,i8 n.rz,i8 n.lo,i8 n.hi]),.sort]) DL_ (by kernel_rfl) (.d6 oz0 (show MethodIs L_ (183:Nat) "stepwell/pack.small" (methF L_ (183:Nat) "stepwell/pack.small") from (methodIs (by kernel_rfl))) (show (((K_ (row1 .i8) (smlV s 1)).length:Int)==1)=true by (simp;omega)) z3_ (map_at (row1 .i8) (0) (l:=smlV s 1) (i:=0) (by omega)) (show BlkW (Blk.var [i64 n.kd,i64 n.na,i64 n.nb,i64 n.nk,i64 n.ns,i64 n.np,i64 n.no,i8 n.za,i8 n.zb,AV.sl 1 (K_ (row1 .i8) n.w),AV.sl 1 (K_ (row1 .i32) n.b),i32 n.qm,i64 n.qs,i8 ((smlV s 1).getD 0 0),i32 n.rm,i64 n.rs,i8 n.rz,i8 n.lo,i8 n.hi]) (Blk.var [i64 n.kd,i64 n.na,i64 n.nb,i64 n.nk,i64 n.ns,i64 n.np,i64 n.no,i8 n.za,i8 n.zb,AV.sl 1 (K_ (row1 .i8) n.w),AV.sl 1 (K_ (row1 .i32) n.b),i32 n.qm,i64 n.qs,i8 ((smlV s 1).getD 0 default),i32 n.rm,i64 n.rs,i8 n.rz,i8 n.lo,i8 n.hi]) from (BlkW.var (m:=[i64 n.kd,i64 n.na,i64 n.nb,i64 n.nk,i64 n.ns,i64 n.np,i64 n.no,i8 n.za,i8 n.zb,AV.sl 1 (K_ (row1 .i8) n.w),AV.sl 1 (K_ (row1 .i32) n.b),i32 n.qm,i64 n.qs,i8 ((smlV s 1).getD 0 default),i32 n.rm,i64 n.rs,i8 n.rz,i8 n.lo,i8 n.hi]) (.cons (.refl _) (.cons (.refl _) (.cons (.refl _) (.cons (.refl _) (.cons (.refl _) (.cons (.refl _) (.cons (.refl _) (.cons (.refl _) (.cons (.refl _) (.cons (.refl _) (.cons (.refl _) (.cons (.refl _) (.cons (.refl _) (.cons (Q_ (by (simp;done))) (.cons (.refl _) (.cons (.refl _) (.cons (.refl _) (.cons (.refl _) (.cons (.refl _) .nil))))))))))))))))))))))
theorem tone_qz_n (s:Rst) (n:Nod) (h:s.In) (h1:(smlV s 1).length≠1) (h2:(smlV s 1).length≤1000000):VM L_ 167 ([.ifc 183 (.agg [.ptr 100000 0 0]),.ptr 100001 0 13]) ([(100000,.var (rdC s)),(100001,.var (nodC n))]) (.tup []) ([(100000,.var (rdC (smlS s 1))),(100001,.var (nodC n))]):=by
 have oz0:=@tsml_1 (s) (1) h
 exact VM.run (fn:=Tryz.f167) (W:=[r_,.r [] [.callm [(100000,100000),(4,100001)] [] (rM oz0) (oM oz0)],r_,d_]) (G:=[.drop [8,4],.sort]) DL_ (by kernel_rfl) (.d3 oz0 (show MethodIs L_ (183:Nat) "stepwell/pack.small" (methF L_ (183:Nat) "stepwell/pack.small") from (methodIs (by kernel_rfl))) (show (((K_ (row1 .i8) (smlV s 1)).length:Int)==1)=false by (simp;omega)))
theorem tone_lo_y (s:Rst) (n:Nod) (h:s.In) (h1:(smlV s 1).length=1):VM L_ 167 ([.ifc 183 (.agg [.ptr 100000 0 0]),.ptr 100001 0 17]) ([(100000,.var (rdC s)),(100001,.var (nodC n))]) (.tup []) ([(100000,.var (rdC (smlS s 1))),(100001,.var (nodC { n with lo:=(smlV s 1).getD 0 default }))]):=by
 have oz0:=@tsml_1 (s) (1) h
 exact VM.run (fn:=Tryz.f167) (W:=[r_,.r [] [.callm [(100000,100000),(4,100001)] [] (rM oz0) (oM oz0)],r_,b_,.r [] [.row [i8 ((smlV s 1).getD 0 0)]]]) (G:=[.drop [8,4],.blk 100001 (Blk.var [i64 n.kd,i64 n.na,i64 n.nb,i64 n.nk,i64 n.ns,i64 n.np,i64 n.no,i8 n.za,i8 n.zb,AV.sl 1 (K_ (row1 .i8) n.w),AV.sl 1 (K_ (row1 .i32) n.b),i32 n.qm,i64 n.qs,i8 n.qz,i32 n.rm,i64 n.rs,i8 n.rz,i8 ((smlV s 1).getD 0 default),i8 n.hi]),.sort]) DL_ (by kernel_rfl) (.d6 oz0 (show MethodIs L_ (183:Nat) "stepwell/pack.small" (methF L_ (183:Nat) "stepwell/pack.small") from (methodIs (by kernel_rfl))) (show (((K_ (row1 .i8) (smlV s 1)).length:Int)==1)=true by (simp;omega)) z3_ (map_at (row1 .i8) (0) (l:=smlV s 1) (i:=0) (by omega)) (show BlkW (Blk.var [i64 n.kd,i64 n.na,i64 n.nb,i64 n.nk,i64 n.ns,i64 n.np,i64 n.no,i8 n.za,i8 n.zb,AV.sl 1 (K_ (row1 .i8) n.w),AV.sl 1 (K_ (row1 .i32) n.b),i32 n.qm,i64 n.qs,i8 n.qz,i32 n.rm,i64 n.rs,i8 n.rz,i8 ((smlV s 1).getD 0 0),i8 n.hi]) (Blk.var [i64 n.kd,i64 n.na,i64 n.nb,i64 n.nk,i64 n.ns,i64 n.np,i64 n.no,i8 n.za,i8 n.zb,AV.sl 1 (K_ (row1 .i8) n.w),AV.sl 1 (K_ (row1 .i32) n.b),i32 n.qm,i64 n.qs,i8 n.qz,i32 n.rm,i64 n.rs,i8 n.rz,i8 ((smlV s 1).getD 0 default),i8 n.hi]) from (BlkW.var (m:=[i64 n.kd,i64 n.na,i64 n.nb,i64 n.nk,i64 n.ns,i64 n.np,i64 n.no,i8 n.za,i8 n.zb,AV.sl 1 (K_ (row1 .i8) n.w),AV.sl 1 (K_ (row1 .i32) n.b),i32 n.qm,i64 n.qs,i8 n.qz,i32 n.rm,i64 n.rs,i8 n.rz,i8 ((smlV s 1).getD 0 default),i8 n.hi]) (.cons (.refl _) (.cons (.refl _) (.cons (.refl _) (.cons (.refl _) (.cons (.refl _) (.cons (.refl _) (.cons (.refl _) (.cons (.refl _) (.cons (.refl _) (.cons (.refl _) (.cons (.refl _) (.cons (.refl _) (.cons (.refl _) (.cons (.refl _) (.cons (.refl _) (.cons (.refl _) (.cons (.refl _) (.cons (Q_ (by (simp;done))) (.cons (.refl _) .nil))))))))))))))))))))))
theorem tone_lo_n (s:Rst) (n:Nod) (h:s.In) (h1:(smlV s 1).length≠1) (h2:(smlV s 1).length≤1000000):VM L_ 167 ([.ifc 183 (.agg [.ptr 100000 0 0]),.ptr 100001 0 17]) ([(100000,.var (rdC s)),(100001,.var (nodC n))]) (.tup []) ([(100000,.var (rdC (smlS s 1))),(100001,.var (nodC n))]):=by
 have oz0:=@tsml_1 (s) (1) h
 exact VM.run (fn:=Tryz.f167) (W:=[r_,.r [] [.callm [(100000,100000),(4,100001)] [] (rM oz0) (oM oz0)],r_,d_]) (G:=[.drop [8,4],.sort]) DL_ (by kernel_rfl) (.d3 oz0 (show MethodIs L_ (183:Nat) "stepwell/pack.small" (methF L_ (183:Nat) "stepwell/pack.small") from (methodIs (by kernel_rfl))) (show (((K_ (row1 .i8) (smlV s 1)).length:Int)==1)=false by (simp;omega)))
theorem tone_hi_y (s:Rst) (n:Nod) (h:s.In) (h1:(smlV s 1).length=1):VM L_ 167 ([.ifc 183 (.agg [.ptr 100000 0 0]),.ptr 100001 0 18]) ([(100000,.var (rdC s)),(100001,.var (nodC n))]) (.tup []) ([(100000,.var (rdC (smlS s 1))),(100001,.var (nodC { n with hi:=(smlV s 1).getD 0 default }))]):=by
 have oz0:=@tsml_1 (s) (1) h
 exact VM.run (fn:=Tryz.f167) (W:=[r_,.r [] [.callm [(100000,100000),(4,100001)] [] (rM oz0) (oM oz0)],r_,b_,.r [] [.row [i8 ((smlV s 1).getD 0 0)]]]) (G:=[.drop [8,4],.blk 100001 (Blk.var [i64 n.kd,i64 n.na,i64 n.nb,i64 n.nk,i64 n.ns,i64 n.np,i64 n.no,i8 n.za,i8 n.zb,AV.sl 1 (K_ (row1 .i8) n.w),AV.sl 1 (K_ (row1 .i32) n.b),i32 n.qm,i64 n.qs,i8 n.qz,i32 n.rm,i64 n.rs,i8 n.rz,i8 n.lo,i8 ((smlV s 1).getD 0 default)]),.sort]) DL_ (by kernel_rfl) (.d6 oz0 (show MethodIs L_ (183:Nat) "stepwell/pack.small" (methF L_ (183:Nat) "stepwell/pack.small") from (methodIs (by kernel_rfl))) (show (((K_ (row1 .i8) (smlV s 1)).length:Int)==1)=true by (simp;omega)) z3_ (map_at (row1 .i8) (0) (l:=smlV s 1) (i:=0) (by omega)) (show BlkW (Blk.var [i64 n.kd,i64 n.na,i64 n.nb,i64 n.nk,i64 n.ns,i64 n.np,i64 n.no,i8 n.za,i8 n.zb,AV.sl 1 (K_ (row1 .i8) n.w),AV.sl 1 (K_ (row1 .i32) n.b),i32 n.qm,i64 n.qs,i8 n.qz,i32 n.rm,i64 n.rs,i8 n.rz,i8 n.lo,i8 ((smlV s 1).getD 0 0)]) (Blk.var [i64 n.kd,i64 n.na,i64 n.nb,i64 n.nk,i64 n.ns,i64 n.np,i64 n.no,i8 n.za,i8 n.zb,AV.sl 1 (K_ (row1 .i8) n.w),AV.sl 1 (K_ (row1 .i32) n.b),i32 n.qm,i64 n.qs,i8 n.qz,i32 n.rm,i64 n.rs,i8 n.rz,i8 n.lo,i8 ((smlV s 1).getD 0 default)]) from (BlkW.var (m:=[i64 n.kd,i64 n.na,i64 n.nb,i64 n.nk,i64 n.ns,i64 n.np,i64 n.no,i8 n.za,i8 n.zb,AV.sl 1 (K_ (row1 .i8) n.w),AV.sl 1 (K_ (row1 .i32) n.b),i32 n.qm,i64 n.qs,i8 n.qz,i32 n.rm,i64 n.rs,i8 n.rz,i8 n.lo,i8 ((smlV s 1).getD 0 default)]) (.cons (.refl _) (.cons (.refl _) (.cons (.refl _) (.cons (.refl _) (.cons (.refl _) (.cons (.refl _) (.cons (.refl _) (.cons (.refl _) (.cons (.refl _) (.cons (.refl _) (.cons (.refl _) (.cons (.refl _) (.cons (.refl _) (.cons (.refl _) (.cons (.refl _) (.cons (.refl _) (.cons (.refl _) (.cons (.refl _) (.cons (Q_ (by (simp;done))) .nil))))))))))))))))))))))
theorem tone_hi_n (s:Rst) (n:Nod) (h:s.In) (h1:(smlV s 1).length≠1) (h2:(smlV s 1).length≤1000000):VM L_ 167 ([.ifc 183 (.agg [.ptr 100000 0 0]),.ptr 100001 0 18]) ([(100000,.var (rdC s)),(100001,.var (nodC n))]) (.tup []) ([(100000,.var (rdC (smlS s 1))),(100001,.var (nodC n))]):=by
 have oz0:=@tsml_1 (s) (1) h
 exact VM.run (fn:=Tryz.f167) (W:=[r_,.r [] [.callm [(100000,100000),(4,100001)] [] (rM oz0) (oM oz0)],r_,d_]) (G:=[.drop [8,4],.sort]) DL_ (by kernel_rfl) (.d3 oz0 (show MethodIs L_ (183:Nat) "stepwell/pack.small" (methF L_ (183:Nat) "stepwell/pack.small") from (methodIs (by kernel_rfl))) (show (((K_ (row1 .i8) (smlV s 1)).length:Int)==1)=false by (simp;omega)))
def oneV (s:Rst):Int:=(smlV s 1).getD 0 0
theorem one_len (s:Rst):(smlV s 1).length=0∨(smlV s 1).length=1:=by
 unfold smlV
 split
 ·exact .inl rfl
 ·split
  ·exact .inl rfl
  ·split
   ·exact .inl rfl
   ·exact .inr (tkW_len _ _)
theorem oneV_0 {s:Rst} (h:(smlV s 1).length=0):oneV s=0:=by
 unfold oneV;rw[List.length_eq_zero_iff.1 h];rfl
theorem tone_za (s:Rst) (n:Nod) (h:s.In) (h0:n.za=0):VM L_ 167 [.ifc 183 (.agg [.ptr 100000 0 0]),.ptr 100001 0 7] [(100000,.var (rdC s)),(100001,.var (nodC n))] (.tup []) [(100000,.var (rdC (smlS s 1))),(100001,.var (nodC { n with za:=oneV s }))]:=by
 rcases one_len s with h1|h1
 ·have e : { n with za:=oneV s }=n:=by rw[oneV_0 h1,←h0]
  rw[e]
  exact tone_za_n s n h (by omega) (by omega)
 ·exact tone_za_y s n h h1
theorem tone_zb (s:Rst) (n:Nod) (h:s.In) (h0:n.zb=0):VM L_ 167 [.ifc 183 (.agg [.ptr 100000 0 0]),.ptr 100001 0 8] [(100000,.var (rdC s)),(100001,.var (nodC n))] (.tup []) [(100000,.var (rdC (smlS s 1))),(100001,.var (nodC { n with zb:=oneV s }))]:=by
 rcases one_len s with h1|h1
 ·have e : { n with zb:=oneV s }=n:=by rw[oneV_0 h1,←h0]
  rw[e]
  exact tone_zb_n s n h (by omega) (by omega)
 ·exact tone_zb_y s n h h1
theorem tone_qz (s:Rst) (n:Nod) (h:s.In) (h0:n.qz=0):VM L_ 167 [.ifc 183 (.agg [.ptr 100000 0 0]),.ptr 100001 0 13] [(100000,.var (rdC s)),(100001,.var (nodC n))] (.tup []) [(100000,.var (rdC (smlS s 1))),(100001,.var (nodC { n with qz:=oneV s }))]:=by
 rcases one_len s with h1|h1
 ·have e : { n with qz:=oneV s }=n:=by rw[oneV_0 h1,←h0]
  rw[e]
  exact tone_qz_n s n h (by omega) (by omega)
 ·exact tone_qz_y s n h h1
theorem tone_lo (s:Rst) (n:Nod) (h:s.In) (h0:n.lo=0):VM L_ 167 [.ifc 183 (.agg [.ptr 100000 0 0]),.ptr 100001 0 17] [(100000,.var (rdC s)),(100001,.var (nodC n))] (.tup []) [(100000,.var (rdC (smlS s 1))),(100001,.var (nodC { n with lo:=oneV s }))]:=by
 rcases one_len s with h1|h1
 ·have e : { n with lo:=oneV s }=n:=by rw[oneV_0 h1,←h0]
  rw[e]
  exact tone_lo_n s n h (by omega) (by omega)
 ·exact tone_lo_y s n h h1
theorem tone_hi (s:Rst) (n:Nod) (h:s.In) (h0:n.hi=0):VM L_ 167 [.ifc 183 (.agg [.ptr 100000 0 0]),.ptr 100001 0 18] [(100000,.var (rdC s)),(100001,.var (nodC n))] (.tup []) [(100000,.var (rdC (smlS s 1))),(100001,.var (nodC { n with hi:=oneV s }))]:=by
 rcases one_len s with h1|h1
 ·have e : { n with hi:=oneV s }=n:=by rw[oneV_0 h1,←h0]
  rw[e]
  exact tone_hi_n s n h (by omega) (by omega)
 ·exact tone_hi_y s n h h1
theorem z6_:true = !false:=by (simp;done)
theorem of_1 (k:Int) (h:k=1):VC L_ 165 ([i64 k]) (.agg [bv false,bv true,bv true,bv true,bv true,bv true]):=by
 have oz0:=(show (k==1) = !false by (refine decide_eq_true ?_;omega))
 have oz2:=(show (k==1)=true by (refine decide_eq_true ?_;omega))
 have oz3:=z6_
 have oz5:=z0_
 exact (cR_ [r_,.r [] [f_,f_,e_,f_,f_,e_],.r [] [f_,f_,e_,f_,f_,e_,f_,f_,e_],.r [] [f_,f_,e_,f_,f_,e_],.r [] [f_,f_,e_,f_,f_,e_]] (AV.agg [bv (k==6),bv true,bv true,bv true,bv true,bv true]) Tryz.func165 (.c8 oz0 oz0 oz2 oz3 oz3 oz5 oz0 oz0<|.c8 oz2 oz3 oz3 oz5 oz3 oz3 oz5 oz3<|.c8 oz3 oz5 oz3 oz3 oz5 oz0 oz0 oz2<|.d3 oz3 oz3 oz5)).weak (AM_ _) (BL_ (.cons (AF_ (by (refine decide_eq_false ?_;omega))) (.cons (.refl _) (.cons (.refl _) (.cons (.refl _) (.cons (.refl _) (.cons (.refl _) .nil)))))))
theorem of_2 (k:Int) (h:k=2):VC L_ 165 ([i64 k]) (.agg [bv false,bv true,bv false,bv true,bv true,bv true]):=by
 have oz0:=(show (k==1)=false by (refine decide_eq_false ?_;omega))
 have oz3:=(show (k==2) = !false by (refine decide_eq_true ?_;omega))
 have oz5:=(show (k==2)=true by (refine decide_eq_true ?_;omega))
 have oz12:=z6_
 have oz14:=z0_
 exact (cR_ [r_,.r [] [e_,e_,f_,f_,f_,e_],.r [] [e_,e_,f_,f_,f_,e_,f_,f_,e_],.r [] [f_,f_,e_,f_,f_,e_],.r [] [e_,e_,f_,f_,f_,e_]] (AV.agg [bv (k==6),bv true,bv (k==3),bv true,bv true,bv true]) Tryz.func165 (.c8 oz0 oz0 oz0 oz3 oz3 oz5 oz0 oz0<|.c8 oz0 oz3 oz3 oz5 oz12 oz12 oz14 oz12<|.c8 oz12 oz14 oz12 oz12 oz14 oz0 oz0 oz0<|.d3 oz12 oz12 oz14)).weak (AM_ _) (BL_ (.cons (AF_ (by (refine decide_eq_false ?_;omega))) (.cons (.refl _) (.cons (AF_ (by (refine decide_eq_false ?_;omega))) (.cons (.refl _) (.cons (.refl _) (.cons (.refl _) .nil)))))))
theorem of_3 (k:Int) (h:k=3):VC L_ 165 ([i64 k]) (.agg [bv false,bv false,bv true,bv true,bv true,bv true]):=by
 have oz0:=(show (k==1)=false by (refine decide_eq_false ?_;omega))
 have oz3:=(show (k==2)=false by (refine decide_eq_false ?_;omega))
 have oz12:=(show (k==4)=false by (refine decide_eq_false ?_;omega))
 have oz15:=(show (k==3) = !false by (refine decide_eq_true ?_;omega))
 have oz18:=z6_
 have oz20:=z0_
 exact (cR_ [r_,.r [] [e_,e_,f_,e_,e_,f_],.r [] [e_,e_,f_,e_,e_,f_,e_,e_,f_],.r [] [f_,f_,e_,f_,f_,e_],.r [] [e_,e_,f_,f_,f_,e_]] (AV.agg [bv (k==6),bv (k==5),bv (k==3),bv true,bv (k==3),bv true]) Tryz.func165 (.c8 oz0 oz0 oz0 oz3 oz3 oz3 oz0 oz0<|.c8 oz0 oz3 oz3 oz3 oz12 oz12 oz12 oz15<|.c8 oz15 (show (k==3)=true by (refine decide_eq_true ?_;omega)) oz18 oz18 oz20 oz0 oz0 oz0<|.d3 oz18 oz18 oz20)).weak (AM_ _) (BL_ (.cons (AF_ (by (refine decide_eq_false ?_;omega))) (.cons (AF_ (by (refine decide_eq_false ?_;omega))) (.cons (AF_ (by (refine decide_eq_true ?_;omega))) (.cons (.refl _) (.cons (AF_ (by (refine decide_eq_true ?_;omega))) (.cons (.refl _) .nil)))))))
theorem of_4 (k:Int) (h:k=4∨k=5):VC L_ 165 ([i64 k]) (.agg [bv false,bv true,bv false,bv false,bv false,bv false]):=by
 have oz0:=(show (k==1)=false by (refine decide_eq_false ?_;omega))
 have oz3:=(show (k==2)=false by (refine decide_eq_false ?_;omega))
 have oz12:=(show (k==3)=false by (refine decide_eq_false ?_;omega))
 have oz15:=(show (k==6)=false by (refine decide_eq_false ?_;omega))
 have oz21:=(show (k==7)=false by (refine decide_eq_false ?_;omega))
 exact (cR_ [r_,.r [] [e_,e_,f_,e_,e_,f_],.r [] [e_,e_,f_,e_,e_,f_,o_,o_,.sel 1],.r [] [e_,e_,f_,e_,e_,f_],.r [] [e_,e_,f_,e_,e_,f_]] (AV.agg [bv (k==6),bv (k==4 || k==5),bv (k==3),bv (k==8),bv (k==3),bv (k==7)]) Tryz.func165 (.c8 oz0 oz0 oz0 oz3 oz3 oz3 oz0 oz0<|.c8 oz0 oz3 oz3 oz3 oz12 oz12 oz12 oz15<|.d8 oz15 oz15 oz0 oz0 oz0 oz21 oz21 oz21)).weak (AM_ _) (BL_ (.cons (AF_ (by (refine decide_eq_false ?_;omega))) (.cons (AF_ (by (simp;omega))) (.cons (AF_ (by (refine decide_eq_false ?_;omega))) (.cons (AF_ (by (refine decide_eq_false ?_;omega))) (.cons (AF_ (by (refine decide_eq_false ?_;omega))) (.cons (AF_ (by (refine decide_eq_false ?_;omega))) .nil)))))))
theorem of_6 (k:Int) (h:k=6):VC L_ 165 ([i64 k]) (.agg [bv true,bv false,bv false,bv true,bv false,bv true]):=by
 have oz0:=(show (k==1)=false by (refine decide_eq_false ?_;omega))
 have oz3:=(show (k==2)=false by (refine decide_eq_false ?_;omega))
 have oz12:=(show (k==4)=false by (refine decide_eq_false ?_;omega))
 have oz15:=(show (k==3)=false by (refine decide_eq_false ?_;omega))
 have oz18:=(show (k==6) = !false by (refine decide_eq_true ?_;omega))
 have oz24:=z6_
 exact (cR_ [r_,.r [] [e_,e_,f_,e_,e_,f_],.r [] [e_,e_,f_,e_,e_,f_,e_,e_,f_],.r [] [e_,e_,f_,f_,f_,e_],.r [] [e_,e_,f_,f_,f_,e_]] (AV.agg [bv (k==6),bv (k==5),bv (k==3),bv true,bv (k==3),bv true]) Tryz.func165 (.c8 oz0 oz0 oz0 oz3 oz3 oz3 oz0 oz0<|.c8 oz0 oz3 oz3 oz3 oz12 oz12 oz12 oz15<|.c8 oz15 oz15 oz18 oz18 (show (k==6)=true by (refine decide_eq_true ?_;omega)) oz0 oz0 oz0<|.d3 oz24 oz24 z0_)).weak (AM_ _) (BL_ (.cons (AF_ (by (refine decide_eq_true ?_;omega))) (.cons (AF_ (by (refine decide_eq_false ?_;omega))) (.cons (AF_ (by (refine decide_eq_false ?_;omega))) (.cons (.refl _) (.cons (AF_ (by (refine decide_eq_false ?_;omega))) (.cons (.refl _) .nil)))))))
theorem of_7 (k:Int) (h:k=7):VC L_ 165 ([i64 k]) (.agg [bv false,bv false,bv false,bv true,bv false,bv true]):=by
 have oz0:=(show (k==1)=false by (refine decide_eq_false ?_;omega))
 have oz3:=(show (k==2)=false by (refine decide_eq_false ?_;omega))
 have oz12:=(show (k==4)=false by (refine decide_eq_false ?_;omega))
 have oz15:=(show (k==3)=false by (refine decide_eq_false ?_;omega))
 have oz18:=(show (k==6)=false by (refine decide_eq_false ?_;omega))
 have oz24:=(show (k==7) = !false by (refine decide_eq_true ?_;omega))
 exact (cR_ [r_,.r [] [e_,e_,f_,e_,e_,f_],.r [] [e_,e_,f_,e_,e_,f_,e_,e_,f_],.r [] [e_,e_,f_,e_,e_,f_],.r [] [e_,e_,f_,f_,f_,e_]] (AV.agg [bv (k==6),bv (k==5),bv (k==3),bv true,bv (k==3),bv (k==7)]) Tryz.func165 (.c8 oz0 oz0 oz0 oz3 oz3 oz3 oz0 oz0<|.c8 oz0 oz3 oz3 oz3 oz12 oz12 oz12 oz15<|.c8 oz15 oz15 oz18 oz18 oz18 oz0 oz0 oz0<|.d3 oz24 oz24 (show (k==7)=true by (refine decide_eq_true ?_;omega)))).weak (AM_ _) (BL_ (.cons (AF_ (by (refine decide_eq_false ?_;omega))) (.cons (AF_ (by (refine decide_eq_false ?_;omega))) (.cons (AF_ (by (refine decide_eq_false ?_;omega))) (.cons (.refl _) (.cons (AF_ (by (refine decide_eq_false ?_;omega))) (.cons (AF_ (by (refine decide_eq_true ?_;omega))) .nil)))))))
theorem of_8 (k:Int) (h:k=8):VC L_ 165 ([i64 k]) (.agg [bv false,bv false,bv false,bv true,bv false,bv false]):=by
 have oz0:=(show (k==1)=false by (refine decide_eq_false ?_;omega))
 have oz3:=(show (k==2)=false by (refine decide_eq_false ?_;omega))
 have oz12:=(show (k==4)=false by (refine decide_eq_false ?_;omega))
 have oz15:=(show (k==3)=false by (refine decide_eq_false ?_;omega))
 have oz18:=(show (k==6)=false by (refine decide_eq_false ?_;omega))
 have oz24:=(show (k==7)=false by (refine decide_eq_false ?_;omega))
 exact (cR_ [r_,.r [] [e_,e_,f_,e_,e_,f_],.r [] [e_,e_,f_,e_,e_,f_,e_,e_,f_],.r [] [e_,e_,f_,e_,e_,f_],.r [] [e_,e_,f_,e_,e_,f_]] (AV.agg [bv (k==6),bv (k==5),bv (k==3),bv (k==8),bv (k==3),bv (k==7)]) Tryz.func165 (.c8 oz0 oz0 oz0 oz3 oz3 oz3 oz0 oz0<|.c8 oz0 oz3 oz3 oz3 oz12 oz12 oz12 oz15<|.c8 oz15 oz15 oz18 oz18 oz18 oz0 oz0 oz0<|.d3 oz24 oz24 oz24)).weak (AM_ _) (BL_ (.cons (AF_ (by (refine decide_eq_false ?_;omega))) (.cons (AF_ (by (refine decide_eq_false ?_;omega))) (.cons (AF_ (by (refine decide_eq_false ?_;omega))) (.cons (AF_ (by (refine decide_eq_true ?_;omega))) (.cons (AF_ (by (refine decide_eq_false ?_;omega))) (.cons (AF_ (by (refine decide_eq_false ?_;omega))) .nil)))))))
theorem of_9 (k:Int) (h:k<1∨8<k):VC L_ 165 ([i64 k]) (.agg [bv false,bv false,bv false,bv false,bv false,bv false]):=by
 have oz0:=(show (k==1)=false by (refine decide_eq_false ?_;omega))
 have oz3:=(show (k==2)=false by (refine decide_eq_false ?_;omega))
 have oz12:=(show (k==4)=false by (refine decide_eq_false ?_;omega))
 have oz15:=(show (k==3)=false by (refine decide_eq_false ?_;omega))
 have oz18:=(show (k==6)=false by (refine decide_eq_false ?_;omega))
 have oz24:=(show (k==7)=false by (refine decide_eq_false ?_;omega))
 exact (cR_ [r_,.r [] [e_,e_,f_,e_,e_,f_],.r [] [e_,e_,f_,e_,e_,f_,e_,e_,f_],.r [] [e_,e_,f_,e_,e_,f_],.r [] [e_,e_,f_,e_,e_,f_]] (AV.agg [bv (k==6),bv (k==5),bv (k==3),bv (k==8),bv (k==3),bv (k==7)]) Tryz.func165 (.c8 oz0 oz0 oz0 oz3 oz3 oz3 oz0 oz0<|.c8 oz0 oz3 oz3 oz3 oz12 oz12 oz12 oz15<|.c8 oz15 oz15 oz18 oz18 oz18 oz0 oz0 oz0<|.d3 oz24 oz24 oz24)).weak (AM_ _) (BL_ (.cons (AF_ (by (refine decide_eq_false ?_;omega))) (.cons (AF_ (by (refine decide_eq_false ?_;omega))) (.cons (AF_ (by (refine decide_eq_false ?_;omega))) (.cons (AF_ (by (refine decide_eq_false ?_;omega))) (.cons (AF_ (by (refine decide_eq_false ?_;omega))) (.cons (AF_ (by (refine decide_eq_false ?_;omega))) .nil)))))))
theorem tlists_0 (s:Rst) (n:Nod) (h:s.In):VM L_ 132 ([.ifc 183 (.agg [.ptr 100000 0 0]),.ptr 100001 0 9,.ptr 100001 0 10]) ([(100000,.var (rdC s)),(100001,.var (nodC n))]) (.tup []) ([(100000,.var (rdC (widS (cntS (smlS (cntS s 16384) (cntV s 16384)) 16384) (cntV (smlS (cntS s 16384) (cntV s 16384)) 16384)))),(100001,.var (nodC { n with w:=smlV (cntS s 16384) (cntV s 16384),b:=widV (cntS (smlS (cntS s 16384) (cntV s 16384)) 16384) (cntV (smlS (cntS s 16384) (cntV s 16384)) 16384) }))]):=by
 have oz0:=@tnum_1 (s) (((K_ (row1 .i8) n.w).length:Int)) (16384) h (by omega) (by omega)
 have oz1:=(show MethodIs L_ (183:Nat) "stepwell/pack.number" (methF L_ (183:Nat) "stepwell/pack.number") from (methodIs (by kernel_rfl)))
 have oz2:=@tsml_w (cntS s 16384) (n) (cntV s 16384) (by (repeat first|exact h|apply cnt_in|apply sml_in))
 have oz4:=@tnum_1 (smlS (cntS s 16384) (cntV s 16384)) (((K_ (row1 .i32) n.b).length:Int)) (16384) (by (repeat first|exact h|apply cnt_in|apply sml_in)) (by omega) (by omega)
 have oz6:=@twid_b (cntS (smlS (cntS s 16384) (cntV s 16384)) 16384) (Nod.mk n.kd n.na n.nb n.nk n.ns n.np n.no n.za n.zb (smlV (cntS s 16384) (cntV s 16384)) n.b n.qm n.qs n.qz n.rm n.rs n.rz n.lo n.hi) (cntV (smlS (cntS s 16384) (cntV s 16384)) 16384) (by (repeat first|exact h|apply cnt_in|apply sml_in))
 exact mR_ [r_,.r [] [.callm [(100000,100000),(6,100001)] [] (rM oz0) (oM oz0)],.r [] [cn oz2],r_,.r [] [.callm [(100000,100000),(7,100001)] [] (rM oz4) (oM oz4)],.r [] [cn oz6]] [.drop [6,7],.sort] _ Tryz.func132 (.d8 oz0 oz1 oz2 (show MethodIs L_ (183:Nat) "stepwell/pack.small" (methF L_ (183:Nat) "stepwell/pack.small") from (methodIs (by kernel_rfl))) oz4 oz1 oz6 (show MethodIs L_ (183:Nat) "stepwell/pack.wides" (methF L_ (183:Nat) "stepwell/pack.wides") from (methodIs (by kernel_rfl))))
theorem tscale_q (s:Rst) (n:Nod) (h:s.In):VM L_ 168 ([.ifc 183 (.agg [.ptr 100000 0 0]),.ptr 100001 0 11]) ([(100000,.var (rdC s)),(100001,.var (nodC n))]) (.tup []) ([(100000,.var (rdC (cntS (cntS s 2147483647) 62))),(100001,.var (nodC { n with qm:=cntV s 2147483647,qs:=cntV (cntS s 2147483647) 62 }))]):=by
 have q:=@cntV_rng s 2147483647 h (by decide)
 have oz0:=@tnum_1 (s) (IntKind.i64.wrap n.qm) (2147483647) h (by omega) (by omega)
 have oz1:=(show MethodIs L_ (183:Nat) "stepwell/pack.number" (methF L_ (183:Nat) "stepwell/pack.number") from (methodIs (by kernel_rfl)))
 have oz4:=@tnum_qs (cntS s 2147483647) (Nod.mk n.kd n.na n.nb n.nk n.ns n.np n.no n.za n.zb n.w n.b (cntV s 2147483647) n.qs n.qz n.rm n.rs n.rz n.lo n.hi) (62) (by (repeat first|exact h|apply cnt_in|apply sml_in)) (by (try dsimp only)<;>omega) (by (try dsimp only)<;>omega)
 exact mR_ [.r [] [.w],.r [] [.callm [(100000,100000),(4,100001)] [] (rM oz0) (oM oz0)],.r [] [.n (cntV s 2147483647)],.r [] [cn oz4]] [.drop [4],.sort] _ Tryz.func168 (.d6 oz0 oz1 (CR_ (cntV s 2147483647) (by omega)) (show NilNo L_ (183:Nat) "stepwell/pack.number" from (nilNo (f:=97) (by kernel_rfl))) oz4 oz1)
theorem tscale_r (s:Rst) (n:Nod) (h:s.In):VM L_ 168 ([.ifc 183 (.agg [.ptr 100000 0 0]),.ptr 100001 0 14]) ([(100000,.var (rdC s)),(100001,.var (nodC n))]) (.tup []) ([(100000,.var (rdC (cntS (cntS s 2147483647) 62))),(100001,.var (nodC { n with rm:=cntV s 2147483647,rs:=cntV (cntS s 2147483647) 62 }))]):=by
 have q:=@cntV_rng s 2147483647 h (by decide)
 have oz0:=@tnum_1 (s) (IntKind.i64.wrap n.rm) (2147483647) h (by omega) (by omega)
 have oz1:=(show MethodIs L_ (183:Nat) "stepwell/pack.number" (methF L_ (183:Nat) "stepwell/pack.number") from (methodIs (by kernel_rfl)))
 have oz4:=@tnum_rs (cntS s 2147483647) (Nod.mk n.kd n.na n.nb n.nk n.ns n.np n.no n.za n.zb n.w n.b n.qm n.qs n.qz (cntV s 2147483647) n.rs n.rz n.lo n.hi) (62) (by (repeat first|exact h|apply cnt_in|apply sml_in)) (by (try dsimp only)<;>omega) (by (try dsimp only)<;>omega)
 exact mR_ [.r [] [.w],.r [] [.callm [(100000,100000),(4,100001)] [] (rM oz0) (oM oz0)],.r [] [.n (cntV s 2147483647)],.r [] [cn oz4]] [.drop [4],.sort] _ Tryz.func168 (.d6 oz0 oz1 (CR_ (cntV s 2147483647) (by omega)) (show NilNo L_ (183:Nat) "stepwell/pack.number" from (nilNo (f:=97) (by kernel_rfl))) oz4 oz1)
theorem tside_nb (s:Rst) (n:Nod) (h:s.In):VM L_ 195 ([bv true,.ptr 100001 0 2,.ptr 100002 0 0]) ([(100000,.var (rdC s)),(100001,.var (nodC n)),(100002,.var [.ifc 183 (.agg [.ptr 100000 0 0])])]) (.tup []) ([(100000,.var (rdC (cntS s 1024))),(100001,.var (nodC { n with nb:=cntV s 1024 })),(100002,.var [.ifc 183 (.agg [.ptr 100000 0 0])])]):=by
 have oz1:=@tnum_nb (s) (n) (1024) h (by omega) (by omega)
 exact mR_ [r_,b_,.r [] [cn oz1]] [.sort] _ Tryz.func195 (.d3 z0_ oz1 (show MethodIs L_ (183:Nat) "stepwell/pack.number" (methF L_ (183:Nat) "stepwell/pack.number") from (methodIs (by kernel_rfl))))
theorem lside_nb (B:List Int) (L:Int→List Int) (n:Nod) (hB:B.length≤1000000) (hL:Puts L):VM L_ 195 ([bv true,.ptr 100001 0 2,.ptr 100002 0 0]) ([(950,.slc 5 1 (B.map (row1 .u8))),(100000,.var [.own 950]),(100001,.var (nodC n)),(100002,.var [.ifc 124 (.ptr 100000 0 0)])]) (.tup []) ([(951,.slc 5 1 ((B++L n.nb).map (row1 .u8))),(100000,.var [.own 951]),(100001,.var (nodC n)),(100002,.var [.ifc 124 (.ptr 100000 0 0)])]):=by
 have oz1:=@lnum_nb (B) (L) (n) (1024) hB hL
 exact mR_ [r_,b_,.r [] [.callm [(950,950),(100000,100000),(100001,100001)] [(951,20000)] (rM oz1) (oM oz1)]] [.ren 20000 951,.sort] _ Tryz.func195 (.d3 z0_ oz1 (show MethodIs L_ (124:Nat) "stepwell/pack.number" (methF L_ (124:Nat) "stepwell/pack.number") from (methodIs (by kernel_rfl))))
theorem tside_nk (s:Rst) (n:Nod) (h:s.In):VM L_ 195 ([bv true,.ptr 100001 0 3,.ptr 100002 0 0]) ([(100000,.var (rdC s)),(100001,.var (nodC n)),(100002,.var [.ifc 183 (.agg [.ptr 100000 0 0])])]) (.tup []) ([(100000,.var (rdC (cntS s 1024))),(100001,.var (nodC { n with nk:=cntV s 1024 })),(100002,.var [.ifc 183 (.agg [.ptr 100000 0 0])])]):=by
 have oz1:=@tnum_nk (s) (n) (1024) h (by omega) (by omega)
 exact mR_ [r_,b_,.r [] [cn oz1]] [.sort] _ Tryz.func195 (.d3 z0_ oz1 (show MethodIs L_ (183:Nat) "stepwell/pack.number" (methF L_ (183:Nat) "stepwell/pack.number") from (methodIs (by kernel_rfl))))
theorem lside_nk (B:List Int) (L:Int→List Int) (n:Nod) (hB:B.length≤1000000) (hL:Puts L):VM L_ 195 ([bv true,.ptr 100001 0 3,.ptr 100002 0 0]) ([(950,.slc 5 1 (B.map (row1 .u8))),(100000,.var [.own 950]),(100001,.var (nodC n)),(100002,.var [.ifc 124 (.ptr 100000 0 0)])]) (.tup []) ([(951,.slc 5 1 ((B++L n.nk).map (row1 .u8))),(100000,.var [.own 951]),(100001,.var (nodC n)),(100002,.var [.ifc 124 (.ptr 100000 0 0)])]):=by
 have oz1:=@lnum_nk (B) (L) (n) (1024) hB hL
 exact mR_ [r_,b_,.r [] [.callm [(950,950),(100000,100000),(100001,100001)] [(951,20000)] (rM oz1) (oM oz1)]] [.ren 20000 951,.sort] _ Tryz.func195 (.d3 z0_ oz1 (show MethodIs L_ (124:Nat) "stepwell/pack.number" (methF L_ (124:Nat) "stepwell/pack.number") from (methodIs (by kernel_rfl))))
theorem tside_ns (s:Rst) (n:Nod) (h:s.In):VM L_ 195 ([bv true,.ptr 100001 0 4,.ptr 100002 0 0]) ([(100000,.var (rdC s)),(100001,.var (nodC n)),(100002,.var [.ifc 183 (.agg [.ptr 100000 0 0])])]) (.tup []) ([(100000,.var (rdC (cntS s 1024))),(100001,.var (nodC { n with ns:=cntV s 1024 })),(100002,.var [.ifc 183 (.agg [.ptr 100000 0 0])])]):=by
 have oz1:=@tnum_ns (s) (n) (1024) h (by omega) (by omega)
 exact mR_ [r_,b_,.r [] [cn oz1]] [.sort] _ Tryz.func195 (.d3 z0_ oz1 (show MethodIs L_ (183:Nat) "stepwell/pack.number" (methF L_ (183:Nat) "stepwell/pack.number") from (methodIs (by kernel_rfl))))
theorem lside_ns (B:List Int) (L:Int→List Int) (n:Nod) (hB:B.length≤1000000) (hL:Puts L):VM L_ 195 ([bv true,.ptr 100001 0 4,.ptr 100002 0 0]) ([(950,.slc 5 1 (B.map (row1 .u8))),(100000,.var [.own 950]),(100001,.var (nodC n)),(100002,.var [.ifc 124 (.ptr 100000 0 0)])]) (.tup []) ([(951,.slc 5 1 ((B++L n.ns).map (row1 .u8))),(100000,.var [.own 951]),(100001,.var (nodC n)),(100002,.var [.ifc 124 (.ptr 100000 0 0)])]):=by
 have oz1:=@lnum_ns (B) (L) (n) (1024) hB hL
 exact mR_ [r_,b_,.r [] [.callm [(950,950),(100000,100000),(100001,100001)] [(951,20000)] (rM oz1) (oM oz1)]] [.ren 20000 951,.sort] _ Tryz.func195 (.d3 z0_ oz1 (show MethodIs L_ (124:Nat) "stepwell/pack.number" (methF L_ (124:Nat) "stepwell/pack.number") from (methodIs (by kernel_rfl))))
theorem tside_np (s:Rst) (n:Nod) (h:s.In):VM L_ 195 ([bv true,.ptr 100001 0 5,.ptr 100002 0 0]) ([(100000,.var (rdC s)),(100001,.var (nodC n)),(100002,.var [.ifc 183 (.agg [.ptr 100000 0 0])])]) (.tup []) ([(100000,.var (rdC (cntS s 1024))),(100001,.var (nodC { n with np:=cntV s 1024 })),(100002,.var [.ifc 183 (.agg [.ptr 100000 0 0])])]):=by
 have oz1:=@tnum_np (s) (n) (1024) h (by omega) (by omega)
 exact mR_ [r_,b_,.r [] [cn oz1]] [.sort] _ Tryz.func195 (.d3 z0_ oz1 (show MethodIs L_ (183:Nat) "stepwell/pack.number" (methF L_ (183:Nat) "stepwell/pack.number") from (methodIs (by kernel_rfl))))
theorem lside_np (B:List Int) (L:Int→List Int) (n:Nod) (hB:B.length≤1000000) (hL:Puts L):VM L_ 195 ([bv true,.ptr 100001 0 5,.ptr 100002 0 0]) ([(950,.slc 5 1 (B.map (row1 .u8))),(100000,.var [.own 950]),(100001,.var (nodC n)),(100002,.var [.ifc 124 (.ptr 100000 0 0)])]) (.tup []) ([(951,.slc 5 1 ((B++L n.np).map (row1 .u8))),(100000,.var [.own 951]),(100001,.var (nodC n)),(100002,.var [.ifc 124 (.ptr 100000 0 0)])]):=by
 have oz1:=@lnum_np (B) (L) (n) (1024) hB hL
 exact mR_ [r_,b_,.r [] [.callm [(950,950),(100000,100000),(100001,100001)] [(951,20000)] (rM oz1) (oM oz1)]] [.ren 20000 951,.sort] _ Tryz.func195 (.d3 z0_ oz1 (show MethodIs L_ (124:Nat) "stepwell/pack.number" (methF L_ (124:Nat) "stepwell/pack.number") from (methodIs (by kernel_rfl))))
theorem tside_no (s:Rst) (n:Nod) (h:s.In):VM L_ 195 ([bv true,.ptr 100001 0 6,.ptr 100002 0 0]) ([(100000,.var (rdC s)),(100001,.var (nodC n)),(100002,.var [.ifc 183 (.agg [.ptr 100000 0 0])])]) (.tup []) ([(100000,.var (rdC (cntS s 1024))),(100001,.var (nodC { n with no:=cntV s 1024 })),(100002,.var [.ifc 183 (.agg [.ptr 100000 0 0])])]):=by
 have oz1:=@tnum_no (s) (n) (1024) h (by omega) (by omega)
 exact mR_ [r_,b_,.r [] [cn oz1]] [.sort] _ Tryz.func195 (.d3 z0_ oz1 (show MethodIs L_ (183:Nat) "stepwell/pack.number" (methF L_ (183:Nat) "stepwell/pack.number") from (methodIs (by kernel_rfl))))
theorem lside_no (B:List Int) (L:Int→List Int) (n:Nod) (hB:B.length≤1000000) (hL:Puts L):VM L_ 195 ([bv true,.ptr 100001 0 6,.ptr 100002 0 0]) ([(950,.slc 5 1 (B.map (row1 .u8))),(100000,.var [.own 950]),(100001,.var (nodC n)),(100002,.var [.ifc 124 (.ptr 100000 0 0)])]) (.tup []) ([(951,.slc 5 1 ((B++L n.no).map (row1 .u8))),(100000,.var [.own 951]),(100001,.var (nodC n)),(100002,.var [.ifc 124 (.ptr 100000 0 0)])]):=by
 have oz1:=@lnum_no (B) (L) (n) (1024) hB hL
 exact mR_ [r_,b_,.r [] [.callm [(950,950),(100000,100000),(100001,100001)] [(951,20000)] (rM oz1) (oM oz1)]] [.ren 20000 951,.sort] _ Tryz.func195 (.d3 z0_ oz1 (show MethodIs L_ (124:Nat) "stepwell/pack.number" (methF L_ (124:Nat) "stepwell/pack.number") from (methodIs (by kernel_rfl))))
theorem side_n   : VM L_ 195 ([bv false,.any,.any]) ([]) (.tup []) ([]):=by
 exact mR_ [r_,d_] [.sort] _ Tryz.func195 (.d z1_)
theorem small1 (x:Int):smallL [x]=[IntKind.u8.wrap x]:=by simp[smallL,IntKind.wrap_u8']
theorem lsml_1 (B:List Int) (x m:Int) (hB:B.length≤1000000):VM L_ 238 ([.ptr 100000 0 0,.ptr 100001 0 0,i64 m]) ([(950,.slc 5 1 (B.map (row1 .u8))),(951,.slc 52 1 ([x].map (row1 .i8))),(100000,.var [.own 950]),(100001,.var [.own 951])]) (.tup []) ([(951,.slc 5 1 ((B++[IntKind.u8.wrap x]).map (row1 .u8))),(100000,.var [.own 951]),(100001,.var [.sl 1 ([x].map (row1 .i8))])]):=by
 have e1:=small1 x
 have oz1:=@small_v ([x]) (by (simp;done))
 exact mR_ [.r [.frz 951] [ca oz1]] [.ren 15 951,.blk 951 (Blk.slc 5 1 (K_ (row1 .u8) (B++[IntKind.u8.wrap x]))),.sort] _ Tryz.func238 (.d5 (show WeakL [AV.sl 1 [[i8 x]]] [AV.sl 1 [[i8 x]]] from (.cons (BQ_ (rows_to (row1 .i8) (r:=[[i8 x]]) (l:=[x]) (m:=[x]) (by first|(simp only[B_,C_,AO_,AP_,W_,AK_,AL_];done)|rfl|(simp only[B_,C_,AO_,AP_,W_,AK_,AL_];rfl)) rfl)) .nil)) oz1 (show ((K_ (row1 .u8) B).length+1)*1≤140737488355328 by (simp only[R_];omega)) (show (K_ (row1 .u8) B).length+1≤9223372036854775807 by (simp only[R_];omega)) (show BlkW (Blk.slc 5 1 (K_ (row1 .u8) B++[[u8 (x % 256)]])) (Blk.slc 5 1 (K_ (row1 .u8) (B++[IntKind.u8.wrap x]))) from (BU_ (e:=5) (z:=1) (rows_to (row1 .u8) (r:=K_ (row1 .u8) B++[[u8 (x % 256)]]) (l:=B++[x % 256]) (m:=B++[IntKind.u8.wrap x]) (by first|(simp only[B_,C_,AO_,AP_,W_,AK_,AL_];done)|rfl|(simp only[B_,C_,AO_,AP_,W_,AK_,AL_];rfl)) (show (B++[x % 256])=(B++[IntKind.u8.wrap x]) from (by (simp[IntKind.wrap_u8'];done)))))))
theorem lone_za (B:List Int) (n:Nod) (hB:B.length≤1000000):VM L_ 167 ([.ifc 124 (.ptr 100000 0 0),.ptr 100001 0 7]) ([(950,.slc 5 1 (B.map (row1 .u8))),(100000,.var [.own 950]),(100001,.var (nodC n))]) (.tup []) ([(951,.slc 5 1 ((B++[IntKind.u8.wrap n.za]).map (row1 .u8))),(100000,.var [.own 951]),(100001,.var (nodC n))]):=by
 have oz0:=@lsml_1 (B) (n.za) (1) hB
 exact VM.run (fn:=Tryz.f167) (W:=[r_,.r [] [.callm [(950,950),(8,951),(100000,100000),(4,100001)] [(951,20000)] (rM oz0) (oM oz0)],r_,b_,.r [] [.row [i8 n.za]]]) (G:=[.drop [4],.ren 20000 951,.sort]) DL_ (by kernel_rfl) (.d5 oz0 (show MethodIs L_ (124:Nat) "stepwell/pack.small" (methF L_ (124:Nat) "stepwell/pack.small") from (methodIs (by kernel_rfl))) (show ((↑1:Int)==1)=true by (refine decide_eq_true ?_;omega)) z3_ (show [[i8 n.za]][Int.toNat 0]? = some [i8 n.za] from rfl))
theorem lone_zb (B:List Int) (n:Nod) (hB:B.length≤1000000):VM L_ 167 ([.ifc 124 (.ptr 100000 0 0),.ptr 100001 0 8]) ([(950,.slc 5 1 (B.map (row1 .u8))),(100000,.var [.own 950]),(100001,.var (nodC n))]) (.tup []) ([(951,.slc 5 1 ((B++[IntKind.u8.wrap n.zb]).map (row1 .u8))),(100000,.var [.own 951]),(100001,.var (nodC n))]):=by
 have oz0:=@lsml_1 (B) (n.zb) (1) hB
 exact VM.run (fn:=Tryz.f167) (W:=[r_,.r [] [.callm [(950,950),(8,951),(100000,100000),(4,100001)] [(951,20000)] (rM oz0) (oM oz0)],r_,b_,.r [] [.row [i8 n.zb]]]) (G:=[.drop [4],.ren 20000 951,.sort]) DL_ (by kernel_rfl) (.d5 oz0 (show MethodIs L_ (124:Nat) "stepwell/pack.small" (methF L_ (124:Nat) "stepwell/pack.small") from (methodIs (by kernel_rfl))) (show ((↑1:Int)==1)=true by (refine decide_eq_true ?_;omega)) z3_ (show [[i8 n.zb]][Int.toNat 0]? = some [i8 n.zb] from rfl))
theorem lone_qz (B:List Int) (n:Nod) (hB:B.length≤1000000):VM L_ 167 ([.ifc 124 (.ptr 100000 0 0),.ptr 100001 0 13]) ([(950,.slc 5 1 (B.map (row1 .u8))),(100000,.var [.own 950]),(100001,.var (nodC n))]) (.tup []) ([(951,.slc 5 1 ((B++[IntKind.u8.wrap n.qz]).map (row1 .u8))),(100000,.var [.own 951]),(100001,.var (nodC n))]):=by
 have oz0:=@lsml_1 (B) (n.qz) (1) hB
 exact VM.run (fn:=Tryz.f167) (W:=[r_,.r [] [.callm [(950,950),(8,951),(100000,100000),(4,100001)] [(951,20000)] (rM oz0) (oM oz0)],r_,b_,.r [] [.row [i8 n.qz]]]) (G:=[.drop [4],.ren 20000 951,.sort]) DL_ (by kernel_rfl) (.d5 oz0 (show MethodIs L_ (124:Nat) "stepwell/pack.small" (methF L_ (124:Nat) "stepwell/pack.small") from (methodIs (by kernel_rfl))) (show ((↑1:Int)==1)=true by (refine decide_eq_true ?_;omega)) z3_ (show [[i8 n.qz]][Int.toNat 0]? = some [i8 n.qz] from rfl))
theorem lone_lo (B:List Int) (n:Nod) (hB:B.length≤1000000):VM L_ 167 ([.ifc 124 (.ptr 100000 0 0),.ptr 100001 0 17]) ([(950,.slc 5 1 (B.map (row1 .u8))),(100000,.var [.own 950]),(100001,.var (nodC n))]) (.tup []) ([(951,.slc 5 1 ((B++[IntKind.u8.wrap n.lo]).map (row1 .u8))),(100000,.var [.own 951]),(100001,.var (nodC n))]):=by
 have oz0:=@lsml_1 (B) (n.lo) (1) hB
 exact VM.run (fn:=Tryz.f167) (W:=[r_,.r [] [.callm [(950,950),(8,951),(100000,100000),(4,100001)] [(951,20000)] (rM oz0) (oM oz0)],r_,b_,.r [] [.row [i8 n.lo]]]) (G:=[.drop [4],.ren 20000 951,.sort]) DL_ (by kernel_rfl) (.d5 oz0 (show MethodIs L_ (124:Nat) "stepwell/pack.small" (methF L_ (124:Nat) "stepwell/pack.small") from (methodIs (by kernel_rfl))) (show ((↑1:Int)==1)=true by (refine decide_eq_true ?_;omega)) z3_ (show [[i8 n.lo]][Int.toNat 0]? = some [i8 n.lo] from rfl))
theorem lone_hi (B:List Int) (n:Nod) (hB:B.length≤1000000):VM L_ 167 ([.ifc 124 (.ptr 100000 0 0),.ptr 100001 0 18]) ([(950,.slc 5 1 (B.map (row1 .u8))),(100000,.var [.own 950]),(100001,.var (nodC n))]) (.tup []) ([(951,.slc 5 1 ((B++[IntKind.u8.wrap n.hi]).map (row1 .u8))),(100000,.var [.own 951]),(100001,.var (nodC n))]):=by
 have oz0:=@lsml_1 (B) (n.hi) (1) hB
 exact VM.run (fn:=Tryz.f167) (W:=[r_,.r [] [.callm [(950,950),(8,951),(100000,100000),(4,100001)] [(951,20000)] (rM oz0) (oM oz0)],r_,b_,.r [] [.row [i8 n.hi]]]) (G:=[.drop [4],.ren 20000 951,.sort]) DL_ (by kernel_rfl) (.d5 oz0 (show MethodIs L_ (124:Nat) "stepwell/pack.small" (methF L_ (124:Nat) "stepwell/pack.small") from (methodIs (by kernel_rfl))) (show ((↑1:Int)==1)=true by (refine decide_eq_true ?_;omega)) z3_ (show [[i8 n.hi]][Int.toNat 0]? = some [i8 n.hi] from rfl))
theorem lscale_q (B:List Int) (L:Int→List Int) (n:Nod) (hB:B.length≤900000) (hL:Puts L) (hq:In32 n.qm):VM L_ 168 ([.ifc 124 (.ptr 100000 0 0),.ptr 100001 0 11]) ([(950,.slc 5 1 (B.map (row1 .u8))),(100000,.var [.own 950]),(100001,.var (nodC n))]) (.tup []) ([(951,.slc 5 1 ((B++L n.qm++L n.qs).map (row1 .u8))),(100000,.var [.own 951]),(100001,.var (nodC n))]):=by
 have q1:=hL.l n.qm
 have q2:(B++L n.qm).length=B.length+(L n.qm).length:=P_
 have oz1:=@lnum_1 (B) (L) (n.qm) (2147483647) (by omega) hL
 have oz2:=(show MethodIs L_ (124:Nat) "stepwell/pack.number" (methF L_ (124:Nat) "stepwell/pack.number") from (methodIs (by kernel_rfl)))
 have oz5:=@lnum_qs (B++L n.qm) (L) (n) (62) (by omega) hL
 exact mR_ [.r [] [.n n.qm],.r [] [.callm [(950,950),(100000,100000),(4,100001)] [(951,20000)] (rM oz1) (oM oz1)],.r [] [.n n.qm],.r [] [.callm [(20000,950),(100000,100000),(100001,100001)] [(951,20001)] (rM oz5) (oM oz5)]] [.drop [4],.ren 20001 951,.sort] _ Tryz.func168 (.d7 (i6n n.qm (by omega)) oz1 oz2 (CR_ n.qm (by omega)) (show NilNo L_ (124:Nat) "stepwell/pack.number" from (nilNo (f:=56) (by kernel_rfl))) oz5 oz2)
theorem lscale_r (B:List Int) (L:Int→List Int) (n:Nod) (hB:B.length≤900000) (hL:Puts L) (hq:In32 n.rm):VM L_ 168 ([.ifc 124 (.ptr 100000 0 0),.ptr 100001 0 14]) ([(950,.slc 5 1 (B.map (row1 .u8))),(100000,.var [.own 950]),(100001,.var (nodC n))]) (.tup []) ([(951,.slc 5 1 ((B++L n.rm++L n.rs).map (row1 .u8))),(100000,.var [.own 951]),(100001,.var (nodC n))]):=by
 have q1:=hL.l n.rm
 have q2:(B++L n.rm).length=B.length+(L n.rm).length:=P_
 have oz1:=@lnum_1 (B) (L) (n.rm) (2147483647) (by omega) hL
 have oz2:=(show MethodIs L_ (124:Nat) "stepwell/pack.number" (methF L_ (124:Nat) "stepwell/pack.number") from (methodIs (by kernel_rfl)))
 have oz5:=@lnum_rs (B++L n.rm) (L) (n) (62) (by omega) hL
 exact mR_ [.r [] [.n n.rm],.r [] [.callm [(950,950),(100000,100000),(4,100001)] [(951,20000)] (rM oz1) (oM oz1)],.r [] [.n n.rm],.r [] [.callm [(20000,950),(100000,100000),(100001,100001)] [(951,20001)] (rM oz5) (oM oz5)]] [.drop [4],.ren 20001 951,.sort] _ Tryz.func168 (.d7 (i6n n.rm (by omega)) oz1 oz2 (CR_ n.rm (by omega)) (show NilNo L_ (124:Nat) "stepwell/pack.number" from (nilNo (f:=56) (by kernel_rfl))) oz5 oz2)
theorem llists_v (B:List Int) (L:Int→List Int) (n:Nod) (hB:B.length≤500000) (hL:Puts L) (hw:n.w.length≤100000) (hb:n.b.length≤16384) (hx:∀ x∈n.b,-2147483648≤x∧x≤2147483647):VM L_ 132 ([.ifc 124 (.ptr 100000 0 0),.ptr 100001 0 9,.ptr 100001 0 10]) ([(950,.slc 5 1 (B.map (row1 .u8))),(100000,.var [.own 950]),(100001,.var (nodC n))]) (.tup []) ([(951,.slc 5 1 ((B++L (n.w.length:Int)++smallL n.w++L (n.b.length:Int)++wideL n.b).map (row1 .u8))),(100000,.var [.own 951]),(100001,.var (nodC n))]):=by
 have q1:=hL.l (n.w.length:Int)
 have q3:=hL.l (n.b.length:Int)
 have q2:(smallL n.w).length=n.w.length:=R_ _
 have q4:(B++L (n.w.length:Int)).length=B.length+(L (n.w.length:Int)).length:=P_
 have q5:(B++L (n.w.length:Int)++smallL n.w).length=B.length+(L (n.w.length:Int)).length+n.w.length:=by rw[P_,q4,q2]
 have q6:(B++L (n.w.length:Int)++smallL n.w++L (n.b.length:Int)).length=B.length+(L (n.w.length:Int)).length+n.w.length+(L (n.b.length:Int)).length:=by rw[P_,q5]
 have oz0:=@lnum_1 (B) (L) (((K_ (row1 .i8) n.w).length:Int)) (16384) (by omega) hL
 have oz1:=(show MethodIs L_ (124:Nat) "stepwell/pack.number" (methF L_ (124:Nat) "stepwell/pack.number") from (methodIs (by kernel_rfl)))
 have oz2:=@lsml_w (B++L ((K_ (row1 .i8) n.w).length:Int)) (n) (((K_ (row1 .i8) n.w).length:Int)) (by (simp only[R_];omega)) hw
 have oz4:=@lnum_1 (B++L ((K_ (row1 .i8) n.w).length:Int)++smallL n.w) (L) (((K_ (row1 .i32) n.b).length:Int)) (16384) (by (simp only[R_];omega)) hL
 have oz6:=@lwid_b (B++L ((K_ (row1 .i8) n.w).length:Int)++smallL n.w++L ((K_ (row1 .i32) n.b).length:Int)) (n) (((K_ (row1 .i32) n.b).length:Int)) (by (simp only[R_];omega)) (by omega) hx
 exact mR_ [r_,.r [] [.callm [(950,950),(100000,100000),(6,100001)] [(951,20000)] (rM oz0) (oM oz0)],.r [] [.callm [(20000,950),(100000,100000),(100001,100001)] [(951,20001)] (rM oz2) (oM oz2)],r_,.r [] [.callm [(20001,950),(100000,100000),(7,100001)] [(951,20002)] (rM oz4) (oM oz4)],.r [] [.callm [(20002,950),(100000,100000),(100001,100001)] [(951,20003)] (rM oz6) (oM oz6)]] [.drop [6,7],.ren 20003 951,.blk 951 (Blk.slc 5 1 (K_ (row1 .u8) (B++L (n.w.length:Int)++smallL n.w++L (n.b.length:Int)++wideL n.b))),.sort] _ Tryz.func132 (.c8 oz0 oz1 oz2 (show MethodIs L_ (124:Nat) "stepwell/pack.small" (methF L_ (124:Nat) "stepwell/pack.small") from (methodIs (by kernel_rfl))) oz4 oz1 oz6 (show MethodIs L_ (124:Nat) "stepwell/pack.wides" (methF L_ (124:Nat) "stepwell/pack.wides") from (methodIs (by kernel_rfl)))<|.d (show BlkW (Blk.slc 5 1 (K_ (row1 .u8) (B++L ((K_ (row1 .i8) n.w).length:Int)++smallL n.w++L ((K_ (row1 .i32) n.b).length:Int)++wideL n.b))) (Blk.slc 5 1 (K_ (row1 .u8) (B++L (n.w.length:Int)++smallL n.w++L (n.b.length:Int)++wideL n.b))) from (BU_ (e:=5) (z:=1) (rows_to (row1 .u8) (r:=K_ (row1 .u8) (B++L ((K_ (row1 .i8) n.w).length:Int)++smallL n.w++L ((K_ (row1 .i32) n.b).length:Int)++wideL n.b)) (l:=B++L ((K_ (row1 .i8) n.w).length:Int)++smallL n.w++L ((K_ (row1 .i32) n.b).length:Int)++wideL n.b) (m:=B++L (n.w.length:Int)++smallL n.w++L (n.b.length:Int)++wideL n.b) rfl (show (B++L ((K_ (row1 .i8) n.w).length:Int)++smallL n.w++L ((K_ (row1 .i32) n.b).length:Int)++wideL n.b)=(B++L (n.w.length:Int)++smallL n.w++L (n.b.length:Int)++wideL n.b) from (by (simp;done)))))))
theorem lsides_1 (B:List Int) (L:Int→List Int) (n:Nod) (hB:B.length≤900000) (hL:Puts L) (hk:n.kd=1):VM L_ 166 ([.ifc 124 (.ptr 100000 0 0),.ptr 100001 0 0,.agg [bv false,bv true,bv true,bv true,bv true,bv true]]) ([(950,.slc 5 1 (B.map (row1 .u8))),(100000,.var [.own 950]),(100001,.var (nodC n))]) (.tup []) ([(951,.slc 5 1 ((B++L n.nk++L n.ns++L n.np++L n.no).map (row1 .u8))),(100000,.var [.own 951]),(100001,.var (nodC n))]):=by
 have q0:=hL.l n.nk
 have r0:(B++L n.nk).length=B.length+(L n.nk).length:=by rw[P_]
 have q1:=hL.l n.ns
 have r1:(B++L n.nk++L n.ns).length=B.length+(L n.nk).length+(L n.ns).length:=by rw[P_,r0]
 have q2:=hL.l n.np
 have r2:(B++L n.nk++L n.ns++L n.np).length=B.length+(L n.nk).length+(L n.ns).length+(L n.np).length:=by rw[P_,r1]
 have q3:=hL.l n.no
 have r3:(B++L n.nk++L n.ns++L n.np++L n.no).length=B.length+(L n.nk).length+(L n.ns).length+(L n.np).length+(L n.no).length:=by rw[P_,r2]
 have oz0:=@side_n
 have oz1:=@lside_nk (B) (L) (n) (by omega) hL
 have oz2:=@lside_ns (B++L n.nk) (L) (n) (by omega) hL
 have oz3:=z6_
 have oz9:=@lside_np (B++L n.nk++L n.ns) (L) (n) (by omega) hL
 have oz10:=@lside_no (B++L n.nk++L n.ns++L n.np) (L) (n) (by omega) hL
 exact VM.run (fn:=Tryz.f166) (W:=[r_,r_,.r [] [.callm [] [] (rM oz0) (oM oz0)],.r [] [.callm [(950,950),(100000,100000),(100001,100001),(3,100002)] [(951,20000)] (rM oz1) (oM oz1)],.r [] [.callm [(20000,950),(100000,100000),(100001,100001),(3,100002)] [(951,20001)] (rM oz2) (oM oz2)],.r [] [f_,f_,f_,f_,f_,e_,.callm [(20001,950),(100000,100000),(100001,100001),(3,100002)] [(951,20002)] (rM oz9) (oM oz9)],.r [] [.callm [(20002,950),(100000,100000),(100001,100001),(3,100002)] [(951,20003)] (rM oz10) (oM oz10)]]) (G:=[.drop [5,3],.ren 20003 951,.sort]) CA_ (by kernel_rfl) (.c8 oz0 oz1 oz2 oz3 oz3 oz3 oz3 oz3<|.d3 z0_ oz9 oz10)
theorem lsides_2 (B:List Int) (L:Int→List Int) (n:Nod) (hB:B.length≤900000) (hL:Puts L) (hk:n.kd=2):VM L_ 166 ([.ifc 124 (.ptr 100000 0 0),.ptr 100001 0 0,.agg [bv false,bv true,bv false,bv true,bv true,bv true]]) ([(950,.slc 5 1 (B.map (row1 .u8))),(100000,.var [.own 950]),(100001,.var (nodC n))]) (.tup []) ([(951,.slc 5 1 ((B++L n.nk++L n.ns++L n.np).map (row1 .u8))),(100000,.var [.own 951]),(100001,.var (nodC n))]):=by
 have q0:=hL.l n.nk
 have r0:(B++L n.nk).length=B.length+(L n.nk).length:=by rw[P_]
 have q1:=hL.l n.ns
 have r1:(B++L n.nk++L n.ns).length=B.length+(L n.nk).length+(L n.ns).length:=by rw[P_,r0]
 have q2:=hL.l n.np
 have r2:(B++L n.nk++L n.ns++L n.np).length=B.length+(L n.nk).length+(L n.ns).length+(L n.np).length:=by rw[P_,r1]
 have oz0:=@side_n
 have oz1:=@lside_nk (B) (L) (n) (by omega) hL
 have oz2:=@lside_ns (B++L n.nk) (L) (n) (by omega) hL
 have oz3:=z6_
 have oz9:=@lside_np (B++L n.nk++L n.ns) (L) (n) (by omega) hL
 exact VM.run (fn:=Tryz.f166) (W:=[r_,r_,.r [] [.callm [] [] (rM oz0) (oM oz0)],.r [] [.callm [(950,950),(100000,100000),(100001,100001),(3,100002)] [(951,20000)] (rM oz1) (oM oz1)],.r [] [.callm [(20000,950),(100000,100000),(100001,100001),(3,100002)] [(951,20001)] (rM oz2) (oM oz2)],.r [] [f_,f_,f_,f_,f_,e_,.callm [(20001,950),(100000,100000),(100001,100001),(3,100002)] [(951,20002)] (rM oz9) (oM oz9)],.r [] [.callm [] [] (rM oz0) (oM oz0)]]) (G:=[.drop [5,3],.ren 20002 951,.sort]) CA_ (by kernel_rfl) (.c8 oz0 oz1 oz2 oz3 oz3 oz3 oz3 oz3<|.d3 z0_ oz9 oz0)
theorem lsides_3 (B:List Int) (L:Int→List Int) (n:Nod) (hB:B.length≤900000) (hL:Puts L) (hk:n.kd=3):VM L_ 166 ([.ifc 124 (.ptr 100000 0 0),.ptr 100001 0 0,.agg [bv false,bv false,bv true,bv true,bv true,bv true]]) ([(950,.slc 5 1 (B.map (row1 .u8))),(100000,.var [.own 950]),(100001,.var (nodC n))]) (.tup []) ([(951,.slc 5 1 ((B++L n.no).map (row1 .u8))),(100000,.var [.own 951]),(100001,.var (nodC n))]):=by
 have q0:=hL.l n.no
 have r0:(B++L n.no).length=B.length+(L n.no).length:=by rw[P_]
 have oz0:=@side_n
 have oz3:=z1_
 have oz9:=@VM.pre _ _ ([bv (n.kd==8),AV.any,AV.any]) _ ([]) _ _ _ ([GI.weak 0 (bv false),GI.sort]) _ (@side_n) (by kernel_rfl) (.d (AF_ (show ((n.kd==8):Bool)=(false) from (by (refine decide_eq_false ?_;omega)))))
 have oz10:=@lside_no (B) (L) (n) (by omega) hL
 exact VM.run (fn:=Tryz.f166) (W:=[r_,r_,.r [] [.callm [] [] (rM oz0) (oM oz0)],.r [] [.callm [] [] (rM oz0) (oM oz0)],.r [] [.callm [] [] (rM oz0) (oM oz0)],.r [] [e_,e_,e_,e_,e_,f_,.callm [] [] (rM oz9) (oM oz9)],.r [] [.callm [(950,950),(100000,100000),(100001,100001),(3,100002)] [(951,20000)] (rM oz10) (oM oz10)]]) (G:=[.drop [5,3],.ren 20000 951,.sort]) CA_ (by kernel_rfl) (.c8 oz0 oz0 oz0 oz3 oz3 oz3 oz3 oz3<|.d3 oz3 oz9 oz10)
theorem lsides_4 (B:List Int) (L:Int→List Int) (n:Nod) (hB:B.length≤900000) (hL:Puts L) (hk:n.kd=4∨n.kd=5):VM L_ 166 ([.ifc 124 (.ptr 100000 0 0),.ptr 100001 0 0,.agg [bv false,bv true,bv false,bv false,bv false,bv false]]) ([(950,.slc 5 1 (B.map (row1 .u8))),(100000,.var [.own 950]),(100001,.var (nodC n))]) (.tup []) ([(951,.slc 5 1 ((B++L n.nk++L n.ns++L n.np).map (row1 .u8))),(100000,.var [.own 951]),(100001,.var (nodC n))]):=by
 have q0:=hL.l n.nk
 have r0:(B++L n.nk).length=B.length+(L n.nk).length:=by rw[P_]
 have q1:=hL.l n.ns
 have r1:(B++L n.nk++L n.ns).length=B.length+(L n.nk).length+(L n.ns).length:=by rw[P_,r0]
 have q2:=hL.l n.np
 have r2:(B++L n.nk++L n.ns++L n.np).length=B.length+(L n.nk).length+(L n.ns).length+(L n.np).length:=by rw[P_,r1]
 have oz0:=@side_n
 have oz1:=@lside_nk (B) (L) (n) (by omega) hL
 have oz2:=@lside_ns (B++L n.nk) (L) (n) (by omega) hL
 have oz3:=z6_
 have oz9:=@lside_np (B++L n.nk++L n.ns) (L) (n) (by omega) hL
 exact VM.run (fn:=Tryz.f166) (W:=[r_,r_,.r [] [.callm [] [] (rM oz0) (oM oz0)],.r [] [.callm [(950,950),(100000,100000),(100001,100001),(3,100002)] [(951,20000)] (rM oz1) (oM oz1)],.r [] [.callm [(20000,950),(100000,100000),(100001,100001),(3,100002)] [(951,20001)] (rM oz2) (oM oz2)],.r [] [f_,f_,f_,f_,f_,e_,.callm [(20001,950),(100000,100000),(100001,100001),(3,100002)] [(951,20002)] (rM oz9) (oM oz9)],.r [] [.callm [] [] (rM oz0) (oM oz0)]]) (G:=[.drop [5,3],.ren 20002 951,.sort]) CA_ (by kernel_rfl) (.c8 oz0 oz1 oz2 oz3 oz3 oz3 oz3 oz3<|.d3 z0_ oz9 oz0)
theorem lsides_6 (B:List Int) (L:Int→List Int) (n:Nod) (hB:B.length≤900000) (hL:Puts L) (hk:n.kd=6):VM L_ 166 ([.ifc 124 (.ptr 100000 0 0),.ptr 100001 0 0,.agg [bv true,bv false,bv false,bv true,bv false,bv true]]) ([(950,.slc 5 1 (B.map (row1 .u8))),(100000,.var [.own 950]),(100001,.var (nodC n))]) (.tup []) ([(951,.slc 5 1 ((B++L n.nb).map (row1 .u8))),(100000,.var [.own 951]),(100001,.var (nodC n))]):=by
 have q0:=hL.l n.nb
 have r0:(B++L n.nb).length=B.length+(L n.nb).length:=by rw[P_]
 have oz0:=@lside_nb (B) (L) (n) (by omega) hL
 have oz1:=@side_n
 have oz3:=z1_
 have oz9:=@VM.pre _ _ ([bv (n.kd==8),AV.any,AV.any]) _ ([]) _ _ _ ([GI.weak 0 (bv false),GI.sort]) _ (@side_n) (by kernel_rfl) (.d (AF_ (show ((n.kd==8):Bool)=(false) from (by (refine decide_eq_false ?_;omega)))))
 exact VM.run (fn:=Tryz.f166) (W:=[r_,r_,.r [] [.callm [(950,950),(100000,100000),(100001,100001),(3,100002)] [(951,20000)] (rM oz0) (oM oz0)],.r [] [.callm [] [] (rM oz1) (oM oz1)],.r [] [.callm [] [] (rM oz1) (oM oz1)],.r [] [e_,e_,e_,e_,e_,f_,.callm [] [] (rM oz9) (oM oz9)],.r [] [.callm [] [] (rM oz1) (oM oz1)]]) (G:=[.drop [5,3],.ren 20000 951,.sort]) CA_ (by kernel_rfl) (.c8 oz0 oz1 oz1 oz3 oz3 oz3 oz3 oz3<|.d3 oz3 oz9 oz1)
theorem lsides_7 (B:List Int) (L:Int→List Int) (n:Nod) (hB:B.length≤900000) (hL:Puts L) (hk:n.kd=7):VM L_ 166 ([.ifc 124 (.ptr 100000 0 0),.ptr 100001 0 0,.agg [bv false,bv false,bv false,bv true,bv false,bv true]]) ([(950,.slc 5 1 (B.map (row1 .u8))),(100000,.var [.own 950]),(100001,.var (nodC n))]) (.tup []) ([(950,.slc 5 1 (B.map (row1 .u8))),(100000,.var [.own 950]),(100001,.var (nodC n))]):=by
 have oz0:=@side_n
 have oz3:=z1_
 have oz9:=@VM.pre _ _ ([bv (n.kd==8),AV.any,AV.any]) _ ([]) _ _ _ ([GI.weak 0 (bv false),GI.sort]) _ (@side_n) (by kernel_rfl) (.d (AF_ (show ((n.kd==8):Bool)=(false) from (by (refine decide_eq_false ?_;omega)))))
 exact VM.run (fn:=Tryz.f166) (W:=[r_,r_,.r [] [.callm [] [] (rM oz0) (oM oz0)],.r [] [.callm [] [] (rM oz0) (oM oz0)],.r [] [.callm [] [] (rM oz0) (oM oz0)],.r [] [e_,e_,e_,e_,e_,f_,.callm [] [] (rM oz9) (oM oz9)],.r [] [.callm [] [] (rM oz0) (oM oz0)]]) (G:=[.drop [3,5],.sort]) CA_ (by kernel_rfl) (.c8 oz0 oz0 oz0 oz3 oz3 oz3 oz3 oz3<|.d3 oz3 oz9 oz0)
theorem lsides_8 (B:List Int) (L:Int→List Int) (n:Nod) (hB:B.length≤900000) (hL:Puts L) (hk:n.kd=8):VM L_ 166 ([.ifc 124 (.ptr 100000 0 0),.ptr 100001 0 0,.agg [bv false,bv false,bv false,bv true,bv false,bv false]]) ([(950,.slc 5 1 (B.map (row1 .u8))),(100000,.var [.own 950]),(100001,.var (nodC n))]) (.tup []) ([(951,.slc 5 1 ((B++L n.np).map (row1 .u8))),(100000,.var [.own 951]),(100001,.var (nodC n))]):=by
 have q0:=hL.l n.np
 have r0:(B++L n.np).length=B.length+(L n.np).length:=by rw[P_]
 have oz0:=@side_n
 have oz3:=z1_
 have oz9:=@VM.pre _ _ ([bv (n.kd==8),AV.ptr 100001 0 5,AV.ptr 100002 0 0]) _ ([(950,Blk.slc 5 1 (K_ (row1 .u8) B)),(100000,Blk.var [AV.own 950]),(100001,Blk.var [i64 n.kd,i64 n.na,i64 n.nb,i64 n.nk,i64 n.ns,i64 n.np,i64 n.no,i8 n.za,i8 n.zb,AV.sl 1 (K_ (row1 .i8) n.w),AV.sl 1 (K_ (row1 .i32) n.b),i32 n.qm,i64 n.qs,i8 n.qz,i32 n.rm,i64 n.rs,i8 n.rz,i8 n.lo,i8 n.hi]),(100002,Blk.var [AV.ifc 124 (AV.ptr 100000 0 0)])]) _ _ _ ([GI.weak 0 (bv true),GI.sort]) _ (@lside_np (B) (L) (n) (by omega) hL) (by kernel_rfl) (.d (AF_ (show ((n.kd==8):Bool)=(true) from (by (refine decide_eq_true ?_;omega)))))
 exact VM.run (fn:=Tryz.f166) (W:=[r_,r_,.r [] [.callm [] [] (rM oz0) (oM oz0)],.r [] [.callm [] [] (rM oz0) (oM oz0)],.r [] [.callm [] [] (rM oz0) (oM oz0)],.r [] [e_,e_,e_,e_,e_,f_,.callm [(950,950),(100000,100000),(100001,100001),(3,100002)] [(951,20000)] (rM oz9) (oM oz9)],.r [] [.callm [] [] (rM oz0) (oM oz0)]]) (G:=[.drop [5,3],.ren 20000 951,.sort]) CA_ (by kernel_rfl) (.c8 oz0 oz0 oz0 oz3 oz3 oz3 oz3 oz3<|.d3 oz3 oz9 oz0)
theorem lsides_9 (B:List Int) (L:Int→List Int) (n:Nod) (hB:B.length≤900000) (hL:Puts L) (hk:n.kd<1∨8<n.kd):VM L_ 166 ([.ifc 124 (.ptr 100000 0 0),.ptr 100001 0 0,.agg [bv false,bv false,bv false,bv false,bv false,bv false]]) ([(950,.slc 5 1 (B.map (row1 .u8))),(100000,.var [.own 950]),(100001,.var (nodC n))]) (.tup []) ([(950,.slc 5 1 (B.map (row1 .u8))),(100000,.var [.own 950]),(100001,.var (nodC n))]):=by
 have oz0:=@side_n
 have oz3:=z1_
 have oz9:=@VM.pre _ _ ([bv (n.kd==8),AV.any,AV.any]) _ ([]) _ _ _ ([GI.weak 0 (bv false),GI.sort]) _ (@side_n) (by kernel_rfl) (.d (AF_ (show ((n.kd==8):Bool)=(false) from (by (refine decide_eq_false ?_;omega)))))
 exact VM.run (fn:=Tryz.f166) (W:=[r_,r_,.r [] [.callm [] [] (rM oz0) (oM oz0)],.r [] [.callm [] [] (rM oz0) (oM oz0)],.r [] [.callm [] [] (rM oz0) (oM oz0)],.r [] [e_,e_,e_,e_,e_,f_,.callm [] [] (rM oz9) (oM oz9)],.r [] [.callm [] [] (rM oz0) (oM oz0)]]) (G:=[.drop [3,5],.sort]) CA_ (by kernel_rfl) (.c8 oz0 oz0 oz0 oz3 oz3 oz3 oz3 oz3<|.d3 oz3 oz9 oz0)
def lb_1 (L:Int→List Int) (n:Nod):List Int:=L n.kd++L n.na++L n.nk++L n.ns++L n.np++L n.no++[IntKind.u8.wrap n.za]++L (n.w.length:Int)++smallL n.w++L (n.b.length:Int)++wideL n.b++L n.qm++L n.qs++[IntKind.u8.wrap n.qz]++[IntKind.u8.wrap n.lo]++[IntKind.u8.wrap n.hi]
theorem lwalk_1 (L:Int→List Int) (n:Nod) (hL:Puts L) (hk:n.kd=1) (hw:n.w.length≤16384) (hb:n.b.length≤16384) (hx:∀ x∈n.b,-2147483648≤x∧x≤2147483647) (hq:In32 n.qm) (hr:In32 n.rm):VM L_ 131 ([.ifc 124 (.ptr 100000 0 0),.ptr 100001 0 0]) ([(100000,.var [.lit (.slice none 0 0)]),(100001,.var (nodC n))]) (.tup []) ([(951,.slc 5 1 ((L n.kd++L n.na++L n.nk++L n.ns++L n.np++L n.no++[IntKind.u8.wrap n.za]++L (n.w.length:Int)++smallL n.w++L (n.b.length:Int)++wideL n.b++L n.qm++L n.qs++[IntKind.u8.wrap n.qz]++[IntKind.u8.wrap n.lo]++[IntKind.u8.wrap n.hi]).map (row1 .u8))),(100000,.var [.own 951]),(100001,.var (nodC n))]):=by
 have q0:=hL.l n.kd
 have q1:=hL.l n.na
 have q2:=hL.l n.nk
 have q3:=hL.l n.ns
 have q4:=hL.l n.np
 have q5:=hL.l n.no
 have q6:([IntKind.u8.wrap n.za]).length=1:=rfl
 have q7:=hL.l (n.w.length:Int)
 have q8:(smallL n.w).length=n.w.length:=R_ _
 have q9:=hL.l (n.b.length:Int)
 have q10:=wideL_len n.b hx
 have q11:=hL.l n.qm
 have q12:=hL.l n.qs
 have q13:([IntKind.u8.wrap n.qz]).length=1:=rfl
 have q14:([IntKind.u8.wrap n.lo]).length=1:=rfl
 have q15:([IntKind.u8.wrap n.hi]).length=1:=rfl
 have r0:(L n.kd).length≤500000:=by (try simp only[P_]);omega
 have r1:(L n.kd++L n.na).length≤500000:=by (try simp only[P_]);omega
 have r2:(L n.kd++L n.na++L n.nk).length≤500000:=by (try simp only[P_]);omega
 have r3:(L n.kd++L n.na++L n.nk++L n.ns).length≤500000:=by (try simp only[P_]);omega
 have r4:(L n.kd++L n.na++L n.nk++L n.ns++L n.np).length≤500000:=by (try simp only[P_]);omega
 have r5:(L n.kd++L n.na++L n.nk++L n.ns++L n.np++L n.no).length≤500000:=by (try simp only[P_]);omega
 have r6:(L n.kd++L n.na++L n.nk++L n.ns++L n.np++L n.no++[IntKind.u8.wrap n.za]).length≤500000:=by (try simp only[P_]);omega
 have r7:(L n.kd++L n.na++L n.nk++L n.ns++L n.np++L n.no++[IntKind.u8.wrap n.za]++L (n.w.length:Int)).length≤500000:=by (try simp only[P_]);omega
 have r8:(L n.kd++L n.na++L n.nk++L n.ns++L n.np++L n.no++[IntKind.u8.wrap n.za]++L (n.w.length:Int)++smallL n.w).length≤500000:=by (try simp only[P_]);omega
 have r9:(L n.kd++L n.na++L n.nk++L n.ns++L n.np++L n.no++[IntKind.u8.wrap n.za]++L (n.w.length:Int)++smallL n.w++L (n.b.length:Int)).length≤500000:=by (try simp only[P_]);omega
 have r10:(L n.kd++L n.na++L n.nk++L n.ns++L n.np++L n.no++[IntKind.u8.wrap n.za]++L (n.w.length:Int)++smallL n.w++L (n.b.length:Int)++wideL n.b).length≤500000:=by (try simp only[P_]);omega
 have r11:(L n.kd++L n.na++L n.nk++L n.ns++L n.np++L n.no++[IntKind.u8.wrap n.za]++L (n.w.length:Int)++smallL n.w++L (n.b.length:Int)++wideL n.b++L n.qm).length≤500000:=by (try simp only[P_]);omega
 have r12:(L n.kd++L n.na++L n.nk++L n.ns++L n.np++L n.no++[IntKind.u8.wrap n.za]++L (n.w.length:Int)++smallL n.w++L (n.b.length:Int)++wideL n.b++L n.qm++L n.qs).length≤500000:=by (try simp only[P_]);omega
 have r13:(L n.kd++L n.na++L n.nk++L n.ns++L n.np++L n.no++[IntKind.u8.wrap n.za]++L (n.w.length:Int)++smallL n.w++L (n.b.length:Int)++wideL n.b++L n.qm++L n.qs++[IntKind.u8.wrap n.qz]).length≤500000:=by (try simp only[P_]);omega
 have r14:(L n.kd++L n.na++L n.nk++L n.ns++L n.np++L n.no++[IntKind.u8.wrap n.za]++L (n.w.length:Int)++smallL n.w++L (n.b.length:Int)++wideL n.b++L n.qm++L n.qs++[IntKind.u8.wrap n.qz]++[IntKind.u8.wrap n.lo]).length≤500000:=by (try simp only[P_]);omega
 have r15:(L n.kd++L n.na++L n.nk++L n.ns++L n.np++L n.no++[IntKind.u8.wrap n.za]++L (n.w.length:Int)++smallL n.w++L (n.b.length:Int)++wideL n.b++L n.qm++L n.qs++[IntKind.u8.wrap n.qz]++[IntKind.u8.wrap n.lo]++[IntKind.u8.wrap n.hi]).length≤500000:=by (try simp only[P_]);omega
 clear q0 q1 q2 q3 q4 q5 q6 q7 q8 q9 q10 q11 q12 q13 q14 q15
 have s0:=Y_ r0 (show 500000≤900000 by decide)
 have u0:=Y_ r0 (show 500000≤1000000 by decide)
 have s1:=Y_ r1 (show 500000≤900000 by decide)
 have u1:=Y_ r1 (show 500000≤1000000 by decide)
 have s2:=Y_ r2 (show 500000≤900000 by decide)
 have u2:=Y_ r2 (show 500000≤1000000 by decide)
 have s3:=Y_ r3 (show 500000≤900000 by decide)
 have u3:=Y_ r3 (show 500000≤1000000 by decide)
 have s4:=Y_ r4 (show 500000≤900000 by decide)
 have u4:=Y_ r4 (show 500000≤1000000 by decide)
 have s5:=Y_ r5 (show 500000≤900000 by decide)
 have u5:=Y_ r5 (show 500000≤1000000 by decide)
 have s6:=Y_ r6 (show 500000≤900000 by decide)
 have u6:=Y_ r6 (show 500000≤1000000 by decide)
 have s7:=Y_ r7 (show 500000≤900000 by decide)
 have u7:=Y_ r7 (show 500000≤1000000 by decide)
 have s8:=Y_ r8 (show 500000≤900000 by decide)
 have u8:=Y_ r8 (show 500000≤1000000 by decide)
 have s9:=Y_ r9 (show 500000≤900000 by decide)
 have u9:=Y_ r9 (show 500000≤1000000 by decide)
 have s10:=Y_ r10 (show 500000≤900000 by decide)
 have u10:=Y_ r10 (show 500000≤1000000 by decide)
 have s11:=Y_ r11 (show 500000≤900000 by decide)
 have u11:=Y_ r11 (show 500000≤1000000 by decide)
 have s12:=Y_ r12 (show 500000≤900000 by decide)
 have u12:=Y_ r12 (show 500000≤1000000 by decide)
 have s13:=Y_ r13 (show 500000≤900000 by decide)
 have u13:=Y_ r13 (show 500000≤1000000 by decide)
 have s14:=Y_ r14 (show 500000≤900000 by decide)
 have u14:=Y_ r14 (show 500000≤1000000 by decide)
 have s15:=Y_ r15 (show 500000≤900000 by decide)
 have u15:=Y_ r15 (show 500000≤1000000 by decide)
 have w5:n.w.length≤100000:=by omega
 have b5:n.b.length≤100000:=by omega
 have oz0:=(show NilNo L_ (124:Nat) "stepwell/pack.number" from (nilNo (f:=56) (by kernel_rfl)))
 have oz1:=@lnum_kd0 (L) (n) (9) hL
 have oz2:=(show MethodIs L_ (124:Nat) "stepwell/pack.number" (methF L_ (124:Nat) "stepwell/pack.number") from (methodIs (by kernel_rfl)))
 have oz4:=@lnum_na (L n.kd) (L) (n) (1024) u0 hL
 have oz6:=@of_1 (n.kd) hk
 have oz7:=@lsides_1 (L n.kd++L n.na) (L) (n) s1 hL hk
 have oz8:=z0_
 have oz9:=@lone_za (L n.kd++L n.na++L n.nk++L n.ns++L n.np++L n.no) (n) u5
 have oz10:=z1_
 have oz12:=@llists_v (L n.kd++L n.na++L n.nk++L n.ns++L n.np++L n.no++[IntKind.u8.wrap n.za]) (L) (n) r6 hL w5 hb hx
 have oz14:=@lscale_q (L n.kd++L n.na++L n.nk++L n.ns++L n.np++L n.no++[IntKind.u8.wrap n.za]++L (n.w.length:Int)++smallL n.w++L (n.b.length:Int)++wideL n.b) (L) (n) s10 hL hq
 have oz15:=@lone_qz (L n.kd++L n.na++L n.nk++L n.ns++L n.np++L n.no++[IntKind.u8.wrap n.za]++L (n.w.length:Int)++smallL n.w++L (n.b.length:Int)++wideL n.b++L n.qm++L n.qs) (n) u12
 have oz17:=@lone_lo (L n.kd++L n.na++L n.nk++L n.ns++L n.np++L n.no++[IntKind.u8.wrap n.za]++L (n.w.length:Int)++smallL n.w++L (n.b.length:Int)++wideL n.b++L n.qm++L n.qs++[IntKind.u8.wrap n.qz]) (n) u13
 have oz18:=@lone_hi (L n.kd++L n.na++L n.nk++L n.ns++L n.np++L n.no++[IntKind.u8.wrap n.za]++L (n.w.length:Int)++smallL n.w++L (n.b.length:Int)++wideL n.b++L n.qm++L n.qs++[IntKind.u8.wrap n.qz]++[IntKind.u8.wrap n.lo]) (n) u14
 exact VM.run (fn:=Tryz.f131) (W:=[.r [] [.callm [(100000,100000),(100001,100001)] [(951,20000)] (rM oz1) (oM oz1)],.r [] [.callm [(20000,950),(100000,100000),(100001,100001)] [(951,20001)] (rM oz4) (oM oz4)],.r [] [cr oz6],.r [] [.callm [(20001,950),(100000,100000),(100001,100001)] [(951,20002)] (rM oz7) (oM oz7)],r_,b_,.r [] [.callm [(20002,950),(100000,100000),(100001,100001)] [(951,20003)] (rM oz9) (oM oz9)],r_,d_,r_,b_,.r [] [.callm [(20003,950),(100000,100000),(100001,100001)] [(951,20004)] (rM oz12) (oM oz12)],r_,d_,.r [] [.callm [(20004,950),(100000,100000),(100001,100001)] [(951,20005)] (rM oz14) (oM oz14)],.r [] [.callm [(20005,950),(100000,100000),(100001,100001)] [(951,20006)] (rM oz15) (oM oz15)],r_,d_,.r [] [.callm [(20006,950),(100000,100000),(100001,100001)] [(951,20007)] (rM oz17) (oM oz17)],.r [] [.callm [(20007,950),(100000,100000),(100001,100001)] [(951,20008)] (rM oz18) (oM oz18)]]) (G:=[.drop [4],.ren 20008 951,.sort]) CB_ (by kernel_rfl) (.c8 oz0 oz1 oz2 oz0 oz4 oz2 oz6 oz7<|.c8 oz8 oz9 oz10 oz8 oz12 oz10 oz14 oz15<|.d3 oz10 oz17 oz18)
def lb_2 (L:Int→List Int) (n:Nod):List Int:=L n.kd++L n.na++L n.nk++L n.ns++L n.np++[IntKind.u8.wrap n.za]++L (n.w.length:Int)++smallL n.w++L (n.b.length:Int)++wideL n.b++L n.qm++L n.qs++[IntKind.u8.wrap n.qz]++[IntKind.u8.wrap n.lo]++[IntKind.u8.wrap n.hi]
theorem lwalk_2 (L:Int→List Int) (n:Nod) (hL:Puts L) (hk:n.kd=2) (hw:n.w.length≤16384) (hb:n.b.length≤16384) (hx:∀ x∈n.b,-2147483648≤x∧x≤2147483647) (hq:In32 n.qm) (hr:In32 n.rm):VM L_ 131 ([.ifc 124 (.ptr 100000 0 0),.ptr 100001 0 0]) ([(100000,.var [.lit (.slice none 0 0)]),(100001,.var (nodC n))]) (.tup []) ([(951,.slc 5 1 ((L n.kd++L n.na++L n.nk++L n.ns++L n.np++[IntKind.u8.wrap n.za]++L (n.w.length:Int)++smallL n.w++L (n.b.length:Int)++wideL n.b++L n.qm++L n.qs++[IntKind.u8.wrap n.qz]++[IntKind.u8.wrap n.lo]++[IntKind.u8.wrap n.hi]).map (row1 .u8))),(100000,.var [.own 951]),(100001,.var (nodC n))]):=by
 have q0:=hL.l n.kd
 have q1:=hL.l n.na
 have q2:=hL.l n.nk
 have q3:=hL.l n.ns
 have q4:=hL.l n.np
 have q5:([IntKind.u8.wrap n.za]).length=1:=rfl
 have q6:=hL.l (n.w.length:Int)
 have q7:(smallL n.w).length=n.w.length:=R_ _
 have q8:=hL.l (n.b.length:Int)
 have q9:=wideL_len n.b hx
 have q10:=hL.l n.qm
 have q11:=hL.l n.qs
 have q12:([IntKind.u8.wrap n.qz]).length=1:=rfl
 have q13:([IntKind.u8.wrap n.lo]).length=1:=rfl
 have q14:([IntKind.u8.wrap n.hi]).length=1:=rfl
 have r0:(L n.kd).length≤500000:=by (try simp only[P_]);omega
 have r1:(L n.kd++L n.na).length≤500000:=by (try simp only[P_]);omega
 have r2:(L n.kd++L n.na++L n.nk).length≤500000:=by (try simp only[P_]);omega
 have r3:(L n.kd++L n.na++L n.nk++L n.ns).length≤500000:=by (try simp only[P_]);omega
 have r4:(L n.kd++L n.na++L n.nk++L n.ns++L n.np).length≤500000:=by (try simp only[P_]);omega
 have r5:(L n.kd++L n.na++L n.nk++L n.ns++L n.np++[IntKind.u8.wrap n.za]).length≤500000:=by (try simp only[P_]);omega
 have r6:(L n.kd++L n.na++L n.nk++L n.ns++L n.np++[IntKind.u8.wrap n.za]++L (n.w.length:Int)).length≤500000:=by (try simp only[P_]);omega
 have r7:(L n.kd++L n.na++L n.nk++L n.ns++L n.np++[IntKind.u8.wrap n.za]++L (n.w.length:Int)++smallL n.w).length≤500000:=by (try simp only[P_]);omega
 have r8:(L n.kd++L n.na++L n.nk++L n.ns++L n.np++[IntKind.u8.wrap n.za]++L (n.w.length:Int)++smallL n.w++L (n.b.length:Int)).length≤500000:=by (try simp only[P_]);omega
 have r9:(L n.kd++L n.na++L n.nk++L n.ns++L n.np++[IntKind.u8.wrap n.za]++L (n.w.length:Int)++smallL n.w++L (n.b.length:Int)++wideL n.b).length≤500000:=by (try simp only[P_]);omega
 have r10:(L n.kd++L n.na++L n.nk++L n.ns++L n.np++[IntKind.u8.wrap n.za]++L (n.w.length:Int)++smallL n.w++L (n.b.length:Int)++wideL n.b++L n.qm).length≤500000:=by (try simp only[P_]);omega
 have r11:(L n.kd++L n.na++L n.nk++L n.ns++L n.np++[IntKind.u8.wrap n.za]++L (n.w.length:Int)++smallL n.w++L (n.b.length:Int)++wideL n.b++L n.qm++L n.qs).length≤500000:=by (try simp only[P_]);omega
 have r12:(L n.kd++L n.na++L n.nk++L n.ns++L n.np++[IntKind.u8.wrap n.za]++L (n.w.length:Int)++smallL n.w++L (n.b.length:Int)++wideL n.b++L n.qm++L n.qs++[IntKind.u8.wrap n.qz]).length≤500000:=by (try simp only[P_]);omega
 have r13:(L n.kd++L n.na++L n.nk++L n.ns++L n.np++[IntKind.u8.wrap n.za]++L (n.w.length:Int)++smallL n.w++L (n.b.length:Int)++wideL n.b++L n.qm++L n.qs++[IntKind.u8.wrap n.qz]++[IntKind.u8.wrap n.lo]).length≤500000:=by (try simp only[P_]);omega
 have r14:(L n.kd++L n.na++L n.nk++L n.ns++L n.np++[IntKind.u8.wrap n.za]++L (n.w.length:Int)++smallL n.w++L (n.b.length:Int)++wideL n.b++L n.qm++L n.qs++[IntKind.u8.wrap n.qz]++[IntKind.u8.wrap n.lo]++[IntKind.u8.wrap n.hi]).length≤500000:=by (try simp only[P_]);omega
 clear q0 q1 q2 q3 q4 q5 q6 q7 q8 q9 q10 q11 q12 q13 q14
 have s0:=Y_ r0 (show 500000≤900000 by decide)
 have u0:=Y_ r0 (show 500000≤1000000 by decide)
 have s1:=Y_ r1 (show 500000≤900000 by decide)
 have u1:=Y_ r1 (show 500000≤1000000 by decide)
 have s2:=Y_ r2 (show 500000≤900000 by decide)
 have u2:=Y_ r2 (show 500000≤1000000 by decide)
 have s3:=Y_ r3 (show 500000≤900000 by decide)
 have u3:=Y_ r3 (show 500000≤1000000 by decide)
 have s4:=Y_ r4 (show 500000≤900000 by decide)
 have u4:=Y_ r4 (show 500000≤1000000 by decide)
 have s5:=Y_ r5 (show 500000≤900000 by decide)
 have u5:=Y_ r5 (show 500000≤1000000 by decide)
 have s6:=Y_ r6 (show 500000≤900000 by decide)
 have u6:=Y_ r6 (show 500000≤1000000 by decide)
 have s7:=Y_ r7 (show 500000≤900000 by decide)
 have u7:=Y_ r7 (show 500000≤1000000 by decide)
 have s8:=Y_ r8 (show 500000≤900000 by decide)
 have u8:=Y_ r8 (show 500000≤1000000 by decide)
 have s9:=Y_ r9 (show 500000≤900000 by decide)
 have u9:=Y_ r9 (show 500000≤1000000 by decide)
 have s10:=Y_ r10 (show 500000≤900000 by decide)
 have u10:=Y_ r10 (show 500000≤1000000 by decide)
 have s11:=Y_ r11 (show 500000≤900000 by decide)
 have u11:=Y_ r11 (show 500000≤1000000 by decide)
 have s12:=Y_ r12 (show 500000≤900000 by decide)
 have u12:=Y_ r12 (show 500000≤1000000 by decide)
 have s13:=Y_ r13 (show 500000≤900000 by decide)
 have u13:=Y_ r13 (show 500000≤1000000 by decide)
 have s14:=Y_ r14 (show 500000≤900000 by decide)
 have u14:=Y_ r14 (show 500000≤1000000 by decide)
 have w5:n.w.length≤100000:=by omega
 have b5:n.b.length≤100000:=by omega
 have oz0:=(show NilNo L_ (124:Nat) "stepwell/pack.number" from (nilNo (f:=56) (by kernel_rfl)))
 have oz1:=@lnum_kd0 (L) (n) (9) hL
 have oz2:=(show MethodIs L_ (124:Nat) "stepwell/pack.number" (methF L_ (124:Nat) "stepwell/pack.number") from (methodIs (by kernel_rfl)))
 have oz4:=@lnum_na (L n.kd) (L) (n) (1024) u0 hL
 have oz6:=@of_2 (n.kd) hk
 have oz7:=@lsides_2 (L n.kd++L n.na) (L) (n) s1 hL hk
 have oz8:=z0_
 have oz9:=@lone_za (L n.kd++L n.na++L n.nk++L n.ns++L n.np) (n) u4
 have oz10:=z1_
 have oz12:=@llists_v (L n.kd++L n.na++L n.nk++L n.ns++L n.np++[IntKind.u8.wrap n.za]) (L) (n) r5 hL w5 hb hx
 have oz14:=@lscale_q (L n.kd++L n.na++L n.nk++L n.ns++L n.np++[IntKind.u8.wrap n.za]++L (n.w.length:Int)++smallL n.w++L (n.b.length:Int)++wideL n.b) (L) (n) s9 hL hq
 have oz15:=@lone_qz (L n.kd++L n.na++L n.nk++L n.ns++L n.np++[IntKind.u8.wrap n.za]++L (n.w.length:Int)++smallL n.w++L (n.b.length:Int)++wideL n.b++L n.qm++L n.qs) (n) u11
 have oz17:=@lone_lo (L n.kd++L n.na++L n.nk++L n.ns++L n.np++[IntKind.u8.wrap n.za]++L (n.w.length:Int)++smallL n.w++L (n.b.length:Int)++wideL n.b++L n.qm++L n.qs++[IntKind.u8.wrap n.qz]) (n) u12
 have oz18:=@lone_hi (L n.kd++L n.na++L n.nk++L n.ns++L n.np++[IntKind.u8.wrap n.za]++L (n.w.length:Int)++smallL n.w++L (n.b.length:Int)++wideL n.b++L n.qm++L n.qs++[IntKind.u8.wrap n.qz]++[IntKind.u8.wrap n.lo]) (n) u13
 exact VM.run (fn:=Tryz.f131) (W:=[.r [] [.callm [(100000,100000),(100001,100001)] [(951,20000)] (rM oz1) (oM oz1)],.r [] [.callm [(20000,950),(100000,100000),(100001,100001)] [(951,20001)] (rM oz4) (oM oz4)],.r [] [cr oz6],.r [] [.callm [(20001,950),(100000,100000),(100001,100001)] [(951,20002)] (rM oz7) (oM oz7)],r_,b_,.r [] [.callm [(20002,950),(100000,100000),(100001,100001)] [(951,20003)] (rM oz9) (oM oz9)],r_,d_,r_,b_,.r [] [.callm [(20003,950),(100000,100000),(100001,100001)] [(951,20004)] (rM oz12) (oM oz12)],r_,d_,.r [] [.callm [(20004,950),(100000,100000),(100001,100001)] [(951,20005)] (rM oz14) (oM oz14)],.r [] [.callm [(20005,950),(100000,100000),(100001,100001)] [(951,20006)] (rM oz15) (oM oz15)],r_,d_,.r [] [.callm [(20006,950),(100000,100000),(100001,100001)] [(951,20007)] (rM oz17) (oM oz17)],.r [] [.callm [(20007,950),(100000,100000),(100001,100001)] [(951,20008)] (rM oz18) (oM oz18)]]) (G:=[.drop [4],.ren 20008 951,.sort]) CB_ (by kernel_rfl) (.c8 oz0 oz1 oz2 oz0 oz4 oz2 oz6 oz7<|.c8 oz8 oz9 oz10 oz8 oz12 oz10 oz14 oz15<|.d3 oz10 oz17 oz18)
def lb_3 (L:Int→List Int) (n:Nod):List Int:=L n.kd++L n.na++L n.no++[IntKind.u8.wrap n.za]++L (n.w.length:Int)++smallL n.w++L (n.b.length:Int)++wideL n.b++L n.qm++L n.qs++[IntKind.u8.wrap n.qz]++[IntKind.u8.wrap n.lo]++[IntKind.u8.wrap n.hi]
theorem lwalk_3 (L:Int→List Int) (n:Nod) (hL:Puts L) (hk:n.kd=3) (hw:n.w.length≤16384) (hb:n.b.length≤16384) (hx:∀ x∈n.b,-2147483648≤x∧x≤2147483647) (hq:In32 n.qm) (hr:In32 n.rm):VM L_ 131 ([.ifc 124 (.ptr 100000 0 0),.ptr 100001 0 0]) ([(100000,.var [.lit (.slice none 0 0)]),(100001,.var (nodC n))]) (.tup []) ([(951,.slc 5 1 ((L n.kd++L n.na++L n.no++[IntKind.u8.wrap n.za]++L (n.w.length:Int)++smallL n.w++L (n.b.length:Int)++wideL n.b++L n.qm++L n.qs++[IntKind.u8.wrap n.qz]++[IntKind.u8.wrap n.lo]++[IntKind.u8.wrap n.hi]).map (row1 .u8))),(100000,.var [.own 951]),(100001,.var (nodC n))]):=by
 have q0:=hL.l n.kd
 have q1:=hL.l n.na
 have q2:=hL.l n.no
 have q3:([IntKind.u8.wrap n.za]).length=1:=rfl
 have q4:=hL.l (n.w.length:Int)
 have q5:(smallL n.w).length=n.w.length:=R_ _
 have q6:=hL.l (n.b.length:Int)
 have q7:=wideL_len n.b hx
 have q8:=hL.l n.qm
 have q9:=hL.l n.qs
 have q10:([IntKind.u8.wrap n.qz]).length=1:=rfl
 have q11:([IntKind.u8.wrap n.lo]).length=1:=rfl
 have q12:([IntKind.u8.wrap n.hi]).length=1:=rfl
 have r0:(L n.kd).length≤500000:=by (try simp only[P_]);omega
 have r1:(L n.kd++L n.na).length≤500000:=by (try simp only[P_]);omega
 have r2:(L n.kd++L n.na++L n.no).length≤500000:=by (try simp only[P_]);omega
 have r3:(L n.kd++L n.na++L n.no++[IntKind.u8.wrap n.za]).length≤500000:=by (try simp only[P_]);omega
 have r4:(L n.kd++L n.na++L n.no++[IntKind.u8.wrap n.za]++L (n.w.length:Int)).length≤500000:=by (try simp only[P_]);omega
 have r5:(L n.kd++L n.na++L n.no++[IntKind.u8.wrap n.za]++L (n.w.length:Int)++smallL n.w).length≤500000:=by (try simp only[P_]);omega
 have r6:(L n.kd++L n.na++L n.no++[IntKind.u8.wrap n.za]++L (n.w.length:Int)++smallL n.w++L (n.b.length:Int)).length≤500000:=by (try simp only[P_]);omega
 have r7:(L n.kd++L n.na++L n.no++[IntKind.u8.wrap n.za]++L (n.w.length:Int)++smallL n.w++L (n.b.length:Int)++wideL n.b).length≤500000:=by (try simp only[P_]);omega
 have r8:(L n.kd++L n.na++L n.no++[IntKind.u8.wrap n.za]++L (n.w.length:Int)++smallL n.w++L (n.b.length:Int)++wideL n.b++L n.qm).length≤500000:=by (try simp only[P_]);omega
 have r9:(L n.kd++L n.na++L n.no++[IntKind.u8.wrap n.za]++L (n.w.length:Int)++smallL n.w++L (n.b.length:Int)++wideL n.b++L n.qm++L n.qs).length≤500000:=by (try simp only[P_]);omega
 have r10:(L n.kd++L n.na++L n.no++[IntKind.u8.wrap n.za]++L (n.w.length:Int)++smallL n.w++L (n.b.length:Int)++wideL n.b++L n.qm++L n.qs++[IntKind.u8.wrap n.qz]).length≤500000:=by (try simp only[P_]);omega
 have r11:(L n.kd++L n.na++L n.no++[IntKind.u8.wrap n.za]++L (n.w.length:Int)++smallL n.w++L (n.b.length:Int)++wideL n.b++L n.qm++L n.qs++[IntKind.u8.wrap n.qz]++[IntKind.u8.wrap n.lo]).length≤500000:=by (try simp only[P_]);omega
 have r12:(L n.kd++L n.na++L n.no++[IntKind.u8.wrap n.za]++L (n.w.length:Int)++smallL n.w++L (n.b.length:Int)++wideL n.b++L n.qm++L n.qs++[IntKind.u8.wrap n.qz]++[IntKind.u8.wrap n.lo]++[IntKind.u8.wrap n.hi]).length≤500000:=by (try simp only[P_]);omega
 clear q0 q1 q2 q3 q4 q5 q6 q7 q8 q9 q10 q11 q12
 have s0:=Y_ r0 (show 500000≤900000 by decide)
 have u0:=Y_ r0 (show 500000≤1000000 by decide)
 have s1:=Y_ r1 (show 500000≤900000 by decide)
 have u1:=Y_ r1 (show 500000≤1000000 by decide)
 have s2:=Y_ r2 (show 500000≤900000 by decide)
 have u2:=Y_ r2 (show 500000≤1000000 by decide)
 have s3:=Y_ r3 (show 500000≤900000 by decide)
 have u3:=Y_ r3 (show 500000≤1000000 by decide)
 have s4:=Y_ r4 (show 500000≤900000 by decide)
 have u4:=Y_ r4 (show 500000≤1000000 by decide)
 have s5:=Y_ r5 (show 500000≤900000 by decide)
 have u5:=Y_ r5 (show 500000≤1000000 by decide)
 have s6:=Y_ r6 (show 500000≤900000 by decide)
 have u6:=Y_ r6 (show 500000≤1000000 by decide)
 have s7:=Y_ r7 (show 500000≤900000 by decide)
 have u7:=Y_ r7 (show 500000≤1000000 by decide)
 have s8:=Y_ r8 (show 500000≤900000 by decide)
 have u8:=Y_ r8 (show 500000≤1000000 by decide)
 have s9:=Y_ r9 (show 500000≤900000 by decide)
 have u9:=Y_ r9 (show 500000≤1000000 by decide)
 have s10:=Y_ r10 (show 500000≤900000 by decide)
 have u10:=Y_ r10 (show 500000≤1000000 by decide)
 have s11:=Y_ r11 (show 500000≤900000 by decide)
 have u11:=Y_ r11 (show 500000≤1000000 by decide)
 have s12:=Y_ r12 (show 500000≤900000 by decide)
 have u12:=Y_ r12 (show 500000≤1000000 by decide)
 have w5:n.w.length≤100000:=by omega
 have b5:n.b.length≤100000:=by omega
 have oz0:=(show NilNo L_ (124:Nat) "stepwell/pack.number" from (nilNo (f:=56) (by kernel_rfl)))
 have oz1:=@lnum_kd0 (L) (n) (9) hL
 have oz2:=(show MethodIs L_ (124:Nat) "stepwell/pack.number" (methF L_ (124:Nat) "stepwell/pack.number") from (methodIs (by kernel_rfl)))
 have oz4:=@lnum_na (L n.kd) (L) (n) (1024) u0 hL
 have oz6:=@of_3 (n.kd) hk
 have oz7:=@lsides_3 (L n.kd++L n.na) (L) (n) s1 hL hk
 have oz8:=z0_
 have oz9:=@lone_za (L n.kd++L n.na++L n.no) (n) u2
 have oz10:=z1_
 have oz12:=@llists_v (L n.kd++L n.na++L n.no++[IntKind.u8.wrap n.za]) (L) (n) r3 hL w5 hb hx
 have oz14:=@lscale_q (L n.kd++L n.na++L n.no++[IntKind.u8.wrap n.za]++L (n.w.length:Int)++smallL n.w++L (n.b.length:Int)++wideL n.b) (L) (n) s7 hL hq
 have oz15:=@lone_qz (L n.kd++L n.na++L n.no++[IntKind.u8.wrap n.za]++L (n.w.length:Int)++smallL n.w++L (n.b.length:Int)++wideL n.b++L n.qm++L n.qs) (n) u9
 have oz17:=@lone_lo (L n.kd++L n.na++L n.no++[IntKind.u8.wrap n.za]++L (n.w.length:Int)++smallL n.w++L (n.b.length:Int)++wideL n.b++L n.qm++L n.qs++[IntKind.u8.wrap n.qz]) (n) u10
 have oz18:=@lone_hi (L n.kd++L n.na++L n.no++[IntKind.u8.wrap n.za]++L (n.w.length:Int)++smallL n.w++L (n.b.length:Int)++wideL n.b++L n.qm++L n.qs++[IntKind.u8.wrap n.qz]++[IntKind.u8.wrap n.lo]) (n) u11
 exact VM.run (fn:=Tryz.f131) (W:=[.r [] [.callm [(100000,100000),(100001,100001)] [(951,20000)] (rM oz1) (oM oz1)],.r [] [.callm [(20000,950),(100000,100000),(100001,100001)] [(951,20001)] (rM oz4) (oM oz4)],.r [] [cr oz6],.r [] [.callm [(20001,950),(100000,100000),(100001,100001)] [(951,20002)] (rM oz7) (oM oz7)],r_,b_,.r [] [.callm [(20002,950),(100000,100000),(100001,100001)] [(951,20003)] (rM oz9) (oM oz9)],r_,d_,r_,b_,.r [] [.callm [(20003,950),(100000,100000),(100001,100001)] [(951,20004)] (rM oz12) (oM oz12)],r_,d_,.r [] [.callm [(20004,950),(100000,100000),(100001,100001)] [(951,20005)] (rM oz14) (oM oz14)],.r [] [.callm [(20005,950),(100000,100000),(100001,100001)] [(951,20006)] (rM oz15) (oM oz15)],r_,d_,.r [] [.callm [(20006,950),(100000,100000),(100001,100001)] [(951,20007)] (rM oz17) (oM oz17)],.r [] [.callm [(20007,950),(100000,100000),(100001,100001)] [(951,20008)] (rM oz18) (oM oz18)]]) (G:=[.drop [4],.ren 20008 951,.sort]) CB_ (by kernel_rfl) (.c8 oz0 oz1 oz2 oz0 oz4 oz2 oz6 oz7<|.c8 oz8 oz9 oz10 oz8 oz12 oz10 oz14 oz15<|.d3 oz10 oz17 oz18)
def lb_4 (L:Int→List Int) (n:Nod):List Int:=L n.kd++L n.na++L n.nk++L n.ns++L n.np
theorem lwalk_4 (L:Int→List Int) (n:Nod) (hL:Puts L) (hk:n.kd=4∨n.kd=5) (hw:n.w.length≤16384) (hb:n.b.length≤16384) (hx:∀ x∈n.b,-2147483648≤x∧x≤2147483647) (hq:In32 n.qm) (hr:In32 n.rm):VM L_ 131 ([.ifc 124 (.ptr 100000 0 0),.ptr 100001 0 0]) ([(100000,.var [.lit (.slice none 0 0)]),(100001,.var (nodC n))]) (.tup []) ([(951,.slc 5 1 ((L n.kd++L n.na++L n.nk++L n.ns++L n.np).map (row1 .u8))),(100000,.var [.own 951]),(100001,.var (nodC n))]):=by
 have q0:=hL.l n.kd
 have q1:=hL.l n.na
 have q2:=hL.l n.nk
 have q3:=hL.l n.ns
 have q4:=hL.l n.np
 have r0:(L n.kd).length≤500000:=by (try simp only[P_]);omega
 have r1:(L n.kd++L n.na).length≤500000:=by (try simp only[P_]);omega
 have r2:(L n.kd++L n.na++L n.nk).length≤500000:=by (try simp only[P_]);omega
 have r3:(L n.kd++L n.na++L n.nk++L n.ns).length≤500000:=by (try simp only[P_]);omega
 have r4:(L n.kd++L n.na++L n.nk++L n.ns++L n.np).length≤500000:=by (try simp only[P_]);omega
 clear q0 q1 q2 q3 q4
 have s0:=Y_ r0 (show 500000≤900000 by decide)
 have u0:=Y_ r0 (show 500000≤1000000 by decide)
 have s1:=Y_ r1 (show 500000≤900000 by decide)
 have u1:=Y_ r1 (show 500000≤1000000 by decide)
 have s2:=Y_ r2 (show 500000≤900000 by decide)
 have u2:=Y_ r2 (show 500000≤1000000 by decide)
 have s3:=Y_ r3 (show 500000≤900000 by decide)
 have u3:=Y_ r3 (show 500000≤1000000 by decide)
 have s4:=Y_ r4 (show 500000≤900000 by decide)
 have u4:=Y_ r4 (show 500000≤1000000 by decide)
 have w5:n.w.length≤100000:=by omega
 have b5:n.b.length≤100000:=by omega
 have oz0:=(show NilNo L_ (124:Nat) "stepwell/pack.number" from (nilNo (f:=56) (by kernel_rfl)))
 have oz1:=@lnum_kd0 (L) (n) (9) hL
 have oz2:=(show MethodIs L_ (124:Nat) "stepwell/pack.number" (methF L_ (124:Nat) "stepwell/pack.number") from (methodIs (by kernel_rfl)))
 have oz4:=@lnum_na (L n.kd) (L) (n) (1024) u0 hL
 have oz6:=@of_4 (n.kd) hk
 have oz7:=@lsides_4 (L n.kd++L n.na) (L) (n) s1 hL hk
 have oz8:=z1_
 exact VM.run (fn:=Tryz.f131) (W:=[.r [] [.callm [(100000,100000),(100001,100001)] [(951,20000)] (rM oz1) (oM oz1)],.r [] [.callm [(20000,950),(100000,100000),(100001,100001)] [(951,20001)] (rM oz4) (oM oz4)],.r [] [cr oz6],.r [] [.callm [(20001,950),(100000,100000),(100001,100001)] [(951,20002)] (rM oz7) (oM oz7)],r_,d_,r_,d_,r_,d_,r_,b_]) (G:=[.drop [4],.ren 20002 951,.sort]) CB_ (by kernel_rfl) (.c8 oz0 oz1 oz2 oz0 oz4 oz2 oz6 oz7<|.d4 oz8 oz8 oz8 z0_)
def lb_6 (L:Int→List Int) (n:Nod):List Int:=L n.kd++L n.na++L n.nb++[IntKind.u8.wrap n.za]++[IntKind.u8.wrap n.zb]++L n.qm++L n.qs++[IntKind.u8.wrap n.qz]++L n.rm++L n.rs++[IntKind.u8.wrap n.lo]++[IntKind.u8.wrap n.hi]
theorem lwalk_6 (L:Int→List Int) (n:Nod) (hL:Puts L) (hk:n.kd=6) (hw:n.w.length≤16384) (hb:n.b.length≤16384) (hx:∀ x∈n.b,-2147483648≤x∧x≤2147483647) (hq:In32 n.qm) (hr:In32 n.rm):VM L_ 131 ([.ifc 124 (.ptr 100000 0 0),.ptr 100001 0 0]) ([(100000,.var [.lit (.slice none 0 0)]),(100001,.var (nodC n))]) (.tup []) ([(951,.slc 5 1 ((L n.kd++L n.na++L n.nb++[IntKind.u8.wrap n.za]++[IntKind.u8.wrap n.zb]++L n.qm++L n.qs++[IntKind.u8.wrap n.qz]++L n.rm++L n.rs++[IntKind.u8.wrap n.lo]++[IntKind.u8.wrap n.hi]).map (row1 .u8))),(100000,.var [.own 951]),(100001,.var (nodC n))]):=by
 have q0:=hL.l n.kd
 have q1:=hL.l n.na
 have q2:=hL.l n.nb
 have q3:([IntKind.u8.wrap n.za]).length=1:=rfl
 have q4:([IntKind.u8.wrap n.zb]).length=1:=rfl
 have q5:=hL.l n.qm
 have q6:=hL.l n.qs
 have q7:([IntKind.u8.wrap n.qz]).length=1:=rfl
 have q8:=hL.l n.rm
 have q9:=hL.l n.rs
 have q10:([IntKind.u8.wrap n.lo]).length=1:=rfl
 have q11:([IntKind.u8.wrap n.hi]).length=1:=rfl
 have r0:(L n.kd).length≤500000:=by (try simp only[P_]);omega
 have r1:(L n.kd++L n.na).length≤500000:=by (try simp only[P_]);omega
 have r2:(L n.kd++L n.na++L n.nb).length≤500000:=by (try simp only[P_]);omega
 have r3:(L n.kd++L n.na++L n.nb++[IntKind.u8.wrap n.za]).length≤500000:=by (try simp only[P_]);omega
 have r4:(L n.kd++L n.na++L n.nb++[IntKind.u8.wrap n.za]++[IntKind.u8.wrap n.zb]).length≤500000:=by (try simp only[P_]);omega
 have r5:(L n.kd++L n.na++L n.nb++[IntKind.u8.wrap n.za]++[IntKind.u8.wrap n.zb]++L n.qm).length≤500000:=by (try simp only[P_]);omega
 have r6:(L n.kd++L n.na++L n.nb++[IntKind.u8.wrap n.za]++[IntKind.u8.wrap n.zb]++L n.qm++L n.qs).length≤500000:=by (try simp only[P_]);omega
 have r7:(L n.kd++L n.na++L n.nb++[IntKind.u8.wrap n.za]++[IntKind.u8.wrap n.zb]++L n.qm++L n.qs++[IntKind.u8.wrap n.qz]).length≤500000:=by (try simp only[P_]);omega
 have r8:(L n.kd++L n.na++L n.nb++[IntKind.u8.wrap n.za]++[IntKind.u8.wrap n.zb]++L n.qm++L n.qs++[IntKind.u8.wrap n.qz]++L n.rm).length≤500000:=by (try simp only[P_]);omega
 have r9:(L n.kd++L n.na++L n.nb++[IntKind.u8.wrap n.za]++[IntKind.u8.wrap n.zb]++L n.qm++L n.qs++[IntKind.u8.wrap n.qz]++L n.rm++L n.rs).length≤500000:=by (try simp only[P_]);omega
 have r10:(L n.kd++L n.na++L n.nb++[IntKind.u8.wrap n.za]++[IntKind.u8.wrap n.zb]++L n.qm++L n.qs++[IntKind.u8.wrap n.qz]++L n.rm++L n.rs++[IntKind.u8.wrap n.lo]).length≤500000:=by (try simp only[P_]);omega
 have r11:(L n.kd++L n.na++L n.nb++[IntKind.u8.wrap n.za]++[IntKind.u8.wrap n.zb]++L n.qm++L n.qs++[IntKind.u8.wrap n.qz]++L n.rm++L n.rs++[IntKind.u8.wrap n.lo]++[IntKind.u8.wrap n.hi]).length≤500000:=by (try simp only[P_]);omega
 clear q0 q1 q2 q3 q4 q5 q6 q7 q8 q9 q10 q11
 have s0:=Y_ r0 (show 500000≤900000 by decide)
 have u0:=Y_ r0 (show 500000≤1000000 by decide)
 have s1:=Y_ r1 (show 500000≤900000 by decide)
 have u1:=Y_ r1 (show 500000≤1000000 by decide)
 have s2:=Y_ r2 (show 500000≤900000 by decide)
 have u2:=Y_ r2 (show 500000≤1000000 by decide)
 have s3:=Y_ r3 (show 500000≤900000 by decide)
 have u3:=Y_ r3 (show 500000≤1000000 by decide)
 have s4:=Y_ r4 (show 500000≤900000 by decide)
 have u4:=Y_ r4 (show 500000≤1000000 by decide)
 have s5:=Y_ r5 (show 500000≤900000 by decide)
 have u5:=Y_ r5 (show 500000≤1000000 by decide)
 have s6:=Y_ r6 (show 500000≤900000 by decide)
 have u6:=Y_ r6 (show 500000≤1000000 by decide)
 have s7:=Y_ r7 (show 500000≤900000 by decide)
 have u7:=Y_ r7 (show 500000≤1000000 by decide)
 have s8:=Y_ r8 (show 500000≤900000 by decide)
 have u8:=Y_ r8 (show 500000≤1000000 by decide)
 have s9:=Y_ r9 (show 500000≤900000 by decide)
 have u9:=Y_ r9 (show 500000≤1000000 by decide)
 have s10:=Y_ r10 (show 500000≤900000 by decide)
 have u10:=Y_ r10 (show 500000≤1000000 by decide)
 have s11:=Y_ r11 (show 500000≤900000 by decide)
 have u11:=Y_ r11 (show 500000≤1000000 by decide)
 have w5:n.w.length≤100000:=by omega
 have b5:n.b.length≤100000:=by omega
 have oz0:=(show NilNo L_ (124:Nat) "stepwell/pack.number" from (nilNo (f:=56) (by kernel_rfl)))
 have oz1:=@lnum_kd0 (L) (n) (9) hL
 have oz2:=(show MethodIs L_ (124:Nat) "stepwell/pack.number" (methF L_ (124:Nat) "stepwell/pack.number") from (methodIs (by kernel_rfl)))
 have oz4:=@lnum_na (L n.kd) (L) (n) (1024) u0 hL
 have oz6:=@of_6 (n.kd) hk
 have oz7:=@lsides_6 (L n.kd++L n.na) (L) (n) s1 hL hk
 have oz8:=z0_
 have oz9:=@lone_za (L n.kd++L n.na++L n.nb) (n) u2
 have oz11:=@lone_zb (L n.kd++L n.na++L n.nb++[IntKind.u8.wrap n.za]) (n) u3
 have oz12:=z1_
 have oz14:=@lscale_q (L n.kd++L n.na++L n.nb++[IntKind.u8.wrap n.za]++[IntKind.u8.wrap n.zb]) (L) (n) s4 hL hq
 have oz15:=@lone_qz (L n.kd++L n.na++L n.nb++[IntKind.u8.wrap n.za]++[IntKind.u8.wrap n.zb]++L n.qm++L n.qs) (n) u6
 have oz17:=@lscale_r (L n.kd++L n.na++L n.nb++[IntKind.u8.wrap n.za]++[IntKind.u8.wrap n.zb]++L n.qm++L n.qs++[IntKind.u8.wrap n.qz]) (L) (n) s7 hL hr
 have oz18:=@lone_lo (L n.kd++L n.na++L n.nb++[IntKind.u8.wrap n.za]++[IntKind.u8.wrap n.zb]++L n.qm++L n.qs++[IntKind.u8.wrap n.qz]++L n.rm++L n.rs) (n) u9
 have oz19:=@lone_hi (L n.kd++L n.na++L n.nb++[IntKind.u8.wrap n.za]++[IntKind.u8.wrap n.zb]++L n.qm++L n.qs++[IntKind.u8.wrap n.qz]++L n.rm++L n.rs++[IntKind.u8.wrap n.lo]) (n) u10
 exact VM.run (fn:=Tryz.f131) (W:=[.r [] [.callm [(100000,100000),(100001,100001)] [(951,20000)] (rM oz1) (oM oz1)],.r [] [.callm [(20000,950),(100000,100000),(100001,100001)] [(951,20001)] (rM oz4) (oM oz4)],.r [] [cr oz6],.r [] [.callm [(20001,950),(100000,100000),(100001,100001)] [(951,20002)] (rM oz7) (oM oz7)],r_,b_,.r [] [.callm [(20002,950),(100000,100000),(100001,100001)] [(951,20003)] (rM oz9) (oM oz9)],r_,b_,.r [] [.callm [(20003,950),(100000,100000),(100001,100001)] [(951,20004)] (rM oz11) (oM oz11)],r_,d_,r_,d_,.r [] [.callm [(20004,950),(100000,100000),(100001,100001)] [(951,20005)] (rM oz14) (oM oz14)],.r [] [.callm [(20005,950),(100000,100000),(100001,100001)] [(951,20006)] (rM oz15) (oM oz15)],r_,b_,.r [] [.callm [(20006,950),(100000,100000),(100001,100001)] [(951,20007)] (rM oz17) (oM oz17)],.r [] [.callm [(20007,950),(100000,100000),(100001,100001)] [(951,20008)] (rM oz18) (oM oz18)],.r [] [.callm [(20008,950),(100000,100000),(100001,100001)] [(951,20009)] (rM oz19) (oM oz19)]]) (G:=[.drop [4],.ren 20009 951,.sort]) CB_ (by kernel_rfl) (.c8 oz0 oz1 oz2 oz0 oz4 oz2 oz6 oz7<|.c8 oz8 oz9 oz8 oz11 oz12 oz12 oz14 oz15<|.d4 oz8 oz17 oz18 oz19)
def lb_7 (L:Int→List Int) (n:Nod):List Int:=L n.kd++L n.na++[IntKind.u8.wrap n.za]++L n.qm++L n.qs++[IntKind.u8.wrap n.qz]++[IntKind.u8.wrap n.lo]++[IntKind.u8.wrap n.hi]
theorem lwalk_7 (L:Int→List Int) (n:Nod) (hL:Puts L) (hk:n.kd=7) (hw:n.w.length≤16384) (hb:n.b.length≤16384) (hx:∀ x∈n.b,-2147483648≤x∧x≤2147483647) (hq:In32 n.qm) (hr:In32 n.rm):VM L_ 131 ([.ifc 124 (.ptr 100000 0 0),.ptr 100001 0 0]) ([(100000,.var [.lit (.slice none 0 0)]),(100001,.var (nodC n))]) (.tup []) ([(951,.slc 5 1 ((L n.kd++L n.na++[IntKind.u8.wrap n.za]++L n.qm++L n.qs++[IntKind.u8.wrap n.qz]++[IntKind.u8.wrap n.lo]++[IntKind.u8.wrap n.hi]).map (row1 .u8))),(100000,.var [.own 951]),(100001,.var (nodC n))]):=by
 have q0:=hL.l n.kd
 have q1:=hL.l n.na
 have q2:([IntKind.u8.wrap n.za]).length=1:=rfl
 have q3:=hL.l n.qm
 have q4:=hL.l n.qs
 have q5:([IntKind.u8.wrap n.qz]).length=1:=rfl
 have q6:([IntKind.u8.wrap n.lo]).length=1:=rfl
 have q7:([IntKind.u8.wrap n.hi]).length=1:=rfl
 have r0:(L n.kd).length≤500000:=by (try simp only[P_]);omega
 have r1:(L n.kd++L n.na).length≤500000:=by (try simp only[P_]);omega
 have r2:(L n.kd++L n.na++[IntKind.u8.wrap n.za]).length≤500000:=by (try simp only[P_]);omega
 have r3:(L n.kd++L n.na++[IntKind.u8.wrap n.za]++L n.qm).length≤500000:=by (try simp only[P_]);omega
 have r4:(L n.kd++L n.na++[IntKind.u8.wrap n.za]++L n.qm++L n.qs).length≤500000:=by (try simp only[P_]);omega
 have r5:(L n.kd++L n.na++[IntKind.u8.wrap n.za]++L n.qm++L n.qs++[IntKind.u8.wrap n.qz]).length≤500000:=by (try simp only[P_]);omega
 have r6:(L n.kd++L n.na++[IntKind.u8.wrap n.za]++L n.qm++L n.qs++[IntKind.u8.wrap n.qz]++[IntKind.u8.wrap n.lo]).length≤500000:=by (try simp only[P_]);omega
 have r7:(L n.kd++L n.na++[IntKind.u8.wrap n.za]++L n.qm++L n.qs++[IntKind.u8.wrap n.qz]++[IntKind.u8.wrap n.lo]++[IntKind.u8.wrap n.hi]).length≤500000:=by (try simp only[P_]);omega
 clear q0 q1 q2 q3 q4 q5 q6 q7
 have s0:=Y_ r0 (show 500000≤900000 by decide)
 have u0:=Y_ r0 (show 500000≤1000000 by decide)
 have s1:=Y_ r1 (show 500000≤900000 by decide)
 have u1:=Y_ r1 (show 500000≤1000000 by decide)
 have s2:=Y_ r2 (show 500000≤900000 by decide)
 have u2:=Y_ r2 (show 500000≤1000000 by decide)
 have s3:=Y_ r3 (show 500000≤900000 by decide)
 have u3:=Y_ r3 (show 500000≤1000000 by decide)
 have s4:=Y_ r4 (show 500000≤900000 by decide)
 have u4:=Y_ r4 (show 500000≤1000000 by decide)
 have s5:=Y_ r5 (show 500000≤900000 by decide)
 have u5:=Y_ r5 (show 500000≤1000000 by decide)
 have s6:=Y_ r6 (show 500000≤900000 by decide)
 have u6:=Y_ r6 (show 500000≤1000000 by decide)
 have s7:=Y_ r7 (show 500000≤900000 by decide)
 have u7:=Y_ r7 (show 500000≤1000000 by decide)
 have w5:n.w.length≤100000:=by omega
 have b5:n.b.length≤100000:=by omega
 have oz0:=(show NilNo L_ (124:Nat) "stepwell/pack.number" from (nilNo (f:=56) (by kernel_rfl)))
 have oz1:=@lnum_kd0 (L) (n) (9) hL
 have oz2:=(show MethodIs L_ (124:Nat) "stepwell/pack.number" (methF L_ (124:Nat) "stepwell/pack.number") from (methodIs (by kernel_rfl)))
 have oz4:=@lnum_na (L n.kd) (L) (n) (1024) u0 hL
 have oz6:=@of_7 (n.kd) hk
 have oz7:=@lsides_7 (L n.kd++L n.na) (L) (n) s1 hL hk
 have oz9:=@lone_za (L n.kd++L n.na) (n) u1
 have oz10:=z1_
 have oz13:=@lscale_q (L n.kd++L n.na++[IntKind.u8.wrap n.za]) (L) (n) s2 hL hq
 have oz14:=@lone_qz (L n.kd++L n.na++[IntKind.u8.wrap n.za]++L n.qm++L n.qs) (n) u4
 have oz16:=@lone_lo (L n.kd++L n.na++[IntKind.u8.wrap n.za]++L n.qm++L n.qs++[IntKind.u8.wrap n.qz]) (n) u5
 have oz17:=@lone_hi (L n.kd++L n.na++[IntKind.u8.wrap n.za]++L n.qm++L n.qs++[IntKind.u8.wrap n.qz]++[IntKind.u8.wrap n.lo]) (n) u6
 exact VM.run (fn:=Tryz.f131) (W:=[.r [] [.callm [(100000,100000),(100001,100001)] [(951,20000)] (rM oz1) (oM oz1)],.r [] [.callm [(20000,950),(100000,100000),(100001,100001)] [(951,20001)] (rM oz4) (oM oz4)],.r [] [cr oz6],.r [] [.callm [(20001,950),(100000,100000),(100001,100001)] [(950,20002)] (rM oz7) (oM oz7)],r_,b_,.r [] [.callm [(20002,950),(100000,100000),(100001,100001)] [(951,20003)] (rM oz9) (oM oz9)],r_,d_,r_,d_,r_,d_,.r [] [.callm [(20003,950),(100000,100000),(100001,100001)] [(951,20004)] (rM oz13) (oM oz13)],.r [] [.callm [(20004,950),(100000,100000),(100001,100001)] [(951,20005)] (rM oz14) (oM oz14)],r_,d_,.r [] [.callm [(20005,950),(100000,100000),(100001,100001)] [(951,20006)] (rM oz16) (oM oz16)],.r [] [.callm [(20006,950),(100000,100000),(100001,100001)] [(951,20007)] (rM oz17) (oM oz17)]]) (G:=[.drop [4],.ren 20007 951,.sort]) CB_ (by kernel_rfl) (.c8 oz0 oz1 oz2 oz0 oz4 oz2 oz6 oz7<|.c8 z0_ oz9 oz10 oz10 oz10 oz13 oz14 oz10<|.d2 oz16 oz17)
def lb_8 (L:Int→List Int) (n:Nod):List Int:=L n.kd++L n.na++L n.np++[IntKind.u8.wrap n.za]
theorem lwalk_8 (L:Int→List Int) (n:Nod) (hL:Puts L) (hk:n.kd=8) (hw:n.w.length≤16384) (hb:n.b.length≤16384) (hx:∀ x∈n.b,-2147483648≤x∧x≤2147483647) (hq:In32 n.qm) (hr:In32 n.rm):VM L_ 131 ([.ifc 124 (.ptr 100000 0 0),.ptr 100001 0 0]) ([(100000,.var [.lit (.slice none 0 0)]),(100001,.var (nodC n))]) (.tup []) ([(951,.slc 5 1 ((L n.kd++L n.na++L n.np++[IntKind.u8.wrap n.za]).map (row1 .u8))),(100000,.var [.own 951]),(100001,.var (nodC n))]):=by
 have q0:=hL.l n.kd
 have q1:=hL.l n.na
 have q2:=hL.l n.np
 have q3:([IntKind.u8.wrap n.za]).length=1:=rfl
 have r0:(L n.kd).length≤500000:=by (try simp only[P_]);omega
 have r1:(L n.kd++L n.na).length≤500000:=by (try simp only[P_]);omega
 have r2:(L n.kd++L n.na++L n.np).length≤500000:=by (try simp only[P_]);omega
 have r3:(L n.kd++L n.na++L n.np++[IntKind.u8.wrap n.za]).length≤500000:=by (try simp only[P_]);omega
 clear q0 q1 q2 q3
 have s0:=Y_ r0 (show 500000≤900000 by decide)
 have u0:=Y_ r0 (show 500000≤1000000 by decide)
 have s1:=Y_ r1 (show 500000≤900000 by decide)
 have u1:=Y_ r1 (show 500000≤1000000 by decide)
 have s2:=Y_ r2 (show 500000≤900000 by decide)
 have u2:=Y_ r2 (show 500000≤1000000 by decide)
 have s3:=Y_ r3 (show 500000≤900000 by decide)
 have u3:=Y_ r3 (show 500000≤1000000 by decide)
 have w5:n.w.length≤100000:=by omega
 have b5:n.b.length≤100000:=by omega
 have oz0:=(show NilNo L_ (124:Nat) "stepwell/pack.number" from (nilNo (f:=56) (by kernel_rfl)))
 have oz1:=@lnum_kd0 (L) (n) (9) hL
 have oz2:=(show MethodIs L_ (124:Nat) "stepwell/pack.number" (methF L_ (124:Nat) "stepwell/pack.number") from (methodIs (by kernel_rfl)))
 have oz4:=@lnum_na (L n.kd) (L) (n) (1024) u0 hL
 have oz6:=@of_8 (n.kd) hk
 have oz7:=@lsides_8 (L n.kd++L n.na) (L) (n) s1 hL hk
 have oz8:=z0_
 have oz9:=@lone_za (L n.kd++L n.na++L n.np) (n) u2
 have oz10:=z1_
 exact VM.run (fn:=Tryz.f131) (W:=[.r [] [.callm [(100000,100000),(100001,100001)] [(951,20000)] (rM oz1) (oM oz1)],.r [] [.callm [(20000,950),(100000,100000),(100001,100001)] [(951,20001)] (rM oz4) (oM oz4)],.r [] [cr oz6],.r [] [.callm [(20001,950),(100000,100000),(100001,100001)] [(951,20002)] (rM oz7) (oM oz7)],r_,b_,.r [] [.callm [(20002,950),(100000,100000),(100001,100001)] [(951,20003)] (rM oz9) (oM oz9)],r_,d_,r_,d_,r_,b_]) (G:=[.drop [4],.ren 20003 951,.sort]) CB_ (by kernel_rfl) (.c8 oz0 oz1 oz2 oz0 oz4 oz2 oz6 oz7<|.d5 oz8 oz9 oz10 oz10 oz8)
def lb_9 (L:Int→List Int) (n:Nod):List Int:=L n.kd++L n.na
theorem lwalk_9 (L:Int→List Int) (n:Nod) (hL:Puts L) (hk:n.kd<1∨8<n.kd) (hw:n.w.length≤16384) (hb:n.b.length≤16384) (hx:∀ x∈n.b,-2147483648≤x∧x≤2147483647) (hq:In32 n.qm) (hr:In32 n.rm):VM L_ 131 ([.ifc 124 (.ptr 100000 0 0),.ptr 100001 0 0]) ([(100000,.var [.lit (.slice none 0 0)]),(100001,.var (nodC n))]) (.tup []) ([(951,.slc 5 1 ((L n.kd++L n.na).map (row1 .u8))),(100000,.var [.own 951]),(100001,.var (nodC n))]):=by
 have q0:=hL.l n.kd
 have q1:=hL.l n.na
 have r0:(L n.kd).length≤500000:=by (try simp only[P_]);omega
 have r1:(L n.kd++L n.na).length≤500000:=by (try simp only[P_]);omega
 clear q0 q1
 have s0:=Y_ r0 (show 500000≤900000 by decide)
 have u0:=Y_ r0 (show 500000≤1000000 by decide)
 have s1:=Y_ r1 (show 500000≤900000 by decide)
 have u1:=Y_ r1 (show 500000≤1000000 by decide)
 have w5:n.w.length≤100000:=by omega
 have b5:n.b.length≤100000:=by omega
 have oz0:=(show NilNo L_ (124:Nat) "stepwell/pack.number" from (nilNo (f:=56) (by kernel_rfl)))
 have oz1:=@lnum_kd0 (L) (n) (9) hL
 have oz2:=(show MethodIs L_ (124:Nat) "stepwell/pack.number" (methF L_ (124:Nat) "stepwell/pack.number") from (methodIs (by kernel_rfl)))
 have oz4:=@lnum_na (L n.kd) (L) (n) (1024) u0 hL
 have oz6:=@of_9 (n.kd) hk
 have oz7:=@lsides_9 (L n.kd++L n.na) (L) (n) s1 hL hk
 have oz8:=z1_
 exact VM.run (fn:=Tryz.f131) (W:=[.r [] [.callm [(100000,100000),(100001,100001)] [(951,20000)] (rM oz1) (oM oz1)],.r [] [.callm [(20000,950),(100000,100000),(100001,100001)] [(951,20001)] (rM oz4) (oM oz4)],.r [] [cr oz6],.r [] [.callm [(20001,950),(100000,100000),(100001,100001)] [(950,20002)] (rM oz7) (oM oz7)],r_,d_,r_,d_,r_,d_,r_,b_]) (G:=[.drop [4],.ren 20002 951,.sort]) CB_ (by kernel_rfl) (.c8 oz0 oz1 oz2 oz0 oz4 oz2 oz6 oz7<|.d4 oz8 oz8 oz8 z0_)
def nodeL (L:Int→List Int) (n:Nod):List Int:=if n.kd=1 then lb_1 L n else if n.kd=2 then lb_2 L n else if n.kd=3 then lb_3 L n else if n.kd=4∨n.kd=5 then lb_4 L n else if n.kd=6 then lb_6 L n else if n.kd=7 then lb_7 L n else if n.kd=8 then lb_8 L n else lb_9 L n
theorem lwalk_v (L:Int→List Int) (n:Nod) (hL:Puts L) (hw:n.w.length≤16384) (hb:n.b.length≤16384) (hx:∀ x∈n.b,-2147483648≤x∧x≤2147483647) (hq:In32 n.qm) (hr:In32 n.rm):VM L_ 131 [.ifc 124 (.ptr 100000 0 0),.ptr 100001 0 0] [(100000,.var [.lit (.slice none 0 0)]),(100001,.var (nodC n))] (.tup []) [(951,.slc 5 1 ((nodeL L n).map (row1 .u8))),(100000,.var [.own 951]),(100001,.var (nodC n))]:=by
 by_cases k1:n.kd=1
 ·rw[show nodeL L n=lb_1 L n from by unfold nodeL;rw[i_ k1]]
  exact lwalk_1 L n hL k1 hw hb hx hq hr
 by_cases k2:n.kd=2
 ·rw[show nodeL L n=lb_2 L n from by unfold nodeL;rw[j_ k1,i_ k2]]
  exact lwalk_2 L n hL k2 hw hb hx hq hr
 by_cases k3:n.kd=3
 ·rw[show nodeL L n=lb_3 L n from by unfold nodeL;rw[j_ k1,j_ k2,i_ k3]]
  exact lwalk_3 L n hL k3 hw hb hx hq hr
 by_cases k4:n.kd=4∨n.kd=5
 ·rw[show nodeL L n=lb_4 L n from by unfold nodeL;rw[j_ k1,j_ k2,j_ k3,i_ k4]]
  exact lwalk_4 L n hL k4 hw hb hx hq hr
 by_cases k6:n.kd=6
 ·rw[show nodeL L n=lb_6 L n from by unfold nodeL;rw[j_ k1,j_ k2,j_ k3,j_ k4,i_ k6]]
  exact lwalk_6 L n hL k6 hw hb hx hq hr
 by_cases k7:n.kd=7
 ·rw[show nodeL L n=lb_7 L n from by unfold nodeL;rw[j_ k1,j_ k2,j_ k3,j_ k4,j_ k6,i_ k7]]
  exact lwalk_7 L n hL k7 hw hb hx hq hr
 by_cases k8:n.kd=8
 ·rw[show nodeL L n=lb_8 L n from by unfold nodeL;rw[j_ k1,j_ k2,j_ k3,j_ k4,j_ k6,j_ k7,i_ k8]]
  exact lwalk_8 L n hL k8 hw hb hx hq hr
 rw[show nodeL L n=lb_9 L n from by unfold nodeL;rw[j_ k1,j_ k2,j_ k3,j_ k4,j_ k6,j_ k7,j_ k8]]
 exact lwalk_9 L n hL (by omega) hw hb hx hq hr
def six (n:Nod):List Int:=[n.na,n.nb,n.nk,n.ns,n.np,n.no]
def okI (v:Int):Bool:=decide (0≤v)&&decide (v≤1024)
theorem okI_n {v:Int} (h:okI v≠true):v<0∨1024<v:=by
 false_or_by_contra
 rename_i g
 exact h (by simp only[okI,N_,E_];omega)
def nodeP (n:Nod):List Int×Int:=if checkE n≠0 then ([],checkE n) else if (six n).all okI=false then ([],3) else if 16384<n.w.length∨16384<n.b.length then ([],3) else (nodeL putN n,0)
theorem six_y {n:Nod} (h:(six n).all okI=true):∀ k,k<6→okI ((six n).getD k default)=true:=by
 rw[all_getD] at h;exact h
theorem six_n {n:Nod} (h:(six n).all okI=false):∃ m,m<6∧okI ((six n).getD m default)≠true∧∀ k,k<m→okI ((six n).getD k default)=true:=by
 have:¬ ∀ k,k<6→okI ((six n).getD k default)=true:=fun g=>by
  have:(six n).all okI=true:=by rw[all_getD];exact g
  rw[this] at h;cases h
 false_or_by_contra
 rename_i hn
 refine this fun k hk=>?_
 induction k using Nat.strongRecOn with
 | ind k ih =>
  false_or_by_contra
  rename_i hb
  exact hn ⟨k,hk,hb,fun j hj=>ih j hj (by omega)⟩
def accB (l:List Nod) (B:List Int):Nat→List Int
 | 0=>B
 | k+1=>accB l B k++(nodeP (l.getD k default)).1
theorem nodeR_le (n:Nod) (okn:n.Ok):(nodeP n).1.length≤n.w.length+10*n.b.length+200:=by
 unfold nodeP
 split
 ·exact AD_ _
 ·split
  ·exact AD_ _
  ·split
   ·exact AD_ _
   ·rename_i h
    have hx:=okn.b
    have h8:(smallL n.w).length=n.w.length:=R_ _
    have h32:=wideL_len n.b hx
    have p:∀ x,(putN x).length≤10:=putN_len
    dsimp only
    unfold nodeL
    have p1:=p n.kd;have p2:=p n.na;have p3:=p n.nb;have p4:=p n.nk;have p5:=p n.ns;have p6:=p n.np;have p7:=p n.no;have p8:=p n.qm;have p9:=p n.qs;have pa:=p n.rm;have pb:=p n.rs;have pc:=p (n.w.length:Int);have pd:=p (n.b.length:Int)
    repeat' split
    all_goals (first|unfold lb_1|unfold lb_2|unfold lb_3|unfold lb_4|unfold lb_6|unfold lb_7|unfold lb_8|unfold lb_9)
    all_goals (simp only[P_,AE_,CQ_];omega)
structure Nods (l:List Nod):Prop where
 ok:∀ n∈l,n.Ok
 w:∀ n∈l,n.w.length≤4100∧n.b.length≤4100
theorem accB_le {l:List Nod} (h:Nods l) (B:List Int) {k:Nat} (hk:k≤l.length):(accB l B k).length≤B.length+47000*k:=by
 induction k with
 | zero=>exact AX_ _
 | succ k ih =>
  have a:=ih (by omega)
  have b:=nodeR_le _ (getD_in h.ok (s_ (k<l.length)))
  have c:=getD_in h.w (s_ (k<l.length))
  rw[accB,P_];omega
noncomputable def nrng_y_I (l:List Int) (n:Nod) (k:Nat):VS:=stt 57 [(1,.ptr 1 0 0),(25,.sl 1 (l.map (row1 .i64))),(26,i64 6),(27,i64 k)] [(1,.var (nodC n))]
noncomputable def nrng_y_Z (l:List Int) (n:Nod):VS:=nrng_y_I l n (6)
theorem nrng_y_s (l:List Int) (n:Nod) (hl:l.length=6) (h:∀ k,k<6→okI (l.getD k default)=true) (k:Nat) (hk:k<6):VT L_ (fnC Tryz.f91 [1,1,0,1,0,0]) (nrng_y_I l n k) .normal (nrng_y_I l n (k+1)):=by
 have q:=h k hk
 simp only[okI,N_,E_] at q
 have ql:(l.map (row1 .i64)).length=6:=by rw[R_];exact hl
 exact tR_ [r_,b_,.r [] [.row [i64 (l.getD k 0)]],.r [] [o_,o_,.sel 1],d_,.r [] [.n ((↑k:Int)+1)]] [.any (rg [(6,1),(28,6),(36,2)]),.weak 27 (i64 (↑(k+1):Int)),.sort] (.d6 (decide_eq_true (p:=((↑k:Int)<6)) (by omega)) (s_ (0≤(↑k:Int))) (map_at (row1 .i64) (0) (l:=l) (i:=k) (by omega)) (show (decide (l.getD k 0<0) || decide (l.getD k 0>1024))=false by (simp at *;omega)) (i6n ((↑k:Int)+1) (by omega)) (wS_ k))
theorem nrng_y_e (l:List Int) (n:Nod) (hl:l.length=6) (h:∀ k,k<6→okI (l.getD k default)=true):VT L_ (fnC Tryz.f91 [1,1,0,1,0,0]) (nrng_y_I l n (6)) (.exit 0) (nrng_y_Z l n):=by
 exact tR_ [r_,d_] [.any [28],.sort] (.d z1_)
theorem nrng_y (l:List Int) (n:Nod) (hl:l.length=6) (h:∀ k,k<6→okI (l.getD k default)=true):VT L_ (fnC Tryz.f91 [1,1,0,1,0]) (nrng_y_I l n 0) (.exit 0) (nrng_y_Z l n) :=
 VT.loop (fun k=>nrng_y_I l n k) (6) (fun k hk=>nrng_y_s l n hl h k hk) (nrng_y_e l n hl h) (by intro h;cases h)
noncomputable def nrng_n_I (l:List Int) (n:Nod) (m:Nat) (k:Nat):VS:=stt 57 [(1,.ptr 1 0 0),(25,.sl 1 (l.map (row1 .i64))),(26,i64 6),(27,i64 k)] [(1,.var (nodC n))]
noncomputable def nrng_n_Z (l:List Int) (n:Nod) (m:Nat):VS:=stt 57 [(2,nilv),(3,i64 3)] []
theorem nrng_n_s (l:List Int) (n:Nod) (m:Nat) (hl:l.length=6) (hm:m<6) (hf:okI (l.getD m default)≠true) (h:∀ k,k<m→okI (l.getD k default)=true) (k:Nat) (hk:k<m):VT L_ (fnC Tryz.f91 [1,1,0,1,0,0]) (nrng_n_I l n m k) .normal (nrng_n_I l n m (k+1)):=by
 have q:=h k hk
 simp only[okI,N_,E_] at q
 have ql:(l.map (row1 .i64)).length=6:=by rw[R_];exact hl
 exact tR_ [r_,b_,.r [] [.row [i64 (l.getD k 0)]],.r [] [o_,o_,.sel 1],d_,.r [] [.n ((↑k:Int)+1)]] [.any (rg [(6,1),(28,6),(36,2)]),.weak 27 (i64 (↑(k+1):Int)),.sort] (.d6 (decide_eq_true (p:=((↑k:Int)<6)) (by omega)) (s_ (0≤(↑k:Int))) (map_at (row1 .i64) (0) (l:=l) (i:=k) (by omega)) (show (decide (l.getD k 0<0) || decide (l.getD k 0>1024))=false by (simp at *;omega)) (i6n ((↑k:Int)+1) (by omega)) (wS_ k))
theorem nrng_n_e (l:List Int) (n:Nod) (m:Nat) (hl:l.length=6) (hm:m<6) (hf:okI (l.getD m default)≠true) (h:∀ k,k<m→okI (l.getD k default)=true):VT L_ (fnC Tryz.f91 [1,1,0,1,0,0]) (nrng_n_I l n m (m)) (.ret) (nrng_n_Z l n m):=by
 have q:=okI_n hf
 have ql:(l.map (row1 .i64)).length=6:=by rw[R_];exact hl
 exact tR_ [r_,b_,.r [] [.row [i64 (l.getD m 0)]],.r [] [o_,o_,.sel 1],b_,r_] [.any (rg [(1,1),(6,1),(25,9),(36,1)]),.drop [1],.sort] (.d4 (decide_eq_true (p:=((↑m:Int)<6)) (by omega)) (s_ (0≤(↑m:Int))) (map_at (row1 .i64) (0) (l:=l) (i:=m) (by omega)) (show (decide (l.getD m 0<0) || decide (l.getD m 0>1024))=true by (simp at *;omega)))
theorem nrng_n (l:List Int) (n:Nod) (m:Nat) (hl:l.length=6) (hm:m<6) (hf:okI (l.getD m default)≠true) (h:∀ k,k<m→okI (l.getD k default)=true):VT L_ (fnC Tryz.f91 [1,1,0,1,0]) (nrng_n_I l n m 0) (.ret) (nrng_n_Z l n m) :=
 VT.loop (fun k=>nrng_n_I l n m k) (m) (fun k hk=>nrng_n_s l n m hl hm hf h k hk) (nrng_n_e l n m hl hm hf h) (by intro h;cases h)
theorem pnode_c (n:Nod) (hw:n.w.length≤100000) (hb:n.b.length≤100000) (hk:In64 n.kd) (hc:checkE n≠0):VC L_ 91 ([nod n]) (.tup [.sl 1 (([]:List Int).map (row1 .u8)),i64 (checkE n)]):=by
 have oz0:=@check_v (n) hw hb hk
 exact (cR_ [r_,.r [] [cr oz0],r_,b_,r_] (AV.tup [AV.lit (AQ_ none 0 0),i64 (checkE n)]) Tryz.func91 (.d2 oz0 (show (checkE n != 0)=true by (simp;omega)))).weak (AM_ _) (AI_ (.cons (AG_ _) (.cons (.refl _) .nil)))
theorem pnode_r (n:Nod) (m:Nat) (hw:n.w.length≤100000) (hb:n.b.length≤100000) (hk:In64 n.kd) (hc:checkE n=0) (hm:m<6) (hf:okI ((six n).getD m default)≠true) (h:∀ k,k<m→okI ((six n).getD k default)=true):VC L_ 91 ([nod n]) (.tup [.sl 1 (([]:List Int).map (row1 .u8)),i64 3]):=by
 have hl6:(six n).length=6:=rfl
 have oz0:=@check_v (n) hw hb hk
 have oz4:=@nrng_n (six n) (n) (m) hl6 hm hf h
 exact (cR_ [r_,.r [] [cr oz0],r_,d_,r_,.code [.frz 25,.any (rg [(0,1),(2,3),(8,4),(13,12)]),.weak 26 (i64 6),.weak 27 (i64 (↑0:Int)),.sort] (Exit.ret) (zO oz4)] (AV.tup [AV.lit (AQ_ none 0 0),i64 3]) Tryz.func91 (.d5 oz0 (show (checkE n != 0)=false by (simp;omega)) (Q_ (k:=.i64) (show (((↑6:Int)):Int)=(6) from (by (simp;done)))) w0_ oz4)).weak (AM_ _) (AI_ (.cons (AG_ _) (.cons (.refl _) .nil)))
theorem pnode_w (n:Nod) (hw:n.w.length≤100000) (hb:n.b.length≤100000) (hk:In64 n.kd) (hc:checkE n=0) (h:∀ k,k<6→okI ((six n).getD k default)=true) (hl:16384<n.w.length∨16384<n.b.length):VC L_ 91 ([nod n]) (.tup [.sl 1 (([]:List Int).map (row1 .u8)),i64 3]):=by
 have hl6:(six n).length=6:=rfl
 have oz0:=@check_v (n) hw hb hk
 have oz4:=@nrng_y (six n) (n) hl6 h
 exact (cR_ [r_,.r [] [cr oz0],r_,d_,r_,.code [.frz 25,.any (rg [(0,1),(2,3),(8,4),(13,12)]),.weak 26 (i64 6),.weak 27 (i64 (↑0:Int)),.sort] (BO_ 0) (zO oz4),.r [] [o_,o_,o_,o_,.sel 1],b_,r_] (AV.tup [AV.lit (AQ_ none 0 0),i64 3]) Tryz.func91 (.d6 oz0 (show (checkE n != 0)=false by (simp;omega)) (Q_ (k:=.i64) (show (((↑6:Int)):Int)=(6) from (by (simp;done)))) w0_ oz4 (show (decide (((K_ (row1 .i8) n.w).length:Int)>16384) || decide (((K_ (row1 .i32) n.b).length:Int)>16384))=true by (simp;omega)))).weak (AM_ _) (AI_ (.cons (AG_ _) (.cons (.refl _) .nil)))
theorem pnode_y (L:Int→List Int) (n:Nod) (hL:Puts L) (okn:n.Ok) (hc:checkE n=0) (h:∀ k,k<6→okI ((six n).getD k default)=true) (hw:n.w.length≤16384) (hb:n.b.length≤16384):VC L_ 91 ([nod n]) (.tup [.sl 1 ((nodeL L n).map (row1 .u8)),i64 0]):=by
 have hk:=okn.kd
 have hx:=okn.b
 have hq:=okn.qm
 have hr:=okn.rm
 have hl6:(six n).length=6:=rfl
 have oz0:=@check_v (n) (by omega) (by omega) hk
 have oz4:=@nrng_y (six n) (n) hl6 h
 have oz6:=@lwalk_v (L) (n) hL hw hb hx hq hr
 exact cR_ [r_,.r [] [cr oz0],r_,d_,r_,.code [.frz 25,.any (rg [(0,1),(2,3),(8,4),(13,12)]),.weak 26 (i64 6),.weak 27 (i64 (↑0:Int)),.sort] (BO_ 0) (zO oz4),.r [] [o_,o_,o_,o_,.sel 1],d_,r_,.r [] [.callm [(49,100000),(1,100001)] [(951,20000)] (rM oz6) (oM oz6)],r_] _ Tryz.func91 (.d7 oz0 (show (checkE n != 0)=false by (simp;omega)) (Q_ (k:=.i64) (show (((↑6:Int)):Int)=(6) from (by (simp;done)))) w0_ oz4 (show (decide (((K_ (row1 .i8) n.w).length:Int)>16384) || decide (((K_ (row1 .i32) n.b).length:Int)>16384))=false by (simp;omega)) oz6)
theorem pnode_v (n:Nod) (okn:n.Ok) (hw:n.w.length≤100000) (hb:n.b.length≤100000):VC L_ 91 [nod n] (.tup [.sl 1 ((nodeP n).1.map (row1 .u8)),i64 (nodeP n).2]):=by
 by_cases hc:checkE n=0
 ·cases hs:(six n).all okI with
  | true =>
   by_cases hl:16384<n.w.length∨16384<n.b.length
   ·rw[show nodeP n=([],3) from by unfold nodeP;rw[j_ (by simpa using hc),j_ (by rw[hs];simp),i_ hl]]
    exact pnode_w n hw hb okn.kd hc (six_y hs) hl
   ·rw[show nodeP n=(nodeL putN n,0) from by unfold nodeP;rw[j_ (by simpa using hc),j_ (by rw[hs];simp),j_ hl]]
    exact pnode_y putN n puts okn hc (six_y hs) (by omega) (by omega)
  | false =>
   obtain ⟨m,hm,hf,h⟩:=six_n hs
   rw[show nodeP n=([],3) from by unfold nodeP;rw[j_ (by simpa using hc),i_ hs]]
   exact pnode_r n m hw hb okn.kd hc hm hf h
 ·rw[show nodeP n=([],checkE n) from by unfold nodeP;rw[i_ hc]]
  exact pnode_c n hw hb okn.kd hc
theorem lsml_x (B:List Int) (x:Blc) (m:Int) (hB:B.length≤1000000) (hw:x.w.length≤100000):VM L_ 238 ([.ptr 100000 0 0,.ptr 100001 0 2,i64 m]) ([(950,.slc 5 1 (B.map (row1 .u8))),(100000,.var [.own 950]),(100001,.var (blcC x))]) (.tup []) ([(951,.slc 5 1 ((B++smallL x.w).map (row1 .u8))),(100000,.var [.own 951]),(100001,.var (blcC x))]):=by
 have q:(smallL x.w).length=x.w.length:=R_ _
 have oz0:=@small_v (x.w) (by omega)
 exact mR_ [.r [] [cr oz0]] [.ren 15 951,.blk 951 (Blk.slc 5 1 (K_ (row1 .u8) (B++smallL x.w))),.sort] _ Tryz.func238 (.d4 oz0 (show ((K_ (row1 .u8) B).length+(K_ (row1 .u8) (smallL x.w)).length)*1≤140737488355328 by (simp only[R_];omega)) (show (K_ (row1 .u8) B).length+(K_ (row1 .u8) (smallL x.w)).length≤9223372036854775807 by (simp only[R_];omega)) (show BlkW (Blk.slc 5 1 (K_ (row1 .u8) B++K_ (row1 .u8) (smallL x.w))) (Blk.slc 5 1 (K_ (row1 .u8) (B++smallL x.w))) from (BU_ (e:=5) (z:=1) (rows_to (row1 .u8) (r:=K_ (row1 .u8) B++K_ (row1 .u8) (smallL x.w)) (l:=B++smallL x.w) (m:=B++smallL x.w) (by first|(simp only[B_,C_,AO_,AP_,W_,AK_,AL_];done)|rfl|(simp only[B_,C_,AO_,AP_,W_,AK_,AL_];rfl)) rfl))))
theorem lwid_x (B:List Int) (x:Blc) (m:Int) (hB:B.length≤1000000) (hw:x.b.length≤100000) (hb:∀ v∈x.b,-2147483648≤v∧v≤2147483647):VM L_ 239 ([.ptr 100000 0 0,.ptr 100001 0 3,i64 m]) ([(950,.slc 5 1 (B.map (row1 .u8))),(100000,.var [.own 950]),(100001,.var (blcC x))]) (.tup []) ([(951,.slc 5 1 ((B++wideL x.b).map (row1 .u8))),(100000,.var [.own 951]),(100001,.var (blcC x))]):=by
 have q:=wideL_len x.b hb
 have oz0:=@wide_v (x.b) hb (by omega)
 exact mR_ [.r [] [cr oz0]] [.ren 15 951,.blk 951 (Blk.slc 5 1 (K_ (row1 .u8) (B++wideL x.b))),.sort] _ Tryz.func239 (.d4 oz0 (show ((K_ (row1 .u8) B).length+(K_ (row1 .u8) (wideL x.b)).length)*1≤140737488355328 by (simp only[R_];omega)) (show (K_ (row1 .u8) B).length+(K_ (row1 .u8) (wideL x.b)).length≤9223372036854775807 by (simp only[R_];omega)) (show BlkW (Blk.slc 5 1 (K_ (row1 .u8) B++K_ (row1 .u8) (wideL x.b))) (Blk.slc 5 1 (K_ (row1 .u8) (B++wideL x.b))) from (BU_ (e:=5) (z:=1) (rows_to (row1 .u8) (r:=K_ (row1 .u8) B++K_ (row1 .u8) (wideL x.b)) (l:=B++wideL x.b) (m:=B++wideL x.b) (by first|(simp only[B_,C_,AO_,AP_,W_,AK_,AL_];done)|rfl|(simp only[B_,C_,AO_,AP_,W_,AK_,AL_];rfl)) rfl))))
theorem llists_x (B:List Int) (L:Int→List Int) (x:Blc) (hB:B.length≤500000) (hL:Puts L) (hw:x.w.length≤100000) (hb:x.b.length≤16384) (hx:∀ v∈x.b,-2147483648≤v∧v≤2147483647):VM L_ 132 ([.ifc 124 (.ptr 100000 0 0),.ptr 100001 0 2,.ptr 100001 0 3]) ([(950,.slc 5 1 (B.map (row1 .u8))),(100000,.var [.own 950]),(100001,.var (blcC x))]) (.tup []) ([(951,.slc 5 1 ((B++L (x.w.length:Int)++smallL x.w++L (x.b.length:Int)++wideL x.b).map (row1 .u8))),(100000,.var [.own 951]),(100001,.var (blcC x))]):=by
 have q1:=hL.l (x.w.length:Int)
 have q3:=hL.l (x.b.length:Int)
 have q2:(smallL x.w).length=x.w.length:=R_ _
 have q4:(B++L (x.w.length:Int)).length=B.length+(L (x.w.length:Int)).length:=P_
 have q5:(B++L (x.w.length:Int)++smallL x.w).length=B.length+(L (x.w.length:Int)).length+x.w.length:=by rw[P_,q4,q2]
 have q6:(B++L (x.w.length:Int)++smallL x.w++L (x.b.length:Int)).length=B.length+(L (x.w.length:Int)).length+x.w.length+(L (x.b.length:Int)).length:=by rw[P_,q5]
 have oz0:=@lnum_1 (B) (L) (((K_ (row1 .i8) x.w).length:Int)) (16384) (by omega) hL
 have oz1:=(show MethodIs L_ (124:Nat) "stepwell/pack.number" (methF L_ (124:Nat) "stepwell/pack.number") from (methodIs (by kernel_rfl)))
 have oz2:=@lsml_x (B++L ((K_ (row1 .i8) x.w).length:Int)) (x) (((K_ (row1 .i8) x.w).length:Int)) (by (simp only[R_];omega)) hw
 have oz4:=@lnum_1 (B++L ((K_ (row1 .i8) x.w).length:Int)++smallL x.w) (L) (((K_ (row1 .i32) x.b).length:Int)) (16384) (by (simp only[R_];omega)) hL
 have oz6:=@lwid_x (B++L ((K_ (row1 .i8) x.w).length:Int)++smallL x.w++L ((K_ (row1 .i32) x.b).length:Int)) (x) (((K_ (row1 .i32) x.b).length:Int)) (by (simp only[R_];omega)) (by omega) hx
 exact mR_ [r_,.r [] [.callm [(950,950),(100000,100000),(6,100001)] [(951,20000)] (rM oz0) (oM oz0)],.r [] [.callm [(20000,950),(100000,100000),(100001,100001)] [(951,20001)] (rM oz2) (oM oz2)],r_,.r [] [.callm [(20001,950),(100000,100000),(7,100001)] [(951,20002)] (rM oz4) (oM oz4)],.r [] [.callm [(20002,950),(100000,100000),(100001,100001)] [(951,20003)] (rM oz6) (oM oz6)]] [.drop [6,7],.ren 20003 951,.blk 951 (Blk.slc 5 1 (K_ (row1 .u8) (B++L (x.w.length:Int)++smallL x.w++L (x.b.length:Int)++wideL x.b))),.sort] _ Tryz.func132 (.c8 oz0 oz1 oz2 (show MethodIs L_ (124:Nat) "stepwell/pack.small" (methF L_ (124:Nat) "stepwell/pack.small") from (methodIs (by kernel_rfl))) oz4 oz1 oz6 (show MethodIs L_ (124:Nat) "stepwell/pack.wides" (methF L_ (124:Nat) "stepwell/pack.wides") from (methodIs (by kernel_rfl)))<|.d (show BlkW (Blk.slc 5 1 (K_ (row1 .u8) (B++L ((K_ (row1 .i8) x.w).length:Int)++smallL x.w++L ((K_ (row1 .i32) x.b).length:Int)++wideL x.b))) (Blk.slc 5 1 (K_ (row1 .u8) (B++L (x.w.length:Int)++smallL x.w++L (x.b.length:Int)++wideL x.b))) from (BU_ (e:=5) (z:=1) (rows_to (row1 .u8) (r:=K_ (row1 .u8) (B++L ((K_ (row1 .i8) x.w).length:Int)++smallL x.w++L ((K_ (row1 .i32) x.b).length:Int)++wideL x.b)) (l:=B++L ((K_ (row1 .i8) x.w).length:Int)++smallL x.w++L ((K_ (row1 .i32) x.b).length:Int)++wideL x.b) (m:=B++L (x.w.length:Int)++smallL x.w++L (x.b.length:Int)++wideL x.b) rfl (show (B++L ((K_ (row1 .i8) x.w).length:Int)++smallL x.w++L ((K_ (row1 .i32) x.b).length:Int)++wideL x.b)=(B++L (x.w.length:Int)++smallL x.w++L (x.b.length:Int)++wideL x.b) from (by (simp;done)))))))
theorem lexit_n (B:List Int) (L:Int→List Int) (x:Blc) (hB:B.length≤400000) (hL:Puts L) (hk:x.ex=false):VM L_ 93 ([.ifc 124 (.ptr 100000 0 0),.ptr 100001 0 0]) ([(950,.slc 5 1 (B.map (row1 .u8))),(100000,.var [.own 950]),(100001,.var (blcC x))]) (.tup []) ([(951,.slc 5 1 ((B++L 0).map (row1 .u8))),(100000,.var [.own 951]),(100001,.var (blcC x))]):=by
 have oz1:=@lnum_1 (B) (L) (0) (1) (by omega) hL
 exact mR_ [r_,r_,d_,.r [] [.callm [(950,950),(100000,100000),(4,100001)] [(951,20000)] (rM oz1) (oM oz1)],r_,r_,b_] [.drop [4],.ren 20000 951,.blk 100001 (Blk.var [AV.sl 19 (K_ nodC x.n),bv x.ex,AV.sl 1 (K_ (row1 .i8) x.w),AV.sl 1 (K_ (row1 .i32) x.b),i32 x.nd]),.sort] _ Tryz.func93 (.d5 hk oz1 (show MethodIs L_ (124:Nat) "stepwell/pack.number" (methF L_ (124:Nat) "stepwell/pack.number") from (methodIs (by kernel_rfl))) z0_ (show BlkW (Blk.var [AV.sl 19 (K_ nodC x.n),bv false,AV.sl 1 (K_ (row1 .i8) x.w),AV.sl 1 (K_ (row1 .i32) x.b),i32 x.nd]) (Blk.var [AV.sl 19 (K_ nodC x.n),bv x.ex,AV.sl 1 (K_ (row1 .i8) x.w),AV.sl 1 (K_ (row1 .i32) x.b),i32 x.nd]) from (BlkW.var (m:=[AV.sl 19 (K_ nodC x.n),bv x.ex,AV.sl 1 (K_ (row1 .i8) x.w),AV.sl 1 (K_ (row1 .i32) x.b),i32 x.nd]) (.cons (.refl _) (.cons (AF_ (by (simp;omega))) (.cons (.refl _) (.cons (.refl _) (.cons (.refl _) .nil))))))))
theorem lexit_y (B:List Int) (L:Int→List Int) (x:Blc) (hB:B.length≤400000) (hL:Puts L) (hk:x.ex=true) (hw:x.w.length≤16384) (hb:x.b.length≤16384) (hx:∀ v∈x.b,-2147483648≤v∧v≤2147483647) (hn:In32 x.nd):VM L_ 93 ([.ifc 124 (.ptr 100000 0 0),.ptr 100001 0 0]) ([(950,.slc 5 1 (B.map (row1 .u8))),(100000,.var [.own 950]),(100001,.var (blcC x))]) (.tup []) ([(951,.slc 5 1 ((B++L 1++L (x.w.length:Int)++smallL x.w++L (x.b.length:Int)++wideL x.b++L x.nd).map (row1 .u8))),(100000,.var [.own 951]),(100001,.var (blcC x))]):=by
 have q1:=hL.l (x.w.length:Int)
 have q3:=hL.l (x.b.length:Int)
 have q7:=hL.l 1
 have q2:(smallL x.w).length=x.w.length:=R_ _
 have q8:=wideL_len x.b hx
 have r0:(B++L 1).length≤500000:=by (try simp only[P_]);omega
 have r1:(B++L 1++L (x.w.length:Int)++smallL x.w++L (x.b.length:Int)++wideL x.b).length≤1000000:=by (try simp only[P_]);omega
 have w5:x.w.length≤100000:=by omega
 clear q1 q3 q7 q2 q8
 have oz1:=@lnum_1 (B) (L) (1) (1) (by omega) hL
 have oz2:=(show MethodIs L_ (124:Nat) "stepwell/pack.number" (methF L_ (124:Nat) "stepwell/pack.number") from (methodIs (by kernel_rfl)))
 have oz4:=@llists_x (B++L 1) (L) (Blc.mk x.n true x.w x.b x.nd) r0 hL w5 hb hx
 have oz6:=@lnum_1 (B++L 1++L (x.w.length:Int)++smallL x.w++L (x.b.length:Int)++wideL x.b) (L) (x.nd) (2147483647) r1 hL
 exact mR_ [r_,r_,b_,r_,.r [] [.callm [(950,950),(100000,100000),(4,100001)] [(951,20000)] (rM oz1) (oM oz1)],r_,r_,d_,.r [] [.callm [(20000,950),(100000,100000),(100001,100001)] [(951,20001)] (rM oz4) (oM oz4)],.r [] [.n x.nd],.r [] [.callm [(20001,950),(100000,100000),(5,100001)] [(951,20002)] (rM oz6) (oM oz6)],.r [] [.n x.nd]] [.drop [4,5],.ren 20002 951,.blk 100001 (Blk.var [AV.sl 19 (K_ nodC x.n),bv x.ex,AV.sl 1 (K_ (row1 .i8) x.w),AV.sl 1 (K_ (row1 .i32) x.b),i32 x.nd]),.sort] _ Tryz.func93 (.c8 hk oz1 oz2 z1_ oz4 (i6n x.nd (by omega)) oz6 oz2<|.d2 (CR_ x.nd (by omega)) (show BlkW (Blk.var [AV.sl 19 (K_ nodC x.n),bv true,AV.sl 1 (K_ (row1 .i8) x.w),AV.sl 1 (K_ (row1 .i32) x.b),i32 x.nd]) (Blk.var [AV.sl 19 (K_ nodC x.n),bv x.ex,AV.sl 1 (K_ (row1 .i8) x.w),AV.sl 1 (K_ (row1 .i32) x.b),i32 x.nd]) from (BlkW.var (m:=[AV.sl 19 (K_ nodC x.n),bv x.ex,AV.sl 1 (K_ (row1 .i8) x.w),AV.sl 1 (K_ (row1 .i32) x.b),i32 x.nd]) (.cons (.refl _) (.cons (AF_ (by (simp;omega))) (.cons (.refl _) (.cons (.refl _) (.cons (.refl _) .nil))))))))
theorem tsides_1 (s:Rst) (n:Nod) (h:s.In) (hk:n.kd=1):VM L_ 166 ([.ifc 183 (.agg [.ptr 100000 0 0]),.ptr 100001 0 0,.agg [bv false,bv true,bv true,bv true,bv true,bv true]]) ([(100000,.var (rdC s)),(100001,.var (nodC n))]) (.tup []) ([(100000,.var (rdC (cntS (cntS (cntS (cntS s 1024) 1024) 1024) 1024))),(100001,.var (nodC { n with nk:=cntV s 1024,ns:=cntV (cntS s 1024) 1024,np:=cntV (cntS (cntS s 1024) 1024) 1024,no:=cntV (cntS (cntS (cntS s 1024) 1024) 1024) 1024 }))]):=by
 have oz0:=@side_n
 have oz1:=@tside_nk (s) (n) h
 have oz2:=@tside_ns (cntS s 1024) (Nod.mk n.kd n.na n.nb (cntV s 1024) n.ns n.np n.no n.za n.zb n.w n.b n.qm n.qs n.qz n.rm n.rs n.rz n.lo n.hi) (by (repeat first|exact h|apply cnt_in))
 have oz3:=z6_
 have oz9:=@tside_np (cntS (cntS s 1024) 1024) (Nod.mk n.kd n.na n.nb (cntV s 1024) (cntV (cntS s 1024) 1024) n.np n.no n.za n.zb n.w n.b n.qm n.qs n.qz n.rm n.rs n.rz n.lo n.hi) (by (repeat first|exact h|apply cnt_in))
 have oz10:=@tside_no (cntS (cntS (cntS s 1024) 1024) 1024) (Nod.mk n.kd n.na n.nb (cntV s 1024) (cntV (cntS s 1024) 1024) (cntV (cntS (cntS s 1024) 1024) 1024) n.no n.za n.zb n.w n.b n.qm n.qs n.qz n.rm n.rs n.rz n.lo n.hi) (by (repeat first|exact h|apply cnt_in))
 exact VM.run (fn:=Tryz.f166) (W:=[r_,r_,.r [] [.callm [] [] (rM oz0) (oM oz0)],.r [] [.callm [(100000,100000),(100001,100001),(3,100002)] [] (rM oz1) (oM oz1)],.r [] [.callm [(100000,100000),(100001,100001),(3,100002)] [] (rM oz2) (oM oz2)],.r [] [f_,f_,f_,f_,f_,e_,.callm [(100000,100000),(100001,100001),(3,100002)] [] (rM oz9) (oM oz9)],.r [] [.callm [(100000,100000),(100001,100001),(3,100002)] [] (rM oz10) (oM oz10)]]) (G:=[.drop [5,3],.sort]) CA_ (by kernel_rfl) (.c8 oz0 oz1 oz2 oz3 oz3 oz3 oz3 oz3<|.d3 z0_ oz9 oz10)
theorem tsides_2 (s:Rst) (n:Nod) (h:s.In) (hk:n.kd=2):VM L_ 166 ([.ifc 183 (.agg [.ptr 100000 0 0]),.ptr 100001 0 0,.agg [bv false,bv true,bv false,bv true,bv true,bv true]]) ([(100000,.var (rdC s)),(100001,.var (nodC n))]) (.tup []) ([(100000,.var (rdC (cntS (cntS (cntS s 1024) 1024) 1024))),(100001,.var (nodC { n with nk:=cntV s 1024,ns:=cntV (cntS s 1024) 1024,np:=cntV (cntS (cntS s 1024) 1024) 1024 }))]):=by
 have oz0:=@side_n
 have oz1:=@tside_nk (s) (n) h
 have oz2:=@tside_ns (cntS s 1024) (Nod.mk n.kd n.na n.nb (cntV s 1024) n.ns n.np n.no n.za n.zb n.w n.b n.qm n.qs n.qz n.rm n.rs n.rz n.lo n.hi) (by (repeat first|exact h|apply cnt_in))
 have oz3:=z6_
 have oz9:=@tside_np (cntS (cntS s 1024) 1024) (Nod.mk n.kd n.na n.nb (cntV s 1024) (cntV (cntS s 1024) 1024) n.np n.no n.za n.zb n.w n.b n.qm n.qs n.qz n.rm n.rs n.rz n.lo n.hi) (by (repeat first|exact h|apply cnt_in))
 exact VM.run (fn:=Tryz.f166) (W:=[r_,r_,.r [] [.callm [] [] (rM oz0) (oM oz0)],.r [] [.callm [(100000,100000),(100001,100001),(3,100002)] [] (rM oz1) (oM oz1)],.r [] [.callm [(100000,100000),(100001,100001),(3,100002)] [] (rM oz2) (oM oz2)],.r [] [f_,f_,f_,f_,f_,e_,.callm [(100000,100000),(100001,100001),(3,100002)] [] (rM oz9) (oM oz9)],.r [] [.callm [] [] (rM oz0) (oM oz0)]]) (G:=[.drop [5,3],.sort]) CA_ (by kernel_rfl) (.c8 oz0 oz1 oz2 oz3 oz3 oz3 oz3 oz3<|.d3 z0_ oz9 oz0)
theorem tsides_3 (s:Rst) (n:Nod) (h:s.In) (hk:n.kd=3):VM L_ 166 ([.ifc 183 (.agg [.ptr 100000 0 0]),.ptr 100001 0 0,.agg [bv false,bv false,bv true,bv true,bv true,bv true]]) ([(100000,.var (rdC s)),(100001,.var (nodC n))]) (.tup []) ([(100000,.var (rdC (cntS s 1024))),(100001,.var (nodC { n with no:=cntV s 1024 }))]):=by
 have oz0:=@side_n
 have oz3:=z1_
 have oz9:=@VM.pre _ _ ([bv (n.kd==8),AV.any,AV.any]) _ ([]) _ _ _ ([GI.weak 0 (bv false),GI.sort]) _ (@side_n) (by kernel_rfl) (.d (AF_ (show ((n.kd==8):Bool)=(false) from (by (refine decide_eq_false ?_;omega)))))
 have oz10:=@tside_no (s) (n) h
 exact VM.run (fn:=Tryz.f166) (W:=[r_,r_,.r [] [.callm [] [] (rM oz0) (oM oz0)],.r [] [.callm [] [] (rM oz0) (oM oz0)],.r [] [.callm [] [] (rM oz0) (oM oz0)],.r [] [e_,e_,e_,e_,e_,f_,.callm [] [] (rM oz9) (oM oz9)],.r [] [.callm [(100000,100000),(100001,100001),(3,100002)] [] (rM oz10) (oM oz10)]]) (G:=[.drop [5,3],.sort]) CA_ (by kernel_rfl) (.c8 oz0 oz0 oz0 oz3 oz3 oz3 oz3 oz3<|.d3 oz3 oz9 oz10)
theorem tsides_4 (s:Rst) (n:Nod) (h:s.In) (hk:n.kd=4∨n.kd=5):VM L_ 166 ([.ifc 183 (.agg [.ptr 100000 0 0]),.ptr 100001 0 0,.agg [bv false,bv true,bv false,bv false,bv false,bv false]]) ([(100000,.var (rdC s)),(100001,.var (nodC n))]) (.tup []) ([(100000,.var (rdC (cntS (cntS (cntS s 1024) 1024) 1024))),(100001,.var (nodC { n with nk:=cntV s 1024,ns:=cntV (cntS s 1024) 1024,np:=cntV (cntS (cntS s 1024) 1024) 1024 }))]):=by
 have oz0:=@side_n
 have oz1:=@tside_nk (s) (n) h
 have oz2:=@tside_ns (cntS s 1024) (Nod.mk n.kd n.na n.nb (cntV s 1024) n.ns n.np n.no n.za n.zb n.w n.b n.qm n.qs n.qz n.rm n.rs n.rz n.lo n.hi) (by (repeat first|exact h|apply cnt_in))
 have oz3:=z6_
 have oz9:=@tside_np (cntS (cntS s 1024) 1024) (Nod.mk n.kd n.na n.nb (cntV s 1024) (cntV (cntS s 1024) 1024) n.np n.no n.za n.zb n.w n.b n.qm n.qs n.qz n.rm n.rs n.rz n.lo n.hi) (by (repeat first|exact h|apply cnt_in))
 exact VM.run (fn:=Tryz.f166) (W:=[r_,r_,.r [] [.callm [] [] (rM oz0) (oM oz0)],.r [] [.callm [(100000,100000),(100001,100001),(3,100002)] [] (rM oz1) (oM oz1)],.r [] [.callm [(100000,100000),(100001,100001),(3,100002)] [] (rM oz2) (oM oz2)],.r [] [f_,f_,f_,f_,f_,e_,.callm [(100000,100000),(100001,100001),(3,100002)] [] (rM oz9) (oM oz9)],.r [] [.callm [] [] (rM oz0) (oM oz0)]]) (G:=[.drop [5,3],.sort]) CA_ (by kernel_rfl) (.c8 oz0 oz1 oz2 oz3 oz3 oz3 oz3 oz3<|.d3 z0_ oz9 oz0)
theorem tsides_6 (s:Rst) (n:Nod) (h:s.In) (hk:n.kd=6):VM L_ 166 ([.ifc 183 (.agg [.ptr 100000 0 0]),.ptr 100001 0 0,.agg [bv true,bv false,bv false,bv true,bv false,bv true]]) ([(100000,.var (rdC s)),(100001,.var (nodC n))]) (.tup []) ([(100000,.var (rdC (cntS s 1024))),(100001,.var (nodC { n with nb:=cntV s 1024 }))]):=by
 have oz0:=@tside_nb (s) (n) h
 have oz1:=@side_n
 have oz3:=z1_
 have oz9:=@VM.pre _ _ ([bv (n.kd==8),AV.any,AV.any]) _ ([]) _ _ _ ([GI.weak 0 (bv false),GI.sort]) _ (@side_n) (by kernel_rfl) (.d (AF_ (show ((n.kd==8):Bool)=(false) from (by (refine decide_eq_false ?_;omega)))))
 exact VM.run (fn:=Tryz.f166) (W:=[r_,r_,.r [] [.callm [(100000,100000),(100001,100001),(3,100002)] [] (rM oz0) (oM oz0)],.r [] [.callm [] [] (rM oz1) (oM oz1)],.r [] [.callm [] [] (rM oz1) (oM oz1)],.r [] [e_,e_,e_,e_,e_,f_,.callm [] [] (rM oz9) (oM oz9)],.r [] [.callm [] [] (rM oz1) (oM oz1)]]) (G:=[.drop [5,3],.sort]) CA_ (by kernel_rfl) (.c8 oz0 oz1 oz1 oz3 oz3 oz3 oz3 oz3<|.d3 oz3 oz9 oz1)
theorem tsides_7 (s:Rst) (n:Nod) (h:s.In) (hk:n.kd=7):VM L_ 166 ([.ifc 183 (.agg [.ptr 100000 0 0]),.ptr 100001 0 0,.agg [bv false,bv false,bv false,bv true,bv false,bv true]]) ([(100000,.var (rdC s)),(100001,.var (nodC n))]) (.tup []) ([(100000,.var (rdC s)),(100001,.var (nodC n))]):=by
 have oz0:=@side_n
 have oz3:=z1_
 have oz9:=@VM.pre _ _ ([bv (n.kd==8),AV.any,AV.any]) _ ([]) _ _ _ ([GI.weak 0 (bv false),GI.sort]) _ (@side_n) (by kernel_rfl) (.d (AF_ (show ((n.kd==8):Bool)=(false) from (by (refine decide_eq_false ?_;omega)))))
 exact VM.run (fn:=Tryz.f166) (W:=[r_,r_,.r [] [.callm [] [] (rM oz0) (oM oz0)],.r [] [.callm [] [] (rM oz0) (oM oz0)],.r [] [.callm [] [] (rM oz0) (oM oz0)],.r [] [e_,e_,e_,e_,e_,f_,.callm [] [] (rM oz9) (oM oz9)],.r [] [.callm [] [] (rM oz0) (oM oz0)]]) (G:=[.drop [3,5],.sort]) CA_ (by kernel_rfl) (.c8 oz0 oz0 oz0 oz3 oz3 oz3 oz3 oz3<|.d3 oz3 oz9 oz0)
theorem tsides_8 (s:Rst) (n:Nod) (h:s.In) (hk:n.kd=8):VM L_ 166 ([.ifc 183 (.agg [.ptr 100000 0 0]),.ptr 100001 0 0,.agg [bv false,bv false,bv false,bv true,bv false,bv false]]) ([(100000,.var (rdC s)),(100001,.var (nodC n))]) (.tup []) ([(100000,.var (rdC (cntS s 1024))),(100001,.var (nodC { n with np:=cntV s 1024 }))]):=by
 have oz0:=@side_n
 have oz3:=z1_
 have oz9:=@VM.pre _ _ ([bv (n.kd==8),AV.ptr 100001 0 5,AV.ptr 100002 0 0]) _ ([(100000,Blk.var [AV.sl 1 (K_ (row1 .u8) s.fst),i64 s.snd]),(100001,Blk.var [i64 n.kd,i64 n.na,i64 n.nb,i64 n.nk,i64 n.ns,i64 n.np,i64 n.no,i8 n.za,i8 n.zb,AV.sl 1 (K_ (row1 .i8) n.w),AV.sl 1 (K_ (row1 .i32) n.b),i32 n.qm,i64 n.qs,i8 n.qz,i32 n.rm,i64 n.rs,i8 n.rz,i8 n.lo,i8 n.hi]),(100002,Blk.var [AV.ifc 183 (AV.agg [AV.ptr 100000 0 0])])]) _ _ _ ([GI.weak 0 (bv true),GI.sort]) _ (@tside_np (s) (n) h) (by kernel_rfl) (.d (AF_ (show ((n.kd==8):Bool)=(true) from (by (refine decide_eq_true ?_;omega)))))
 exact VM.run (fn:=Tryz.f166) (W:=[r_,r_,.r [] [.callm [] [] (rM oz0) (oM oz0)],.r [] [.callm [] [] (rM oz0) (oM oz0)],.r [] [.callm [] [] (rM oz0) (oM oz0)],.r [] [e_,e_,e_,e_,e_,f_,.callm [(100000,100000),(100001,100001),(3,100002)] [] (rM oz9) (oM oz9)],.r [] [.callm [] [] (rM oz0) (oM oz0)]]) (G:=[.drop [5,3],.sort]) CA_ (by kernel_rfl) (.c8 oz0 oz0 oz0 oz3 oz3 oz3 oz3 oz3<|.d3 oz3 oz9 oz0)
theorem tsides_9 (s:Rst) (n:Nod) (h:s.In) (hk:n.kd<1∨8<n.kd):VM L_ 166 ([.ifc 183 (.agg [.ptr 100000 0 0]),.ptr 100001 0 0,.agg [bv false,bv false,bv false,bv false,bv false,bv false]]) ([(100000,.var (rdC s)),(100001,.var (nodC n))]) (.tup []) ([(100000,.var (rdC s)),(100001,.var (nodC n))]):=by
 have oz0:=@side_n
 have oz3:=z1_
 have oz9:=@VM.pre _ _ ([bv (n.kd==8),AV.any,AV.any]) _ ([]) _ _ _ ([GI.weak 0 (bv false),GI.sort]) _ (@side_n) (by kernel_rfl) (.d (AF_ (show ((n.kd==8):Bool)=(false) from (by (refine decide_eq_false ?_;omega)))))
 exact VM.run (fn:=Tryz.f166) (W:=[r_,r_,.r [] [.callm [] [] (rM oz0) (oM oz0)],.r [] [.callm [] [] (rM oz0) (oM oz0)],.r [] [.callm [] [] (rM oz0) (oM oz0)],.r [] [e_,e_,e_,e_,e_,f_,.callm [] [] (rM oz9) (oM oz9)],.r [] [.callm [] [] (rM oz0) (oM oz0)]]) (G:=[.drop [3,5],.sort]) CA_ (by kernel_rfl) (.c8 oz0 oz0 oz0 oz3 oz3 oz3 oz3 oz3<|.d3 oz3 oz9 oz0)
end Go.Proofs.YtdfihaminnmgpaaGreat
